import PyProof.Rows.All
import HandS.ForMost
import HandS.WordsExc
import HandS.Walk
import HandS.TupAny
import HandS.Wide
import HandS.Style
import HandS.Deep
import HandS.IsInst
import HandS.TupMul
import HandS.RaiseMore
import HandS.SortInts
import HandS.Zip
import HandS.Rev
import HandS.ExcOwn
import HandS.Iter
import KE.GoesEnum
import HandS.Sort
import PyProof.Rows.SortStr
import PyProof.Rows.SortKeyStr
import HandS.Dict
import HandS.DictComp
import HandS.More
import HandS.WordsDict
import PySem.Challenge.RW_brickbonds_k61_whole_spirals
set_option Elab.async false
set_option linter.all false
set_option maxRecDepth 100000
namespace Vl
open PySem PySem.Spec PyProof.Rows L2

/-! values without the heap -/
inductive PV where
  | non | bl (b : Bool) | int (i : Int) | str (s : List Nat)
  | tup (xs : List PV) | lst (xs : List PV) | dct (t : Bool) (kvs : List (PV × PV)) | obj (n : Nat) | fn (x : Str)

structure Gv where
  K : PySem.W.Frag
  mg : Str → Option Value
  sa : List Addr

def mkS (l : List Nat) : Str := ⟨l.toArray⟩
theorem mkS_length (l : List Nat) : (mkS l).length = l.length := by simp [mkS, Str.length]
def keyPV : Key → PV
  | .inl i => .int i
  | .inr x => .str x.cps.toList

/-- a tuple of the written part -/
def KT (K : PySem.W.Frag) (a : Addr) (xs : List V) : Prop :=
  ∃ (o : Obj) (its : Array Value) (n : Nat), K.lookup a = some o ∧ o.cls = .type "tuple" ∧ o.data = .seq its n ∧ its.size ≤ sizeLine ∧ Vals xs its.toList
/-- whether tuples of the written part are met in this law (then no dict has tuples as keys) -/
def ktOk : Bool := false
def TpAt (g : Gv) (H : Hp) (N : Addr → Prop) (a : Addr) (vs : List V) : Prop := (H a = some (.tup vs) ∧ ¬ N a) ∨ (ktOk = true ∧ KT g.K a vs)
theorem TpAt.sq {g H N a vs} (h : TpAt g H N a vs) : SqT g.K H a vs := h.imp (fun h => .inl h.1) (·.2)

mutual
inductive Rep (g : Gv) (H : Hp) (N : Addr → Prop) : PV → V → Prop
  | non : Rep g H N .non .non
  | bl (b : Bool) : Rep g H N (.bl b) (.bl b)
  | int (i : Int) : Rep g H N (.int i) (.int i)
  | str (l : List Nat) (h : l.length ≤ sizeLine) (u : ∀ c ∈ l, c < 1114112) : Rep g H N (.str l) (.str (mkS l))
  | tup {a : Addr} {vs : List V} {ps : List PV} (h : TpAt g H N a vs) (z : ps.length ≤ sizeLine) (r : RepA g H N ps vs) : Rep g H N (.tup ps) (.ref a)
  | lst {a : Addr} {vs : List V} {ps : List PV} (h : H a = some (.lst vs)) (n : ¬ N a) (z : ps.length ≤ sizeLine) (r : RepA g H N ps vs) : Rep g H N (.lst ps) (.ref a)
  | dK {a : Addr} {kks : List (Key × V)} {kvs : List (PV × PV)} (h : Rd H a (.dK kks)) (n : ¬ N a) (z : kvs.length ≤ sizeLine) (e : kvs.map Prod.fst = kks.map fun p => keyPV p.1) (r : RepA g H N (kvs.map Prod.snd) (kks.map Prod.snd)) : Rep g H N (.dct false kvs) (.ref a)
  | dT {a : Addr} {kks : List (List Key × V)} {kvs : List (PV × PV)} (h : Rd H a (.dT kks)) (n : ¬ N a) (z : kvs.length ≤ sizeLine) (e : kvs.map Prod.fst = kks.map fun p => PV.tup (p.1.map keyPV)) (r : RepA g H N (kvs.map Prod.snd) (kks.map Prod.snd)) : Rep g H N (.dct true kvs) (.ref a)
  | obj {n : Nat} {a : Addr} (h : g.sa[n]? = some a) : Rep g H N (.obj n) (.ref a)
  | fn {x : Str} {f : Addr} (h : g.mg x = some (.ref f)) : Rep g H N (.fn x) (.ref f)
inductive RepA (g : Gv) (H : Hp) (N : Addr → Prop) : List PV → List V → Prop
  | nil : RepA g H N [] []
  | cons {p : PV} {ps : List PV} {v : V} {vs : List V} (h : Rep g H N p v) (r : RepA g H N ps vs) : RepA g H N (p :: ps) (v :: vs)
end

structure Gle (g g' : Gv) : Prop where
  K : g'.K = g.K
  mg : g'.mg = g.mg
  sa : g.sa <+: g'.sa
theorem Gle.refl (g : Gv) : Gle g g := ⟨rfl, rfl, List.prefix_refl _⟩
theorem Gle.at {g g' : Gv} (h : Gle g g') {n : Nat} {a : Addr} (e : g.sa[n]? = some a) : g'.sa[n]? = some a := by
  obtain ⟨t, ht⟩ := h.sa
  rw [← ht, List.getElem?_append_left (List.getElem?_eq_some_iff.mp e).1]
  exact e

/-- what is kept of a heap (a dict may be locked meanwhile) -/
structure Kp (H H' : Hp) (N N' : Addr → Prop) : Prop where
  ex : ∀ a o, H a = some o → (∀ k, o ≠ .dK k) → (∀ k, o ≠ .dT k) → ¬ N a → H' a = some o
  rd : ∀ a u, Rd H a u → ¬ N a → Rd H' a u
  n : ∀ a, H a ≠ none → ¬ N a → ¬ N' a
theorem Kp.of {H H' : Hp} {N N' : Addr → Prop} (ex : ∀ a o, H a = some o → ¬ N a → H' a = some o) (n : ∀ a, H a ≠ none → ¬ N a → ¬ N' a) : Kp H H' N N' :=
  ⟨fun a o e _ _ m => ex a o e m, fun a u r m => r.imp (fun q => ex a _ q m) (fun ⟨o, q⟩ => ⟨o, ex a _ q m⟩), n⟩
theorem Kp.same (H : Hp) {N N' : Addr → Prop} (h : ∀ a, N' a → N a) : Kp H H N N' := .of (fun _ _ e _ => e) (fun a _ m z => m (h a z))
theorem rdThere {H : Hp} {a : Addr} {u : HO} (r : Rd H a u) : H a ≠ none := by rcases r with h | ⟨o, h⟩ <;> rw [h] <;> simp
section
variable {g g' : Gv} {H H' : Hp} {N N' : Addr → Prop}
mutual
theorem Rep.mono (hg : Gle g g') (hs : Kp H H' N N') : ∀ {p : PV} {v : V}, Rep g H N p v → Rep g' H' N' p v
  | _, _, .non => .non
  | _, _, .bl b => .bl b
  | _, _, .int i => .int i
  | _, _, .str l h u => .str l h u
  | _, _, .tup h z r => .tup (h.imp (fun q => ⟨hs.ex _ _ q.1 (fun _ w => by cases w) (fun _ w => by cases w) q.2, hs.n _ (by rw [q.1]; simp) q.2⟩) (fun q => by rw [hg.K]; exact q)) z (RepA.mono hg hs r)
  | _, _, .lst h n z r => .lst (hs.ex _ _ h (fun _ w => by cases w) (fun _ w => by cases w) n) (hs.n _ (by rw [h]; simp) n) z (RepA.mono hg hs r)
  | _, _, .dK h n z e r => .dK (hs.rd _ _ h n) (hs.n _ (rdThere h) n) z e (RepA.mono hg hs r)
  | _, _, .dT h n z e r => .dT (hs.rd _ _ h n) (hs.n _ (rdThere h) n) z e (RepA.mono hg hs r)
  | _, _, .obj h => .obj (hg.at h)
  | _, _, .fn h => .fn (by rw [hg.mg]; exact h)
theorem RepA.mono (hg : Gle g g') (hs : Kp H H' N N') : ∀ {ps : List PV} {vs : List V}, RepA g H N ps vs → RepA g' H' N' ps vs
  | _, _, .nil => .nil
  | _, _, .cons h r => .cons (Rep.mono hg hs h) (RepA.mono hg hs r)
end
theorem RepA.length : ∀ {ps : List PV} {vs : List V}, RepA g H N ps vs → ps.length = vs.length
  | _, _, .nil => rfl
  | _, _, .cons _ r => by simp [r.length]
theorem RepA.get : ∀ {ps : List PV} {vs : List V} {i : Nat} {p : PV}, RepA g H N ps vs → ps[i]? = some p → ∃ v, vs[i]? = some v ∧ Rep g H N p v
  | _, _, _, _, .nil, e => by simp at e
  | _, _, 0, _, .cons h _, e => by simp at e; subst e; exact ⟨_, rfl, h⟩
  | _, _, i + 1, _, .cons _ r, e => by
    obtain ⟨v, h1, h2⟩ := RepA.get (i := i) r (by simpa using e)
    exact ⟨v, by simpa using h1, h2⟩
theorem RepA.getV : ∀ {ps : List PV} {vs : List V} {i : Nat} {v : V}, RepA g H N ps vs → vs[i]? = some v → ∃ p, ps[i]? = some p ∧ Rep g H N p v
  | _, _, _, _, .nil, e => by simp at e
  | _, _, 0, _, .cons h _, e => by simp at e; subst e; exact ⟨_, rfl, h⟩
  | _, _, i + 1, _, .cons _ r, e => by
    obtain ⟨v, h1, h2⟩ := RepA.getV (i := i) r (by simpa using e)
    exact ⟨v, by simpa using h1, h2⟩
theorem RepA.append : ∀ {ps qs : List PV} {vs ws : List V}, RepA g H N ps vs → RepA g H N qs ws → RepA g H N (ps ++ qs) (vs ++ ws)
  | _, _, _, _, .nil, s => s
  | _, _, _, _, .cons h r, s => .cons h (r.append s)
theorem RepA.take : ∀ {ps : List PV} {vs : List V} (n : Nat), RepA g H N ps vs → RepA g H N (ps.take n) (vs.take n)
  | _, _, 0, _ => .nil
  | _, _, _ + 1, .nil => .nil
  | _, _, n + 1, .cons h r => .cons h (r.take n)
theorem RepA.drop : ∀ {ps : List PV} {vs : List V} (n : Nat), RepA g H N ps vs → RepA g H N (ps.drop n) (vs.drop n)
  | _, _, 0, r => r
  | _, _, _ + 1, .nil => .nil
  | _, _, n + 1, .cons _ r => r.drop n
theorem RepA.set {p : PV} {v : V} (h : Rep g H N p v) : ∀ {ps : List PV} {vs : List V} (i : Nat), RepA g H N ps vs → RepA g H N (ps.set i p) (vs.set i v)
  | _, _, _, .nil => .nil
  | _, _, 0, .cons _ r => .cons h r
  | _, _, i + 1, .cons q r => .cons q (RepA.set h i r)
theorem RepA.reverse : ∀ {ps : List PV} {vs : List V}, RepA g H N ps vs → RepA g H N ps.reverse vs.reverse
  | _, _, .nil => .nil
  | _, _, .cons h r => by simpa using r.reverse.append (.cons h .nil)
theorem RepA.ints : ∀ {ns : List Int} {vs : List V}, RepA g H N (ns.map .int) vs → vs = ns.map .int
  | [], _, .nil => rfl
  | _ :: _, _, .cons h r => by cases h; rw [r.ints]; rfl
theorem RepA.bls : ∀ {ns : List Bool} {vs : List V}, RepA g H N (ns.map .bl) vs → vs = ns.map .bl
  | [], _, .nil => rfl
  | _ :: _, _, .cons h r => by cases h; rw [r.bls]; rfl
theorem RepA.strs : ∀ {ns : List (List Nat)} {vs : List V}, RepA g H N (ns.map .str) vs → vs = (ns.map mkS).map .str
  | [], _, .nil => rfl
  | _ :: _, _, .cons h r => by cases h; rw [r.strs]; rfl
end

/-! store, results, environments -/
inductive SO where
  | lst (xs : List PV)
abbrev Sto := List SO
structure Exn where
  cls : Str
  fs : List (Str × PV)
inductive Res (α : Type) where
  | ok (a : α) (s : Sto) | er (x : Exn) (s : Sto) | no
@[reducible] def Res.bind {α β : Type} : Res α → (α → Sto → Res β) → Res β
  | .ok a s, f => f a s
  | .er x s, _ => .er x s
  | .no, _ => .no
@[simp] theorem Res.bind_ok {α β} (a : α) (s) (f : α → Sto → Res β) : (Res.ok a s).bind f = f a s := rfl
@[simp] theorem Res.bind_er {α β} (x) (s) (f : α → Sto → Res β) : (Res.er x s).bind f = .er x s := rfl
@[simp] theorem Res.bind_no {α β} (f : α → Sto → Res β) : (Res.no).bind f = .no := rfl
def opt {α : Type} (o : Option α) (s : Sto) : Res α := match o with | some a => .ok a s | none => .no
inductive Slot where
  | no | pl (v : PV) | ow (v : PV)
abbrev Env := List Slot

structure Ctl where
  S : Addr → Prop
  M : Addr → Prop
  sa : List Addr
  g : List (PV × V)
  H0 : Hp
  S0 : Addr → Prop
def OwnS (σ : L2.St) (env : Env) : Addr → Prop := fun a => ∃ (i : Nat) (pv : PV), env[i]? = some (Slot.ow pv) ∧ σ[i]? = some (some (V.ref a))
def Ctl.NM (c : Ctl) : Addr → Prop := fun a => c.S a ∨ c.M a
def Ctl.N (c : Ctl) (σ : L2.St) (env : Env) : Addr → Prop := fun a => c.S a ∨ c.M a ∨ OwnS σ env a
def gv (X : Cx) (c : Ctl) : Gv := ⟨X.K, X.mg, c.sa⟩

/-- a container that is one's own, at a -/
def OwnAt (g : Gv) (H : Hp) (N : Addr → Prop) (a : Addr) : PV → Prop
  | .lst ps => ∃ vs, H a = some (.lst vs) ∧ ps.length ≤ sizeLine ∧ RepA g H N ps vs
  | .dct false kvs => ∃ kks : List (Key × V), H a = some (.dK kks) ∧ kvs.length ≤ sizeLine ∧ kvs.map Prod.fst = kks.map (fun p => keyPV p.1) ∧ RepA g H N (kvs.map Prod.snd) (kks.map Prod.snd)
  | .dct true kvs => ∃ kks : List (List Key × V), H a = some (.dT kks) ∧ kvs.length ≤ sizeLine ∧ kvs.map Prod.fst = kks.map (fun p => PV.tup (p.1.map keyPV)) ∧ RepA g H N (kvs.map Prod.snd) (kks.map Prod.snd)
  | _ => False
theorem OwnAt.mono {g g' : Gv} {H H' : Hp} {N N' : Addr → Prop} {a : Addr} (hg : Gle g g') (hs : Kp H H' N N') (ha : ∀ o, H a = some o → H' a = some o) : ∀ {p : PV}, OwnAt g H N a p → OwnAt g' H' N' a p
  | .lst ps, ⟨vs, h, z, r⟩ => ⟨vs, ha _ h, z, r.mono hg hs⟩
  | .dct false kvs, ⟨ks, h, z, e, r⟩ => ⟨ks, ha _ h, z, e, r.mono hg hs⟩
  | .dct true kvs, ⟨ks, h, z, e, r⟩ => ⟨ks, ha _ h, z, e, r.mono hg hs⟩
theorem OwnAt.there {g : Gv} {H : Hp} {N : Addr → Prop} {a : Addr} : ∀ {p : PV}, OwnAt g H N a p → ∃ o, H a = some o ∧ (∀ od u, o ≠ .frz od u)
  | .lst ps, ⟨vs, h, _⟩ => ⟨_, h, fun _ _ z => by cases z⟩
  | .dct false kvs, ⟨ks, h, _⟩ => ⟨_, h, fun _ _ z => by cases z⟩
  | .dct true kvs, ⟨ks, h, _⟩ => ⟨_, h, fun _ _ z => by cases z⟩
theorem OwnAt.rep {g : Gv} {H : Hp} {N : Addr → Prop} {a : Addr} (n : ¬ N a) : ∀ {p : PV}, OwnAt g H N a p → Rep g H N p (.ref a)
  | .lst ps, ⟨vs, h, z, r⟩ => .lst h n z r
  | .dct false kvs, ⟨ks, h, z, e, r⟩ => .dK (.inl h) n z e r
  | .dct true kvs, ⟨ks, h, z, e, r⟩ => .dT (.inl h) n z e r

structure StoOk (g : Gv) (S : Addr → Prop) (H : Hp) (N : Addr → Prop) (st : Sto) : Prop where
  len : g.sa.length = st.length
  nd : g.sa.Nodup
  own : ∀ a ∈ g.sa, S a
  lst : ∀ (n : Nat) (xs : List PV), st[n]? = some (SO.lst xs) → ∃ a vs, g.sa[n]? = some a ∧ H a = some (.lst vs) ∧ xs.length ≤ sizeLine ∧ RepA g H N xs vs

structure SRk (K : PySem.W.Frag) (mg : Str → Option Value) (c : Ctl) (σ : L2.St) (H : Hp) (env : Env) (st : Sto) : Prop where
  len : env.length = σ.length
  pl : ∀ (i : Nat) (pv : PV), env[i]? = some (Slot.pl pv) → ∃ v, σ[i]? = some (some v) ∧ Rep (⟨K, mg, c.sa⟩ : Gv) H (c.N σ env) pv v
  ow : ∀ (i : Nat) (pv : PV), env[i]? = some (Slot.ow pv) → ∃ a, σ[i]? = some (some (V.ref a)) ∧ c.H0 a = none ∧ ¬ c.S a ∧ ¬ c.M a ∧ OwnAt (⟨K, mg, c.sa⟩ : Gv) H (c.N σ env) a pv
  dist : ∀ (i j : Nat) (pi pj : PV) (a : Addr), env[i]? = some (Slot.ow pi) → env[j]? = some (Slot.ow pj) → σ[i]? = some (some (V.ref a)) → σ[j]? = some (some (V.ref a)) → i = j
  gh : ∀ p ∈ c.g, Rep (⟨K, mg, c.sa⟩ : Gv) H (c.N σ env) p.1 p.2
  sto : StoOk (⟨K, mg, c.sa⟩ : Gv) c.S H (c.N σ env) st
  dm : ∀ a, c.S a ∨ c.M a → H a ≠ none
  fr : ∀ a o, c.H0 a = some o → ¬ c.S0 a → H a = some o
  d0 : ∀ a, c.H0 a ≠ none → H a ≠ none
  fs : ∀ a, c.S a → c.S0 a ∨ c.H0 a = none
abbrev SR (X : Cx) (c : Ctl) (σ : L2.St) (H : Hp) (env : Env) (st : Sto) : Prop := SRk X.K X.mg c σ H env st

structure Post (c c' : Ctl) (H H' : Hp) : Prop where
  M : c'.M = c.M
  g : c'.g = c.g
  H0 : c'.H0 = c.H0
  S0 : c'.S0 = c.S0
  sa : c.sa <+: c'.sa
  S : ∀ a, c'.S a → c.S a ∨ H a = none
  fr : ∀ a o, H a = some o → ¬ c.S a → H' a = some o
  dm : ∀ a, H a ≠ none → H' a ≠ none
theorem Post.refl (c : Ctl) (H : Hp) : Post c c H H := ⟨rfl, rfl, rfl, rfl, List.prefix_refl _, fun _ h => .inl h, fun _ _ h _ => h, fun _ h => h⟩
theorem Post.trans {c c1 c2 : Ctl} {H H1 H2 : Hp} (a : Post c c1 H H1) (b : Post c1 c2 H1 H2) : Post c c2 H H2 where
  M := b.M.trans a.M
  g := b.g.trans a.g
  H0 := b.H0.trans a.H0
  S0 := b.S0.trans a.S0
  sa := a.sa.trans b.sa
  S := fun x h => by
    rcases b.S x h with h | h
    · exact a.S x h
    · refine .inr ?_
      cases e : H x with
      | none => rfl
      | some o => exact absurd h (a.dm x (by rw [e]; simp))
  fr := fun x o e n => b.fr x o (a.fr x o e n) fun z => by
    rcases a.S x z with z | z
    · exact n z
    · rw [e] at z; cases z
  dm := fun x h => b.dm x (a.dm x h)
theorem Post.grow {c : Ctl} {H H' : Hp} (h : ∀ a o, H a = some o → H' a = some o) : Post c c H H' :=
  ⟨rfl, rfl, rfl, rfl, List.prefix_refl _, fun _ h => .inl h, fun a o e _ => h a o e, fun a n => by
    cases e : H a with
    | none => exact absurd e n
    | some o => rw [h a o e]; simp⟩
theorem Post.gle {X : Cx} {c c' : Ctl} {H H' : Hp} (p : Post c c' H H') : Gle (gv X c) (gv X c') := ⟨rfl, rfl, p.sa⟩
theorem Post.keeps {c c' : Ctl} {H H' : Hp} (p : Post c c' H H') (O : Addr → Prop) : Kp H H' (fun a => c.S a ∨ c.M a ∨ O a) (fun a => c'.S a ∨ c'.M a ∨ O a) := by
  refine .of (fun a o e n => p.fr a o e fun z => n (.inl z)) fun a hd n => ?_
  rintro (z | z | z)
  · exact (p.S a z).elim (fun z => n (.inl z)) hd
  · rw [p.M] at z; exact n (.inr (.inl z))
  · exact n (.inr (.inr z))
theorem Post.keepsM {c c' : Ctl} {H H' : Hp} (p : Post c c' H H') : Kp H H' c.NM c'.NM := by
  refine .of (fun a o e n => p.fr a o e fun z => n (.inl z)) fun a hd n => ?_
  rintro (z | z)
  · exact (p.S a z).elim (fun z => n (.inl z)) hd
  · rw [p.M] at z; exact n (.inr z)
theorem Post.rep {X : Cx} {c c' : Ctl} {σ : L2.St} {env : Env} {H H' : Hp} (p : Post c c' H H') {pv : PV} {v : V} (r : Rep (gv X c) H (c.N σ env) pv v) : Rep (gv X c') H' (c'.N σ env) pv v :=
  r.mono p.gle (p.keeps (OwnS σ env))
theorem Post.repA {X : Cx} {c c' : Ctl} {σ : L2.St} {env : Env} {H H' : Hp} (p : Post c c' H H') {pv : List PV} {v : List V} (r : RepA (gv X c) H (c.N σ env) pv v) : RepA (gv X c') H' (c'.N σ env) pv v :=
  r.mono p.gle (p.keeps (OwnS σ env))
theorem Post.repM {X : Cx} {c c' : Ctl} {H H' : Hp} (p : Post c c' H H') {pv : PV} {v : V} (r : Rep (gv X c) H c.NM pv v) : Rep (gv X c') H' c'.NM pv v :=
  r.mono p.gle p.keepsM

/-! levels of values -/
inductive Lv where
  | c | i | m | f
  deriving DecidableEq
def RepLv (g : Gv) (H0 H : Hp) (NM N : Addr → Prop) (pv : PV) (v : V) : Lv → Prop
  | .c => Rep g H N pv v
  | .m => Rep g H NM pv v
  | .i => ∃ a, v = .ref a ∧ ¬ NM a ∧ OwnAt g H N a pv
  | .f => ∃ a, v = .ref a ∧ H0 a = none ∧ ¬ NM a ∧ OwnAt g H N a pv
/-- one more protected address -/
def cD (c : Ctl) (D : Addr) : Ctl := { c with M := fun a => c.M a ∨ a = D }
/-- a new container: nothing else holds it -/
def FreshAt (X : Cx) (σ : L2.St) (env : Env) (H : Hp) (c' : Ctl) (H' : Hp) (st' : Sto) (pv : PV) (v : V) : Prop :=
  ∃ D, v = .ref D ∧ H D = none ∧ ¬ c'.S D ∧ OwnAt (gv X c') H' ((cD c' D).N σ env) D pv ∧ SR X (cD c' D) σ H' env st'
/-- the relation of an expression's value -/
def RL (X : Cx) (σ : L2.St) (env : Env) (lvl : Lv) : Hp → Ctl → Hp → Sto → PV → V → Prop := fun H c' H' st' pv v => RepLv (gv X c') H H' c'.NM (c'.N σ env) pv v lvl ∧ (lvl = .f → FreshAt X σ env H c' H' st' pv v)
def RA (X : Cx) (σ : L2.St) (env : Env) : Hp → Ctl → Hp → Sto → List PV → List V → Prop := fun _ c' H' _ pv v => RepA (gv X c') H' (c'.N σ env) pv v
def RB : Hp → Ctl → Hp → Sto → Bool → Bool → Prop := fun _ _ _ _ p v => p = v
theorem rlc {X : Cx} {σ : L2.St} {env : Env} {H H' : Hp} {c' : Ctl} {st' : Sto} {pv : PV} {v : V} (r : Rep (gv X c') H' (c'.N σ env) pv v) : RL X σ env .c H c' H' st' pv v := ⟨r, fun z => nomatch z⟩

/-- an exception as it lies -/
def ExcAt (X : Cx) (x : Exn) (cls : Value) (dd : Option Addr) (H : Hp) : Prop :=
  ∃ C, X.mg x.cls = some (.ref C) ∧ cls = .ref C ∧
    (x.fs = [] ∨ ∃ d fvs, dd = some d ∧ H d = some (.xd fvs) ∧ ∀ f p, x.fs.lookup f = some p → ∃ v, fvs.lookup f = some v ∧ Rep ⟨X.K, X.mg, []⟩ H (fun _ => False) p v)

def HypG {α β : Type} (X : Cx) (W : WX) (σ : L2.St) (env : Env) (R : Hp → Ctl → Hp → Sto → α → β → Prop) (c : Ctl) (H : Hp) (r : Res α) (Q : β → Hp → Prop) : Prop :=
  match r with
  | .ok p st' => ∀ v c' H', SR X c' σ H' env st' → Post c c' H H' → R H c' H' st' p v → Q v H'
  | .er x st' => ∀ cls dd c' H', SR X c' σ H' env st' → Post c c' H H' → ExcAt X x cls dd H' → W cls dd σ H'
  | .no => False
/-- R looks back at the start only for what was not there -/
def Back {α β : Type} (R : Hp → Ctl → Hp → Sto → α → β → Prop) : Prop := ∀ H H1 c' H' st' p v, (∀ a, H a ≠ none → H1 a ≠ none) → R H1 c' H' st' p v → R H c' H' st' p v
theorem back_RL {X : Cx} {σ : L2.St} {env : Env} {lvl : Lv} : Back (RL X σ env lvl) := fun H H1 c' H' st' p v d h => by
  have k : ∀ D, H1 D = none → H D = none := fun D n => Classical.byContradiction fun z => d D z n
  refine ⟨?_, fun z => ?_⟩
  · have h := h.1
    cases lvl with
    | c => exact h
    | m => exact h
    | i => exact h
    | f =>
      obtain ⟨a, e, n, m, o⟩ := h
      exact ⟨a, e, k a n, m, o⟩
  · obtain ⟨D, e, n, q⟩ := h.2 z
    exact ⟨D, e, k D n, q⟩
theorem back_RA {X : Cx} {σ : L2.St} {env : Env} : Back (RA X σ env) := fun _ _ _ _ _ _ _ _ h => h
theorem back_RB : Back RB := fun _ _ _ _ _ _ _ _ h => h

section
variable {X : Cx} {W : WX} {σ : L2.St} {env : Env} {c : Ctl} {H : Hp} {st : Sto}
theorem bindG {α β γ δ : Type} {R1 : Hp → Ctl → Hp → Sto → α → β → Prop} {R2 : Hp → Ctl → Hp → Sto → γ → δ → Prop} {da : Res α} {f : α → Sto → Res γ} {Q1 : β → Hp → Prop} {Q2 : δ → Hp → Prop} (b2 : Back R2)
    (h : HypG X W σ env R2 c H (da.bind f) Q2)
    (k : ∀ p st1 v c1 H1, SR X c1 σ H1 env st1 → Post c c1 H H1 → R1 H c1 H1 st1 p v → HypG X W σ env R2 c1 H1 (f p st1) Q2 → Q1 v H1) : HypG X W σ env R1 c H da Q1 := by
  cases da with
  | no => exact h
  | er x s => exact h
  | ok p s =>
    intro v c1 H1 sr po r
    refine k p s v c1 H1 sr po r ?_
    have h : HypG X W σ env R2 c H (f p s) Q2 := h
    cases e : f p s with
    | no => rw [e] at h; exact h
    | er x s' =>
      rw [e] at h
      intro cls dd c' H' sr' po' ex
      exact h cls dd c' H' sr' (po.trans po') ex
    | ok q s' =>
      rw [e] at h
      intro v' c' H' sr' po' r'
      exact h v' c' H' sr' (po.trans po') (b2 _ _ _ _ _ _ _ po.dm r')
/-- an end: c as it is, the heap grown -/
theorem doneG {α β : Type} {R : Hp → Ctl → Hp → Sto → α → β → Prop} {p : α} {Q : β → Hp → Prop} (h : HypG X W σ env R c H (.ok p st) Q) {H' : Hp} {v : β} (sr : SR X c σ H' env st) (gr : ∀ a o, H a = some o → H' a = some o) (r : R H c H' st p v) : Q v H' :=
  h v c H' sr (.grow gr) r
end

theorem OwnS.gone {σ : L2.St} {env : Env} {H : Hp} {X : Cx} {c : Ctl} {st : Sto} (sr : SR X c σ H env st) {a : Addr} (h : c.N σ env a) : H a ≠ none := by
  rcases h with h | h | ⟨i, pv, h1, h2⟩
  · exact sr.dm a (.inl h)
  · exact sr.dm a (.inr h)
  · obtain ⟨b, e, _, _, _, o⟩ := sr.ow i pv h1
    rw [h2] at e; cases e
    obtain ⟨o, e, _⟩ := o.there
    rw [e]; simp
section
variable {X : Cx} {c : Ctl} {σ : L2.St} {H H' : Hp} {env : Env} {st : Sto}
/-- the heap grows by what is new -/
theorem SRk.grow (sr : SR X c σ H env st) (h : ∀ a o, H a = some o → H' a = some o) : SR X c σ H' env st := by
  have hr : Kp H H' (c.N σ env) (c.N σ env) := .of (fun a o e _ => h a o e) (fun _ _ n => n)
  refine ⟨sr.len, fun i pv e => ?_, fun i pv e => ?_, sr.dist, fun p hp => (sr.gh p hp).mono (.refl _) hr, ⟨sr.sto.len, sr.sto.nd, sr.sto.own, fun n xs e => ?_⟩, fun a z => ?_, fun a o e n => h a o (sr.fr a o e n), fun a z => ?_, sr.fs⟩
  · obtain ⟨v, h1, h2⟩ := sr.pl i pv e
    exact ⟨v, h1, h2.mono (.refl _) hr⟩
  · obtain ⟨a, h1, h2, h3, h4, h5⟩ := sr.ow i pv e
    exact ⟨a, h1, h2, h3, h4, h5.mono (.refl _) hr (h a)⟩
  · obtain ⟨a, vs, h1, h2, h3, h4⟩ := sr.sto.lst n xs e
    exact ⟨a, vs, h1, h a _ h2, h3, h4.mono (.refl _) hr⟩
  · cases q : H a with
    | none => exact absurd q (sr.dm a z)
    | some o => rw [h a o q]; simp
  · cases q : H a with
    | none => exact absurd q (sr.d0 a z)
    | some o => rw [h a o q]; simp
theorem SRk.rep_grow (h : ∀ a o, H a = some o → H' a = some o) {N : Addr → Prop} {g : Gv} {p : PV} {v : V} (r : Rep g H N p v) : Rep g H' N p v :=
  r.mono (.refl _) (.of (fun a o e _ => h a o e) (fun _ _ n => n))
theorem SRk.repA_grow (h : ∀ a o, H a = some o → H' a = some o) {N : Addr → Prop} {g : Gv} {p : List PV} {v : List V} (r : RepA g H N p v) : RepA g H' N p v :=
  r.mono (.refl _) (.of (fun a o e _ => h a o e) (fun _ _ n => n))
theorem grow_upd {p : Addr} {o : HO} (n : H p = none) : ∀ a u, H a = some u → upd H p o a = some u := fun a u e => by rw [upd_ne (ne_of_none e n)]; exact e
end

/-! ### the judgements -/
def DE (X : Cx) (W : WX) (e : Expr) (lvl : Lv) (d : Env → Sto → Res PV) : Prop :=
  ∃ t, PE X e t ∧ ∀ c σ H env st Q, SR X c σ H env st → HypG X W σ env (RL X σ env lvl) c H (d env st) Q → t σ H Q
def DA (X : Cx) (W : WX) (es : List Expr) (d : Env → Sto → Res (List PV)) : Prop :=
  ∃ t, PA X es t ∧ ∀ c σ H env st Q, SR X c σ H env st → HypG X W σ env (RA X σ env) c H (d env st) Q → t σ H Q
def DT (X : Cx) (W : WX) (e : Expr) (d : Env → Sto → Res Bool) : Prop :=
  ∃ t, PT X e t ∧ ∀ c σ H env st Q, SR X c σ H env st → HypG X W σ env RB c H (d env st) Q → t σ H Q
def DTw (X : Cx) (W : WX) (e : Expr) (d : Env → Sto → Res Bool) : Prop :=
  ∃ t, PW X e t ∧ ∀ c σ H env st Q, SR X c σ H env st → HypG X W σ env RB c H (d env st) Q → t σ H Q

theorem RepLv.clean {X : Cx} {c c' : Ctl} {σ : L2.St} {env : Env} {st : Sto} {H H' : Hp} {pv : PV} {v : V} (sr : SR X c σ H env st) (h : RepLv (gv X c') H H' c'.NM (c'.N σ env) pv v .f) : Rep (gv X c') H' (c'.N σ env) pv v := by
  obtain ⟨a, rfl, z, m, o⟩ := h
  refine o.rep fun q => ?_
  rcases q with q | q | q
  · exact m (.inl q)
  · exact m (.inr q)
  · exact OwnS.gone sr (.inr (.inr q)) z
theorem Rep.loosen {g : Gv} {H : Hp} {N N' : Addr → Prop} {p : PV} {v : V} (h : ∀ a, N' a → N a) (r : Rep g H N p v) : Rep g H N' p v := r.mono (.refl _) (.same _ h)
theorem RepA.loosen {g : Gv} {H : Hp} {N N' : Addr → Prop} {p : List PV} {v : List V} (h : ∀ a, N' a → N a) (r : RepA g H N p v) : RepA g H N' p v := r.mono (.refl _) (.same _ h)
theorem NM_N {c : Ctl} {σ : L2.St} {env : Env} : ∀ a, c.NM a → c.N σ env a := fun a h => h.elim .inl fun h => .inr (.inl h)
section
variable {X : Cx} {W : WX} {e : Expr} {d : Env → Sto → Res PV}
theorem HypG.imp {α β : Type} {σ : L2.St} {env : Env} {R R' : Hp → Ctl → Hp → Sto → α → β → Prop} {c : Ctl} {H : Hp} {r : Res α} {Q : β → Hp → Prop} (hr : ∀ p v c' H' st', SR X c' σ H' env st' → R' H c' H' st' p v → R H c' H' st' p v) (h : HypG X W σ env R c H r Q) : HypG X W σ env R' c H r Q := by
  cases r with
  | no => exact h
  | er x s => exact h
  | ok p s => exact fun v c' H' sr po q => h v c' H' sr po (hr _ _ _ _ _ sr q)
/-- fresh is clean, clean and one's own are loose -/
theorem DE.fc (h : DE X W e .f d) : DE X W e .c d := by
  obtain ⟨t, pe, h⟩ := h
  refine ⟨t, pe, fun c σ H env st Q sr hy => h c σ H env st Q sr (hy.imp fun p v c' H' st' sr' r => rlc ?_)⟩
  exact RepLv.clean sr r.1
theorem DE.cm (h : DE X W e .c d) : DE X W e .m d := by
  obtain ⟨t, pe, h⟩ := h
  exact ⟨t, pe, fun c σ H env st Q sr hy => h c σ H env st Q sr (hy.imp fun p v c' H' st' sr' r => ⟨Rep.loosen NM_N r.1, fun z => nomatch z⟩)⟩
theorem DE.im (h : DE X W e .i d) : DE X W e .m d := by
  obtain ⟨t, pe, h⟩ := h
  refine ⟨t, pe, fun c σ H env st Q sr hy => h c σ H env st Q sr (hy.imp fun p v c' H' st' sr' r => ⟨?_, fun z => nomatch z⟩)⟩
  obtain ⟨a, rfl, n, o⟩ := r.1
  exact (o.mono (N' := c'.NM) (.refl _) (.same _ NM_N) (fun _ q => q)).rep n
end
end Vl

set_option Elab.async false
set_option linter.all false
set_option maxRecDepth 100000
namespace Vl
open PySem PySem.Spec PyProof.Rows L2
abbrev Den (α : Type) := Env → Sto → Res α
abbrev Gro (H H' : Hp) : Prop := ∀ a o, H a = some o → H' a = some o
abbrev RV (X : Cx) (c : Ctl) (σ : L2.St) (env : Env) (H0 H : Hp) (p : PV) (v : V) (l : Lv) : Prop := RepLv (gv X c) H0 H c.NM (c.N σ env) p v l
section
variable {X : Cx} {W : WX} {σ : L2.St} {env : Env} {c c' : Ctl} {H H' : Hp} {st : Sto}

theorem Post.lv {l : Lv} (po : Post c c' H H') (hl : l ≠ .f) {H0 H0' : Hp} {p : PV} {v : V} (h : RV X c σ env H0 H p v l) : RV X c' σ env H0' H' p v l := by
  cases l with
  | c => exact po.rep h
  | m => exact po.repM h
  | f => exact absurd rfl hl
  | i =>
    obtain ⟨a, e, n, o⟩ := h
    obtain ⟨ob, e1, _⟩ := o.there
    refine ⟨a, e, po.keepsM.n a (by rw [e1]; simp) n, o.mono po.gle (po.keeps (OwnS σ env)) fun o' e' => po.fr a o' e' fun z => n (.inl z)⟩

/-! constants, names -/
def xC (p : PV) : Den PV := fun _ st => .ok p st
def xV (i : Nat) : Den PV := fun env st => match env[i]? with | some (.pl v) => .ok v st | _ => .no
def xO (i : Nat) : Den PV := fun env st => match env[i]? with | some (.ow v) => .ok v st | _ => .no
theorem d_int {i : Int} {j pos} : DE X W (.Constant (.int i) j pos) .c (xC (.int i)) := ⟨_, pe_int, fun c σ H env st Q sr h => h _ c H sr (.refl _ _) (rlc (.int i))⟩
theorem d_bl {b : Bool} {j pos} : DE X W (.Constant (.bool b) j pos) .c (xC (.bl b)) := ⟨_, pe_bl, fun c σ H env st Q sr h => h _ c H sr (.refl _ _) (rlc (.bl b))⟩
theorem d_non {j pos} : DE X W (.Constant .none j pos) .c (xC .non) := ⟨_, pe_non, fun c σ H env st Q sr h => h _ c H sr (.refl _ _) (rlc .non)⟩
theorem d_str (l : List Nat) {x : Str} {j pos} (e : x = mkS l := by rfl) (z : l.length ≤ sizeLine := by decide) (u : ∀ c ∈ l, c < 1114112 := by decide) : DE X W (.Constant (.str x) j pos) .c (xC (.str l)) :=
  ⟨_, pe_str, fun c σ H env st Q sr h => h _ c H sr (.refl _ _) (rlc (e ▸ .str l z u))⟩
theorem d_var (i : Nat) {x : Str} {pos : Pos} (hN : X.N[i]? = some x := by rfl) (hv : Vis X.env.scope x := by first | exact Or.inl rfl | exact Or.inr (Or.inl rfl) | exact Or.inr (Or.inr rfl)) (hd : (x == ("__debug__" : Str)) = false := by decide)
    (hcd : (x == ("__classdict__" : Str)) = false := by decide) : DE X W (.Name x pos) .c (xV i) := by
  refine ⟨_, pe_var hN hv hd hcd, fun c σ H env st Q sr h => ?_⟩
  unfold xV at h
  cases e : env[i]? with
  | none => rw [e] at h; exact h.elim
  | some s =>
    rw [e] at h
    cases s with
    | no => exact h.elim
    | ow _ => exact h.elim
    | pl p =>
      obtain ⟨v, e1, r⟩ := sr.pl i p e
      exact ⟨v, e1, h v c H sr (.refl _ _) (rlc r)⟩
theorem d_own (i : Nat) {x : Str} {pos : Pos} (hN : X.N[i]? = some x := by rfl) (hv : Vis X.env.scope x := by first | exact Or.inl rfl | exact Or.inr (Or.inl rfl) | exact Or.inr (Or.inr rfl)) (hd : (x == ("__debug__" : Str)) = false := by decide)
    (hcd : (x == ("__classdict__" : Str)) = false := by decide) : DE X W (.Name x pos) .i (xO i) := by
  refine ⟨_, pe_var hN hv hd hcd, fun c σ H env st Q sr h => ?_⟩
  unfold xO at h
  cases e : env[i]? with
  | none => rw [e] at h; exact h.elim
  | some s =>
    rw [e] at h
    cases s with
    | no => exact h.elim
    | pl _ => exact h.elim
    | ow p =>
      obtain ⟨a, e1, z, ns, nm, r⟩ := sr.ow i p e
      exact ⟨_, e1, h (.ref a) c H sr (.refl _ _) ⟨⟨a, rfl, fun q => q.elim ns nm, r⟩, fun z => nomatch z⟩⟩
/-- a module's constant -/
theorem d_gstr (l : List Nat) {x : Str} {pos : Pos} {t : Tok} (hg : Gl X x) (hm : X.mg x = some (.str (mkS l) t)) (z : l.length ≤ sizeLine := by decide) (u : ∀ c ∈ l, c < 1114112 := by decide) (hd : (x == ("__debug__" : Str)) = false := by decide) : DE X W (.Name x pos) .c (xC (.str l)) :=
  ⟨_, pe_glob (v := .str (mkS l)) hg hm ⟨t, rfl⟩ hd, fun c σ H env st Q sr h => h _ c H sr (.refl _ _) (rlc (.str l z u))⟩
theorem d_gint (i : Int) {x : Str} {pos : Pos} {t : Tok} (hg : Gl X x) (hm : X.mg x = some (.int i t)) (hd : (x == ("__debug__" : Str)) = false := by decide) : DE X W (.Name x pos) .c (xC (.int i)) :=
  ⟨_, pe_glob (v := .int i) hg hm ⟨t, rfl⟩ hd, fun c σ H env st Q sr h => h _ c H sr (.refl _ _) (rlc (.int i))⟩
theorem d_gfn {x : Str} {f : Addr} {pos : Pos} (hg : Gl X x) (hm : X.mg x = some (.ref f)) (hd : (x == ("__debug__" : Str)) = false := by decide) : DE X W (.Name x pos) .c (xC (.fn x)) :=
  ⟨_, pe_glob (v := .ref f) hg hm rfl hd, fun c σ H env st Q sr h => h _ c H sr (.refl _ _) (rlc (.fn hm))⟩

/-! one part, two parts -/
def xUn (f : PV → Option PV) (d : Den PV) : Den PV := fun env st => (d env st).bind fun p s => opt (f p) s
def xBin (f : PV → PV → Option PV) (da db : Den PV) : Den PV := fun env st => (da env st).bind fun p s => (db env s).bind fun q s' => opt (f p q) s'
/-- what a rule by values gives -/
def Gives (X : Cx) (lvl : Lv) (c : Ctl) (σ : L2.St) (env : Env) (st : Sto) (H : Hp) (res : PV) (Q : VK) : Prop := ∀ v H', Gro H H' → RL X σ env lvl H c H' st res v → Q v H'
theorem gives_of {lvl : Lv} {res : PV} {Q : VK} (sr : SR X c σ H env st) (h : HypG X W σ env (RL X σ env lvl) c H (.ok res st) Q) : Gives X lvl c σ env st H res Q :=
  fun v H' gr r => h v c H' (sr.grow gr) (.grow gr) r
theorem opt_some {α β : Type} {R : Hp → Ctl → Hp → Sto → α → β → Prop} {o : Option α} {Q : β → Hp → Prop} (h : HypG X W σ env R c H (opt o st) Q) : ∃ a, o = some a ∧ HypG X W σ env R c H (.ok a st) Q := by
  cases o with
  | none => exact h.elim
  | some a => exact ⟨a, rfl, h⟩
theorem un_core {l1 lvl : Lv} {f : PV → Option PV} {d : Den PV} {Q Q1 : VK} (sr : SR X c σ H env st)
    (h : HypG X W σ env (RL X σ env lvl) c H (xUn f d env st) Q)
    (k : ∀ c1 H1 st1 p v res, SR X c1 σ H1 env st1 → RV X c1 σ env H H1 p v l1 → f p = some res → Gives X lvl c1 σ env st1 H1 res Q → Q1 v H1) :
    HypG X W σ env (RL X σ env l1) c H (d env st) Q1 :=
  bindG back_RL h fun p st1 v c1 H1 sr1 po r h1 => by
    obtain ⟨res, e, h2⟩ := opt_some h1
    exact k c1 H1 st1 p v res sr1 r.1 e (gives_of sr1 h2)
theorem bin_core {l1 l2 lvl : Lv} {f : PV → PV → Option PV} {da db : Den PV} {tb : TE} {Q : VK} {Q2 : V → V → Hp → Prop} (sr : SR X c σ H env st) (hl1 : l1 ≠ .f)
    (hb : ∀ c σ H env st Q, SR X c σ H env st → HypG X W σ env (RL X σ env l2) c H (db env st) Q → tb σ H Q)
    (h : HypG X W σ env (RL X σ env lvl) c H (xBin f da db env st) Q)
    (k : ∀ c2 H2 st2 p q x y res, SR X c2 σ H2 env st2 → RV X c2 σ env H2 H2 p x l1 → (∃ H1, RV X c2 σ env H1 H2 q y l2) → f p q = some res → Gives X lvl c2 σ env st2 H2 res Q → Q2 x y H2) :
    HypG X W σ env (RL X σ env l1) c H (da env st) (fun x H1 => tb σ H1 fun y H2 => Q2 x y H2) :=
  bindG back_RL h fun p st1 v c1 H1 sr1 po r h1 => by
    refine hb c1 σ H1 env st1 _ sr1 (bindG back_RL h1 fun q st2 y c2 H2 sr2 po2 r2 h2 => ?_)
    obtain ⟨res, e, h3⟩ := opt_some h2
    exact k c2 H2 st2 p q v y res sr2 (po2.lv hl1 r.1) ⟨H1, r2.1⟩ e (gives_of sr2 h3)

/-- a rule by two values -/
def OpOk (X : Cx) (r : R2) (l1 l2 lvl : Lv) (f : PV → PV → Option PV) : Prop :=
  ∀ (c : Ctl) (σ : L2.St) (H H1 : Hp) (env : Env) (st : Sto) (Q : VK) (p q res : PV) (x y : V), SR X c σ H env st → RV X c σ env H H p x l1 → RV X c σ env H1 H q y l2 → f p q = some res → Gives X lvl c σ env st H res Q → r x y H Q
def UnOk (X : Cx) (r : V → Hp → VK → Prop) (l1 lvl : Lv) (f : PV → Option PV) : Prop :=
  ∀ (c : Ctl) (σ : L2.St) (H H1 : Hp) (env : Env) (st : Sto) (Q : VK) (p res : PV) (x : V), SR X c σ H env st → RV X c σ env H1 H p x l1 → f p = some res → Gives X lvl c σ env st H res Q → r x H Q
variable {a b : Expr} {da db : Den PV} {l1 l2 lvl : Lv} {pos : Pos}
theorem d_bin {op : Operator} {r : R2} {f : PV → PV → Option PV} (ho : OpR X (binaryOp op) r) (ok : OpOk X r l1 l2 lvl f) (ha : DE X W a l1 da) (hb : DE X W b l2 db) (hl1 : l1 ≠ .f := by decide) : DE X W (.BinOp a op b pos) lvl (xBin f da db) := by
  obtain ⟨ta, pa, ha⟩ := ha
  obtain ⟨tb, pb, hb⟩ := hb
  refine ⟨_, pe_op ho pa pb, fun c σ H env st Q sr h => ha c σ H env st _ sr (bin_core sr hl1 hb h fun c2 H2 st2 p q x y res sr2 r1 ⟨H1, r2⟩ e g => ?_)⟩
  exact ok c2 σ H2 H1 env st2 Q p q res x y sr2 r1 r2 e g
theorem d_cmp {op : CmpOp} {r : R2} {f : PV → PV → Option PV} (ho : OpR X (compareOp op) r) (ok : OpOk X r l1 l2 lvl f) (ha : DE X W a l1 da) (hb : DE X W b l2 db) (hm : behindInMarks op b = false) (hl1 : l1 ≠ .f := by decide) : DE X W (.Compare a [op] [b] pos) lvl (xBin f da db) := by
  obtain ⟨ta, pa, ha⟩ := ha
  obtain ⟨tb, pb, hb⟩ := hb
  refine ⟨_, pe_cmpR ho pa pb hm, fun c σ H env st Q sr h => ha c σ H env st _ sr (bin_core sr hl1 hb h fun c2 H2 st2 p q x y res sr2 r1 ⟨H1, r2⟩ e g => ?_)⟩
  exact ok c2 σ H2 H1 env st2 Q p q res x y sr2 r1 r2 e g
theorem d_un {op : UnaryOp} {r : V → Hp → VK → Prop} {f : PV → Option PV} (ho : UnR X (unaryOp op) r) (ok : UnOk X r l1 lvl f) (ha : DE X W a l1 da) : DE X W (.UnaryOp op a pos) lvl (xUn f da) := by
  obtain ⟨ta, pa, ha⟩ := ha
  exact ⟨_, pe_un ho pa, fun c σ H env st Q sr h => ha c σ H env st _ sr (un_core sr h fun c1 H1 st1 p v res sr1 r e g => ok c1 σ H1 H env st1 Q p res v sr1 r e g)⟩
/-- a built-in of one argument by its name -/
theorem d_call1 {x : Str} {id : String} {p : Pos} {r : List V → Hp → VK → Prop} {f : PV → Option PV} (hc : CallR X (.builtin id) r) (ok : UnOk X (fun x H Q => r [x] H Q) l1 lvl f) (hg : Gl X x) (hm : X.mg x = none) (hv : bootBuiltins x = some (.builtin id)) (ha : DE X W a l1 da)
    (hs : starEach [a] X.env = (false, eval a X.env) :: starEach [] X.env := by rfl) (hn : x ≠ "__name__" := by decide) (hdb : (x == ("__debug__" : Str)) = false := by decide) : DE X W (.Call (.Name x p) [a] [] pos) lvl (xUn f da) := by
  obtain ⟨ta, pa, ha⟩ := ha
  exact ⟨_, pe_callB hc hg hm hv (pa_cons pa pa_nil hs) hn hdb hs (by simp [backTo, starEach]), fun c σ H env st Q sr h => ha c σ H env st _ sr (un_core sr h fun c1 H1 st1 p v res sr1 r e g => ok c1 σ H1 H env st1 Q p res v sr1 r e g)⟩
end
/-! ### one more protected address -/
theorem RepLv.mono {g g' : Gv} {H0 H0' H H' : Hp} {NM N NM' N' : Addr → Prop} {p : PV} {v : V} {l : Lv} (hl : l ≠ .f) (hg : Gle g g') (k1 : Kp H H' NM NM') (k2 : Kp H H' N N') (ex : ∀ a o, ¬ NM a → H a = some o → H' a = some o)
    (h : RepLv g H0 H NM N p v l) : RepLv g' H0' H' NM' N' p v l := by
  cases l with
  | c => exact Rep.mono hg k2 h
  | m => exact Rep.mono hg k1 h
  | f => exact absurd rfl hl
  | i =>
    obtain ⟨a, e, n, o⟩ := h
    obtain ⟨ob, e1, _⟩ := o.there
    exact ⟨a, e, k1.n a (by rw [e1]; simp) n, o.mono hg k2 (fun o' => ex a o' n)⟩
section
variable {X : Cx} {c c1 c2 : Ctl} {σ : L2.St} {H H1 H2 : Hp} {env : Env} {st st1 st2 : Sto}
theorem SRk.post (sr : SR X c1 σ H1 env st1) (po : Post c1 c2 H1 H2) (sto : StoOk (gv X c2) c2.S H2 (c2.N σ env) st2) (dm : ∀ a, c2.S a → H2 a ≠ none) (fs : ∀ a, c2.S a → c2.S0 a ∨ c2.H0 a = none) : SR X c2 σ H2 env st2 := by
  have ns : ∀ a o, c2.H0 a = some o → ¬ c2.S0 a → ¬ c1.S a := fun a o e n z => by
    rw [po.H0] at e; rw [po.S0] at n
    rcases sr.fs a z with q | q
    · exact n q
    · rw [e] at q; cases q
  refine ⟨sr.len, fun i pv e => ?_, fun i pv e => ?_, sr.dist, fun p hp => ?_, sto, fun a z => ?_, fun a o e n => ?_, fun a z => ?_, fs⟩
  · obtain ⟨v, h1, h2⟩ := sr.pl i pv e
    exact ⟨v, h1, po.rep h2⟩
  · obtain ⟨a, h1, h2, h3, h4, h5⟩ := sr.ow i pv e
    obtain ⟨ob, e1, _⟩ := h5.there
    refine ⟨a, h1, by rw [po.H0]; exact h2, fun z => ?_, by rw [po.M]; exact h4, h5.mono po.gle (po.keeps _) fun o q => po.fr a o q h3⟩
    exact (po.S a z).elim h3 (by rw [e1]; simp)
  · rw [po.g] at hp; exact po.rep (sr.gh p hp)
  · rcases z with z | z
    · exact dm a z
    · rw [po.M] at z; exact po.dm a (sr.dm a (.inr z))
  · have := ns a o e n
    rw [po.H0] at e; rw [po.S0] at n
    exact po.fr a o (sr.fr a o e n) this
  · rw [po.H0] at z; exact po.dm a (sr.d0 a z)
theorem KpD {N : Addr → Prop} {D : Addr} {o : HO} (h : H D = none) : Kp H (upd H D o) N (fun a => N a ∨ a = D) :=
  .of (fun a u e _ => grow_upd h a u e) (fun a hd n z => z.elim n fun z => hd (by rw [z]; exact h))
theorem cD_N {D : Addr} : ∀ a, (cD c D).N σ env a ↔ c.N σ env a ∨ a = D := fun a => by
  show (c.S a ∨ (c.M a ∨ a = D) ∨ OwnS σ env a) ↔ (c.S a ∨ c.M a ∨ OwnS σ env a) ∨ a = D
  constructor
  · rintro (h | (h | h) | h)
    · exact .inl (.inl h)
    · exact .inl (.inr (.inl h))
    · exact .inr h
    · exact .inl (.inr (.inr h))
  · rintro ((h | h | h) | h)
    · exact .inl h
    · exact .inr (.inl (.inl h))
    · exact .inr (.inr h)
    · exact .inr (.inl (.inr h))
theorem Kp.toD {H H' : Hp} {N : Addr → Prop} {D : Addr} (k : Kp H H' N (fun a => c.N σ env a ∨ a = D)) : Kp H H' N ((cD c D).N σ env) := ⟨k.ex, k.rd, fun a h n z => k.n a h n (cD_N a |>.mp z)⟩
theorem SRk.postD (sr : SR X c1 σ H1 env st1) (po : Post c1 c2 H1 H2) {D : Addr} (hD : H1 D = none) (hD2 : H2 D ≠ none) (sto : StoOk (gv X c2) c2.S H2 ((cD c2 D).N σ env) st2) (dm : ∀ a, c2.S a → H2 a ≠ none) (fs : ∀ a, c2.S a → c2.S0 a ∨ c2.H0 a = none) : SR X (cD c2 D) σ H2 env st2 := by
  have hN : ∀ a, c2.N σ env a → (cD c2 D).N σ env a := fun a z => cD_N a |>.mpr (.inl z)
  have so := sr.post po ⟨sto.len, sto.nd, sto.own, fun n xs e => by
    obtain ⟨a, vs, h1, h2, h3, h4⟩ := sto.lst n xs e
    exact ⟨a, vs, h1, h2, h3, RepA.loosen hN h4⟩⟩ dm fs
  have hd : ∀ a, H1 a ≠ none → a ≠ D := fun a q z => q (by rw [z]; exact hD)
  have k0 := po.keeps (OwnS σ env)
  have k : Kp H1 H2 (c1.N σ env) ((cD c2 D).N σ env) := ⟨k0.ex, k0.rd, fun a h n z => (cD_N a |>.mp z).elim (k0.n a h n) (hd a h)⟩
  refine ⟨sr.len, fun i pv e => ?_, fun i pv e => ?_, sr.dist, fun p hp => ?_, sto, fun a z => ?_, so.fr, so.d0, fs⟩
  · obtain ⟨v, h1, h2⟩ := sr.pl i pv e
    exact ⟨v, h1, h2.mono po.gle k⟩
  · obtain ⟨a, h1, h2, h3, h4, h5⟩ := sr.ow i pv e
    obtain ⟨ob, e1, _⟩ := h5.there
    obtain ⟨a', h1', h2', h3', h4', _⟩ := so.ow i pv e
    obtain rfl : a = a' := by rw [h1] at h1'; cases h1'; rfl
    exact ⟨a, h1, h2', h3', fun z => z.elim h4' (hd a (by rw [e1]; simp)), h5.mono po.gle k fun o q => po.fr a o q h3⟩
  · rw [show (cD c2 D).g = c1.g from po.g] at hp
    exact (sr.gh p hp).mono po.gle k
  · have z' : (c2.S a ∨ c2.M a) ∨ a = D := by
      rcases z with z | z | z
      · exact .inl (.inl z)
      · exact .inl (.inr z)
      · exact .inr z
    rcases z' with z | z
    · exact so.dm a z
    · rw [z]; exact hD2
/-- a new object is protected -/
theorem SRk.newM (sr : SR X c σ H env st) {D : Addr} {o : HO} (h : H D = none) : SR X (cD c D) σ (upd H D o) env st := by
  have k : Kp H (upd H D o) (c.N σ env) ((cD c D).N σ env) := (KpD h).toD
  have hd : ∀ a, H a ≠ none → a ≠ D := fun a q z => q (by rw [z]; exact h)
  refine ⟨sr.len, fun i pv e => ?_, fun i pv e => ?_, sr.dist, fun p hp => (sr.gh p hp).mono (.refl _) k, ⟨sr.sto.len, sr.sto.nd, sr.sto.own, fun n xs e => ?_⟩, fun a z => ?_, fun a u e n => grow_upd h a u (sr.fr a u e n), fun a z => ?_, sr.fs⟩
  · obtain ⟨v, h1, h2⟩ := sr.pl i pv e
    exact ⟨v, h1, h2.mono (.refl _) k⟩
  · obtain ⟨a, h1, h2, h3, h4, h5⟩ := sr.ow i pv e
    obtain ⟨ob, e1, _⟩ := h5.there
    exact ⟨a, h1, h2, h3, fun z => z.elim h4 (hd a (by rw [e1]; simp)), h5.mono (.refl _) k (grow_upd h a)⟩
  · obtain ⟨a, vs, h1, h2, h3, h4⟩ := sr.sto.lst n xs e
    exact ⟨a, vs, h1, grow_upd h a _ h2, h3, h4.mono (.refl _) k⟩
  · have z' : (c.S a ∨ c.M a) ∨ a = D := by
      rcases z with z | z | z
      · exact .inl (.inl z)
      · exact .inl (.inr z)
      · exact .inr z
    rcases z' with z | z
    · rw [upd_ne (hd a (sr.dm a z))]; exact sr.dm a z
    · rw [z, upd_same]; simp
  · have q := sr.d0 a z
    rw [upd_ne (hd a q)]; exact q
/-- a protected object is written -/
theorem SRk.setM (sr : SR X c σ H env st) {D : Addr} {o : HO} (hM : c.M D) (hS : ¬ c.S D) (h0 : c.H0 D = none) (hD : H D ≠ none) : SR X c σ (upd H D o) env st := by
  have k : Kp H (upd H D o) (c.N σ env) (c.N σ env) := .of (fun a u e n => by
    have : a ≠ D := fun z => n (by rw [z]; exact .inr (.inl hM))
    rw [upd_ne this]; exact e) fun _ _ n => n
  refine ⟨sr.len, fun i pv e => ?_, fun i pv e => ?_, sr.dist, fun p hp => (sr.gh p hp).mono (.refl _) k, ⟨sr.sto.len, sr.sto.nd, sr.sto.own, fun n xs e => ?_⟩, fun a z => ?_, fun a u e n => ?_, fun a z => ?_, sr.fs⟩
  · obtain ⟨v, h1, h2⟩ := sr.pl i pv e
    exact ⟨v, h1, h2.mono (.refl _) k⟩
  · obtain ⟨a, h1, h2, h3, h4, h5⟩ := sr.ow i pv e
    have : a ≠ D := fun z => h4 (by rw [z]; exact hM)
    exact ⟨a, h1, h2, h3, h4, h5.mono (.refl _) k fun u e => by rw [upd_ne this]; exact e⟩
  · obtain ⟨a, vs, h1, h2, h3, h4⟩ := sr.sto.lst n xs e
    have : a ≠ D := fun z => hS (by rw [← z]; exact sr.sto.own a (List.mem_of_getElem? h1))
    exact ⟨a, vs, h1, by rw [upd_ne this]; exact h2, h3, h4.mono (.refl _) k⟩
  · by_cases e : a = D
    · rw [e, upd_same]; simp
    · rw [upd_ne e]; exact sr.dm a z
  · have : a ≠ D := fun z => by rw [z, h0] at e; cases e
    rw [upd_ne this]; exact sr.fr a u e n
  · by_cases e : a = D
    · rw [e, upd_same]; simp
    · rw [upd_ne e]; exact sr.d0 a z
theorem Post.updD (po : Post c c2 H H2) {D : Addr} {o : HO} (n : H D = none) : Post c c2 H (upd H2 D o) :=
  ⟨po.M, po.g, po.H0, po.S0, po.sa, po.S, fun a u e m => by rw [upd_ne (ne_of_none e n)]; exact po.fr a u e m, fun a h => by
    by_cases e : a = D
    · rw [e, upd_same]; simp
    · rw [upd_ne e]; exact po.dm a h⟩
theorem Post.unD {D : Addr} (po : Post (cD c D) c2 H H2) : Post c { c2 with M := c.M } H H2 := ⟨rfl, po.g, po.H0, po.S0, po.sa, po.S, po.fr, po.dm⟩
theorem cD_un {D : Addr} (po : Post (cD c D) c2 H H2) : cD { c2 with M := c.M } D = c2 := by
  have := po.M
  cases c2
  simp only [cD] at this ⊢
  rw [this]
end

end Vl

set_option Elab.async false
set_option linter.all false
set_option maxRecDepth 100000
namespace Vl
open PySem PySem.Spec PyProof.Rows L2

/-! ### data within values: equality -/
mutual
def PV.eqv : PV → PV → Bool
  | .non, .non => true
  | .bl a, .bl b => a == b
  | .bl a, .int j => (if a then 1 else 0) == j
  | .int i, .bl b => i == (if b then 1 else 0)
  | .int i, .int j => i == j
  | .str x, .str y => x == y
  | .lst xs, .lst ys => eqvA xs ys
  | .tup xs, .tup ys => eqvA xs ys
  | _, _ => false
def eqvA : List PV → List PV → Bool
  | [], [] => true
  | x :: xs, y :: ys => PV.eqv x y && eqvA xs ys
  | _, _ => false
end
mutual
/-- data, of nesting n at most -/
def PV.sh : PV → Nat → Bool
  | .non, _ => true
  | .bl _, _ => true
  | .int _, _ => true
  | .str _, _ => true
  | .lst xs, n => match n with | 0 => false | n + 1 => shA xs n
  | .tup xs, n => match n with | 0 => false | n + 1 => shA xs n
  | _, _ => false
def shA : List PV → Nat → Bool
  | [], _ => true
  | x :: xs, n => PV.sh x n && shA xs n
end
mutual
def toD : PV → PyData
  | .non => .none
  | .bl b => .bool b
  | .int i => .int i
  | .str l => .str (mkS l)
  | .lst xs => .list (toDA xs)
  | .tup xs => .tuple (toDA xs)
  | _ => .dict []
def toDA : List PV → List PyData
  | [] => []
  | x :: xs => toD x :: toDA xs
end
theorem mkS_beq (x y : List Nat) : (mkS x == mkS y) = (x == y) := by
  by_cases h : x = y
  · subst h; simp
  · have : mkS x ≠ mkS y := fun e => h (by have := congrArg (fun z : Str => z.cps.toList) e; simpa [mkS] using this)
    rw [beq_eq_false_iff_ne.mpr this, beq_eq_false_iff_ne.mpr h]
mutual
theorem eqv_toD : ∀ (p q : PV) (n m : Nat), p.sh n = true → q.sh m = true → PyData.eqv (toD p) (toD q) = PV.eqv p q
  | .lst xs, .lst ys, n, m, h1, h2 => by
    cases n with
    | zero => simp [PV.sh] at h1
    | succ n =>
      cases m with
      | zero => simp [PV.sh] at h2
      | succ m =>
        simp only [PV.sh] at h1 h2
        simp only [toD, PyData.eqv, PV.eqv]
        exact eqvA_toD xs ys n m h1 h2
  | .tup xs, .tup ys, n, m, h1, h2 => by
    cases n with
    | zero => simp [PV.sh] at h1
    | succ n =>
      cases m with
      | zero => simp [PV.sh] at h2
      | succ m =>
        simp only [PV.sh] at h1 h2
        simp only [toD, PyData.eqv, PV.eqv]
        exact eqvA_toD xs ys n m h1 h2
  | .str x, .str y, _, _, _, _ => by simp only [toD, PyData.eqv, PV.eqv]; exact mkS_beq x y
  | .dct _ _, _, _, _, h, _ => by simp [PV.sh] at h
  | .obj _, _, _, _, h, _ => by simp [PV.sh] at h
  | .fn _, _, _, _, h, _ => by simp [PV.sh] at h
  | _, .dct _ _, _, _, _, h => by simp [PV.sh] at h
  | _, .obj _, _, _, _, h => by simp [PV.sh] at h
  | _, .fn _, _, _, _, h => by simp [PV.sh] at h
  | .non, .non, _, _, _, _ | .non, .bl _, _, _, _, _ | .non, .int _, _, _, _, _ | .non, .str _, _, _, _, _ | .non, .lst _, _, _, _, _ | .non, .tup _, _, _, _, _ => by simp [toD, PyData.eqv, PV.eqv]
  | .bl _, .non, _, _, _, _ | .bl _, .bl _, _, _, _, _ | .bl _, .int _, _, _, _, _ | .bl _, .str _, _, _, _, _ | .bl _, .lst _, _, _, _, _ | .bl _, .tup _, _, _, _, _ => by simp [toD, PyData.eqv, PV.eqv]
  | .int _, .non, _, _, _, _ | .int _, .bl _, _, _, _, _ | .int _, .int _, _, _, _, _ | .int _, .str _, _, _, _, _ | .int _, .lst _, _, _, _, _ | .int _, .tup _, _, _, _, _ => by simp [toD, PyData.eqv, PV.eqv]
  | .str _, .non, _, _, _, _ | .str _, .bl _, _, _, _, _ | .str _, .int _, _, _, _, _ | .str _, .lst _, _, _, _, _ | .str _, .tup _, _, _, _, _ => by simp [toD, PyData.eqv, PV.eqv]
  | .lst _, .non, _, _, _, _ | .lst _, .bl _, _, _, _, _ | .lst _, .int _, _, _, _, _ | .lst _, .str _, _, _, _, _ | .lst _, .tup _, _, _, _, _ => by simp [toD, PyData.eqv, PV.eqv]
  | .tup _, .non, _, _, _, _ | .tup _, .bl _, _, _, _, _ | .tup _, .int _, _, _, _, _ | .tup _, .str _, _, _, _, _ | .tup _, .lst _, _, _, _, _ => by simp [toD, PyData.eqv, PV.eqv]
theorem eqvA_toD : ∀ (ps qs : List PV) (n m : Nat), shA ps n = true → shA qs m = true → PyData.eqvAll (toDA ps) (toDA qs) = eqvA ps qs
  | [], [], _, _, _, _ => by simp [toDA, PyData.eqvAll, eqvA]
  | [], _ :: _, _, _, _, _ => by simp [toDA, PyData.eqvAll, eqvA]
  | _ :: _, [], _, _, _, _ => by simp [toDA, PyData.eqvAll, eqvA]
  | p :: ps, q :: qs, n, m, h1, h2 => by
    simp only [shA, Bool.and_eq_true] at h1 h2
    simp only [toDA, PyData.eqvAll, eqvA]
    rw [eqv_toD p q n m h1.1 h2.1, eqvA_toD ps qs n m h1.2 h2.2]
end
mutual
theorem sh_depth : ∀ (p : PV) (n : Nat), p.sh n = true → (toD p).depth ≤ n
  | .lst xs, n, h => by
    cases n with
    | zero => simp [PV.sh] at h
    | succ n => simp only [PV.sh] at h; simp only [toD, PyData.depth]; have := shA_depth xs n h; omega
  | .tup xs, n, h => by
    cases n with
    | zero => simp [PV.sh] at h
    | succ n => simp only [PV.sh] at h; simp only [toD, PyData.depth]; have := shA_depth xs n h; omega
  | .non, _, _ | .bl _, _, _ | .int _, _, _ | .str _, _, _ => by simp [toD, PyData.depth]
  | .dct _ _, _, h | .obj _, _, h | .fn _, _, h => by simp [PV.sh] at h
theorem shA_depth : ∀ (p : List PV) (n : Nat), shA p n = true → PyData.depthAll (toDA p) ≤ n
  | [], _, _ => by simp [toDA, PyData.depthAll]
  | p :: ps, n, h => by
    simp only [shA, Bool.and_eq_true] at h
    simp only [toDA, PyData.depthAll]
    have h1 := sh_depth p n h.1
    have h2 := shA_depth ps n h.2
    omega
end
section
variable {g : Gv} {H : Hp} {N : Addr → Prop}
theorem strOk_mk {l : List Nat} (u : ∀ c ∈ l, c < 1114112) : PyData.strOk (mkS l) = true := by
  unfold PyData.strOk mkS
  simp only [List.all_toArray, List.all_eq_true, decide_eq_true_eq]
  exact u
mutual
theorem Rep.dp : ∀ {p : PV} {v : V} {n : Nat}, Rep g H N p v → p.sh n = true → Dp g.K H v (toD p) ∧ (toD p).canLay0 = true
  | _, _, _, .non, _ => ⟨.non, by simp [toD, PyData.canLay0]⟩
  | _, _, _, .bl b, _ => ⟨.bl b, by simp [toD, PyData.canLay0]⟩
  | _, _, _, .int i, _ => ⟨.int i, by simp [toD, PyData.canLay0]⟩
  | _, _, _, .str l _ u, _ => ⟨.str _, by simp only [toD, PyData.canLay0]; exact strOk_mk u⟩
  | _, _, n, .tup h z r, e => by
    cases n with
    | zero => simp [PV.sh] at e
    | succ n =>
      simp only [PV.sh] at e
      obtain ⟨a, b⟩ := RepA.dp r e
      exact ⟨.tup h.sq a, by simp only [toD, PyData.canLay0]; exact b⟩
  | _, _, n, .lst h m z r, e => by
    cases n with
    | zero => simp [PV.sh] at e
    | succ n =>
      simp only [PV.sh] at e
      obtain ⟨a, b⟩ := RepA.dp r e
      exact ⟨.lst (SqL.of h) a, by simp only [toD, PyData.canLay0]; exact b⟩
  | _, _, _, .dK _ _ _ _ _, e | _, _, _, .dT _ _ _ _ _, e | _, _, _, .obj _, e | _, _, _, .fn _, e => by simp [PV.sh] at e
theorem RepA.dp : ∀ {p : List PV} {v : List V} {n : Nat}, RepA g H N p v → shA p n = true → DpAll g.K H v (toDA p) ∧ PyData.canLayAll0 (toDA p) = true
  | _, _, _, .nil, _ => ⟨.nil, by simp [toDA, PyData.canLayAll0]⟩
  | _, _, _, .cons h r, e => by
    simp only [shA, Bool.and_eq_true] at e
    obtain ⟨a, b⟩ := Rep.dp h e.1
    obtain ⟨c, d⟩ := RepA.dp r e.2
    exact ⟨.cons a c, by simp only [toDA, PyData.canLayAll0, b, d, Bool.and_self]⟩
end
end

/-! ### values at any level -/
section
variable {X : Cx} {W : WX} {σ : L2.St} {env : Env} {c c' : Ctl} {H H' H0 : Hp} {st : Sto} {l : Lv} {v : V}
theorem rv_int {i : Int} (h : RV X c σ env H0 H (.int i) v l) : v = .int i := by
  cases l with
  | c => cases (show Rep _ _ _ _ _ from h); rfl
  | m => cases (show Rep _ _ _ _ _ from h); rfl
  | i => obtain ⟨_, _, _, o⟩ := h; exact o.elim
  | f => obtain ⟨_, _, _, _, o⟩ := h; exact o.elim
theorem rv_bl {i : Bool} (h : RV X c σ env H0 H (.bl i) v l) : v = .bl i := by
  cases l with
  | c => cases (show Rep _ _ _ _ _ from h); rfl
  | m => cases (show Rep _ _ _ _ _ from h); rfl
  | i => obtain ⟨_, _, _, o⟩ := h; exact o.elim
  | f => obtain ⟨_, _, _, _, o⟩ := h; exact o.elim
theorem rv_non (h : RV X c σ env H0 H .non v l) : v = .non := by
  cases l with
  | c => cases (show Rep _ _ _ _ _ from h); rfl
  | m => cases (show Rep _ _ _ _ _ from h); rfl
  | i => obtain ⟨_, _, _, o⟩ := h; exact o.elim
  | f => obtain ⟨_, _, _, _, o⟩ := h; exact o.elim
theorem rv_str {s : List Nat} (h : RV X c σ env H0 H (.str s) v l) : v = .str (mkS s) ∧ s.length ≤ sizeLine ∧ ∀ c ∈ s, c < 1114112 := by
  cases l with
  | c => cases (show Rep _ _ _ _ _ from h) with | str _ a b => exact ⟨rfl, a, b⟩
  | m => cases (show Rep _ _ _ _ _ from h) with | str _ a b => exact ⟨rfl, a, b⟩
  | i => obtain ⟨_, _, _, o⟩ := h; exact o.elim
  | f => obtain ⟨_, _, _, _, o⟩ := h; exact o.elim
/-- a list that can be read, its items clean -/
theorem rv_lst {ps : List PV} (hl : l ≠ .m) (h : RV X c σ env H0 H (.lst ps) v l) : ∃ a vs, v = .ref a ∧ H a = some (.lst vs) ∧ ps.length ≤ sizeLine ∧ RepA (gv X c) H (c.N σ env) ps vs := by
  cases l with
  | c => cases (show Rep _ _ _ _ _ from h) with | lst a b d e => exact ⟨_, _, rfl, a, d, e⟩
  | m => exact absurd rfl hl
  | i => obtain ⟨a, rfl, _, vs, h1, h2, h3⟩ := h; exact ⟨a, vs, rfl, h1, h2, h3⟩
  | f => obtain ⟨a, rfl, _, _, vs, h1, h2, h3⟩ := h; exact ⟨a, vs, rfl, h1, h2, h3⟩
theorem rv_tup {ps : List PV} (hl : l ≠ .m) (h : RV X c σ env H0 H (.tup ps) v l) : ∃ a vs, v = .ref a ∧ TpAt (gv X c) H (c.N σ env) a vs ∧ ps.length ≤ sizeLine ∧ RepA (gv X c) H (c.N σ env) ps vs := by
  cases l with
  | c => cases (show Rep _ _ _ _ _ from h) with | tup a d e => exact ⟨_, _, rfl, a, d, e⟩
  | m => exact absurd rfl hl
  | i => obtain ⟨_, _, _, o⟩ := h; exact o.elim
  | f => obtain ⟨_, _, _, _, o⟩ := h; exact o.elim
/-- all values at all levels are some Rep -/
theorem rv_rep {p : PV} (h : RV X c σ env H0 H p v l) : ∃ N, Rep (gv X c) H N p v := by
  cases l with
  | c => exact ⟨_, h⟩
  | m => exact ⟨_, h⟩
  | i => obtain ⟨a, rfl, n, o⟩ := h; exact ⟨c.NM, (o.mono (.refl _) (.same _ NM_N) (fun _ q => q)).rep n⟩
  | f => obtain ⟨a, rfl, _, n, o⟩ := h; exact ⟨c.NM, (o.mono (.refl _) (.same _ NM_N) (fun _ q => q)).rep n⟩
theorem give_c {Q : VK} {p : PV} {v : V} (g : Gives X .c c σ env st H p Q) (r : Rep (gv X c) H (c.N σ env) p v) : Q v H := g v H (fun _ _ h => h) (rlc r)
/-- a new object of ours -/
theorem give_newT {Q : VK} {ps : List PV} {vs : List V} (sr : SR X c σ H env st) (g : Gives X .c c σ env st H (.tup ps) Q) (z : ps.length ≤ sizeLine) (r : RepA (gv X c) H (c.N σ env) ps vs) : ∀ p, H p = none → Q (.ref p) (upd H p (.tup vs)) := fun p hp =>
  g _ _ (grow_upd hp) (rlc (.tup (.inl ⟨upd_same, fun n => OwnS.gone sr n hp⟩) z (SRk.repA_grow (grow_upd hp) r)))
theorem give_newL {Q : VK} {ps : List PV} {vs : List V} (sr : SR X c σ H env st) (hl : l = .c ∨ l = .f) (g : Gives X l c σ env st H (.lst ps) Q) (z : ps.length ≤ sizeLine) (r : RepA (gv X c) H (c.N σ env) ps vs) : ∀ p, H p = none → Q (.ref p) (upd H p (.lst vs)) := fun p hp => by
  refine g _ _ (grow_upd hp) ?_
  have q : RepA (gv X c) (upd H p (.lst vs)) (c.N σ env) ps vs := SRk.repA_grow (grow_upd hp) r
  rcases hl with rfl | rfl
  · exact rlc (Rep.lst upd_same (fun n => OwnS.gone sr n hp) z q)
  · refine ⟨⟨p, rfl, hp, fun n => OwnS.gone sr (NM_N _ n) hp, vs, upd_same, z, q⟩, fun _ => ⟨p, rfl, hp, fun n => OwnS.gone sr (.inl n) hp, ⟨vs, upd_same, z, r.mono (.refl _) (KpD hp).toD⟩, sr.newM hp⟩⟩
end

/-! ### numbers -/
def minusPV : PV → PV → Option PV
  | .int a, .int b => some (.int (a - b))
  | _, _ => none
def modPV : PV → PV → Option PV
  | .int a, .int b => if 0 < b then some (.int (a % b)) else none
  | _, _ => none
def fdivPV : PV → PV → Option PV
  | .int a, .int b => if 0 < b ∧ b < 1073741824 then some (.int (a / b)) else none
  | _, _ => none
def negPV : PV → Option PV
  | .int a => some (.int (-a))
  | _ => none
def cmpPV (f : Int → Int → Bool) : PV → PV → Option PV
  | .int a, .int b => some (.bl (f a b))
  | _, _ => none
section
variable {X : Cx} {l1 l2 : Lv}
theorem ok_minus : OpOk X (rI0 fun i j => .int (i - j)) l1 l2 .c minusPV := by
  intro c σ H H1 env st Q p q res x y sr r1 r2 e g
  unfold minusPV at e
  split at e
  · cases e; exact ⟨_, _, rv_int r1, rv_int r2, give_c g (.int _)⟩
  · cases e
theorem ok_mod : OpOk X (rI (fun _ j => 0 < j) fun i j => .int (i % j)) l1 l2 .c modPV := by
  intro c σ H H1 env st Q p q res x y sr r1 r2 e g
  unfold modPV at e
  split at e
  · split at e
    · rename_i h; cases e; exact ⟨_, _, rv_int r1, rv_int r2, h, give_c g (.int _)⟩
    · cases e
  · cases e
theorem ok_fdiv : OpOk X (rI CDiv fun i j => .int (i / j)) l1 l2 .c fdivPV := by
  intro c σ H H1 env st Q p q res x y sr r1 r2 e g
  unfold fdivPV at e
  split at e
  · split at e
    · rename_i h; cases e; exact ⟨_, _, rv_int r1, rv_int r2, h, give_c g (.int _)⟩
    · cases e
  · cases e
theorem ok_neg : UnOk X (rU fun i => .int (-i)) l1 .c negPV := by
  intro c σ H H1 env st Q p res x sr r1 e g
  unfold negPV at e
  split at e
  · cases e; exact ⟨_, rv_int r1, give_c g (.int _)⟩
  · cases e
theorem ok_cmp {f : Int → Int → Bool} : OpOk X (rI0 fun i j => .bl (f i j)) l1 l2 .c (cmpPV f) := by
  intro c σ H H1 env st Q p q res x y sr r1 r2 e g
  unfold cmpPV at e
  split at e
  · cases e; exact ⟨_, _, rv_int r1, rv_int r2, give_c g (.bl _)⟩
  · cases e
end
def ltPV := cmpPV fun i j => decide (i < j)
def lePV := cmpPV fun i j => decide (i ≤ j)
def gtPV := cmpPV fun i j => decide (j < i)
def gePV := cmpPV fun i j => decide (j ≤ i)

/-! ### == and != -/
def rEqP (X : Cx) (neg : Bool) : R2 := fun x y H Q => ∃ d e, Dp X.K H x d ∧ Dp X.K H y e ∧ d.canLay0 = true ∧ e.canLay0 = true ∧ X.A.units + min d.depth e.depth < cLine ∧ Q (.bl (if neg then !PyData.eqv d e else PyData.eqv d e)) H
theorem op_eqP {X : Cx} : OpR X (compareOp .Eq) (rEqP X false) := by
  intro pins s σ H x y v u Q I rx ry h
  obtain ⟨d, e, hd, he, sd, se, hu, q⟩ := h
  obtain ⟨as, r1⟩ := Dp.reads I d x v hd rx
  obtain ⟨bs, r2⟩ := Dp.reads I e y u he ry
  exact SeqAt.compareEq_reads r1 r2 sd se hu ⟨.bl _, H, I, rfl, q⟩
theorem op_neP {X : Cx} : OpR X (compareOp .NotEq) (rEqP X true) := by
  intro pins s σ H x y v u Q I rx ry h
  obtain ⟨d, e, hd, he, sd, se, hu, q⟩ := h
  obtain ⟨as, r1⟩ := Dp.reads I d x v hd rx
  obtain ⟨bs, r2⟩ := Dp.reads I e y u he ry
  exact SeqAt.compareNe_reads r1 r2 sd se hu ⟨.bl _, H, I, rfl, q⟩
def eqPV (neg : Bool) (p q : PV) : Option PV :=
  match p, q with
  | .int a, .int b => some (.bl (if neg then !(a == b) else a == b))
  | .str a, .str b => some (.bl (if neg then !(a == b) else a == b))
  | p, q => if q.sh 60 && p.sh 60 then some (.bl (if neg then !PV.eqv p q else PV.eqv p q)) else none
theorem eqPV_sh {neg : Bool} {p q res : PV} (e : eqPV neg p q = some res) : p.sh 60 = true ∧ q.sh 60 = true ∧ res = .bl (if neg then !PV.eqv p q else PV.eqv p q) := by
  unfold eqPV at e
  split at e
  · cases e; simp [PV.sh, PV.eqv]
  · cases e; simp [PV.sh, PV.eqv]
  · split at e
    · rename_i h
      rw [Bool.and_eq_true] at h
      cases e
      exact ⟨h.2, h.1, rfl⟩
    · cases e
theorem ok_eq {X : Cx} {l1 l2 : Lv} {neg : Bool} (hu : X.A.units + 64 < cLine) : OpOk X (rEqP X neg) l1 l2 .c (eqPV neg) := by
  intro c σ H H1 env st Q p q res x y sr r1 r2 e g
  obtain ⟨h1, h2, rfl⟩ := eqPV_sh e
  obtain ⟨N1, k1⟩ := rv_rep r1
  obtain ⟨N2, k2⟩ := rv_rep r2
  obtain ⟨d1, c1⟩ := k1.dp h1
  obtain ⟨d2, c2⟩ := k2.dp h2
  have b1 := sh_depth p 60 h1
  refine ⟨_, _, d1, d2, c1, c2, by omega, ?_⟩
  rw [eqv_toD p q 60 60 h1 h2]
  exact give_c g (.bl _)
end Vl

set_option Elab.async false
set_option linter.all false
set_option maxRecDepth 100000
set_option maxHeartbeats 1000000
namespace Vl
open PySem PySem.Spec PyProof.Rows L2

/-! ### + -/
section
variable {prog : Program} {w : World} {A : Around} {E : Value → Shared → Prop} {s : Shared}
theorem cat_tup0 {t b : Addr} {ws : List Value} {Q : Value → Shared → Prop} (ht : IsTup s.heap t #[]) (hb : IsTup s.heap b ws.toArray) (h : Q (.ref b) s) : wpAny (model prog w) A (binaryOp .Add (.ref t) (.ref b)) Q E s := by
  obtain ⟨⟨cls, dd, data, sl⟩, ho, hc, n, hd⟩ := id ht
  obtain ⟨⟨cls2, dd2, data2, sl2⟩, ho2, hc2, n2, hd2⟩ := id hb
  simp only at hc hd hc2 hd2
  subst hc hd hc2 hd2
  exact concat_meets ⟨_, ho, rfl⟩ ⟨_, ho2, rfl⟩ PySem.noFill_tuple_add PySem.seq_tuple_add PySem.F.slot_tuple_add PySem.F.entry_tuple_add (PySem.F.args_tuple_add_2 _ _)
      (tuple_addW0 t b #[] ws.toArray n n2 dd dd2 sl sl2 rfl) ⟨ho, ho2, h⟩
end
def rCat0 (K : PySem.W.Frag) : R2 := fun x y H Q => ∃ a b ys, x = .ref a ∧ y = .ref b ∧ SqT K H a [] ∧ SqT K H b ys ∧ Q (.ref b) H
theorem op_cat0 {X : Cx} : OpR X (binaryOp .Add) (rCat0 X.K) := by
  intro pins s σ H x y v u Q I rx ry h
  obtain ⟨a, b, ys, rfl, rfl, ha, hb, q⟩ := h
  cases rx
  cases ry
  obtain ⟨its, r1, p1, _⟩ := I.tuple ha
  obtain ⟨its2, r2, p2, _⟩ := I.tuple hb
  cases r1
  exact cat_tup0 p1 p2 ⟨.ref b, H, I, rfl, q⟩
def plusPV : PV → PV → Option PV
  | .int a, .int b => some (.int (a + b))
  | .str a, .str b => if a.length + b.length ≤ 16777216 then some (.str (a ++ b)) else none
  | .lst a, .lst b => if a.length + b.length ≤ 16777216 then some (.lst (a ++ b)) else none
  | .tup a, .tup b => if a.length + b.length ≤ 16777216 then some (.tup (a ++ b)) else none
  | _, _ => none
def rPlus (X : Cx) : R2 := fun x y H Q => (((rI0 (fun i j => .int (i + j)) x y H Q ∨ (∃ i j, x = .str i ∧ y = .str j ∧ i.length + j.length ≤ sizeLine ∧ Q (.str (i ++ j)) H)) ∨ rCat x y H Q) ∨ rCatT X.K x y H Q) ∨ rCat0 X.K x y H Q
theorem op_plus {X : Cx} : OpR X (binaryOp .Add) (rPlus X) := (((op_add.or op_add_str).or op_cat).or op_catT).or op_cat0
theorem mkS_append (a b : List Nat) : mkS a ++ mkS b = mkS (a ++ b) := by
  show (⟨a.toArray ++ b.toArray⟩ : Str) = ⟨(a ++ b).toArray⟩
  rw [List.append_toArray]
theorem ok_plus {X : Cx} {l1 l2 l : Lv} (h1 : l1 ≠ .m) (h2 : l2 ≠ .m) (hl : l = .c ∨ l = .f) (hf : l = .f → ∀ p q, plusPV p q ≠ none → ∃ xs ys, p = .lst xs ∧ q = .lst ys) : True := trivial
theorem ok_plusC {X : Cx} {l1 l2 : Lv} (hl1 : l1 ≠ .m := by decide) (hl2 : l2 ≠ .m := by decide) : OpOk X (rPlus X) l1 l2 .c plusPV := by
  intro c σ H H1 env st Q p q res x y sr r1 r2 e g
  have sz : sizeLine = 16777216 := sizeLine_eq
  unfold plusPV at e
  split at e
  · cases e; exact .inl (.inl (.inl (.inl ⟨_, _, rv_int r1, rv_int r2, give_c g (.int _)⟩)))
  · split at e
    · rename_i h
      cases e
      obtain ⟨e1, z1, u1⟩ := rv_str r1
      obtain ⟨e2, z2, u2⟩ := rv_str r2
      refine .inl (.inl (.inl (.inr ⟨_, _, e1, e2, by rw [mkS_length, mkS_length, sz]; exact h, ?_⟩)))
      rw [mkS_append]
      exact give_c g (.str _ (by rw [List.length_append, sz]; exact h) (fun c hc => (List.mem_append.mp hc).elim (u1 c) (u2 c)))
    · cases e
  · split at e
    · rename_i h
      cases e
      obtain ⟨a, vs, e1, ha, z1, k1⟩ := rv_lst hl1 r1
      obtain ⟨b, ws, e2, hb, z2, k2⟩ := rv_lst hl2 r2
      refine .inl (.inl (.inr ⟨a, b, vs, ws, e1, e2, ha, hb, by rw [← k1.length, ← k2.length, sz]; exact h, ?_⟩))
      exact give_newL sr (.inl rfl) g (by rw [List.length_append, sz]; exact h) (k1.append k2)
    · cases e
  · split at e
    · rename_i h
      cases e
      obtain ⟨a, vs, e1, ha, z1, k1⟩ := rv_tup hl1 r1
      obtain ⟨b, ws, e2, hb, z2, k2⟩ := rv_tup hl2 r2
      subst e1 e2
      cases k1 with
      | nil => exact .inr ⟨a, b, ws, rfl, rfl, ha.sq, hb.sq, give_c g (.tup hb z2 k2)⟩
      | cons k k' =>
        refine .inl (.inr ⟨a, b, _, ws, rfl, rfl, ha.sq, hb.sq, by simp, by rw [← (RepA.cons k k').length, ← k2.length, sz]; exact h, fun z => ?_, fun z => ?_⟩)
        · subst z
          cases k2
          refine give_c g ?_
          rw [List.append_nil]
          exact .tup ha z1 (.cons k k')
        · exact give_newT sr g (by rw [List.length_append, sz]; exact h) ((RepA.cons k k').append k2)
    · cases e
  · cases e
/-- a list and a list: a new one -/
def plusL : PV → PV → Option PV
  | .lst a, .lst b => if a.length + b.length ≤ 16777216 then some (.lst (a ++ b)) else none
  | _, _ => none
theorem ok_plusF {X : Cx} {l1 l2 : Lv} (hl1 : l1 ≠ .m := by decide) (hl2 : l2 ≠ .m := by decide) : OpOk X rCat l1 l2 .f plusL := by
  intro c σ H H1 env st Q p q res x y sr r1 r2 e g
  have sz : sizeLine = 16777216 := sizeLine_eq
  unfold plusL at e
  split at e
  · split at e
    · rename_i h
      cases e
      obtain ⟨a, vs, e1, ha, z1, k1⟩ := rv_lst hl1 r1
      obtain ⟨b, ws, e2, hb, z2, k2⟩ := rv_lst hl2 r2
      refine ⟨a, b, vs, ws, e1, e2, ha, hb, by rw [← k1.length, ← k2.length, sz]; exact h, ?_⟩
      exact give_newL sr (.inr rfl) g (by rw [List.length_append, sz]; exact h) (k1.append k2)
    · cases e
  · cases e

/-! ### * -/
theorem RepA.rep {g : Gv} {H : Hp} {N : Addr → Prop} {ps : List PV} {vs : List V} (r : RepA g H N ps vs) : ∀ k, RepA g H N (List.replicate k ps).flatten (List.replicate k vs).flatten
  | 0 => .nil
  | k + 1 => by rw [List.replicate_succ, List.replicate_succ, List.flatten_cons, List.flatten_cons]; exact r.append (r.rep k)
theorem len_rep {α : Type} (k : Nat) (xs : List α) : (List.replicate k xs).flatten.length = k * xs.length := by
  induction k with
  | zero => simp
  | succ k ih => rw [List.replicate_succ, List.flatten_cons, List.length_append, ih, Nat.succ_mul, Nat.add_comm]
theorem foldl_rep (l : List Nat) : ∀ (k : Nat) (acc : Array Nat), (List.replicate k l.toArray).foldl (· ++ ·) acc = acc ++ (List.replicate k l).flatten.toArray
  | 0, acc => by simp
  | k + 1, acc => by rw [List.replicate_succ, List.foldl_cons, foldl_rep l k, List.replicate_succ, List.flatten_cons]; simp
/-- text * int -/
def rMulS : R2 := fun x y H Q => ∃ (l : List Nat) (k : Int), x = .str (mkS l) ∧ y = .int k ∧ -(2 ^ 63) ≤ k ∧ k < 2 ^ 63 ∧ k.toNat * l.length ≤ 16777216 ∧ Q (.str (mkS (List.replicate k.toNat l).flatten)) H
theorem op_mulS {X : Cx} : OpR X (binaryOp .Mult) rMulS := by
  intro pins s σ H x y v u Q I rx ry h
  obtain ⟨l, k, rfl, rfl, h1, h2, hz, q⟩ := h
  obtain ⟨t, rfl⟩ := rx
  obtain ⟨t', rfl⟩ := ry
  have hlen : (mkS l).length = l.length := mkS_length l
  refine PySem.P.mul_str (by rw [decide_eq_false (by omega), decide_eq_false (by omega)]; rfl) (fun h3 h4 => ?_) (fun h3 h4 => ?_) ?_
  · rw [hlen]
    have hk : 2 ≤ k := by
      rw [Bool.or_eq_false_iff, beq_eq_false_iff_ne] at h4
      omega
    have a1 : (l.length : Int) * k ≤ 16777216 := by
      have : ((k.toNat * l.length : Nat) : Int) ≤ ((16777216 : Nat) : Int) := Int.ofNat_le.mpr hz
      rw [Int.natCast_mul, Int.toNat_of_nonneg (by omega)] at this
      rw [Int.mul_comm]; exact this
    have a2 : (l.length : Int) ≤ (2 ^ 63 - 1) / k := (Int.le_ediv_iff_mul_le (by omega)).mpr (Int.le_trans a1 (by decide))
    omega
  · unfold Builtin.Str.tooLong
    rw [hlen, Nat.mul_comm, sizeLine_eq]
    exact decide_eq_false (by omega)
  · by_cases c1 : k < 1
    · rw [if_pos c1]
      have : k.toNat = 0 := by omega
      rw [this] at q
      exact ⟨by decide, .str _, H, I.tok _, ⟨_, rfl⟩, q⟩
    · rw [if_neg c1]
      by_cases c2 : (k == 1 || (mkS l).length == 0) = true
      · rw [if_pos c2]
        refine ⟨.str (mkS l), H, I, ⟨_, rfl⟩, ?_⟩
        have : (List.replicate k.toNat l).flatten = l := by
          rw [Bool.or_eq_true, beq_iff_eq, beq_iff_eq, hlen] at c2
          rcases c2 with c2 | c2
          · subst c2
            show (List.replicate 1 l).flatten = l
            rw [List.replicate_one, List.flatten_cons, List.flatten_nil, List.append_nil]
          · have : l = [] := List.eq_nil_of_length_eq_zero c2
            subst this
            exact List.eq_nil_of_length_eq_zero (by rw [len_rep]; rfl)
        rw [this] at q
        exact q
      · rw [if_neg c2]
        have e : (⟨(List.replicate k.toNat (mkS l).cps).foldl (· ++ ·) #[]⟩ : Str) = mkS (List.replicate k.toNat l).flatten := by
          unfold mkS
          rw [foldl_rep]
          simp
        rw [e]
        refine ⟨?_, .str _, H, I.tok _, ⟨_, rfl⟩, q⟩
        rw [mkS_length, len_rep, sizeLine_eq]
        exact hz
section
open PySem.F
theorem tuple_mul1 (l : Addr) (items : Array Value) (n : Nat) (dd : Option Addr) (sl : Array (Option Value)) (u : Tok) :
    Meets (Builtin.«tuple.__mul__» ⟨[.ref l, .int 1 u], []⟩) (fun _ R s => s.heap.get? l = some { cls := .type "tuple", dict := dd, data := .seq items n, slots := sl } ∧ R (.ok (.ret (Value.ref l))) s) :=
  .of_wp fun prog w A R s h => by
    obtain ⟨hp, g, d, tk, os⟩ := s
    obtain ⟨hl, h⟩ := h
    have f1 := AutoSeq1.idx_int
    wp_walk using wpAny_loadPart' hl
    repeat (first
      | (refine wpAny_ite_false (decide_eq_false (by decide)) ?_; wp_walk using wpAny_loadPart' hl)
      | (refine wpAny_ite_true (by simp) ?_; wp_walk using wpAny_loadPart' hl)
      | exact ⟨_, rfl, h⟩)
end

/-- tuple * int, not empty, once at least -/
def rMulT (K : PySem.W.Frag) : R2 := fun x y H Q => ∃ l k xs, x = .ref l ∧ y = .int k ∧ SqT K H l xs ∧ xs ≠ [] ∧ 1 ≤ k ∧ k.toNat * xs.length ≤ 1000000 ∧ (k = 1 → Q (.ref l) H) ∧ (k ≠ 1 → ∀ p, H p = none → Q (.ref p) (upd H p (.tup (List.replicate k.toNat xs).flatten)))
theorem op_mulT {X : Cx} : OpR X (binaryOp .Mult) (rMulT X.K) := by
  intro pins s σ H x y v u Q I rx ry h
  obtain ⟨l, k, xs, rfl, rfl, hT, hne, h1, hz, q1, q2⟩ := h
  cases rx
  obtain ⟨t, rfl⟩ := ry
  obtain ⟨its, r, ⟨⟨cls, dd, data, sl⟩, ho, hc, n, hd⟩, hs⟩ := I.tuple hT
  simp only at hc hd
  subst hc hd
  have hle : its.length = xs.length := r.length.symm
  have hn : its ≠ [] := fun e => hne (by
    rw [e] at hle
    exact List.eq_nil_of_length_eq_zero hle.symm)
  have hi : its.toArray.isEmpty = false := by
    cases its with
    | nil => exact absurd rfl hn
    | cons a b => rfl
  have hpos : 1 ≤ xs.length := by
    cases xs with
    | nil => exact absurd rfl hne
    | cons a b => simp
  have hsz0 : its.toArray.size = xs.length := by rw [List.size_toArray, hle]
  by_cases hk : k = 1
  · subst hk
    exact wpAny_binaryOp_repeat_ref (T := "tuple") (U := "int") (by decide) ⟨_, ho, rfl⟩ (fun s' => typeIs_int s' 1 t) noFill_tuple_mul F.fills_int_mul F.slot_int_rmul repeat_tuple F.slot_int_index.lookup
      (call_meets F.slot_int_rmul (typeIs_int s 1 t) F.entry_int_rmul (F.args_int_rmul_2 _ _) (int_rmul_tuple 1 t l its.toArray n dd sl)
        ⟨ho, rfl, ⟨_, ho, rfl⟩, call_meets F.slot_tuple_mul ⟨_, ho, rfl⟩ F.entry_tuple_mul (F.args_tuple_mul_2 _ _) (tuple_mul1 l its.toArray n dd sl t) ⟨ho, ⟨.ref l, H, I, rfl, q1 rfl⟩⟩⟩)
  have hk0 : 0 ≤ k := by omega
  have hm : ((its.toArray.size : Nat) : Int) * k ≤ ((1000000 : Nat) : Int) := by
    rw [hsz0]
    have : ((k.toNat * xs.length : Nat) : Int) ≤ ((1000000 : Nat) : Int) := Int.ofNat_le.mpr hz
    rw [Int.natCast_mul, Int.toNat_of_nonneg hk0, Int.mul_comm] at this
    exact this
  have hkm : k ≤ 1000000 := by
    have a1 : k.toNat * 1 ≤ k.toNat * xs.length := Nat.mul_le_mul_left _ hpos
    omega
  have flen : (List.replicate k.toNat its).flatten.length ≤ sizeLine := by
    rw [len_rep, hle, sizeLine_eq]
    omega
  have c0 : (decide (k < -(2 ^ 63)) || decide (k ≥ 2 ^ 63)) = false := by
    rw [decide_eq_false (by omega), decide_eq_false (by omega)] <;> rfl
  have c1 : (its.toArray.isEmpty || k == 1) = false := by
    rw [hi, Bool.false_or]
    exact beq_eq_false_iff_ne.mpr hk
  have c2 : (decide (k ≤ 0) || its.toArray.isEmpty) = false := by
    rw [hi, Bool.or_false]
    exact decide_eq_false (by omega)
  have c4 : Builtin.Tuple.tupleTooMany (((its.toArray.size : Nat) : Int) * k) = false := by
    unfold Builtin.Tuple.tupleTooMany
    rw [sizeLine_eq]
    exact decide_eq_false (by omega)
  refine wpAny_binaryOp_repeat_ref (T := "tuple") (U := "int") (by decide) ⟨_, ho, rfl⟩ (fun s' => typeIs_int s' k t) noFill_tuple_mul F.fills_int_mul F.slot_int_rmul repeat_tuple F.slot_int_index.lookup
    (call_meets F.slot_int_rmul (typeIs_int s k t) F.entry_int_rmul (F.args_int_rmul_2 _ _) (int_rmul_tuple k t l its.toArray n dd sl)
      ⟨ho, rfl, ⟨_, ho, rfl⟩, call_meets F.slot_tuple_mul ⟨_, ho, rfl⟩ F.entry_tuple_mul (F.args_tuple_mul_2 _ _) (tuple_mulW l its.toArray n dd sl k t c0 c1 c2 (by omega) c4 (by rw [size_rep, List.size_toArray]; exact flen)) ⟨ho, ?_⟩⟩)
  rw [size_rep]
  refine ⟨.ref s.heap.objs.size, _, I.laid (t' := s.toks) (o := .tup (List.replicate k.toNat xs).flatten) (fun b ob q => Heap.get?_push_of_some _ q) (Nat.le_refl _) ?_, rfl, q2 hk _ (I.hok.fresh (Nat.le_refl _))⟩
  exact ⟨by rw [len_rep, sizeLine_eq]; omega, _, r.rep k.toNat, IsTup.new _ _⟩
theorem p63 : (2 : Int) ^ 63 = 9223372036854775808 := by decide
theorem p64 : (2 : Int) ^ 64 = 18446744073709551616 := by decide
def mulPV : PV → PV → Option PV
  | .int a, .int b => if (-18446744073709551616 < a ∧ a < 18446744073709551616) ∨ (-18446744073709551616 < b ∧ b < 18446744073709551616) then some (.int (a * b)) else none
  | .str l, .int k => if -9223372036854775808 ≤ k ∧ k < 9223372036854775808 ∧ k.toNat * l.length ≤ 16777216 then some (.str (List.replicate k.toNat l).flatten) else none
  | .lst l, .int k => if -9223372036854775808 ≤ k ∧ k < 9223372036854775808 ∧ l.length * k.toNat ≤ 16777216 then some (.lst (List.replicate k.toNat l).flatten) else none
  | .tup l, .int k => if l ≠ [] ∧ 1 ≤ k ∧ k.toNat * l.length ≤ 1000000 then some (.tup (List.replicate k.toNat l).flatten) else none
  | _, _ => none
def rMul (X : Cx) : R2 := fun x y H Q => ((rI CMul (fun i j => .int (i * j)) x y H Q ∨ rMulS x y H Q) ∨ rRep x y H Q) ∨ rMulT X.K x y H Q
theorem op_mulA {X : Cx} : OpR X (binaryOp .Mult) (rMul X) := ((op_mul.or op_mulS).or op_rep).or op_mulT
instance : DecidablePred (fun l : List PV => l ≠ []) := fun l => match l with | [] => .isFalse (fun h => h rfl) | _ :: _ => .isTrue (fun h => nomatch h)
theorem rep_ok {l : List Nat} {k : Nat} (u : ∀ c ∈ l, c < 1114112) : ∀ c ∈ (List.replicate k l).flatten, c < 1114112 := fun c hc => by
  obtain ⟨m, hm, h⟩ := List.mem_flatten.mp hc
  rw [(List.mem_replicate.mp hm).2] at h
  exact u c h
theorem ok_mulC {X : Cx} {l1 l2 : Lv} (hl1 : l1 ≠ .m := by decide) : OpOk X (rMul X) l1 l2 .c mulPV := by
  intro c σ H H1 env st Q p q res x y sr r1 r2 e g
  have sz : sizeLine = 16777216 := sizeLine_eq
  unfold mulPV at e
  split at e
  · split at e
    · rename_i h; rw [← p64] at h; cases e; exact .inl (.inl (.inl ⟨_, _, rv_int r1, rv_int r2, h, give_c g (.int _)⟩))
    · cases e
  · split at e
    · rename_i h
      rw [← p63] at h
      cases e
      obtain ⟨e1, z1, u1⟩ := rv_str r1
      refine .inl (.inl (.inr ⟨_, _, e1, rv_int r2, h.1, h.2.1, h.2.2, ?_⟩))
      exact give_c g (.str _ (by rw [len_rep, sz]; exact h.2.2) (rep_ok u1))
    · cases e
  · split at e
    · rename_i h
      rw [← p63] at h
      cases e
      obtain ⟨a, vs, e1, ha, z1, k1⟩ := rv_lst hl1 r1
      refine .inl (.inr ⟨a, _, vs, e1, rv_int r2, ha, h.1, h.2.1, by rw [← k1.length, sz]; exact h.2.2, ?_⟩)
      exact give_newL sr (.inl rfl) g (by rw [len_rep, sz, Nat.mul_comm]; exact h.2.2) (k1.rep _)
    · cases e
  · split at e
    · rename_i h
      cases e
      obtain ⟨a, vs, e1, ha, z1, k1⟩ := rv_tup hl1 r1
      subst e1
      refine .inr ⟨a, _, vs, rfl, rv_int r2, ha.sq, fun z => h.1 (by subst z; cases k1; rfl), h.2.1, by rw [← k1.length]; exact h.2.2, fun z => ?_, fun _ => ?_⟩
      · subst z
        refine give_c g ?_
        have e : ∀ m : List PV, (List.replicate (Int.toNat 1) m).flatten = m := fun m => by
          show (List.replicate 1 m).flatten = m
          rw [List.replicate_one, List.flatten_cons, List.flatten_nil, List.append_nil]
        rw [e]
        exact .tup ha z1 k1
      · exact give_newT sr g (by rw [len_rep, sz]; omega) (k1.rep _)
    · cases e
  · cases e
/-- a list times an int: a new one -/
def mulL : PV → PV → Option PV
  | .lst l, .int k => if -9223372036854775808 ≤ k ∧ k < 9223372036854775808 ∧ l.length * k.toNat ≤ 16777216 then some (.lst (List.replicate k.toNat l).flatten) else none
  | _, _ => none
theorem ok_mulF {X : Cx} {l1 l2 : Lv} (hl1 : l1 ≠ .m := by decide) : OpOk X rRep l1 l2 .f mulL := by
  intro c σ H H1 env st Q p q res x y sr r1 r2 e g
  have sz : sizeLine = 16777216 := sizeLine_eq
  unfold mulL at e
  split at e
  · split at e
    · rename_i h
      rw [← p63] at h
      cases e
      obtain ⟨a, vs, e1, ha, z1, k1⟩ := rv_lst hl1 r1
      refine ⟨a, _, vs, e1, rv_int r2, ha, h.1, h.2.1, by rw [← k1.length, sz]; exact h.2.2, ?_⟩
      exact give_newL sr (.inr rfl) g (by rw [len_rep, sz, Nat.mul_comm]; exact h.2.2) (k1.rep _)
    · cases e
  · cases e
end Vl

set_option Elab.async false
set_option linter.all false
set_option maxRecDepth 100000
set_option maxHeartbeats 1000000
namespace Vl
open PySem PySem.Spec PyProof.Rows L2

/-! ### two readings of one piece of syntax -/
theorem PE.or {X : Cx} {e : Expr} {t u : TE} (h : PE X e t) (h' : PE X e u) : PE X e (fun σ H Q => t σ H Q ∨ u σ H Q) :=
  ⟨fun pins s σ H Q I q => q.elim (h.run pins s σ H Q I) (h'.run pins s σ H Q I)⟩
theorem PT.or {X : Cx} {e : Expr} {t u : TT} (h : PT X e t) (h' : PT X e u) : PT X e (fun σ H Q => t σ H Q ∨ u σ H Q) :=
  ⟨fun pins s σ H Q I q => q.elim (h.run pins s σ H Q I) (h'.run pins s σ H Q I)⟩

/-! ### xs[i] -/
def idxPV : PV → PV → Option PV
  | .lst xs, .int i => atI xs i
  | .tup xs, .int i => atI xs i
  | .str l, .int i => (atI l i).map fun c => .str [c]
  | _, _ => none
theorem atI_rep {g : Gv} {H : Hp} {N : Addr → Prop} {ps : List PV} {vs : List V} {i : Int} {p : PV} (r : RepA g H N ps vs) (h : atI ps i = some p) : ∃ v, atI vs i = some v ∧ Rep g H N p v := by
  unfold atI at h ⊢
  rw [← r.length]
  cases e : ixN ps.length i with
  | none => rw [e] at h; cases h
  | some j => rw [e] at h; exact r.get h
theorem atI_mem {α : Type} {xs : List α} {i : Int} {x : α} (h : atI xs i = some x) : x ∈ xs := by
  unfold atI at h
  cases e : ixN xs.length i with
  | none => rw [e] at h; cases h
  | some j => rw [e] at h; exact List.mem_of_getElem? h
theorem mkS_list (l : List Nat) : (mkS l).cps.toList = l := by simp [mkS]
theorem ok_ix {X : Cx} {l1 l2 : Lv} (hl1 : l1 ≠ .m := by decide) : OpOk X (rIx X.K) l1 l2 .c idxPV := by
  intro c σ H H1 env st Q p q res x y sr r1 r2 e g
  unfold idxPV at e
  split at e
  · obtain ⟨a, vs, e1, ha, z1, k1⟩ := rv_lst hl1 r1
    obtain ⟨v, h1, h2⟩ := atI_rep k1 e
    exact .inl ⟨a, vs, _, v, e1, rv_int r2, SqL.of ha, h1, give_c g h2⟩
  · obtain ⟨a, vs, e1, ha, z1, k1⟩ := rv_tup hl1 r1
    obtain ⟨v, h1, h2⟩ := atI_rep k1 e
    exact .inr (.inl ⟨a, vs, _, v, e1, rv_int r2, ha.sq, h1, give_c g h2⟩)
  · obtain ⟨e1, z1, u1⟩ := rv_str r1
    rename_i l i
    cases e2 : atI l i with
    | none => rw [e2] at e; cases e
    | some ch =>
      rw [e2] at e
      cases e
      refine .inr (.inr ⟨_, _, ch, e1, rv_int r2, by rw [mkS_length]; exact z1, by rw [mkS_list]; exact e2, give_c g (.str [ch] (by rw [sizeLine_eq]; show 1 ≤ 16777216; decide) (by simpa using u1 ch (atI_mem e2)))⟩)
  · cases e
theorem d_ix {X : Cx} {W : WX} {a b : Expr} {da db : Den PV} {l1 l2 : Lv} {pos : Pos} (ha : DE X W a l1 da) (hb : DE X W b l2 db) (hs : PlainIx b := by exact fun _ _ => rfl) (hl1 : l1 ≠ .m := by decide) (hf : l1 ≠ .f := by decide) : DE X W (.Subscript a b pos) .c (xBin idxPV da db) := by
  obtain ⟨ta, pa, ha⟩ := ha
  obtain ⟨tb, pb, hb⟩ := hb
  refine ⟨_, pe_ix ix_seq pa pb hs, fun c σ H env st Q sr h => ha c σ H env st _ sr (bin_core sr hf hb h fun c2 H2 st2 p q x y res sr2 r1 ⟨H1, r2⟩ e g => ?_)⟩
  exact ok_ix hl1 c2 σ H2 H1 env st2 Q p q res x y sr2 r1 r2 e g

/-! ### xs[a:b], xs[::-1] -/
def loPV (n : Nat) (d : Nat) : Option Int → Nat := HT.sIx n d
def cutA {α : Type} (xs : List α) (lo hi : Option Int) : List α := (xs.drop (HT.sIx xs.length 0 lo)).take (HT.sIx xs.length xs.length hi - HT.sIx xs.length 0 lo)
def slicePV (lo hi : Option Int) : PV → Option PV
  | .lst xs => some (.lst (cutA xs lo hi))
  | .tup xs => some (.tup (cutA xs lo hi))
  | .str l => some (.str (cutA l lo hi))
  | _ => none
def rSlAny (X : Cx) : V → Option Int → Option Int → Hp → VK → Prop := fun x lo hi H Q => (rSlL X.K x lo hi H Q ∨ rSlA X.K x lo hi H Q) ∨ rSlS x lo hi H Q
theorem sl_any {X : Cx} : SlR X (rSlAny X) := (sl_list.or sl_tupA).or sl_str
theorem cut_len {α : Type} (xs : List α) (lo hi : Option Int) : (cutA xs lo hi).length ≤ xs.length := by
  unfold cutA
  rw [List.length_take, List.length_drop]
  omega
theorem RepA.cut {g : Gv} {H : Hp} {N : Addr → Prop} {ps : List PV} {vs : List V} (r : RepA g H N ps vs) (lo hi : Option Int) : RepA g H N (cutA ps lo hi) (cutV vs lo hi) := by
  unfold cutA cutV
  rw [r.length]
  exact (r.drop _).take _
theorem cutA_whole {α : Type} {xs : List α} {lo hi : Option Int} (h : HT.sIx xs.length 0 lo = 0 ∧ HT.sIx xs.length xs.length hi = xs.length) : cutA xs lo hi = xs := by
  unfold cutA
  rw [h.1, h.2]
  simp
theorem slice_give {X : Cx} {c : Ctl} {σ : L2.St} {H H0 : Hp} {env : Env} {st : Sto} {Q : VK} {p res : PV} {x : V} {l1 : Lv} {lo hi : Option Int} (hl1 : l1 ≠ .m) (sr : SR X c σ H env st) (r1 : RV X c σ env H0 H p x l1) (e : slicePV lo hi p = some res)
    (g : Gives X .c c σ env st H res Q) : rSlAny X x lo hi H Q := by
  cases p with
  | lst xs =>
    cases e
    obtain ⟨a, vs, e1, ha, z1, k1⟩ := rv_lst hl1 r1
    exact .inl (.inl ⟨a, vs, e1, SqL.of ha, give_newL sr (.inl rfl) g (Nat.le_trans (cut_len _ _ _) z1) (k1.cut lo hi)⟩)
  | tup xs =>
    cases e
    obtain ⟨a, vs, e1, ha, z1, k1⟩ := rv_tup hl1 r1
    subst e1
    refine .inl (.inr ⟨a, vs, rfl, ha.sq, fun w => ?_, fun w => give_newT sr g (Nat.le_trans (cut_len _ _ _) z1) (k1.cut lo hi)⟩)
    refine give_c g ?_
    rw [cutA_whole (by rw [k1.length]; exact w)]
    exact .tup ha z1 k1
  | str l =>
    cases e
    obtain ⟨e1, z1, u1⟩ := rv_str r1
    refine .inr ⟨_, e1, by rw [mkS_length]; exact z1, ?_⟩
    have : cutS (mkS l) lo hi = mkS (cutA l lo hi) := by
      unfold cutS cutA
      rw [mkS_list, mkS_length]
      rfl
    rw [this]
    exact give_c g (.str _ (Nat.le_trans (cut_len _ _ _) z1) fun ch hc => u1 ch (List.mem_of_mem_drop (List.mem_of_mem_take hc)))
  | _ => cases e
/-- a slice's end -/
def DO (X : Cx) (W : WX) (e : Option Expr) (d : Env → Sto → Res (Option Int)) : Prop :=
  ∃ t, PO X e t ∧ ∀ c σ H env st Q, SR X c σ H env st → HypG X W σ env (fun _ _ _ _ p v => p = v) c H (d env st) Q → t σ H Q
def xNoPart : Env → Sto → Res (Option Int) := fun _ st => .ok none st
def xPart (d : Den PV) : Env → Sto → Res (Option Int) := fun env st => (d env st).bind fun p s => match p with | .int i => .ok (some i) s | _ => .no
section
variable {X : Cx} {W : WX} {a b e : Expr} {da db : Den PV} {l1 l2 lvl : Lv} {pos : Pos}
theorem do_none : DO X W none xNoPart := ⟨_, po_none, fun c σ H env st Q sr h => h none c H sr (.refl _ _) rfl⟩
theorem back_eq {α : Type} : Back (fun (_ : Hp) (_ : Ctl) (_ : Hp) (_ : Sto) (p v : α) => p = v) := fun _ _ _ _ _ _ _ _ h => h
theorem do_some (ha : DE X W a l1 da) : DO X W (some a) (xPart da) := by
  obtain ⟨t, p, ha⟩ := ha
  refine ⟨_, po_some p, fun c σ H env st Q sr h => ha c σ H env st _ sr (bindG back_eq h fun p st1 v c1 H1 sr1 po r h1 => ?_)⟩
  cases p with
  | int i => exact ⟨i, rv_int r.1, h1 _ c1 H1 sr1 (.refl _ _) rfl⟩
  | _ => exact h1.elim
def xSlice (d : Den PV) (lo hi : Env → Sto → Res (Option Int)) : Den PV := fun env st => (d env st).bind fun p s => (lo env s).bind fun l s1 => (hi env s1).bind fun h s2 => opt (slicePV l h p) s2
theorem d_slice {lo hi : Option Expr} {dl dh : Env → Sto → Res (Option Int)} {p2 : Pos} (ha : DE X W a l1 da) (hlo : DO X W lo dl) (hhi : DO X W hi dh) (hl1 : l1 ≠ .m := by decide) (hf : l1 ≠ .f := by decide) : DE X W (.Subscript a (.Slice lo hi none p2) pos) .c (xSlice da dl dh) := by
  obtain ⟨t, p, ha⟩ := ha
  obtain ⟨tl, pl, hlo⟩ := hlo
  obtain ⟨th, ph, hhi⟩ := hhi
  refine ⟨_, pe_slice sl_any p pl ph, fun c σ H env st Q sr h => ha c σ H env st _ sr (bindG back_RL h fun p st1 x c1 H1 sr1 po1 r1 h1 => ?_)⟩
  refine hlo c1 σ H1 env st1 _ sr1 (bindG back_RL h1 fun l st2 l' c2 H2 sr2 po2 el h2 => ?_)
  subst el
  refine hhi c2 σ H2 env st2 _ sr2 (bindG back_RL h2 fun u st3 u' c3 H3 sr3 po3 eu h3 => ?_)
  subst eu
  obtain ⟨res, e, h4⟩ := opt_some h3
  have r3 : RV X c3 σ env H3 H3 p x l1 := (po2.trans po3).lv hf r1.1
  exact slice_give hl1 sr3 r3 e (gives_of sr3 h4)
end

/-! ### in -/
def rInP (X : Cx) (neg : Bool) : R2 := fun x y H Q => (∃ d ds, Dp X.K H x d ∧ (Dp X.K H y (.list ds) ∨ Dp X.K H y (.tuple ds)) ∧ d.canLay0 = true ∧ PyData.canLayAll0 ds = true ∧ X.A.units + 1 + min (PyData.depthAll ds) d.depth < cLine ∧
  Q (.bl (if neg then !(ds.any fun z => PyData.eqv z d) else ds.any fun z => PyData.eqv z d)) H) ∨ ∃ (c : Nat) (z : Str), x = .str ⟨#[c]⟩ ∧ y = .str z ∧ Q (.bl (if neg then !decide (c ∈ z.cps.toList) else decide (c ∈ z.cps.toList))) H
theorem op_inP {X : Cx} : OpR X (compareOp .In) (rInP X false) := by
  intro pins s σ H x y v u Q I rx ry h
  rcases h with ⟨d, ds, hd, he, sd, se, hu, q⟩ | ⟨ch, z, e1, e2, q⟩
  · obtain ⟨as, r1⟩ := Dp.reads I d x v hd rx
    rcases he with he | he
    · obtain ⟨bs, r2⟩ := Dp.reads I (.list ds) y u he ry
      exact SeqAt.in_list_reads r2 r1 se sd hu ⟨.bl _, H, I, rfl, q⟩
    · obtain ⟨bs, r2⟩ := Dp.reads I (.tuple ds) y u he ry
      exact SeqAt.in_tuple_reads r2 r1 se sd hu ⟨.bl _, H, I, rfl, q⟩
  · exact op_in_sign pins s σ H x y v u Q I rx ry ⟨ch, z, e1, e2, q⟩
theorem op_notInP {X : Cx} : OpR X (compareOp .NotIn) (rInP X true) := by
  intro pins s σ H x y v u Q I rx ry h
  rcases h with ⟨d, ds, hd, he, sd, se, hu, q⟩ | ⟨ch, z, e1, e2, q⟩
  · obtain ⟨as, r1⟩ := Dp.reads I d x v hd rx
    rcases he with he | he
    · obtain ⟨bs, r2⟩ := Dp.reads I (.list ds) y u he ry
      exact SeqAt.notIn_list_reads r2 r1 se sd hu ⟨.bl _, H, I, rfl, q⟩
    · obtain ⟨bs, r2⟩ := Dp.reads I (.tuple ds) y u he ry
      exact SeqAt.notIn_tuple_reads r2 r1 se sd hu ⟨.bl _, H, I, rfl, q⟩
  · exact op_notIn_sign pins s σ H x y v u Q I rx ry ⟨ch, z, e1, e2, q⟩
def nb (neg b : Bool) : Bool := if neg then !b else b
def inPV (neg : Bool) (x y : PV) : Option PV :=
  match y with
  | .lst ys => if shA ys 60 && x.sh 60 then some (.bl (nb neg (ys.any fun z => PV.eqv z x))) else none
  | .tup ys => if shA ys 60 && x.sh 60 then some (.bl (nb neg (ys.any fun z => PV.eqv z x))) else none
  | .str l => match x with | .str [c] => some (.bl (nb neg (decide (c ∈ l)))) | _ => none
  | _ => none
theorem any_toD {x : PV} {n : Nat} (hx : x.sh n = true) : ∀ (ys : List PV) (m : Nat), shA ys m = true → ((toDA ys).any fun z => PyData.eqv z (toD x)) = ys.any fun z => PV.eqv z x
  | [], _, _ => by simp [toDA]
  | y :: ys, m, h => by
    simp only [shA, Bool.and_eq_true] at h
    simp only [toDA, List.any_cons]
    rw [eqv_toD y x m n h.1 hx, any_toD hx ys m h.2]
theorem ok_in {X : Cx} {l1 l2 : Lv} {neg : Bool} (hu : X.A.units + 64 < cLine) : OpOk X (rInP X neg) l1 l2 .c (inPV neg) := by
  intro c σ H H1 env st Q p q res x y sr r1 r2 e g
  unfold inPV at e
  obtain ⟨N1, k1⟩ := rv_rep r1
  obtain ⟨N2, k2⟩ := rv_rep r2
  split at e
  · split at e
    · rename_i ys h
      rw [Bool.and_eq_true] at h
      cases e
      obtain ⟨d1, c1⟩ := k1.dp h.2
      obtain ⟨d2, c2⟩ := k2.dp (n := 61) (show PV.sh (.lst ys) 61 = true by simp only [PV.sh]; exact h.1)
      have b1 := sh_depth p 60 h.2
      refine .inl ⟨_, toDA ys, d1, .inl d2, c1, by simpa only [toD, PyData.canLay0] using c2, by omega, ?_⟩
      rw [any_toD h.2 ys 60 h.1]
      exact give_c g (.bl _)
    · cases e
  · split at e
    · rename_i ys h
      rw [Bool.and_eq_true] at h
      cases e
      obtain ⟨d1, c1⟩ := k1.dp h.2
      obtain ⟨d2, c2⟩ := k2.dp (n := 61) (show PV.sh (.tup ys) 61 = true by simp only [PV.sh]; exact h.1)
      have b1 := sh_depth p 60 h.2
      refine .inl ⟨_, toDA ys, d1, .inr d2, c1, by simpa only [toD, PyData.canLay0] using c2, by omega, ?_⟩
      rw [any_toD h.2 ys 60 h.1]
      exact give_c g (.bl _)
    · cases e
  · split at e
    · cases e
      obtain ⟨e1, _, _⟩ := rv_str r1
      obtain ⟨e2, _, _⟩ := rv_str r2
      refine .inr ⟨_, _, e1, e2, ?_⟩
      rw [mkS_list]
      exact give_c g (.bl _)
    · cases e
  · cases e

/-! ### is -/
def isNonPV (neg : Bool) : PV → Option PV
  | .non => some (.bl (!neg))
  | _ => some (.bl neg)
theorem rep_non {g : Gv} {H : Hp} {N : Addr → Prop} {p : PV} {v : V} (r : Rep g H N p v) : decide (v = .non) = (match p with | .non => true | _ => false) := by
  cases r <;> simp
def isBlPV (neg : Bool) : PV → PV → Option PV
  | .bl a, .bl b => some (.bl (nb neg (decide (a = b))))
  | _, _ => none
section
variable {X : Cx} {W : WX} {a b e : Expr} {da db : Den PV} {l1 l2 lvl : Lv} {pos : Pos}
theorem d_isN {j pos'} (ha : DE X W a l1 da) : DE X W (.Compare a [.Is] [.Constant .none j pos'] pos) .c (xUn (isNonPV false) da) := by
  obtain ⟨t, p, ha⟩ := ha
  refine ⟨_, pe_cmp (pc_isN p), fun c σ H env st Q sr h => ha c σ H env st _ sr (un_core sr h fun c1 H1 st1 p v res sr1 r e g => ?_)⟩
  obtain ⟨N, k⟩ := rv_rep r
  rw [rep_non k]
  cases p <;> cases e <;> exact give_c g (.bl _)
theorem d_notN {j pos'} (ha : DE X W a l1 da) : DE X W (.Compare a [.IsNot] [.Constant .none j pos'] pos) .c (xUn (isNonPV true) da) := by
  obtain ⟨t, p, ha⟩ := ha
  refine ⟨_, pe_cmp (pc_notN p), fun c σ H env st Q sr h => ha c σ H env st _ sr (un_core sr h fun c1 H1 st1 p v res sr1 r e g => ?_)⟩
  obtain ⟨N, k⟩ := rv_rep r
  rw [rep_non k]
  cases p <;> cases e <;> exact give_c g (.bl _)
theorem ok_isB : OpOk X rIsB l1 l2 .c (isBlPV false) := by
  intro c σ H H1 env st Q p q res x y sr r1 r2 e g
  unfold isBlPV at e
  split at e
  · cases e; exact ⟨_, _, rv_bl r1, rv_bl r2, give_c g (.bl _)⟩
  · cases e
theorem ok_isNotB : OpOk X rNotB l1 l2 .c (isBlPV true) := by
  intro c σ H H1 env st Q p q res x y sr r1 r2 e g
  unfold isBlPV at e
  split at e
  · cases e; exact ⟨_, _, rv_bl r1, rv_bl r2, give_c g (.bl _)⟩
  · cases e

/-! ### and, or, not, if-else as values -/
def xAnd (da db : Den PV) : Den PV := fun env st => (da env st).bind fun p s => match p with | .bl true => db env s | .bl false => .ok (.bl false) s | _ => .no
def xOr (da db : Den PV) : Den PV := fun env st => (da env st).bind fun p s => match p with | .bl true => .ok (.bl true) s | .bl false => db env s | _ => .no
variable {rest : List Expr}
theorem d_one {op : BoolOp} (ha : DE X W a lvl da) : DE X W (.BoolOp op [a] pos) lvl da := by
  obtain ⟨t, p, ha⟩ := ha
  exact ⟨t, pe_one p, ha⟩
theorem d_and (ha : DE X W a l1 da) (hb : DE X W (.BoolOp .And (b :: rest) pos) .c db) : DE X W (.BoolOp .And (a :: b :: rest) pos) .c (xAnd da db) := by
  obtain ⟨ta, pa, ha⟩ := ha
  obtain ⟨tb, pb, hb⟩ := hb
  refine ⟨_, pe_and pa pb, fun c σ H env st Q sr h => ha c σ H env st _ sr (bindG back_RL h fun p st1 x c1 H1 sr1 po1 r1 h1 => ?_)⟩
  cases p with
  | bl k =>
    refine ⟨k, rv_bl r1.1, ?_⟩
    cases k with
    | true => exact hb c1 σ H1 env st1 Q sr1 h1
    | false => exact h1 _ c1 H1 sr1 (.refl _ _) (rlc (.bl _))
  | _ => exact h1.elim
theorem d_or (ha : DE X W a l1 da) (hb : DE X W (.BoolOp .Or (b :: rest) pos) .c db) : DE X W (.BoolOp .Or (a :: b :: rest) pos) .c (xOr da db) := by
  obtain ⟨ta, pa, ha⟩ := ha
  obtain ⟨tb, pb, hb⟩ := hb
  refine ⟨_, pe_or pa pb, fun c σ H env st Q sr h => ha c σ H env st _ sr (bindG back_RL h fun p st1 x c1 H1 sr1 po1 r1 h1 => ?_)⟩
  cases p with
  | bl k =>
    refine ⟨k, rv_bl r1.1, ?_⟩
    cases k with
    | false => exact hb c1 σ H1 env st1 Q sr1 h1
    | true => exact h1 _ c1 H1 sr1 (.refl _ _) (rlc (.bl _))
  | _ => exact h1.elim
def notPV : PV → Option PV
  | .bl b => some (.bl (!b))
  | _ => none
theorem d_not (ha : DE X W a l1 da) : DE X W (.UnaryOp .Not a pos) .c (xUn notPV da) := by
  obtain ⟨ta, pa, ha⟩ := ha
  refine ⟨_, pe_not pa, fun c σ H env st Q sr h => ha c σ H env st _ sr (un_core sr h fun c1 H1 st1 p v res sr1 r e g => ?_)⟩
  cases p with
  | bl k => cases e; exact ⟨k, rv_bl r, give_c g (.bl _)⟩
  | _ => cases e
def xIf {α : Type} (dt : Den Bool) (da db : Den α) : Den α := fun env st => (dt env st).bind fun k s => if k = true then da env s else db env s
theorem d_ifExp {t : Expr} {dt : Den Bool} (ht : DT X W t dt) (ha : DE X W a lvl da) (hb : DE X W b lvl db) : DE X W (.IfExp t a b pos) lvl (xIf dt da db) := by
  obtain ⟨tt, pt, ht⟩ := ht
  obtain ⟨ta, pa, ha⟩ := ha
  obtain ⟨tb, pb, hb⟩ := hb
  refine ⟨_, pe_ifExp pt pa pb, fun c σ H env st Q sr h => ht c σ H env st _ sr (bindG back_RL h fun k st1 k' c1 H1 sr1 po1 ek h1 => ?_)⟩
  cases (show k = k' from ek)
  cases k with
  | true => exact ha c1 σ H1 env st1 Q sr1 h1
  | false => exact hb c1 σ H1 env st1 Q sr1 h1

/-! ### tests -/
def truPV : PV → Option Bool
  | .non => some false
  | .bl b => some b
  | .int i => some (i != 0)
  | .str l => some (!l.isEmpty)
  | .lst l => some (!l.isEmpty)
  | .tup l => some (!l.isEmpty)
  | _ => none
def xTru (d : Den PV) : Den Bool := fun env st => (d env st).bind fun p s => opt (truPV p) s
theorem rep_tru {g : Gv} {H : Hp} {N : Addr → Prop} {p : PV} {v : V} {k : Bool} (r : Rep g H N p v) (e : truPV p = some k) : TruV g.K v H k := by
  cases r with
  | non => cases e; rfl
  | bl b => cases e; rfl
  | int i => cases e; rfl
  | str l h u =>
    cases e
    refine ⟨by rw [mkS_length]; exact h, ?_⟩
    rw [mkS_length]
    cases l <;> simp
    omega
  | tup h z r => cases e; exact .inr (.inl ⟨_, h.sq, by cases r <;> simp⟩)
  | lst h n z r => cases e; exact .inl ⟨_, SqL.of h, by cases r <;> simp⟩
  | _ => cases e
theorem dt_tru (ha : DE X W a l1 da) (he : ∀ whole, isTrue a X.env whole = (do let v ← whole; standAt a.pos; holding [v] (truthy v)) := by intro _; rfl) : DT X W a (xTru da) := by
  obtain ⟨ta, pa, ha⟩ := ha
  refine ⟨_, pt_truth pa he, fun c σ H env st Q sr h => ha c σ H env st _ sr (bindG back_RB h fun p st1 x c1 H1 sr1 po1 r1 h1 => ?_)⟩
  obtain ⟨k, e, h2⟩ := opt_some h1
  obtain ⟨N, r⟩ := rv_rep r1.1
  exact ⟨k, rep_tru r e, h2 k c1 H1 sr1 (.refl _ _) rfl⟩
/-- a value that is a bool, as a test -/
def tbR : PV → Sto → Res Bool
  | .bl b, s => .ok b s
  | _, _ => .no
def xTB (d : Den PV) : Den Bool := fun env st => (d env st).bind tbR
theorem tb_fin {c : Ctl} {σ : L2.St} {H : Hp} {env : Env} {st : Sto} {Q : Bool → Hp → Prop} {p : PV} {x : V} {H0 : Hp} (sr : SR X c σ H env st) (r1 : RV X c σ env H0 H p x l1)
    (h : HypG X W σ env RB c H (tbR p st) Q) : ∃ k, x = .bl k ∧ Q k H := by
  cases p with
  | bl k => exact ⟨k, rv_bl r1, h k c H sr (.refl _ _) rfl⟩
  | _ => exact h.elim
theorem dt_cmp {op : CmpOp} {r : R2} {f : PV → PV → Option PV} (ho : OpR X (compareOp op) r) (ok : OpOk X r l1 l2 .c f) (ha : DE X W a l1 da) (hb : DE X W b l2 db) (hm : behindInMarks op b = false) (hl1 : l1 ≠ .f := by decide) : DT X W (.Compare a [op] [b] pos) (xTB (xBin f da db)) := by
  obtain ⟨ta, pa, ha⟩ := ha
  obtain ⟨tb, pb, hb⟩ := hb
  refine ⟨_, pt_cmpR ho pa pb hm, fun c σ H env st Q sr h => ha c σ H env st _ sr ?_⟩
  have h' := bindG (R1 := RL X σ env .c) (Q1 := fun x H' => ∃ k, x = .bl k ∧ Q k H') back_RB h fun p st1 x c1 H1 sr1 po1 r1 h1 => tb_fin sr1 r1.1 h1
  exact bin_core sr hl1 hb h' fun c2 H2 st2 p q x y res sr2 r1 ⟨H1, r2⟩ e g => ok c2 σ H2 H1 env st2 _ p q res x y sr2 r1 r2 e g
theorem dt_not {dt : Den Bool} (h : DT X W a dt) : DT X W (.UnaryOp .Not a pos) (fun env st => (dt env st).bind fun k s => .ok (!k) s) := by
  obtain ⟨t, p, h⟩ := h
  refine ⟨_, pt_not p, fun c σ H env st Q sr hy => h c σ H env st _ sr (bindG back_RB hy fun k st1 k' c1 H1 sr1 po1 ek h1 => ?_)⟩
  cases (show k = k' from ek)
  exact h1 _ c1 H1 sr1 (.refl _ _) rfl
theorem dw_pt {dt : Den Bool} (h : DTw X W a dt) : DT X W a dt := by
  obtain ⟨t, p, h⟩ := h
  exact ⟨t, p.pt, h⟩
def xAndT (d e : Den Bool) : Den Bool := fun env st => (d env st).bind fun k s => if k = true then e env s else .ok false s
def xOrT (d e : Den Bool) : Den Bool := fun env st => (d env st).bind fun k s => if k = true then .ok true s else e env s
theorem dw_and1 {dt : Den Bool} (h : DT X W a dt) : DTw X W (.BoolOp .And [a] pos) dt := by
  obtain ⟨t, p, h⟩ := h
  exact ⟨t, pw_and1 p, h⟩
theorem dw_or1 {dt : Den Bool} (h : DT X W a dt) : DTw X W (.BoolOp .Or [a] pos) dt := by
  obtain ⟨t, p, h⟩ := h
  exact ⟨t, pw_or1 p, h⟩
theorem dw_and {d1 d2 : Den Bool} (ha : DT X W a d1) (hb : DTw X W (.BoolOp .And (b :: rest) pos) d2) : DTw X W (.BoolOp .And (a :: b :: rest) pos) (xAndT d1 d2) := by
  obtain ⟨ta, pa, ha⟩ := ha
  obtain ⟨tb, pb, hb⟩ := hb
  refine ⟨_, pw_and pa pb, fun c σ H env st Q sr h => ha c σ H env st _ sr (bindG back_RB h fun k st1 k' c1 H1 sr1 po1 ek h1 => ?_)⟩
  cases (show k = k' from ek)
  cases k with
  | true => exact hb c1 σ H1 env st1 Q sr1 h1
  | false => exact h1 _ c1 H1 sr1 (.refl _ _) rfl
theorem dw_or {d1 d2 : Den Bool} (ha : DT X W a d1) (hb : DTw X W (.BoolOp .Or (b :: rest) pos) d2) : DTw X W (.BoolOp .Or (a :: b :: rest) pos) (xOrT d1 d2) := by
  obtain ⟨ta, pa, ha⟩ := ha
  obtain ⟨tb, pb, hb⟩ := hb
  refine ⟨_, pw_or pa pb, fun c σ H env st Q sr h => ha c σ H env st _ sr (bindG back_RB h fun k st1 k' c1 H1 sr1 po1 ek h1 => ?_)⟩
  cases (show k = k' from ek)
  cases k with
  | false => exact hb c1 σ H1 env st1 Q sr1 h1
  | true => exact h1 _ c1 H1 sr1 (.refl _ _) rfl

/-! ### argument lists and displays -/
def xNil : Den (List PV) := fun _ st => .ok [] st
def xCons (d : Den PV) (ds : Den (List PV)) : Den (List PV) := fun env st => (d env st).bind fun p s => (ds env s).bind fun ps s' => .ok (p :: ps) s'
theorem da_nil : DA X W [] xNil := ⟨_, pa_nil, fun c σ H env st Q sr h => h [] c H sr (.refl _ _) .nil⟩
theorem da_cons {es : List Expr} {ds : Den (List PV)} (ha : DE X W a .c da) (hr : DA X W es ds) (hs : starEach (a :: es) X.env = (false, eval a X.env) :: starEach es X.env := by rfl) : DA X W (a :: es) (xCons da ds) := by
  obtain ⟨ta, pa, ha⟩ := ha
  obtain ⟨tb, pb, hb⟩ := hr
  refine ⟨_, pa_cons pa pb hs, fun c σ H env st Q sr h => ha c σ H env st _ sr (bindG back_RA h fun p st1 x c1 H1 sr1 po1 r1 h1 => ?_)⟩
  refine hb c1 σ H1 env st1 _ sr1 (bindG back_RA h1 fun ps st2 xs c2 H2 sr2 po2 r2 h2 => ?_)
  exact h2 _ c2 H2 sr2 (.refl _ _) (.cons (po2.rep r1.1) r2)
def xTup (ds : Den (List PV)) : Den PV := fun env st => (ds env st).bind fun ps s => if ps.length ≤ 16777216 then .ok (.tup ps) s else .no
def xLst (ds : Den (List PV)) : Den PV := fun env st => (ds env st).bind fun ps s => if ps.length ≤ 16777216 then .ok (.lst ps) s else .no
theorem d_tup {es : List Expr} {ds : Den (List PV)} {k : Nat} (h : DA X W es ds) : DE X W (.Tuple es k pos) .c (xTup ds) := by
  obtain ⟨t, p, h⟩ := h
  refine ⟨_, pe_tup p, fun c σ H env st Q sr hy => h c σ H env st _ sr (bindG back_RL hy fun ps st1 xs c1 H1 sr1 po1 r1 h1 => ?_)⟩
  split at h1
  · rename_i z
    exact ⟨by rw [← r1.length, sizeLine_eq]; exact z, give_newT sr1 (gives_of sr1 h1) (by rw [sizeLine_eq]; exact z) r1⟩
  · exact h1.elim
theorem d_lst {es : List Expr} {ds : Den (List PV)} (h : DA X W es ds) : DE X W (.List es pos) .f (xLst ds) := by
  obtain ⟨t, p, h⟩ := h
  refine ⟨_, pe_lst p, fun c σ H env st Q sr hy => h c σ H env st _ sr (bindG back_RL hy fun ps st1 xs c1 H1 sr1 po1 r1 h1 => ?_)⟩
  split at h1
  · rename_i z
    exact ⟨by rw [← r1.length, sizeLine_eq]; exact z, give_newL sr1 (.inr rfl) (gives_of sr1 h1) (by rw [sizeLine_eq]; exact z) r1⟩
  · exact h1.elim
end
end Vl

set_option Elab.async false
set_option linter.all false
set_option maxRecDepth 100000
set_option maxHeartbeats 1000000
namespace Vl
open PySem PySem.Spec PyProof.Rows L2

/-! ### built-ins of one argument -/
section
variable {X : Cx} {W : WX} {a b e : Expr} {da db : Den PV} {l1 l2 lvl : Lv} {pos : Pos}
def lenPV : PV → Option PV
  | .str l => some (.int l.length)
  | .lst l => some (.int l.length)
  | .tup l => some (.int l.length)
  | _ => none
theorem ok_len : UnOk X (fun x H Q => (fun xs H Q => ∃ x n, xs = [x] ∧ LenV X.K x H n ∧ Q (.int n) H) [x] H Q) l1 .c lenPV := by
  intro c σ H H1 env st Q p res x sr r1 e g
  obtain ⟨N, k⟩ := rv_rep r1
  cases k with
  | str l h u => cases e; exact ⟨_, l.length, rfl, ⟨by rw [mkS_length]; exact h, (mkS_length l).symm⟩, give_c g (.int _)⟩
  | tup h z r => cases e; exact ⟨_, _, rfl, .inr ⟨_, h.sq, r.length⟩, give_c g (.int _)⟩
  | lst h n z r => cases e; exact ⟨_, _, rfl, .inl ⟨_, SqL.of h, r.length⟩, give_c g (.int _)⟩
  | _ => cases e
/-- the ints of a list -/
def intsOf : List PV → Option (List Int)
  | [] => some []
  | .int i :: r => (intsOf r).map (i :: ·)
  | _ => none
theorem intsOf_eq : ∀ {ps : List PV} {ns : List Int}, intsOf ps = some ns → ps = ns.map .int
  | [], _, e => by cases e; rfl
  | .int i :: r, ns, e => by
    unfold intsOf at e
    cases h : intsOf r with
    | none => rw [h] at e; cases e
    | some ms => rw [h] at e; cases e; rw [intsOf_eq h]; rfl
  | .non :: _, _, e | .bl _ :: _, _, e | .str _ :: _, _, e | .tup _ :: _, _, e | .lst _ :: _, _, e | .dct _ _ :: _, _, e | .obj _ :: _, _, e | .fn _ :: _, _, e => by cases e
@[simp] theorem intsOf_map (ns : List Int) : intsOf (ns.map .int) = some ns := by
  induction ns with
  | nil => rfl
  | cons n ns ih => simp [intsOf, ih]
def blsOf : List PV → Option (List Bool)
  | [] => some []
  | .bl i :: r => (blsOf r).map (i :: ·)
  | _ => none
theorem blsOf_eq : ∀ {ps : List PV} {ns : List Bool}, blsOf ps = some ns → ps = ns.map .bl
  | [], _, e => by cases e; rfl
  | .bl i :: r, ns, e => by
    unfold blsOf at e
    cases h : blsOf r with
    | none => rw [h] at e; cases e
    | some ms => rw [h] at e; cases e; rw [blsOf_eq h]; rfl
  | .non :: _, _, e | .int _ :: _, _, e | .str _ :: _, _, e | .tup _ :: _, _, e | .lst _ :: _, _, e | .dct _ _ :: _, _, e | .obj _ :: _, _, e | .fn _ :: _, _, e => by cases e
@[simp] theorem blsOf_map (ns : List Bool) : blsOf (ns.map .bl) = some ns := by
  induction ns with
  | nil => rfl
  | cons n ns ih => simp [blsOf, ih]
def strsOf : List PV → Option (List (List Nat))
  | [] => some []
  | .str i :: r => (strsOf r).map (i :: ·)
  | _ => none
theorem strsOf_eq : ∀ {ps : List PV} {ns : List (List Nat)}, strsOf ps = some ns → ps = ns.map .str
  | [], _, e => by cases e; rfl
  | .str i :: r, ns, e => by
    unfold strsOf at e
    cases h : strsOf r with
    | none => rw [h] at e; cases e
    | some ms => rw [h] at e; cases e; rw [strsOf_eq h]; rfl
  | .non :: _, _, e | .int _ :: _, _, e | .bl _ :: _, _, e | .tup _ :: _, _, e | .lst _ :: _, _, e | .dct _ _ :: _, _, e | .obj _ :: _, _, e | .fn _ :: _, _, e => by cases e
@[simp] theorem strsOf_map (ns : List (List Nat)) : strsOf (ns.map .str) = some ns := by
  induction ns with
  | nil => rfl
  | cons n ns ih => simp [strsOf, ih]
def sumPV : PV → Option PV
  | .lst ps => (intsOf ps).map fun ns => .int ns.sum
  | _ => none
def maxL : List Int → Option Int
  | [] => none
  | n :: ns => some (ns.foldl max n)
def minL : List Int → Option Int
  | [] => none
  | n :: ns => some (ns.foldl min n)
theorem foldl_max : ∀ (ns : List Int) (n : Int), (ns.foldl max n ∈ n :: ns) ∧ ∀ y ∈ n :: ns, y ≤ ns.foldl max n
  | [], n => by simp
  | m :: ns, n => by
    obtain ⟨h1, h2⟩ := foldl_max ns (max n m)
    rw [List.foldl_cons]
    refine ⟨?_, fun y hy => ?_⟩
    · rcases List.mem_cons.mp h1 with h | h
      · rw [h]
        by_cases c : n ≤ m
        · rw [Int.max_eq_right c]; simp
        · rw [Int.max_eq_left (by omega)]; simp
      · simp [h]
    · have h3 := h2 (max n m) List.mem_cons_self
      rcases List.mem_cons.mp hy with h | h
      · subst h; omega
      · rcases List.mem_cons.mp h with h | h
        · subst h; omega
        · exact h2 y (List.mem_cons_of_mem _ h)
theorem foldl_min : ∀ (ns : List Int) (n : Int), (ns.foldl min n ∈ n :: ns) ∧ ∀ y ∈ n :: ns, ns.foldl min n ≤ y
  | [], n => by simp
  | m :: ns, n => by
    obtain ⟨h1, h2⟩ := foldl_min ns (min n m)
    rw [List.foldl_cons]
    refine ⟨?_, fun y hy => ?_⟩
    · rcases List.mem_cons.mp h1 with h | h
      · rw [h]
        by_cases c : n ≤ m
        · rw [Int.min_eq_left c]; simp
        · rw [Int.min_eq_right (by omega)]; simp
      · simp [h]
    · have h3 := h2 (min n m) List.mem_cons_self
      rcases List.mem_cons.mp hy with h | h
      · subst h; omega
      · rcases List.mem_cons.mp h with h | h
        · subst h; omega
        · exact h2 y (List.mem_cons_of_mem _ h)
def maxPV : PV → Option PV
  | .lst ps => (intsOf ps).bind fun ns => (maxL ns).map .int
  | _ => none
def minPV : PV → Option PV
  | .lst ps => (intsOf ps).bind fun ns => (minL ns).map .int
  | _ => none
def allPV : PV → Option PV
  | .lst ps => (blsOf ps).map fun ns => .bl (ns.all id)
  | _ => none
def anyPV : PV → Option PV
  | .lst ps => (blsOf ps).map fun ns => .bl (ns.any id)
  | _ => none
theorem rv_ints {c : Ctl} {σ : L2.St} {env : Env} {H H0 : Hp} {ps : List PV} {ns : List Int} {v : V} (h : intsOf ps = some ns) (hl : l1 ≠ .m) (r : RV X c σ env H0 H (.lst ps) v l1) : ∃ a, v = .ref a ∧ H a = some (.lst (ns.map V.int)) := by
  obtain ⟨a, vs, e1, ha, z1, k1⟩ := rv_lst hl r
  rw [intsOf_eq h] at k1
  rw [k1.ints] at ha
  exact ⟨a, e1, ha⟩
theorem rv_bls {c : Ctl} {σ : L2.St} {env : Env} {H H0 : Hp} {ps : List PV} {ns : List Bool} {v : V} (h : blsOf ps = some ns) (hl : l1 ≠ .m) (r : RV X c σ env H0 H (.lst ps) v l1) : ∃ a, v = .ref a ∧ H a = some (.lst (ns.map V.bl)) := by
  obtain ⟨a, vs, e1, ha, z1, k1⟩ := rv_lst hl r
  rw [blsOf_eq h] at k1
  rw [k1.bls] at ha
  exact ⟨a, e1, ha⟩
theorem ok_sum (hl : l1 ≠ .m := by decide) : UnOk X (fun x H Q => rSum X.K [x] H Q) l1 .c sumPV := by
  intro c σ H H1 env st Q p res x sr r1 e g
  cases p with
  | lst ps =>
    unfold sumPV at e
    cases h : intsOf ps with
    | none => simp only [h] at e; cases e
    | some ns =>
      simp only [h] at e; cases e
      obtain ⟨a, rfl, ha⟩ := rv_ints h hl r1
      exact ⟨a, ns, rfl, SqL.of ha, give_c g (.int _)⟩
  | _ => cases e
theorem ok_max (hl : l1 ≠ .m := by decide) : UnOk X (fun x H Q => rMax X.K [x] H Q) l1 .c maxPV := by
  intro c σ H H1 env st Q p res x sr r1 e g
  cases p with
  | lst ps =>
    unfold maxPV at e
    cases h : intsOf ps with
    | none => simp only [h] at e; cases e
    | some ns =>
      simp only [h] at e
      obtain ⟨a, rfl, ha⟩ := rv_ints h hl r1
      cases ns with
      | nil => cases e
      | cons n ns =>
        cases e
        refine ⟨a, n :: ns, rfl, SqL.of ha, by simp, fun m hm hx => ?_⟩
        obtain ⟨h1, h2⟩ := foldl_max ns n
        have : m = ns.foldl max n := by
          have a1 := hx _ h1
          have a2 := h2 m hm
          omega
        rw [this]
        exact give_c g (.int _)
  | _ => cases e
theorem ok_min (hl : l1 ≠ .m := by decide) : UnOk X (fun x H Q => rMin X.K [x] H Q) l1 .c minPV := by
  intro c σ H H1 env st Q p res x sr r1 e g
  cases p with
  | lst ps =>
    unfold minPV at e
    cases h : intsOf ps with
    | none => simp only [h] at e; cases e
    | some ns =>
      simp only [h] at e
      obtain ⟨a, rfl, ha⟩ := rv_ints h hl r1
      cases ns with
      | nil => cases e
      | cons n ns =>
        cases e
        refine ⟨a, n :: ns, rfl, SqL.of ha, by simp, fun m hm hx => ?_⟩
        obtain ⟨h1, h2⟩ := foldl_min ns n
        have : m = ns.foldl min n := by
          have a1 := hx _ h1
          have a2 := h2 m hm
          omega
        rw [this]
        exact give_c g (.int _)
  | _ => cases e
theorem ok_all (hl : l1 ≠ .m := by decide) : UnOk X (fun x H Q => rAll X.K [x] H Q) l1 .c allPV := by
  intro c σ H H1 env st Q p res x sr r1 e g
  cases p with
  | lst ps =>
    unfold allPV at e
    cases h : blsOf ps with
    | none => simp only [h] at e; cases e
    | some ns =>
      simp only [h] at e; cases e
      obtain ⟨a, rfl, ha⟩ := rv_bls h hl r1
      exact ⟨a, ns, rfl, SqL.of ha, give_c g (.bl _)⟩
  | _ => cases e
theorem ok_any (hl : l1 ≠ .m := by decide) : UnOk X (fun x H Q => rAny X.K [x] H Q) l1 .c anyPV := by
  intro c σ H H1 env st Q p res x sr r1 e g
  cases p with
  | lst ps =>
    unfold anyPV at e
    cases h : blsOf ps with
    | none => simp only [h] at e; cases e
    | some ns =>
      simp only [h] at e; cases e
      obtain ⟨a, rfl, ha⟩ := rv_bls h hl r1
      exact ⟨a, ns, rfl, SqL.of ha, give_c g (.bl _)⟩
  | _ => cases e
def absPV : PV → Option PV
  | .int i => some (.int (if i < 0 then -i else i))
  | _ => none
theorem ok_abs : UnOk X (fun x H Q => (fun xs H Q => ∃ i, xs = [V.int i] ∧ Q (.int (if i < 0 then -i else i)) H) [x] H Q) l1 .c absPV := by
  intro c σ H H1 env st Q p res x sr r1 e g
  cases p with
  | int i => cases e; rw [rv_int r1]; exact ⟨i, rfl, give_c g (.int _)⟩
  | _ => cases e
/-- a built-in class called with one argument -/
theorem d_callT {x : Str} {T : String} {p : Pos} {r : List V → Hp → VK → Prop} {f : PV → Option PV} (hc : CallR X (.type T) r) (ok : UnOk X (fun x H Q => r [x] H Q) l1 lvl f) (hg : Gl X x) (hm : X.mg x = none) (hv : bootBuiltins x = some (.type T)) (ha : DE X W a l1 da)
    (hs : starEach [a] X.env = (false, eval a X.env) :: starEach [] X.env := by rfl) (hn : x ≠ "__name__" := by decide) (hdb : (x == ("__debug__" : Str)) = false := by decide) : DE X W (.Call (.Name x p) [a] [] pos) lvl (xUn f da) := by
  obtain ⟨ta, pa, ha⟩ := ha
  exact ⟨_, pe_callTy hc hg hm hv (pa_cons pa pa_nil hs) hn hdb hs (by simp [backTo, starEach]), fun c σ H env st Q sr h => ha c σ H env st _ sr (un_core sr h fun c1 H1 st1 p v res sr1 r e g => ok c1 σ H1 H env st1 Q p res v sr1 r e g)⟩
def intPV : PV → Option PV
  | .int i => some (.int i)
  | .bl k => some (.int (if k then 1 else 0))
  | _ => none
theorem ok_int : UnOk X (fun x H Q => (fun xs H Q => (∃ i, xs = [V.int i] ∧ Q (.int i) H) ∨ ∃ k, xs = [V.bl k] ∧ Q (.int (if k then 1 else 0)) H) [x] H Q) l1 .c intPV := by
  intro c σ H H1 env st Q p res x sr r1 e g
  cases p with
  | int i => cases e; rw [rv_int r1]; exact .inl ⟨i, rfl, give_c g (.int _)⟩
  | bl k => cases e; rw [rv_bl r1]; exact .inr ⟨k, rfl, give_c g (.int _)⟩
  | _ => cases e
/-- tuple(xs), list(xs): of a list or tuple -/
def tuplePV : PV → Option PV
  | .lst l => some (.tup l)
  | .tup l => some (.tup l)
  | _ => none
theorem ok_tuple (hl : l1 ≠ .m := by decide) : UnOk X (fun x H Q => (fun xs H Q => ∃ p ys, xs = [V.ref p] ∧ ((SqL X.K H p ys ∧ ∀ l, H l = none → Q (.ref l) (upd H l (.tup ys))) ∨ (SqT X.K H p ys ∧ Q (.ref p) H))) [x] H Q) l1 .c tuplePV := by
  intro c σ H H1 env st Q p res x sr r1 e g
  cases p with
  | lst ps =>
    cases e
    obtain ⟨a, vs, rfl, ha, z1, k1⟩ := rv_lst hl r1
    exact ⟨a, vs, rfl, .inl ⟨SqL.of ha, give_newT sr g z1 k1⟩⟩
  | tup ps =>
    cases e
    obtain ⟨a, vs, rfl, ha, z1, k1⟩ := rv_tup hl r1
    exact ⟨a, vs, rfl, .inr ⟨ha.sq, give_c g (.tup ha z1 k1)⟩⟩
  | _ => cases e
def listPV : PV → Option PV
  | .lst l => some (.lst l)
  | .tup l => some (.lst l)
  | _ => none
theorem ok_list (hl : l1 ≠ .m := by decide) : UnOk X (fun x H Q => (fun xs H Q => ∃ p ys, xs = [V.ref p] ∧ (SqL X.K H p ys ∨ SqT X.K H p ys) ∧ ∀ l, H l = none → Q (.ref l) (upd H l (.lst ys))) [x] H Q) l1 .f listPV := by
  intro c σ H H1 env st Q p res x sr r1 e g
  cases p with
  | lst ps =>
    cases e
    obtain ⟨a, vs, rfl, ha, z1, k1⟩ := rv_lst hl r1
    exact ⟨a, vs, rfl, .inl (SqL.of ha), give_newL sr (.inr rfl) g z1 k1⟩
  | tup ps =>
    cases e
    obtain ⟨a, vs, rfl, ha, z1, k1⟩ := rv_tup hl r1
    exact ⟨a, vs, rfl, .inr ha.sq, give_newL sr (.inr rfl) g z1 k1⟩
  | _ => cases e
/-- str(x) of a text, of an int -/
def digits (i : Int) : List Nat := (PySem.Str.ofString (toString i)).cps.toList

/-! ### isinstance -/
def tyPV : PV → Option String
  | .non => some "NoneType"
  | .bl _ => some "bool"
  | .int _ => some "int"
  | .str _ => some "str"
  | .tup _ => some "tuple"
  | .lst _ => some "list"
  | _ => none
def isTy (T : String) (s : String) : Bool := s == T || (T == "int" && s == "bool")
def isiPV (T : String) (p : PV) : Option PV := (tyPV p).map fun s => .bl (isTy T s)
theorem rep_ty {g : Gv} {H : Hp} {N : Addr → Prop} {p : PV} {v : V} {s : String} (r : Rep g H N p v) (e : tyPV p = some s) : TyX g.K H v (.type s) := by
  cases r with
  | non => cases e; exact .base .non
  | bl b => cases e; exact .base (.bl b)
  | int i => cases e; exact .base (.int i)
  | str l h u => cases e; exact .base (.str _)
  | tup h z r =>
    cases e
    rcases h with ⟨h, _⟩ | ⟨_, o, its, n, h1, h2, _⟩
    · exact .base (.tup h)
    · exact .kTuple h1 h2
  | lst h n z r => cases e; exact .base (.lst h)
  | _ => cases e
/-- the five classes that are asked for -/
def TyOk (T : String) : Prop := ∀ s ∈ ["NoneType", "bool", "int", "str", "tuple", "list"], kitB s T = some (isTy T s)
theorem tyOk_of {T : String} (h : (["NoneType", "bool", "int", "str", "tuple", "list"].all fun s => kitB s T == some (isTy T s)) = true) : TyOk T := fun s hs => by
  have := List.all_eq_true.mp h s hs
  exact eq_of_beq this
theorem tyPV_mem {p : PV} {s : String} (h : tyPV p = some s) : s ∈ ["NoneType", "bool", "int", "str", "tuple", "list"] := by
  cases p <;> cases h <;> simp
theorem d_isi {x y : Str} {T : String} {p q : Pos} (hT : TyOk T) (hg : Gl X x) (hm : X.mg x = none) (hv : bootBuiltins x = some (.builtin "isinstance")) (hg2 : Gl X y) (hm2 : X.mg y = none) (hv2 : bootBuiltins y = some (.type T)) (ha : DE X W a l1 da)
    (hs : starEach [a, .Name y q] X.env = (false, eval a X.env) :: starEach [.Name y q] X.env := by rfl) (hn : x ≠ "__name__" := by decide) (hdb : (x == ("__debug__" : Str)) = false := by decide)
    (hn2 : y ≠ "__name__" := by decide) (hdb2 : (y == ("__debug__" : Str)) = false := by decide) : DE X W (.Call (.Name x p) [a, .Name y q] [] pos) .c (xUn (isiPV T) da) := by
  obtain ⟨ta, pa, ha⟩ := ha
  refine ⟨_, pe_callB call_isi hg hm hv (pa_cons pa (pa_cons (pe_bltn (v := .ty T) hg2 hm2 hv2 rfl hn2 hdb2) pa_nil (by simp [starEach])) hs) hn hdb hs (by simp [backTo, starEach]), fun c σ H env st Q sr h => ha c σ H env st _ sr (un_core sr h fun c1 H1 st1 p v res sr1 r e g => ?_)⟩
  unfold isiPV at e
  cases es : tyPV p with
  | none => rw [es] at e; cases e
  | some s =>
    rw [es] at e; cases e
    obtain ⟨N, k⟩ := rv_rep r
    exact ⟨v, .ty T, .type s, .type T, _, rfl, .ty _, rep_ty k es, kit_ty (hT s (tyPV_mem es)), give_c g (.bl _)⟩

/-! ### text methods -/
def joinL (sep : List Nat) : List (List Nat) → List Nat
  | [] => []
  | [x] => x
  | x :: y :: r => x ++ sep ++ joinL sep (y :: r)
theorem join_mk (sep : List Nat) : ∀ ls : List (List Nat), Txt.join (mkS sep) (ls.map mkS) = mkS (joinL sep ls) := fun ls => by
  show Builtin.Str.glued _ _ = _
  rw [StrLaws.glued_eq_join]
  induction ls with
  | nil => rfl
  | cons x r ih =>
    cases r with
    | nil => rfl
    | cons y r =>
      show mkS x ++ mkS sep ++ PySem.Str.join (mkS sep) ((y :: r).map mkS) = _
      rw [ih, mkS_append, mkS_append]
      rfl
theorem joinL_len (sep : List Nat) : ∀ ls : List (List Nat), (joinL sep ls).length ≤ (ls.map List.length).sum + ls.length * sep.length
  | [] => by simp [joinL]
  | [x] => by simp [joinL]
  | x :: y :: r => by
    have := joinL_len sep (y :: r)
    simp only [joinL, List.length_append, List.map_cons, List.sum_cons, List.length_cons, Nat.succ_mul] at this ⊢
    omega
theorem joinL_ok {sep : List Nat} (hs : ∀ c ∈ sep, c < 1114112) : ∀ {ls : List (List Nat)}, (∀ l ∈ ls, ∀ c ∈ l, c < 1114112) → ∀ c ∈ joinL sep ls, c < 1114112
  | [], _, c, h => by simp [joinL] at h
  | [x], hl, c, h => hl x (by simp) c (by simpa [joinL] using h)
  | x :: y :: r, hl, c, h => by
    simp only [joinL, List.mem_append] at h
    rcases h with (h | h) | h
    · exact hl x (by simp) c h
    · exact hs c h
    · exact joinL_ok hs (fun l hm => hl l (List.mem_cons_of_mem _ hm)) c h
def joinPV : PV → PV → Option PV
  | .str s, .lst ps => (strsOf ps).bind fun ls => if (ls.map List.length).sum + ls.length * s.length ≤ 16777216 then some (.str (joinL s ls)) else none
  | .str s, .tup ps => (strsOf ps).bind fun ls => if (ls.map List.length).sum + ls.length * s.length ≤ 16777216 then some (.str (joinL s ls)) else none
  | _, _ => none
theorem repA_strs_ok {g : Gv} {H : Hp} {N : Addr → Prop} : ∀ {ls : List (List Nat)} {vs : List V}, RepA g H N (ls.map .str) vs → ∀ l ∈ ls, ∀ c ∈ l, c < 1114112
  | [], _, _ => by simp
  | l :: ls, _, .cons h r => by
    intro l' hl
    rcases List.mem_cons.mp hl with e | e
    · subst e; cases h with | str _ _ u => exact u
    · exact repA_strs_ok r l' e
def isStrPV : PV → Bool
  | .str _ => true
  | _ => false
/-- a method of a text, of one argument -/
def xM1 (f : PV → PV → Option PV) (da db : Den PV) : Den PV := fun env st => (da env st).bind fun p s => if isStrPV p = true then (db env s).bind fun q s' => opt (f p q) s' else .no
theorem d_m1 {id : String} {name : Str} {r : V → List V → Hp → VK → Prop} {f : PV → PV → Option PV} {apos : Pos} (slot : PySem.Slot "str" name id) (ty : typeOf (.builtin id) = pure (.type "method_descriptor")) (rule : MtR X id r) (ok : OpOk X (fun x y H Q => r x [y] H Q) .c l2 lvl f)
    (ha : DE X W a .c da) (hb : DE X W b l2 db) (hs : starEach [b] X.env = [(false, eval b X.env)] := by rfl) (hbase : attributeBase a name X.env (eval a X.env) = eval a X.env := by rfl) (hline : (apos.endLine == pos.line) = true := by rfl) :
    DE X W (.Call (.Attribute a name apos) [b] [] pos) lvl (xM1 f da db) := by
  obtain ⟨ta, pa, ha⟩ := ha
  obtain ⟨tb, pb, hb⟩ := hb
  refine ⟨_, pe_m1 slot ty rule pa pb hs hbase hline, fun c σ H env st Q sr h => ha c σ H env st _ sr (bindG back_RL h fun p st1 x c1 H1 sr1 po1 r1 h1 => ?_)⟩
  cases p with
  | str l =>
    refine ⟨⟨_, (rv_str r1.1).1⟩, ?_⟩
    refine hb c1 σ H1 env st1 _ sr1 (bindG back_RL h1 fun q st2 y c2 H2 sr2 po2 r2 h2 => ?_)
    obtain ⟨res, e, h3⟩ := opt_some h2
    exact ok c2 σ H2 H1 env st2 Q _ q res x y sr2 (po2.lv (by decide) r1.1) r2.1 e (gives_of sr2 h3)
  | _ => exact h1.elim
def xM0 (f : PV → Option PV) (da : Den PV) : Den PV := fun env st => (da env st).bind fun p s => if isStrPV p = true then opt (f p) s else .no
theorem d_m0 {id : String} {name : Str} {r : V → List V → Hp → VK → Prop} {f : PV → Option PV} {apos : Pos} (slot : PySem.Slot "str" name id) (ty : typeOf (.builtin id) = pure (.type "method_descriptor")) (rule : MtR X id r) (ok : UnOk X (fun x H Q => r x [] H Q) .c lvl f)
    (ha : DE X W a .c da) (hbase : attributeBase a name X.env (eval a X.env) = eval a X.env := by rfl) (hline : (apos.endLine == pos.line) = true := by rfl) :
    DE X W (.Call (.Attribute a name apos) [] [] pos) lvl (xM0 f da) := by
  obtain ⟨ta, pa, ha⟩ := ha
  refine ⟨_, pe_m0 slot ty rule pa hbase hline, fun c σ H env st Q sr h => ha c σ H env st _ sr (bindG back_RL h fun p st1 x c1 H1 sr1 po1 r1 h1 => ?_)⟩
  cases p with
  | str l =>
    obtain ⟨res, e, h3⟩ := opt_some h1
    exact ⟨⟨_, (rv_str r1.1).1⟩, ok c1 σ H1 H1 env st1 Q _ res x sr1 r1.1 e (gives_of sr1 h3)⟩
  | _ => exact h1.elim
theorem ok_join (hl2 : l2 ≠ .m := by decide) : OpOk X (fun x y H Q => (fun x xs H Q => ∃ a p, ∃ ys : List Str, x = V.str a ∧ xs = [V.ref p] ∧ (SqL X.K H p (ys.map V.str) ∨ SqT X.K H p (ys.map V.str)) ∧
      (ys.map (·.length)).sum + ys.length * a.length ≤ 16777216 ∧ Q (.str (Txt.join a ys)) H) x [y] H Q) .c l2 .c joinPV := by
  intro c σ H H1 env st Q p q res x y sr r1 r2 e g
  have sz : sizeLine = 16777216 := sizeLine_eq
  cases p with
  | str s =>
    obtain ⟨e1, z1, u1⟩ := rv_str r1
    have fin : ∀ {ls : List (List Nat)} {vs : List V} {a : Addr}, RepA (gv X c) H (c.N σ env) (ls.map .str) vs → (ls.map List.length).sum + ls.length * s.length ≤ 16777216 → y = .ref a → (SqL X.K H a vs ∨ SqT X.K H a vs) → res = .str (joinL s ls) →
        ∃ a p, ∃ ys : List Str, x = V.str a ∧ [y] = [V.ref p] ∧ (SqL X.K H p (ys.map V.str) ∨ SqT X.K H p (ys.map V.str)) ∧ (ys.map (·.length)).sum + ys.length * a.length ≤ 16777216 ∧ Q (.str (Txt.join a ys)) H := by
      intro ls vs a k hz ey hq er
      subst er
      have ev := k.strs
      subst ev
      refine ⟨_, a, ls.map mkS, e1, by rw [ey], hq, ?_, ?_⟩
      · rw [List.map_map, List.length_map, mkS_length]
        have : ((fun x : Str => x.length) ∘ mkS) = List.length := funext fun l => mkS_length l
        rw [this]
        exact hz
      · rw [join_mk]
        exact give_c g (.str _ (by rw [sz]; exact Nat.le_trans (joinL_len _ _) hz) (joinL_ok u1 (repA_strs_ok k)))
    cases q with
    | lst ps =>
      unfold joinPV at e
      cases h : strsOf ps with
      | none => simp only [h] at e; cases e
      | some ls =>
        simp only [h, Option.bind_some] at e
        split at e
        · rename_i hz
          obtain ⟨a, vs, rfl, hb, _, k⟩ := rv_lst hl2 r2
          rw [strsOf_eq h] at k
          exact fin k hz rfl (.inl (SqL.of hb)) (by cases e; rfl)
        · cases e
    | tup ps =>
      unfold joinPV at e
      cases h : strsOf ps with
      | none => simp only [h] at e; cases e
      | some ls =>
        simp only [h, Option.bind_some] at e
        split at e
        · rename_i hz
          obtain ⟨a, vs, rfl, hb, _, k⟩ := rv_tup hl2 r2
          rw [strsOf_eq h] at k
          exact fin k hz rfl (.inr hb.sq) (by cases e; rfl)
        · cases e
    | _ => cases e
  | _ => cases q <;> cases e
theorem d_join {apos : Pos} (ha : DE X W a .c da) (hb : DE X W b l2 db) (hl2 : l2 ≠ .m := by decide) (hs : starEach [b] X.env = [(false, eval b X.env)] := by rfl) (hbase : attributeBase a "join" X.env (eval a X.env) = eval a X.env := by rfl) (hline : (apos.endLine == pos.line) = true := by rfl) :
    DE X W (.Call (.Attribute a "join" apos) [b] [] pos) .c (xM1 joinPV da db) := d_m1 F.slot_str_join F.type_str_join mt_join (ok_join hl2) ha hb hs hbase hline
/-- text.count(sign) -/
def countPV : PV → PV → Option PV
  | .str l, .str [c] => some (.int (l.count c))
  | _, _ => none
theorem cnt_count (c : Nat) : ∀ l : List Nat, cnt c l = (l.count c : Int)
  | [] => rfl
  | n :: r => by
    rw [cnt_cons, cnt_count c r, List.count_cons]
    by_cases h : n = c
    · subst h; simp; omega
    · simp [h]
theorem ok_count : OpOk X (fun x y H Q => (fun x xs H Q => ∃ a b, x = V.str a ∧ xs = [V.str b] ∧ Q (.int (Txt.count a b)) H) x [y] H Q) .c l2 .c countPV := by
  intro c σ H H1 env st Q p q res x y sr r1 r2 e g
  unfold countPV at e
  split at e
  · cases e
    obtain ⟨e1, z1, u1⟩ := rv_str r1
    obtain ⟨e2, z2, u2⟩ := rv_str r2
    refine ⟨_, _, e1, by rw [e2], ?_⟩
    have : ∀ ch : Nat, mkS [ch] = ⟨#[ch]⟩ := fun _ => rfl
    rw [this, count_cnt, mkS_list, cnt_count]
    exact give_c g (.int _)
  · cases e
theorem d_count {apos : Pos} (ha : DE X W a .c da) (hb : DE X W b l2 db) (hs : starEach [b] X.env = [(false, eval b X.env)] := by rfl) (hbase : attributeBase a "count" X.env (eval a X.env) = eval a X.env := by rfl) (hline : (apos.endLine == pos.line) = true := by rfl) :
    DE X W (.Call (.Attribute a "count" apos) [b] [] pos) .c (xM1 countPV da db) := d_m1 F.slot_str_count F.type_str_count mt_count ok_count ha hb hs hbase hline
end
end Vl

set_option Elab.async false
set_option linter.all false
set_option maxRecDepth 100000
set_option maxHeartbeats 1000000
namespace Vl
open PySem PySem.Spec PyProof.Rows L2

/-! ### the canonical reading -/
def TD (X : Cx) (W : WX) (lvl : Lv) (d : Den PV) : TE := fun σ H Q => ∃ c env st, SR X c σ H env st ∧ HypG X W σ env (RL X σ env lvl) c H (d env st) Q
def TDT (X : Cx) (W : WX) (d : Den Bool) : TT := fun σ H Q => ∃ c env st, SR X c σ H env st ∧ HypG X W σ env RB c H (d env st) Q
section
variable {X : Cx} {W : WX} {e : Expr} {lvl : Lv}
theorem DE.canon {d : Den PV} (h : DE X W e lvl d) : PE X e (TD X W lvl d) := by
  obtain ⟨t, p, h⟩ := h
  refine ⟨fun pins s σ H Q I q => ?_⟩
  obtain ⟨c, env, st, sr, hy⟩ := q
  exact p.run pins s σ H Q I (h c σ H env st Q sr hy)
theorem DT.canon {d : Den Bool} (h : DT X W e d) : PT X e (TDT X W d) := by
  obtain ⟨t, p, h⟩ := h
  refine ⟨fun pins s σ H Q I q => ?_⟩
  obtain ⟨c, env, st, sr, hy⟩ := q
  exact p.run pins s σ H Q I (h c σ H env st Q sr hy)
end

/-! ### targets -/
theorem OwnS_set {σ : L2.St} {env : Env} {i : Nat} {v : V} {p : PV} : ∀ a, OwnS (σ.set i (some v)) (env.set i (.pl p)) a → OwnS σ env a := fun a ⟨j, pv, h1, h2⟩ => by
  by_cases hj : i = j
  · subst hj
    by_cases hl : i < env.length
    · rw [List.getElem?_set_self hl] at h1; cases h1
    · rw [List.getElem?_eq_none (by rw [List.length_set]; omega)] at h1; cases h1
  · rw [List.getElem?_set_ne hj] at h1 h2
    exact ⟨j, pv, h1, h2⟩
theorem SRk.weakN {X : Cx} {c : Ctl} {σ σ' : L2.St} {H : Hp} {env env' : Env} {st : Sto} (sr : SR X c σ H env st) (hl : env'.length = σ'.length) (ho : ∀ a, OwnS σ' env' a → OwnS σ env a)
    (pl : ∀ (i : Nat) (pv : PV), env'[i]? = some (Slot.pl pv) → ∃ v, σ'[i]? = some (some v) ∧ Rep (gv X c) H (c.N σ env) pv v)
    (ow : ∀ (i : Nat) (pv : PV), env'[i]? = some (Slot.ow pv) → env[i]? = some (Slot.ow pv) ∧ σ'[i]? = σ[i]?) : SR X c σ' H env' st := by
  have hn : ∀ a, c.N σ' env' a → c.N σ env a := fun a h => h.imp id (fun h => h.imp id (ho a))
  refine ⟨hl, fun i pv e => ?_, fun i pv e => ?_, fun i j pi pj a e1 e2 s1 s2 => ?_, fun p hp => Rep.loosen hn (sr.gh p hp), ⟨sr.sto.len, sr.sto.nd, sr.sto.own, fun n xs e => ?_⟩, sr.dm, sr.fr, sr.d0, sr.fs⟩
  · obtain ⟨v, h1, h2⟩ := pl i pv e
    exact ⟨v, h1, Rep.loosen hn h2⟩
  · obtain ⟨e1, e2⟩ := ow i pv e
    obtain ⟨a, h1, h2, h3, h4, h5⟩ := sr.ow i pv e1
    exact ⟨a, e2.trans h1, h2, h3, h4, h5.mono (.refl _) (.same _ hn) (fun _ q => q)⟩
  · obtain ⟨a1, a2⟩ := ow i pi e1
    obtain ⟨b1, b2⟩ := ow j pj e2
    exact sr.dist i j pi pj a a1 b1 (a2.symm.trans s1) (b2.symm.trans s2)
  · obtain ⟨a, vs, h1, h2, h3, h4⟩ := sr.sto.lst n xs e
    exact ⟨a, vs, h1, h2, h3, RepA.loosen hn h4⟩
theorem SRk.setPl {X : Cx} {c : Ctl} {σ : L2.St} {H : Hp} {env : Env} {st : Sto} {p : PV} {v : V} (sr : SR X c σ H env st) (i : Nat) (r : Rep (gv X c) H (c.N σ env) p v) : SR X c (σ.set i (some v)) H (env.set i (.pl p)) st := by
  refine sr.weakN (by rw [List.length_set, List.length_set]; exact sr.len) OwnS_set (fun j pv e => ?_) (fun j pv e => ?_)
  · by_cases hj : i = j
    · subst hj
      have hl : i < env.length := by
        by_cases hl : i < env.length
        · exact hl
        · rw [List.getElem?_eq_none (by rw [List.length_set]; omega)] at e; cases e
      rw [List.getElem?_set_self hl] at e
      cases e
      exact ⟨v, List.getElem?_set_self (by rw [← sr.len]; exact hl), r⟩
    · rw [List.getElem?_set_ne hj] at e ⊢
      exact sr.pl j pv e
  · by_cases hj : i = j
    · subst hj
      by_cases hl : i < env.length
      · rw [List.getElem?_set_self hl] at e; cases e
      · rw [List.getElem?_eq_none (by rw [List.length_set]; omega)] at e; cases e
    · rw [List.getElem?_set_ne hj] at e ⊢
      exact ⟨e, rfl⟩
/-- σ' is σ but at ix -/
structure But (ix : List Nat) (σ σ' : L2.St) (env env' : Env) : Prop where
  l1 : σ'.length = σ.length
  l2 : env'.length = env.length
  s : ∀ i, i ∉ ix → σ'[i]? = σ[i]?
  e : ∀ i, i ∉ ix → env'[i]? = env[i]?
theorem But.refl (ix : List Nat) (σ : L2.St) (env : Env) : But ix σ σ env env := ⟨rfl, rfl, fun _ _ => rfl, fun _ _ => rfl⟩
theorem But.trans {ix iy : List Nat} {σ σ1 σ2 : L2.St} {env env1 env2 : Env} (a : But ix σ σ1 env env1) (b : But iy σ1 σ2 env1 env2) : But (ix ++ iy) σ σ2 env env2 :=
  ⟨b.l1.trans a.l1, b.l2.trans a.l2, fun i h => (b.s i fun z => h (List.mem_append_right _ z)).trans (a.s i fun z => h (List.mem_append_left _ z)), fun i h => (b.e i fun z => h (List.mem_append_right _ z)).trans (a.e i fun z => h (List.mem_append_left _ z))⟩
/-- a target -/
def HypT (X : Cx) (c : Ctl) (σ : L2.St) (H : Hp) (env : Env) (st : Sto) (ix : List Nat) (r : Option Env) (Q : L2.St → Hp → Prop) : Prop :=
  match r with
  | some env' => ∀ σ', SR X c σ' H env' st → But ix σ σ' env env' → Q σ' H
  | none => False
def DG (X : Cx) (tg : Expr) (ix : List Nat) (g : PV → Env → Option Env) : Prop :=
  ∃ t, PG X tg t ∧ ∀ c σ H env st Q p v, SR X c σ H env st → Rep (gv X c) H (c.N σ env) p v → HypT X c σ H env st ix (g p env) Q → t v σ H Q
def DGs (X : Cx) (tg : List Expr) (ix : List Nat) (g : List PV → Env → Option Env) : Prop :=
  ∃ t, PGs X tg t ∧ ∀ c σ H env st Q ps vs, SR X c σ H env st → RepA (gv X c) H (c.N σ env) ps vs → HypT X c σ H env st ix (g ps env) Q → t vs σ H Q
def TGd (X : Cx) (ix : List Nat) (g : PV → Env → Option Env) : TG := fun v σ H Q => ∃ c env st p, SR X c σ H env st ∧ Rep (gv X c) H (c.N σ env) p v ∧ HypT X c σ H env st ix (g p env) Q
theorem DG.canon {X : Cx} {tg : Expr} {ix : List Nat} {g : PV → Env → Option Env} (h : DG X tg ix g) : PG X tg (TGd X ix g) := by
  obtain ⟨t, p, h⟩ := h
  refine ⟨fun pins s σ H v u Q I r q => ?_⟩
  obtain ⟨c, env, st, pv, sr, rp, hy⟩ := q
  exact p.run pins s σ H v u Q I r (h c σ H env st Q pv v sr rp hy)
def gSlot (i : Nat) : PV → Env → Option Env := fun p env => some (env.set i (.pl p))
theorem But.set (i : Nat) (σ : L2.St) (env : Env) (v : Option V) (p : Slot) : But [i] σ (σ.set i v) env (env.set i p) :=
  ⟨List.length_set, List.length_set, fun j h => List.getElem?_set_ne (by simpa using Ne.symm (by simpa using h)), fun j h => List.getElem?_set_ne (by simpa using Ne.symm (by simpa using h))⟩
theorem dg_name {X : Cx} (i : Nat) {x : Str} {pos : Pos} (hN : X.N.Nodup) (hi : X.N[i]? = some x := by rfl) (hx : Loc X.env.scope x := by first | exact Or.inl rfl | exact Or.inr rfl) (hf : X.fn x = true ∨ X.env.scope.names.lookup x = some .local := by first | exact .inl rfl | exact .inr rfl) : DG X (.Name x pos) [i] (gSlot i) :=
  ⟨_, pg_name (i := i) hN hi hx hf, fun c σ H env st Q p v sr r h => h _ (sr.setPl i r) (But.set i σ env _ _)⟩
def gNilE : List PV → Env → Option Env := fun ps env => match ps with | [] => some env | _ => none
def gConsE (g : PV → Env → Option Env) (gs : List PV → Env → Option Env) : List PV → Env → Option Env := fun ps env => match ps with | p :: r => (g p env).bind (gs r) | [] => none
def gTupE (n : Nat) (gs : List PV → Env → Option Env) : PV → Env → Option Env := fun p env => match p with | .tup ps => if ps.length = n then gs ps env else none | _ => none
theorem dgs_nil {X : Cx} : DGs X [] [] gNilE := ⟨_, pgs_nil, fun c σ H env st Q ps vs sr r h => by
  cases r with
  | nil => exact ⟨rfl, h σ sr (.refl _ _ _)⟩
  | cons _ _ => exact h.elim⟩
theorem OwnS_back {X : Cx} {c : Ctl} {σ σ' : L2.St} {H : Hp} {env env' : Env} {st : Sto} : True := trivial
theorem dgs_cons {X : Cx} {e : Expr} {es : List Expr} {ix iy : List Nat} {g : PV → Env → Option Env} {gs : List PV → Env → Option Env} (h1 : DG X e ix g) (h2 : DGs X es iy gs)
    (hk : ∀ p env env', g p env = some env' → ∀ (i : Nat) (q : PV), env'[i]? = some (Slot.ow q) → env[i]? = some (Slot.ow q) ∧ i ∉ ix)
    (hs : (assignEach (e :: es) X.env).map (·.2) = assign e X.env :: (assignEach es X.env).map (·.2) := by rfl) : DGs X (e :: es) (ix ++ iy) (gConsE g gs) := by
  obtain ⟨t, p, h1⟩ := h1
  obtain ⟨u, q, h2⟩ := h2
  refine ⟨_, pgs_cons p q hs, fun c σ H env st Q ps vs sr r h => ?_⟩
  cases r with
  | nil => exact h.elim
  | @cons p ps v vs r rr =>
    have h : HypT X c σ H env st (ix ++ iy) ((g p env).bind (gs ps)) Q := h
    refine ⟨v, vs, rfl, h1 c σ H env st _ p v sr r ?_⟩
    cases e1 : g p env with
    | none => rw [e1] at h; exact h.elim
    | some env1 =>
      rw [e1] at h
      have h : HypT X c σ H env st (ix ++ iy) (gs ps env1) Q := h
      intro σ1 sr1 b1
      have ho : ∀ a, OwnS σ1 env1 a → OwnS σ env a := fun a ⟨i, q, z1, z2⟩ => by
        obtain ⟨y1, y2⟩ := hk p env env1 e1 i q z1
        exact ⟨i, q, y1, (b1.s i y2).symm.trans z2⟩
      have rr1 : RepA (gv X c) H (c.N σ1 env1) ps vs := RepA.loosen (fun a z => z.imp id fun z => z.imp id (ho a)) rr
      refine h2 c σ1 H env1 st Q ps vs sr1 rr1 ?_
      cases e2 : gs ps env1 with
      | none => rw [e2] at h; exact h.elim
      | some env2 => rw [e2] at h; exact fun σ2 sr2 b2 => h σ2 sr2 (b1.trans b2)
theorem gSlot_ow (i : Nat) : ∀ p env env', gSlot i p env = some env' → ∀ (j : Nat) (q : PV), env'[j]? = some (Slot.ow q) → env[j]? = some (Slot.ow q) ∧ j ∉ [i] := by
  intro p env env' h j q e
  cases h
  by_cases hj : i = j
  · subst hj
    by_cases hl : i < env.length
    · rw [List.getElem?_set_self hl] at e; cases e
    · rw [List.getElem?_eq_none (by rw [List.length_set]; omega)] at e; cases e
  · rw [List.getElem?_set_ne hj] at e
    exact ⟨e, by simpa using Ne.symm hj⟩
theorem dg_tup {X : Cx} {es : List Expr} {k : Nat} {ix : List Nat} {gs : List PV → Env → Option Env} {n : Nat} {pos : Pos} (hc : X.calm = true) (h : DGs X es ix gs) (hn : (assignEach es X.env).length = n := by rfl) (hst : (assignEach es X.env).findIdx? (·.1) = none := by rfl) : DG X (.Tuple es k pos) ix (gTupE n gs) := by
  obtain ⟨t, p, h⟩ := h
  refine ⟨_, pg_tup hc p hn hst, fun c σ H env st Q p v sr r hy => ?_⟩
  cases r with
  | tup a z rr =>
    have hy : HypT X c σ H env st ix (if _ = n then gs _ env else none) Q := hy
    split at hy
    · rename_i el
      exact ⟨_, _, rfl, a.sq, by rw [← rr.length]; exact el, h c σ H env st Q _ _ sr rr hy⟩
    · exact hy.elim
  | _ => exact hy.elim

/-! ### what is walked -/
def GhOkk (K : PySem.W.Frag) (mg : Str → Option Value) (l : Lv) (c : Ctl) (σ : L2.St) (env : Env) (H : Hp) (g : List (PV × V)) : Prop := ∀ p ∈ g, RepLv ⟨K, mg, c.sa⟩ H H c.NM (c.N σ env) p.1 p.2 l
abbrev GhOk (X : Cx) (l : Lv) (c : Ctl) (σ : L2.St) (env : Env) (H : Hp) (g : List (PV × V)) : Prop := GhOkk X.K X.mg l c σ env H g
structure WalkOkk (K : PySem.W.Frag) (mg : Str → Option Value) (l : Lv) (J : It) (items : List PV) (g : List (PV × V)) : Prop where
  goes : ∀ i c σ env H, i < items.length → GhOkk K mg l c σ env H g → J.go i H
  stops : ∀ c σ env H, GhOkk K mg l c σ env H g → J.stop items.length H
  yields : ∀ i c σ env H st x H', SRk K mg c σ H env st → GhOkk K mg l c σ env H g → J.yld i H x H' → i < items.length → ∃ p, items[i]? = some p ∧ Gro H H' ∧ Rep ⟨K, mg, c.sa⟩ H' (c.N σ env) p x
abbrev WalkOk (X : Cx) (l : Lv) (J : It) (items : List PV) (g : List (PV × V)) : Prop := WalkOkk X.K X.mg l J items g
def HypI (X : Cx) (W : WX) (l : Lv) (σ : L2.St) (env : Env) (c : Ctl) (H : Hp) (r : Res (List PV)) (R : It → Hp → Prop) : Prop :=
  match r with
  | .ok items st' => ∀ c' H' J g, SR X c' σ H' env st' → Post c c' H H' → WalkOk X l J items g → GhOk X l c' σ env H' g → R J H'
  | .er x st' => ∀ cls dd c' H', SR X c' σ H' env st' → Post c c' H H' → ExcAt X x cls dd H' → W cls dd σ H'
  | .no => False
def DI (X : Cx) (W : WX) (tg iter : Expr) (l : Lv) (d : Den (List PV)) : Prop :=
  ∃ wi, PI X tg iter wi ∧ ∀ c σ H env st R, SR X c σ H env st → HypI X W l σ env c H (d env st) R → wi σ H R
section
variable {X : Cx} {W : WX} {tg e a b : Expr} {da db : Den PV} {l : Lv}
theorem bindI {α β : Type} {R1 : Hp → Ctl → Hp → Sto → α → β → Prop} {σ : L2.St} {env : Env} {c : Ctl} {H : Hp} {r : Res α} {f : α → Sto → Res (List PV)} {Q1 : β → Hp → Prop} {R : It → Hp → Prop} (h : HypI X W l σ env c H (r.bind f) R)
    (k : ∀ p st1 v c1 H1, SR X c1 σ H1 env st1 → Post c c1 H H1 → R1 H c1 H1 st1 p v → HypI X W l σ env c1 H1 (f p st1) R → Q1 v H1) : HypG X W σ env R1 c H r Q1 := by
  cases r with
  | no => exact h
  | er x s => exact h
  | ok p s =>
    intro v c1 H1 sr po r
    refine k p s v c1 H1 sr po r ?_
    have h : HypI X W l σ env c H (f p s) R := h
    cases e : f p s with
    | no => rw [e] at h; exact h
    | er x s' =>
      rw [e] at h
      exact fun cls dd c' H' sr' po' ex => h cls dd c' H' sr' (po.trans po') ex
    | ok q s' =>
      rw [e] at h
      exact fun c' H' J g sr' po' w gh => h c' H' J g sr' (po.trans po') w gh
/-- a list, a tuple, a text -/
def itemsOf : PV → Option (List PV)
  | .lst xs => some xs
  | .tup xs => some xs
  | .str l => some (l.map fun c => .str [c])
  | _ => none
def xItems (d : Den PV) : Den (List PV) := fun env st => (d env st).bind fun p s => opt (itemsOf p) s
/-- a list, a tuple or a text, by the value that comes -/
def iAny (K : PySem.W.Frag) (tl : TE) : TI := fun σ H R => tl σ H fun x H1 => (∃ a, x = .ref a ∧ (∃ xs, SqL K H1 a xs) ∧ R (Itl K a) H1) ∨ (∃ a, x = .ref a ∧ (∃ xs, SqT K H1 a xs) ∧ R (Itt K a) H1) ∨ ∃ s, x = .str s ∧ R (Its s) H1
theorem pi_any {tl : TE} (hl : PE X e tl) : PI X tg e (iAny X.K tl) := by
  refine ⟨fun pins s σ H R I h => ?_⟩
  refine thn (hl.run pins s σ H _ I h) fun v s1 ⟨x, H1, I1, r1, q1⟩ => ?_
  rcases q1 with ⟨a, e, ⟨xs, hq⟩, q⟩ | ⟨a, e, ⟨xs, hq⟩, q⟩ | ⟨z, ez, q⟩
  · subst e
    cases r1
    obtain ⟨its, rv, p, hz⟩ := I1.list hq
    refine wpAny_pyIter_list p.isList ?_
    refine ⟨s1.heap.objs.size, [s1.heap.objs.size], _, _, H1, rfl, I1.kept (t' := s1.toks) fun b o e => Heap.get?_push_of_some _ e, turn_list a _, ⟨_, Heap.get?_push_size _ rfl, rfl, rfl⟩, fun b hb => ?_, q⟩
    have e : b = s1.heap.objs.size := by simpa using hb
    subst e
    exact I1.fpOk (Nat.le_refl _) (I1.hok.fresh (Nat.le_refl _))
  · subst e
    cases r1
    obtain ⟨its, rv, p, hz⟩ := I1.tuple hq
    refine wpAny_pyIter_tuple (show s1.heap.IsTuple a its.toArray from p) ?_
    refine ⟨s1.heap.objs.size, [s1.heap.objs.size], _, _, H1, rfl, I1.kept (t' := s1.toks) fun b o e => Heap.get?_push_of_some _ e, turn_tuple a _, ⟨_, Heap.get?_push_size _ rfl, rfl, rfl⟩, fun b hb => ?_, q⟩
    have e : b = s1.heap.objs.size := by simpa using hb
    subst e
    exact I1.fpOk (Nat.le_refl _) (I1.hok.fresh (Nat.le_refl _))
  · subst ez
    obtain ⟨t, rfl⟩ := r1
    cases ha : z.cps.all (· < 128)
    · exact wpAny_pyIter_wide ha (pi_one (tk := s1.toks) I1 _ (turn_str _ z t "str_iterator" (.inr rfl)) ⟨_, Heap.get?_push_size _ rfl, rfl, rfl⟩ q)
    · exact wpAny_pyIter_ascii ha (pi_one (tk := s1.toks) I1 _ (turn_str _ z t "str_ascii_iterator" (.inl rfl)) ⟨_, Heap.get?_push_size _ rfl, rfl, rfl⟩ q)
theorem walk_lstOk {a : Addr} {ps : List PV} (hl : l ≠ .m) : WalkOk X l (Itl X.K a) ps [(.lst ps, .ref a)] := by
  have key : ∀ {c σ env H}, GhOk X l c σ env H [(.lst ps, .ref a)] → ∃ vs, H a = some (.lst vs) ∧ RepA (gv X c) H (c.N σ env) ps vs := fun {c σ env H} g => by
    obtain ⟨b, vs, e, h1, _, h2⟩ := rv_lst hl (g _ (List.mem_singleton.mpr rfl))
    cases e
    exact ⟨vs, h1, h2⟩
  refine ⟨fun i c σ env H hi g => ?_, fun c σ env H g => ?_, fun i c σ env H st x H' sr g y hi => ?_⟩
  · obtain ⟨vs, h1, h2⟩ := key g
    have : i < vs.length := by rw [← h2.length]; exact hi
    exact ⟨vs, vs[i], SqL.of h1, by simp [this]⟩
  · obtain ⟨vs, h1, h2⟩ := key g
    exact ⟨vs, SqL.of h1, by rw [h2.length]; exact Nat.le_refl _⟩
  · obtain ⟨vs, h1, h2⟩ := key g
    obtain ⟨rfl, y⟩ := y
    obtain ⟨p, e1, e2⟩ := h2.getV (y vs (SqL.of h1))
    exact ⟨p, e1, fun _ _ q => q, e2⟩
theorem walk_tupOk {a : Addr} {ps : List PV} : WalkOk X .c (Itt X.K a) ps [(.tup ps, .ref a)] := by
  have key : ∀ {c σ env H}, GhOk X .c c σ env H [(.tup ps, .ref a)] → ∃ vs, SqT X.K H a vs ∧ RepA (gv X c) H (c.N σ env) ps vs := fun {c σ env H} g => by
    obtain ⟨b, vs, e, h1, _, h2⟩ := rv_tup (by decide) (g _ (List.mem_singleton.mpr rfl))
    cases e
    exact ⟨vs, h1.sq, h2⟩
  refine ⟨fun i c σ env H hi g => ?_, fun c σ env H g => ?_, fun i c σ env H st x H' sr g y hi => ?_⟩
  · obtain ⟨vs, h1, h2⟩ := key g
    have : i < vs.length := by rw [← h2.length]; exact hi
    exact ⟨vs, vs[i], h1, by simp [this]⟩
  · obtain ⟨vs, h1, h2⟩ := key g
    exact ⟨vs, h1, by rw [h2.length]; exact Nat.le_refl _⟩
  · obtain ⟨vs, h1, h2⟩ := key g
    obtain ⟨rfl, y⟩ := y
    obtain ⟨p, e1, e2⟩ := h2.getV (y vs h1)
    exact ⟨p, e1, fun _ _ q => q, e2⟩
theorem walk_strOk {s : List Nat} (u : ∀ c ∈ s, c < 1114112) : WalkOk X l (Its (mkS s)) (s.map fun c => .str [c]) [] := by
  have hz : (mkS s).cps.size = s.length := by simp [mkS]
  refine ⟨fun i c σ env H hi g => ?_, fun c σ env H g => ?_, fun i c σ env H st x H' sr g y hi => ?_⟩
  · rw [List.length_map] at hi
    show i < (mkS s).cps.size
    rw [hz]; exact hi
  · show (mkS s).cps.size ≤ _
    rw [hz, List.length_map]; exact Nat.le_refl _
  · obtain ⟨rfl, ch, h1, rfl⟩ := y
    have h2 : s[i]? = some ch := by
      have : (mkS s).cps[i]? = s[i]? := by simp [mkS]
      rw [this] at h1; exact h1
    exact ⟨.str [ch], by rw [List.getElem?_map, h2]; rfl, fun _ _ q => q, .str [ch] (by rw [sizeLine_eq]; show 1 ≤ 16777216; decide) (by simpa using u ch (List.mem_of_getElem? h2))⟩
theorem optI {o : Option (List PV)} {σ : L2.St} {env : Env} {c : Ctl} {H : Hp} {st : Sto} {R : It → Hp → Prop} (h : HypI X W l σ env c H (opt o st) R) : ∃ xs, o = some xs ∧ HypI X W l σ env c H (.ok xs st) R := by
  cases o with
  | none => exact h.elim
  | some xs => exact ⟨xs, rfl, h⟩
/-- l = .i: one's own list -/
theorem di_seq (ha : DE X W a l da) (hl : l ≠ .m := by decide) (hl2 : l ≠ .f := by decide) : DI X W tg a l (xItems da) := by
  obtain ⟨t, p, ha⟩ := ha
  refine ⟨_, pi_any p, fun c σ H env st R sr h => ha c σ H env st _ sr (bindI h fun p st1 v c1 H1 sr1 po r h1 => ?_)⟩
  obtain ⟨xs, e, h2⟩ := optI h1
  have r' : RV X c1 σ env H1 H1 p v l := (Post.refl c1 H1).lv hl2 r.1
  cases p with
  | lst ps =>
    cases e
    obtain ⟨a, vs, e1, ha, _, _⟩ := rv_lst hl r.1
    subst e1
    exact .inl ⟨a, rfl, ⟨vs, SqL.of ha⟩, h2 c1 H1 _ _ sr1 (.refl _ _) (walk_lstOk hl) fun q hq => by rw [List.mem_singleton.mp hq]; exact r'⟩
  | tup ps =>
    cases e
    cases l with
    | c =>
      obtain ⟨a, vs, e1, ha, _, _⟩ := rv_tup hl r.1
      subst e1
      exact .inr (.inl ⟨a, rfl, ⟨vs, ha.sq⟩, h2 c1 H1 _ _ sr1 (.refl _ _) walk_tupOk fun q hq => by rw [List.mem_singleton.mp hq]; exact r'⟩)
    | i => obtain ⟨_, _, _, o⟩ := r.1; exact o.elim
    | m => exact absurd rfl hl
    | f => exact absurd rfl hl2
  | str s =>
    cases e
    obtain ⟨e1, _, u⟩ := rv_str r.1
    subst e1
    exact .inr (.inr ⟨_, rfl, h2 c1 H1 _ [] sr1 (.refl _ _) (walk_strOk u) fun q hq => absurd hq (by simp)⟩)
  | _ => cases e

/-- range -/
def rangeL (lo : Int) (n : Nat) : List PV := (List.range n).map fun i : Nat => .int (lo + (i : Int))
theorem walk_rngOk {lo : Int} {n : Nat} : WalkOk X l (Itr lo n) (rangeL lo n) [] := by
  have hz : (rangeL lo n).length = n := by simp [rangeL]
  refine ⟨fun i c σ env H hi g => ?_, fun c σ env H g => ?_, fun i c σ env H st x H' sr g y hi => ?_⟩
  · show i < n; rw [hz] at hi; exact hi
  · show n ≤ _; rw [hz]; exact Nat.le_refl _
  · rw [hz] at hi
    obtain ⟨rfl, rfl⟩ := y
    exact ⟨.int (lo + i), by simp [rangeL, hi], fun _ _ q => q, .int _⟩
theorem p62 : (2 : Int) ^ 62 = 4611686018427387904 := by decide
def xRng1 (d : Den PV) : Den (List PV) := fun env st => (d env st).bind fun p s => match p with | .int j => if -4611686018427387904 ≤ j ∧ j < 4611686018427387904 then .ok (rangeL 0 j.toNat) s else .no | _ => .no
theorem di_rng1 {p pos : Pos} (hg : Gl X "range") (hm : X.mg "range" = none) (ha : DE X W a .c da) (hs : starEach [a] X.env = [(false, eval a X.env)] := by rfl) : DI X W tg (.Call (.Name "range" p) [a] [] pos) .c (xRng1 da) := by
  obtain ⟨t, pe, ha⟩ := ha
  refine ⟨_, pi_range1 hg hm (pa_cons pe pa_nil hs) hs, fun c σ H env st R sr h => ha c σ H env st _ sr (bindI h fun p st1 v c1 H1 sr1 po r h1 => ?_)⟩
  cases p with
  | int j =>
    have h1 : HypI X W .c σ env c1 H1 (if -4611686018427387904 ≤ j ∧ j < 4611686018427387904 then .ok (rangeL 0 j.toNat) st1 else .no) R := h1
    split at h1
    · rename_i hj
      rw [← p62] at hj
      exact ⟨j, by rw [rv_int r.1], hj.1, hj.2, h1 c1 H1 _ [] sr1 (.refl _ _) walk_rngOk fun q hq => absurd hq (by simp)⟩
    · exact h1.elim
  | _ => exact h1.elim
def xRng2 (d e : Den PV) : Den (List PV) := fun env st => (d env st).bind fun p s => (e env s).bind fun q s' => match p, q with
  | .int i, .int j => if -4611686018427387904 ≤ i ∧ i < 4611686018427387904 ∧ -4611686018427387904 ≤ j ∧ j < 4611686018427387904 then .ok (rangeL i (j - i).toNat) s' else .no
  | _, _ => .no
theorem di_rng2 {p pos : Pos} (hg : Gl X "range") (hm : X.mg "range" = none) (ha : DE X W a .c da) (hb : DE X W b .c db) (hs : starEach [a, b] X.env = [(false, eval a X.env), (false, eval b X.env)] := by rfl) (hs2 : starEach [b] X.env = [(false, eval b X.env)] := by rfl) :
    DI X W tg (.Call (.Name "range" p) [a, b] [] pos) .c (xRng2 da db) := by
  obtain ⟨ta, pa, ha⟩ := ha
  obtain ⟨tb, pb, hb⟩ := hb
  refine ⟨_, pi_range2 hg hm (pa_cons pa (pa_cons pb pa_nil hs2) (by rw [hs, hs2])) hs hs2, fun c σ H env st R sr h => ha c σ H env st _ sr (bindI h fun p st1 v c1 H1 sr1 po r h1 => ?_)⟩
  refine hb c1 σ H1 env st1 _ sr1 (bindI h1 fun q st2 u c2 H2 sr2 po2 r2 h2 => ?_)
  cases p with
  | int i =>
    cases q with
    | int j =>
      have h2 : HypI X W .c σ env c2 H2 (if -4611686018427387904 ≤ i ∧ i < 4611686018427387904 ∧ -4611686018427387904 ≤ j ∧ j < 4611686018427387904 then .ok (rangeL i (j - i).toNat) st2 else .no) R := h2
      split at h2
      · rename_i hj
        rw [← p62] at hj
        exact ⟨i, j, by rw [rv_int r.1, rv_int r2.1], hj, h2 c2 H2 _ [] sr2 (.refl _ _) walk_rngOk fun q hq => absurd hq (by simp)⟩
      · exact h2.elim
    | _ => exact h2.elim
  | _ => exact h2.elim
/-- range(a, b, -1) -/
def downL (lo : Int) (n : Nat) : List PV := (List.range n).map fun i : Nat => .int (lo - (i : Int))
theorem walk_downOk {lo : Int} {n : Nat} : WalkOk X l (Itc lo (-1) n) (downL lo n) [] := by
  have hz : (downL lo n).length = n := by simp [downL]
  refine ⟨fun i c σ env H hi g => ?_, fun c σ env H g => ?_, fun i c σ env H st x H' sr g y hi => ?_⟩
  · show i < n; rw [hz] at hi; exact hi
  · show n ≤ _; rw [hz]; exact Nat.le_refl _
  · rw [hz] at hi
    obtain ⟨rfl, rfl⟩ := y
    refine ⟨.int (lo - i), by simp [downL, hi], fun _ _ q => q, ?_⟩
    have : lo + (i : Nat) * (-1 : Int) = lo - i := by omega
    rw [this]
    exact .int _
def xDown (d e : Den PV) : Den (List PV) := fun env st => (d env st).bind fun p s => (e env s).bind fun q s' => match p, q with
  | .int i, .int j => if -4611686018427387904 ≤ i ∧ i < 4611686018427387904 ∧ -4611686018427387904 ≤ j ∧ j < 4611686018427387904 then .ok (downL i (i - j).toNat) s' else .no
  | _, _ => .no
end
end Vl

set_option Elab.async false
set_option linter.all false
set_option maxRecDepth 100000
set_option maxHeartbeats 1000000
namespace Vl
open PySem PySem.Spec PyProof.Rows L2

/-! ### slots forgotten -/
def wipeE (env : Env) : List Nat → Env
  | [] => env
  | v :: vs => (wipeE env vs).set v .no
theorem wipeE_length (env : Env) : ∀ vs : List Nat, (wipeE env vs).length = env.length
  | [] => rfl
  | v :: vs => by unfold wipeE; rw [List.length_set, wipeE_length env vs]
theorem wipeE_some {env : Env} {i : Nat} {x : Slot} (hx : x ≠ .no) : ∀ {vs : List Nat}, (wipeE env vs)[i]? = some x → env[i]? = some x ∧ i ∉ vs
  | [], h => ⟨h, by simp⟩
  | v :: vs, h => by
    unfold wipeE at h
    by_cases hi : v = i
    · subst hi
      by_cases hv : v < (wipeE env vs).length
      · rw [List.getElem?_set_self hv] at h
        exact absurd (Option.some.inj h).symm hx
      · rw [List.getElem?_eq_none (by simpa using hv)] at h; cases h
    · rw [List.getElem?_set_ne hi] at h
      obtain ⟨h1, h2⟩ := wipeE_some hx h
      exact ⟨h1, by simp only [List.mem_cons, not_or]; exact ⟨fun e => hi e.symm, h2⟩⟩
theorem wipeE_out {env : Env} {i : Nat} : ∀ {vs : List Nat}, i ∉ vs → (wipeE env vs)[i]? = env[i]?
  | [], _ => rfl
  | v :: vs, h => by
    unfold wipeE
    rw [List.getElem?_set_ne (fun e => h (by rw [e]; exact List.mem_cons_self))]
    exact wipeE_out fun z => h (List.mem_cons_of_mem _ z)
theorem wipe_get {σ : L2.St} {i : Nat} : ∀ {vs : List Nat}, (wipe σ vs)[i]? = if i ∈ vs then (if i < σ.length then some none else none) else σ[i]?
  | [] => by simp [wipe]
  | v :: vs => by
    unfold wipe
    by_cases hi : v = i
    · subst hi
      rw [if_pos List.mem_cons_self]
      by_cases hv : v < σ.length
      · rw [if_pos hv, List.getElem?_set_self (by rw [wipe_length]; exact hv)]
      · rw [if_neg hv, List.getElem?_eq_none (by rw [List.length_set, wipe_length]; omega)]
    · rw [List.getElem?_set_ne hi, wipe_get (vs := vs)]
      have : (i ∈ v :: vs) ↔ i ∈ vs := by simp [Ne.symm hi]
      simp only [this]
theorem wipe_ext {σ σ' : L2.St} {vs : List Nat} (hl : σ'.length = σ.length) (h : ∀ i, i ∉ vs → σ'[i]? = σ[i]?) : wipe σ' vs = wipe σ vs := by
  apply List.ext_getElem?
  intro i
  rw [wipe_get, wipe_get, hl]
  split
  · rfl
  · exact h i (by assumption)
def notOwB (env : Env) (vs : List Nat) : Bool := vs.all fun i => match env[i]? with | some (.ow _) => false | _ => true
theorem own_wipe {σ : L2.St} {env : Env} {vs : List Nat} (h : notOwB env vs = true) : ∀ a, OwnS (wipe σ vs) (wipeE env vs) a ↔ OwnS σ env a := fun a => by
  constructor
  · rintro ⟨i, pv, h1, h2⟩
    exact ⟨i, pv, (wipeE_some (by simp) h1).1, (wipe_some h2).1⟩
  · rintro ⟨i, pv, h1, h2⟩
    have : i ∉ vs := fun z => by
      have := List.all_eq_true.mp h i z
      rw [h1] at this; cases this
    exact ⟨i, pv, by rw [wipeE_out this]; exact h1, by rw [wipe_get, if_neg this]; exact h2⟩
theorem SRk.wipe {X : Cx} {c : Ctl} {σ : L2.St} {H : Hp} {env : Env} {st : Sto} (sr : SR X c σ H env st) {vs : List Nat} (h : notOwB env vs = true) : SR X c (L2.wipe σ vs) H (wipeE env vs) st := by
  refine sr.weakN (by rw [wipeE_length, wipe_length]; exact sr.len) (fun a z => (own_wipe h a).mp z) (fun i pv e => ?_) (fun i pv e => ?_)
  · obtain ⟨e1, e2⟩ := wipeE_some (by simp) e
    obtain ⟨v, h1, h2⟩ := sr.pl i pv e1
    exact ⟨v, by rw [wipe_get, if_neg e2]; exact h1, h2⟩
  · obtain ⟨e1, e2⟩ := wipeE_some (by simp) e
    exact ⟨e1, by rw [wipe_get, if_neg e2]⟩
/-- back to the wiped slots behind a target -/
theorem SRk.rewipe {X : Cx} {c : Ctl} {σ σ' : L2.St} {H : Hp} {env env' : Env} {st : Sto} {vs ix : List Nat} (sr : SR X c σ' H env' st) (b : But ix (L2.wipe σ vs) σ' (wipeE env vs) env') (hix : ∀ i ∈ ix, i ∈ vs) (hl : env.length = σ.length) : SR X c (L2.wipe σ vs) H (wipeE env vs) st ∧ ∀ a, OwnS (L2.wipe σ vs) (wipeE env vs) a → OwnS σ' env' a := by
  have ow : ∀ (i : Nat) (pv : PV), (wipeE env vs)[i]? = some (Slot.ow pv) → env'[i]? = some (Slot.ow pv) ∧ (L2.wipe σ vs)[i]? = σ'[i]? := fun i pv e => by
    have n : i ∉ ix := fun z => (wipeE_some (by simp) e).2 (hix i z)
    exact ⟨by rw [b.e i n]; exact e, (b.s i n).symm⟩
  have ho : ∀ a, OwnS (L2.wipe σ vs) (wipeE env vs) a → OwnS σ' env' a := fun a ⟨i, pv, h1, h2⟩ => by
    obtain ⟨e1, e2⟩ := ow i pv h1
    exact ⟨i, pv, e1, e2.symm.trans h2⟩
  refine ⟨sr.weakN (by rw [wipeE_length, wipe_length]; exact hl) ho (fun i pv e => ?_) ow, ho⟩
  have n : i ∉ ix := fun z => (wipeE_some (by simp) e).2 (hix i z)
  obtain ⟨v, h1, h2⟩ := sr.pl i pv (by rw [b.e i n]; exact e)
  exact ⟨v, by rw [← b.s i n]; exact h1, h2⟩

/-! ### list comprehensions -/
abbrev WF : WX := fun _ _ _ _ => False
def compL (g : PV → Env → Option Env) (dt : Den Bool) (de : Den PV) : List PV → Env → Sto → Res (List PV)
  | [], _, st => .ok [] st
  | p :: ps, env, st => match g p env with
    | none => .no
    | some env' => match dt env' st with
      | .ok true s1 => (match de env' s1 with
        | .ok v s2 => (match compL g dt de ps env s2 with
          | .ok vs s => .ok (v :: vs) s
          | _ => .no)
        | _ => .no)
      | .ok false s1 => compL g dt de ps env s1
      | _ => .no
def xLc (vs : List Nat) (g : PV → Env → Option Env) (dt : Den Bool) (de : Den PV) (di : Den (List PV)) : Den PV := fun env st =>
  (di env st).bind fun items s => if notOwB env vs = true ∧ items.length ≤ 16777216 then (compL g dt de items (wipeE env vs) s).bind fun ps s' => .ok (.lst ps) s' else .no
theorem compL_ok {g : PV → Env → Option Env} {dt : Den Bool} {de : Den PV} : ∀ {items : List PV} {env : Env} {st : Sto} {x : Exn} {s : Sto}, compL g dt de items env st ≠ .er x s
  | [], _, _, _, _ => by simp [compL]
  | p :: ps, env, st, x, s => by
    unfold compL
    split
    · simp
    · split
      · split
        · split <;> simp
        · simp
      · exact compL_ok
      · simp
def DTs (X : Cx) (W : WX) (ifs : List Expr) (dt : Den Bool) : Prop := PTs X ifs (TDT X W dt)
def xYes : Den Bool := fun _ st => .ok true st
theorem dts_nil {X : Cx} {W : WX} : DTs X W [] xYes := ⟨fun pins s σ H Q I ⟨c, env, st, sr, h⟩ => pts_nil.run pins s σ H Q I (h true c H sr (.refl _ _) rfl)⟩
theorem dts_one {X : Cx} {W : WX} {e : Expr} {dt : Den Bool} (h : DT X W e dt) : DTs X W [e] dt := pts_one h.canon
theorem bindGI {X : Cx} {W : WX} {l : Lv} {γ δ : Type} {σ : L2.St} {env : Env} {c : Ctl} {H : Hp} {R2 : Hp → Ctl → Hp → Sto → γ → δ → Prop} {r : Res (List PV)} {f : List PV → Sto → Res γ} {Q2 : δ → Hp → Prop} {R : It → Hp → Prop} (b2 : Back R2)
    (h : HypG X W σ env R2 c H (r.bind f) Q2)
    (k : ∀ items st1 c1 H1 J g, SR X c1 σ H1 env st1 → Post c c1 H H1 → WalkOk X l J items g → GhOk X l c1 σ env H1 g → HypG X W σ env R2 c1 H1 (f items st1) Q2 → R J H1) : HypI X W l σ env c H r R := by
  cases r with
  | no => exact h
  | er x s => exact h
  | ok items s =>
    intro c1 H1 J g sr po w gh
    refine k items s c1 H1 J g sr po w gh ?_
    have h : HypG X W σ env R2 c H (f items s) Q2 := h
    cases e : f items s with
    | no => rw [e] at h; exact h
    | er x s' =>
      rw [e] at h
      exact fun cls dd c' H' sr' po' ex => h cls dd c' H' sr' (po.trans po') ex
    | ok q s' =>
      rw [e] at h
      exact fun v' c' H' sr' po' r' => h v' c' H' sr' (po.trans po') (b2 _ _ _ _ _ _ _ po.dm r')
section
variable {X : Cx} {W : WX} {l : Lv} {σ : L2.St} {env : Env}
/-- what holds between two turns -/
structure CInv (X : Cx) (l : Lv) (σ : L2.St) (env : Env) (vs : List Nat) (g : PV → Env → Option Env) (dt : Den Bool) (de : Den PV) (items : List PV) (gs : List (PV × V)) (D : Addr) (c1 : Ctl) (H1 : Hp) (ps : List PV) (s' : Sto) (i : Nat) (H : Hp) : Prop where
  ex : ∃ c2 st2 acc vacc rest, SR X (cD c2 D) (L2.wipe σ vs) H (wipeE env vs) st2 ∧ Post c1 c2 H1 H ∧ ¬ c2.S D ∧ H D = some (.lst vacc) ∧ RepA (gv X c2) H ((cD c2 D).N (L2.wipe σ vs) (wipeE env vs)) acc vacc ∧ acc.length ≤ i ∧
    compL g dt de (items.drop i) (wipeE env vs) st2 = .ok rest s' ∧ acc ++ rest = ps
end
section
variable {X : Cx} {W : WX} {l : Lv} {tg iter elt : Expr} {ifs : List Expr} {scope : Scope} {own : List (Str × Nat)} {pos : Pos} {ix : List Nat} {g : PV → Env → Option Env} {dt : Den Bool} {de : Den PV} {di : Den (List PV)}
theorem lc_sound {wi : TI} (hl : l ≠ .f) {vs : List Nat} (hi : ∀ c σ H env st R, SR X c σ H env st → HypI X W l σ env c H (di env st) R → wi σ H R) (hix : ∀ i ∈ ix, i ∈ vs)
    {c : Ctl} {σ : L2.St} {H : Hp} {env : Env} {st : Sto} {Q : VK} (sr : SR X c σ H env st) (h : HypG X W σ env (RL X σ env .f) c H (xLc vs g dt de di env st) Q) : tLc wi (TGd X ix g) (TDT X WF dt) (TD X WF .c de) vs σ H Q := by
  refine hi c σ H env st _ sr (bindGI back_RL h fun items st1 c1 H1 J gs sr1 po1 w gh h1 => ?_)
  split at h1
  case isFalse => exact h1.elim
  rename_i cond
  obtain ⟨cow, csz⟩ := cond
  have sz : sizeLine = 16777216 := sizeLine_eq
  cases ec : compL g dt de items (wipeE env vs) st1 with
  | no => rw [ec] at h1; exact h1.elim
  | er x s => exact absurd ec compL_ok
  | ok ps s' =>
  rw [ec] at h1
  have h1 : HypG X W σ env (RL X σ env .f) c1 H1 (.ok (.lst ps) s') Q := h1
  intro D hD
  have hD0 : c1.H0 D = none := Classical.byContradiction fun z => sr1.d0 D z hD
  have hDS : ¬ c1.S D := fun z => sr1.dm D (.inl z) hD
  refine ⟨fun i m H' => m = items.length - i ∧ i ≤ items.length ∧ CInv X l σ env vs g dt de items gs D c1 H1 ps s' i H', ⟨items.length, by simp, Nat.zero_le _, ⟨c1, st1, [], [], ps, ?_, .updD (.refl _ _) hD, hDS, upd_same, .nil, Nat.zero_le _, ec, rfl⟩⟩, ?_⟩
  · have q := (sr1.newM (o := .lst []) hD).wipe (vs := vs) cow
    exact q
  · rintro i m H' ⟨rfl, hin, ⟨c2, st2, acc, vacc, rest, sb, po, nS, hDv, racc, hal, hc, hps⟩⟩
    have hM2 : c2.M = c1.M := po.M
    -- the state outside
    have hN : ∀ a, c2.N σ env a → (cD c2 D).N (L2.wipe σ vs) (wipeE env vs) a := fun a z => by
      rcases z with z | z | z
      · exact .inl z
      · exact .inr (.inl (.inl z))
      · exact .inr (.inr ((own_wipe cow a).mpr z))
    have so : SR X c2 σ H' env st2 := sr1.post po ⟨sb.sto.len, sb.sto.nd, sb.sto.own, fun n xs e => by
      obtain ⟨a, vs', h1, h2, h3, h4⟩ := sb.sto.lst n xs e
      exact ⟨a, vs', h1, h2, h3, RepA.loosen hN h4⟩⟩ (fun a z => sb.dm a (.inl z)) sb.fs
    -- the walked things within
    have hdD : ∀ a, H1 a ≠ none → a ≠ D := fun a q z => q (by rw [z]; exact hD)
    have gb : GhOk X l (cD c2 D) (L2.wipe σ vs) (wipeE env vs) H' gs := fun p hp => by
      have q := gh p hp
      have k1 := po.keepsM
      have k2 := po.keeps (OwnS σ env)
      refine RepLv.mono hl po.gle ⟨k1.ex, k1.rd, fun a hd n z => ?_⟩ ⟨k2.ex, k2.rd, fun a hd n z => ?_⟩ (fun a o n e => po.fr a o e fun z => n (.inl z)) q
      · rcases z with z | z | z
        · exact k1.n a hd n (.inl z)
        · exact k1.n a hd n (.inr z)
        · exact hdD a hd z
      · rcases z with z | (z | z) | z
        · exact k2.n a hd n (.inl z)
        · exact k2.n a hd n (.inr (.inl z))
        · exact hdD a hd z
        · exact k2.n a hd n (.inr (.inr ((own_wipe cow a).mp z)))
    by_cases hlt : i < items.length
    · refine .inr ⟨w.goes i _ _ _ H' hlt gb, fun H2 => CInv X l σ env vs g dt de items gs D c1 H1 ps s' (i + 1) H2, fun H2 q => ⟨items.length - (i + 1), by omega, rfl, hlt, q⟩, fun x H2 hy => ?_⟩
      obtain ⟨p, ep, gro, rp⟩ := w.yields i _ _ _ H' st2 x H2 sb gb hy hlt
      have hdrop : items.drop i = p :: items.drop (i + 1) := by
        rw [List.drop_eq_getElem_cons hlt]
        rw [List.getElem?_eq_getElem hlt] at ep
        rw [Option.some.inj ep]
      rw [hdrop] at hc
      unfold compL at hc
      cases eg : g p (wipeE env vs) with
      | none => rw [eg] at hc; cases hc
      | some env' =>
      rw [eg] at hc
      simp only at hc
      have sb2 := sb.grow gro
      have hD2 : H2 D = some (.lst vacc) := gro D _ hDv
      have poA : Post (cD c2 D) (cD c2 D) H' H2 := .grow gro
      refine ⟨cD c2 D, wipeE env vs, st2, p, sb2, rp, ?_⟩
      rw [eg]
      intro σ' sr' bt
      refine ⟨wipe_ext (by rw [bt.l1, wipe_length]) fun j hj => by rw [bt.s j fun z => hj (hix j z), wipe_get, if_neg hj], ?_⟩
      cases et : dt env' st2 with
      | no => rw [et] at hc; cases hc
      | er x s => rw [et] at hc; cases hc
      | ok b s3 =>
      rw [et] at hc
      refine ⟨cD c2 D, env', st2, sr', ?_⟩
      rw [et]
      intro b' c3 H3 sr3 po3 eb
      cases (show b = b' from eb)
      cases b with
      | false =>
        rw [if_neg Bool.false_ne_true]
        have rw3 := (sr3.rewipe bt hix so.len).1
        have poB := poA.trans po3
        have e3 := cD_un poB
        refine ⟨{ c3 with M := c2.M }, s3, acc, vacc, rest, by rw [e3]; exact rw3, po.trans poB.unD, fun z => ?_, poB.fr D _ hDv nS, ?_, by omega, hc, hps⟩
        · exact (poB.S D z).elim nS (by rw [hDv]; simp)
        · rw [e3]
          exact racc.mono (poB.gle (X := X)) (poB.keeps (OwnS (L2.wipe σ vs) (wipeE env vs)))
      | true =>
        rw [if_pos rfl]
        cases ee : de env' s3 with
        | no => simp only [ee] at hc; cases hc
        | er x s => simp only [ee] at hc; cases hc
        | ok v s4 =>
        simp only [ee] at hc
        cases ecr : compL g dt de (items.drop (i + 1)) (wipeE env vs) s4 with
        | no => rw [ecr] at hc; cases hc
        | er x s => rw [ecr] at hc; cases hc
        | ok rest' s5 =>
        rw [ecr] at hc
        cases hc
        refine ⟨c3, env', s3, sr3, ?_⟩
        rw [ee]
        intro y c4 H4 sr4 po4 ry
        have poB := (poA.trans po3).trans po4
        have e4 := cD_un poB
        have hD4 : H4 D = some (.lst vacc) := poB.fr D _ hDv nS
        have nS4 : ¬ c4.S D := fun z => (poB.S D z).elim nS (by rw [hDv]; simp)
        have hM4 : c4.M D := by rw [poB.M]; exact .inr rfl
        have h04 : c4.H0 D = none := by rw [poB.H0]; show c2.H0 D = none; rw [po.H0]; exact hD0
        obtain ⟨rw4, ho4⟩ := sr4.rewipe bt hix so.len
        have sb5 := rw4.setM (o := .lst (vacc ++ [y])) hM4 nS4 h04 (by rw [hD4]; simp)
        have lenacc : acc.length = vacc.length := racc.length
        have kD : Kp H4 (upd H4 D (.lst (vacc ++ [y]))) (c4.N (L2.wipe σ vs) (wipeE env vs)) (c4.N (L2.wipe σ vs) (wipeE env vs)) := .of (fun a u e n => by
          have : a ≠ D := fun z => n (by rw [z]; exact .inr (.inl hM4))
          rw [upd_ne this]; exact e) fun _ _ n => n
        refine ⟨vacc, hD4, by omega, { c4 with M := c2.M }, s4, acc ++ [v], vacc ++ [y], rest', by rw [e4]; exact sb5, (po.trans poB.unD).updD hD, nS4, upd_same, ?_, by rw [List.length_append]; simp; omega, ecr, by rw [List.append_assoc]; exact hps⟩
        rw [e4]
        have r1 : RepA (gv X c4) H4 (c4.N (L2.wipe σ vs) (wipeE env vs)) acc vacc := racc.mono (poB.gle (X := X)) (poB.keeps (OwnS (L2.wipe σ vs) (wipeE env vs)))
        have r2 : Rep (gv X c4) H4 (c4.N (L2.wipe σ vs) (wipeE env vs)) v y := Rep.loosen (fun a z => z.imp id fun z => z.imp id (ho4 a)) ry.1
        exact (r1.append (.cons r2 .nil)).mono (.refl _) kD
    · have ei : i = items.length := by omega
      subst ei
      rw [List.drop_length] at hc
      unfold compL at hc
      cases hc
      rw [List.append_nil] at hps
      subst hps
      refine .inl ⟨w.stops _ _ _ H' gb, ?_⟩
      have hND : ∀ a, (cD c2 D).N σ env a → (cD c2 D).N (L2.wipe σ vs) (wipeE env vs) a := fun a z => by
        rcases z with z | z | z
        · exact .inl z
        · exact .inr (.inl z)
        · exact .inr (.inr ((own_wipe cow a).mpr z))
      have nM : ¬ c2.NM D := fun z => by
        rcases z with z | z
        · exact nS z
        · rw [hM2] at z; exact sr1.dm D (.inr z) hD
      refine h1 (.ref D) c2 H' so po ⟨⟨D, rfl, hD, nM, vacc, hDv, by omega, RepA.loosen hN racc⟩, fun _ => ⟨D, rfl, hD, nS, ⟨vacc, hDv, by omega, RepA.loosen hND racc⟩, ?_⟩⟩
      exact sr1.postD po hD (by rw [hDv]; simp) ⟨sb.sto.len, sb.sto.nd, sb.sto.own, fun n xs e => by
        obtain ⟨a, vs', h1, h2, h3, h4⟩ := sb.sto.lst n xs e
        exact ⟨a, vs', h1, h2, h3, RepA.loosen hND h4⟩⟩ (fun a z => sb.dm a (.inl z)) sb.fs
theorem d_lc (vs : List Nat) (hc : X.calm = true) (hN : X.N.Nodup) (hi : DI X W tg iter l di) (ok : BlkOk X.N X.env.scope scope own)
    (hg : ∀ (s : Shared) (H : Hp) (C : Addr) (cl : List (Str × Addr)) (fp : List Addr), DG (X.blk s H scope (compEnvC scope cl C X.env) fp) tg ix g) (ht : ∀ (s : Shared) (H : Hp) (C : Addr) (cl : List (Str × Addr)) (fp : List Addr), DTs (X.blk s H scope (compEnvC scope cl C X.env) fp) WF ifs dt)
    (he : ∀ (s : Shared) (H : Hp) (C : Addr) (cl : List (Str × Addr)) (fp : List Addr), DE (X.blk s H scope (compEnvC scope cl C X.env) fp) WF elt .c de) (hv : own.map (·.2) = vs := by rfl) (hix : ∀ i ∈ ix, i ∈ vs := by decide) (hl : l ≠ .f := by decide) (hs : ∀ x, foldedSetIterable iter X.env x = pure x := by intro _; rfl) :
    DE X W (.ListComp elt [⟨tg, iter, ifs, 0⟩] scope pos) .f (xLc vs g dt de di) := by
  obtain ⟨wi, pi, hi⟩ := hi
  subst hv
  exact ⟨_, pe_lc (g := TGd X ix g) (tt := TDT X WF dt) (te := TD X WF .c de) hc hN pi ok (fun s H C cl fp => (hg s H C cl fp).canon) (fun s H C cl fp => ht s H C cl fp) (fun s H C cl fp => (he s H C cl fp).canon) hs, fun c σ H env st Q sr h => lc_sound hl hi hix sr h⟩
end
end Vl

set_option Elab.async false
set_option linter.all false
set_option maxRecDepth 100000
set_option maxHeartbeats 1000000
namespace Vl
open PySem PySem.Spec PyProof.Rows L2

inductive SRes where
  | nx (e : Env) (s : Sto) | rt (p : PV) (s : Sto) | bk (e : Env) (s : Sto) | ct (e : Env) (s : Sto) | er (x : Exn) (s : Sto) | no
abbrev DenS := Env → Sto → SRes
@[reducible] def SRes.andThen (r : SRes) (f : DenS) : SRes := match r with
  | .nx e s => f e s
  | r => r
/-- an expression ahead of a statement -/
@[reducible] def Res.thenS {α : Type} : Res α → (α → Sto → SRes) → SRes
  | .ok a s, f => f a s
  | .er x s, _ => .er x s
  | .no, _ => .no
structure Seq (c c' : Ctl) : Prop where
  M : c'.M = c.M
  g : c'.g = c.g
  H0 : c'.H0 = c.H0
  S0 : c'.S0 = c.S0
  sa : c.sa <+: c'.sa
theorem Seq.refl (c : Ctl) : Seq c c := ⟨rfl, rfl, rfl, rfl, List.prefix_refl _⟩
theorem Seq.trans {a b c : Ctl} (h : Seq a b) (k : Seq b c) : Seq a c := ⟨k.M.trans h.M, k.g.trans h.g, k.H0.trans h.H0, k.S0.trans h.S0, h.sa.trans k.sa⟩
theorem Post.seq {c c' : Ctl} {H H' : Hp} (p : Post c c' H H') : Seq c c' := ⟨p.M, p.g, p.H0, p.S0, p.sa⟩
/-- a value handed back: clean, or (.f) a new container -/
def RT (X : Cx) (rl : Lv) (c' : Ctl) (H' : Hp) (st' : Sto) (p : PV) (v : V) : Prop :=
  if rl = .f then ∃ D, v = .ref D ∧ c'.H0 D = none ∧ ¬ c'.S D ∧ OwnAt (gv X c') H' (cD c' D).NM D p ∧ StoOk (gv X c') c'.S H' (cD c' D).NM st' else Rep (gv X c') H' c'.NM p v
def HypS (X : Cx) (W : WX) (rl : Lv) (c : Ctl) (r : SRes) (D : Ends) : Prop :=
  match r with
  | .nx e s => ∀ c' σ' H', SR X c' σ' H' e s → Seq c c' → D.nx σ' H'
  | .bk e s => ∀ c' σ' H', SR X c' σ' H' e s → Seq c c' → D.bk σ' H'
  | .ct e s => ∀ c' σ' H', SR X c' σ' H' e s → Seq c c' → D.ct σ' H'
  | .rt p s => ∀ v c' σ' H' e, SR X c' σ' H' e s → Seq c c' → RT X rl c' H' s p v → D.rt v H'
  | .er x s => ∀ cls dd c' σ' H' e, SR X c' σ' H' e s → Seq c c' → ExcAt X x cls dd H' → W cls dd σ' H'
  | .no => False
theorem HypS.seq {X : Cx} {W : WX} {rl : Lv} {c c1 : Ctl} {r : SRes} {D : Ends} (h : HypS X W rl c r D) (q : Seq c c1) : HypS X W rl c1 r D := by
  cases r with
  | nx e s => exact fun c' σ' H' sr k => h c' σ' H' sr (q.trans k)
  | bk e s => exact fun c' σ' H' sr k => h c' σ' H' sr (q.trans k)
  | ct e s => exact fun c' σ' H' sr k => h c' σ' H' sr (q.trans k)
  | rt p s => exact fun v c' σ' H' e sr k => h v c' σ' H' e sr (q.trans k)
  | er x s => exact fun cls dd c' σ' H' e sr k => h cls dd c' σ' H' e sr (q.trans k)
  | no => exact h
def DS (X : Cx) (W : WX) (rl : Lv) (s : Stmt) (d : DenS) : Prop :=
  ∃ t, PS X s t ∧ ∀ c σ H env st D, SR X c σ H env st → HypS X W rl c (d env st) D → t D σ H
def DSs (X : Cx) (W : WX) (rl : Lv) (s : List Stmt) (d : DenS) : Prop :=
  ∃ t, PSs X s t ∧ ∀ c σ H env st D, SR X c σ H env st → HypS X W rl c (d env st) D → t D σ H
section
variable {X : Cx} {W : WX} {rl : Lv} {s : Stmt} {rest : List Stmt} {d d1 d2 : DenS} {a b e : Expr} {da db : Den PV} {l : Lv} {pos : Pos}
/-- an expression, then a statement's end -/
theorem bindS {α β : Type} {R1 : Hp → Ctl → Hp → Sto → α → β → Prop} {σ : L2.St} {env : Env} {c : Ctl} {H : Hp} {r : Res α} {f : α → Sto → SRes} {Q1 : β → Hp → Prop} {D : Ends} (h : HypS X W rl c (r.thenS f) D)
    (k : ∀ p st1 v c1 H1, SR X c1 σ H1 env st1 → Post c c1 H H1 → R1 H c1 H1 st1 p v → HypS X W rl c1 (f p st1) D → Q1 v H1) : HypG X W σ env R1 c H r Q1 := by
  cases r with
  | no => exact h
  | er x s => exact fun cls dd c' H' sr po ex => h cls dd c' σ H' env sr po.seq ex
  | ok p s => exact fun v c1 H1 sr po r => k p s v c1 H1 sr po r (HypS.seq (r := f p s) h po.seq)
def xSkip : DenS := fun e s => .nx e s
theorem dss_nil : DSs X W rl [] xSkip := ⟨_, pss_nil, fun c σ H env st D sr h => h c σ H sr (.refl _)⟩
def xSeq (d1 d2 : DenS) : DenS := fun e s => (d1 e s).andThen d2
theorem dss_cons (h1 : DS X W rl s d1) (h2 : DSs X W rl rest d2) : DSs X W rl (s :: rest) (xSeq d1 d2) := by
  obtain ⟨t, p, h1⟩ := h1
  obtain ⟨u, q, h2⟩ := h2
  refine ⟨_, pss_cons p q, fun c σ H env st D sr h => h1 c σ H env st _ sr ?_⟩
  unfold xSeq at h
  cases e1 : d1 env st with
  | nx e s =>
    rw [e1] at h
    exact fun c' σ' H' sr' k => h2 c' σ' H' e s D sr' (HypS.seq (r := d2 e s) h k)
  | _ => rw [e1] at h; exact h
theorem dss_one (h1 : DS X W rl s d1) : DSs X W rl [s] d1 := by
  obtain ⟨t, p, h1⟩ := h1
  exact ⟨_, pss_one p, h1⟩
theorem ds_pass : DS X W rl (.Pass pos) xSkip := ⟨_, ps_pass, fun c σ H env st D sr h => h c σ H sr (.refl _)⟩
def xBrk : DenS := fun e s => .bk e s
def xCnt : DenS := fun e s => .ct e s
theorem ds_break : DS X W rl (.Break pos) xBrk := ⟨_, ps_break, fun c σ H env st D sr h => h c σ H sr (.refl _)⟩
theorem ds_continue : DS X W rl (.Continue pos) xCnt := ⟨_, ps_continue, fun c σ H env st D sr h => h c σ H sr (.refl _)⟩
def xExpr (d : Den PV) : DenS := fun env st => (d env st).thenS fun _ s => .nx env s
theorem ds_expr (ha : DE X W e l da) (hs : swapsWith e none pos.line X.env = pure false := by rfl) : DS X W rl (.Expr e pos) (xExpr da) := by
  obtain ⟨t, p, ha⟩ := ha
  exact ⟨_, ps_expr p hs, fun c σ H env st D sr h => ha c σ H env st _ sr (bindS h fun p st1 v c1 H1 sr1 po r h1 => h1 c1 σ H1 sr1 (.refl _))⟩
def xRet (d : Den PV) : DenS := fun env st => (d env st).thenS fun p s => .rt p s
theorem ds_ret (ha : DE X W e .m da) : DS X W .m (.Return (some e) pos) (xRet da) := by
  obtain ⟨t, p, ha⟩ := ha
  exact ⟨_, ps_ret p, fun c σ H env st D sr h => ha c σ H env st _ sr (bindS h fun p st1 v c1 H1 sr1 po r h1 => h1 v c1 σ H1 env sr1 (.refl _) (by unfold RT; rw [if_neg (by decide)]; exact r.1))⟩
theorem ds_retC (ha : DE X W e .c da) : DS X W .m (.Return (some e) pos) (xRet da) := ds_ret ha.cm
theorem ds_retI (ha : DE X W e .i da) : DS X W .m (.Return (some e) pos) (xRet da) := ds_ret ha.im
theorem ds_retF (ha : DE X W e .f da) : DS X W .m (.Return (some e) pos) (xRet da) := ds_ret ha.fc.cm
/-- a def that hands back a new list -/
theorem ds_retN (ha : DE X W e .f da) : DS X W .f (.Return (some e) pos) (xRet da) := by
  obtain ⟨t, p, ha⟩ := ha
  refine ⟨_, ps_ret p, fun c σ H env st D sr h => ha c σ H env st _ sr (bindS h fun p st1 v c1 H1 sr1 po r h1 => h1 v c1 σ H1 env sr1 (.refl _) ?_)⟩
  obtain ⟨a, e1, n, nS, o, sD⟩ := r.2 rfl
  show if _ then _ else _
  rw [if_pos rfl]
  refine ⟨a, e1, ?_, nS, o.mono (.refl _) (.same _ NM_N) fun _ q => q, ⟨sD.sto.len, sD.sto.nd, sD.sto.own, fun n xs e => ?_⟩⟩
  · have : c.H0 a = none := Classical.byContradiction fun z => sr.d0 a z n
    rw [po.H0]; exact this
  · obtain ⟨b, vs, h1, h2, h3, h4⟩ := sD.sto.lst n xs e
    exact ⟨b, vs, h1, h2, h3, RepA.loosen NM_N h4⟩
def xRetNone : DenS := fun _ st => .rt .non st
theorem ds_retNone : DS X W .m (.Return none pos) xRetNone := ⟨_, ps_retN, fun c σ H env st D sr h => h .non c σ H env sr (.refl _) (by unfold RT; rw [if_neg (by decide)]; exact .non)⟩
def xIfS (dt : Den Bool) (d1 d2 : DenS) : DenS := fun env st => (dt env st).thenS fun k s => if k = true then d1 env s else d2 env s
theorem ds_if {t : Expr} {dt : Den Bool} {s1 s2 : List Stmt} (ht : DT X W t dt) (h1 : DSs X W rl s1 d1) (h2 : DSs X W rl s2 d2) : DS X W rl (.If t s1 s2 pos) (xIfS dt d1 d2) := by
  obtain ⟨tt, pt, ht⟩ := ht
  obtain ⟨ta, pa, h1⟩ := h1
  obtain ⟨tb, pb, h2⟩ := h2
  refine ⟨_, ps_if pt pa pb, fun c σ H env st D sr h => ht c σ H env st _ sr (bindS h fun k st1 k' c1 H1 sr1 po ek h' => ?_)⟩
  cases (show k = k' from ek)
  cases k with
  | true => exact h1 c1 σ H1 env st1 D sr1 h'
  | false => exact h2 c1 σ H1 env st1 D sr1 h'

/-! ### assignments -/
def optS (o : Option Env) (s : Sto) : SRes := match o with | some e => .nx e s | none => .no
/-- target = value, all plain -/
def xAsg (d : Den PV) (g : PV → Env → Option Env) : DenS := fun env st => (d env st).thenS fun p s => optS (g p env) s
theorem asg_fin {ix : List Nat} {g : PV → Env → Option Env} {tg : TG} (hg : ∀ c σ H env st Q p v, SR X c σ H env st → Rep (gv X c) H (c.N σ env) p v → HypT X c σ H env st ix (g p env) Q → tg v σ H Q)
    {c : Ctl} {σ : L2.St} {H : Hp} {env : Env} {st : Sto} {D : Ends} {p : PV} {v : V} (sr : SR X c σ H env st) (r : Rep (gv X c) H (c.N σ env) p v) (h : HypS X W rl c (optS (g p env) st) D) : tg v σ H D.nx := by
  refine hg c σ H env st _ p v sr r ?_
  cases e : g p env with
  | none => rw [e] at h; exact h.elim
  | some env' => rw [e] at h; exact fun σ' sr' b => h c σ' H sr' (.refl _)
theorem ds_asg {tg : Expr} {ix : List Nat} {g : PV → Env → Option Env} (ha : DE X W e .c da) (hg : DG X tg ix g) (hs : swapsWithSole [tg] e pos.line X.env = pure false := by rfl) (hw : swappedStores [tg] e X.env = pure none := by rfl)
    (h1 : (assignEach [tg] X.env).map (·.2) = [assign tg X.env] := by rfl) : DS X W rl (.Assign [tg] e pos) (xAsg da g) := by
  obtain ⟨t, p, ha⟩ := ha
  obtain ⟨u, q, hg⟩ := hg
  exact ⟨_, ps_asg p q hs hw h1, fun c σ H env st D sr h => ha c σ H env st _ sr (bindS h fun p st1 v c1 H1 sr1 po r h1 => asg_fin hg sr1 r.1 h1)⟩
theorem ds_set (i : Nat) {x : Str} {pos' : Pos} (hN : X.N.Nodup) (ha : DE X W e .c da) (hi : X.N[i]? = some x := by rfl) (hx : Loc X.env.scope x := by first | exact Or.inl rfl | exact Or.inr rfl) (hs : swapsWith e (some (.Name x pos')) pos.line X.env = pure false := by rfl)
    (hf : X.fn x = true ∨ X.env.scope.names.lookup x = some .local := by first | exact .inl rfl | exact .inr rfl) : DS X W rl (.Assign [.Name x pos'] e pos) (xAsg da (gSlot i)) := by
  obtain ⟨t, p, ha⟩ := ha
  exact ⟨_, ps_set (i := i) hN hi hx p hs hf, fun c σ H env st D sr h => ha c σ H env st _ sr (bindS h fun p st1 v c1 H1 sr1 po r h1 => h1 c1 _ H1 (sr1.setPl i r.1) (.refl _))⟩
/-- one's own -/
theorem cD_Nw {c : Ctl} {D : Addr} {σ : L2.St} {env : Env} : ∀ a, c.N σ env a → (cD c D).N σ env a := fun a z => cD_N a |>.mpr (.inl z)
theorem SRk.setOw {c : Ctl} {σ : L2.St} {H : Hp} {env : Env} {st : Sto} {p : PV} {D : Addr} (sr : SR X (cD c D) σ H env st) (i : Nat) (hi : i < env.length) (h0 : c.H0 D = none) (nS : ¬ c.S D) (nM : ¬ c.M D) (o : OwnAt (gv X c) H ((cD c D).N σ env) D p) :
    SR X c (σ.set i (some (.ref D))) H (env.set i (.ow p)) st := by
  have hl : i < σ.length := by rw [← sr.len]; exact hi
  have ho : ∀ a, OwnS (σ.set i (some (.ref D))) (env.set i (.ow p)) a → OwnS σ env a ∨ a = D := fun a ⟨j, pv, h1, h2⟩ => by
    by_cases hj : i = j
    · subst hj
      rw [List.getElem?_set_self hl] at h2
      exact .inr (by cases h2; rfl)
    · rw [List.getElem?_set_ne hj] at h1 h2
      exact .inl ⟨j, pv, h1, h2⟩
  have hn : ∀ a, c.N (σ.set i (some (.ref D))) (env.set i (.ow p)) a → (cD c D).N σ env a := fun a h => cD_N a |>.mpr (by
    rcases h with h | h | h
    · exact .inl (.inl h)
    · exact .inl (.inr (.inl h))
    · exact (ho a h).imp (fun h => .inr (.inr h)) id)
  have hd : ∀ j pv, env[j]? = some (Slot.ow pv) → σ[j]? ≠ some (some (V.ref D)) := fun j pv h1 h2 => by
    obtain ⟨a, e1, _, _, e4, _⟩ := sr.ow j pv h1
    rw [h2] at e1
    cases e1
    exact e4 (.inr rfl)
  refine ⟨by rw [List.length_set, List.length_set]; exact sr.len, fun j pv e => ?_, fun j pv e => ?_, fun j k pj pk a e1 e2 s1 s2 => ?_, fun q hq => Rep.loosen hn (sr.gh q hq), ⟨sr.sto.len, sr.sto.nd, sr.sto.own, fun n xs e => ?_⟩, fun a z => sr.dm a (z.imp id .inl), sr.fr, sr.d0, sr.fs⟩
  · by_cases hj : i = j
    · subst hj; rw [List.getElem?_set_self hi] at e; cases e
    · rw [List.getElem?_set_ne hj] at e ⊢
      obtain ⟨v, h1, h2⟩ := sr.pl j pv e
      exact ⟨v, h1, Rep.loosen hn h2⟩
  · by_cases hj : i = j
    · subst hj
      rw [List.getElem?_set_self hi] at e
      cases e
      exact ⟨D, List.getElem?_set_self hl, h0, nS, nM, o.mono (.refl _) (.same _ hn) fun _ q => q⟩
    · rw [List.getElem?_set_ne hj] at e ⊢
      obtain ⟨a, h1, h2, h3, h4, h5⟩ := sr.ow j pv e
      exact ⟨a, h1, h2, h3, fun z => h4 (.inl z), h5.mono (.refl _) (.same _ hn) fun _ q => q⟩
  · by_cases hj : i = j
    · subst hj
      by_cases hk : i = k
      · exact hk
      · rw [List.getElem?_set_self hl] at s1
        rw [List.getElem?_set_ne hk] at e2 s2
        cases s1
        exact absurd s2 (hd k pk e2)
    · by_cases hk : i = k
      · subst hk
        rw [List.getElem?_set_self hl] at s2
        rw [List.getElem?_set_ne hj] at e1 s1
        cases s2
        exact absurd s1 (hd j pj e1)
      · rw [List.getElem?_set_ne hj] at e1 s1
        rw [List.getElem?_set_ne hk] at e2 s2
        exact sr.dist j k pj pk a e1 e2 s1 s2
  · obtain ⟨a, vs, h1, h2, h3, h4⟩ := sr.sto.lst n xs e
    exact ⟨a, vs, h1, h2, h3, RepA.loosen hn h4⟩
def gOwn (i : Nat) (p : PV) (env : Env) : Option Env := if i < env.length then some (env.set i (.ow p)) else none
def xOwn (d : Den PV) (i : Nat) : DenS := fun env st => (d env st).thenS fun p s => optS (gOwn i p env) s
theorem own_fin {c0 c : Ctl} {σ : L2.St} {H0 H : Hp} {env : Env} {st0 st : Sto} {D : Ends} {p : PV} {v : V} (sr0 : SR X c0 σ H0 env st0) (po : Post c0 c H0 H) (sr : SR X c σ H env st) (r : RL X σ env .f H0 c H st p v) (i : Nat) (h : HypS X W rl c (optS (gOwn i p env) st) D) : D.nx (σ.set i (some v)) H := by
  obtain ⟨A, e1, n, nS, o, sD⟩ := r.2 rfl
  subst e1
  obtain ⟨a', e', _, m, _⟩ := r.1
  cases e'
  unfold gOwn at h
  split at h
  · rename_i hi
    refine h c _ H (sD.setOw i hi ?_ nS (fun z => m (.inr z)) o) (.refl _)
    rw [po.H0]
    exact Classical.byContradiction fun z => sr0.d0 A z n
  · exact h.elim
theorem ds_own (i : Nat) {x : Str} {pos' : Pos} (hN : X.N.Nodup) (ha : DE X W e .f da) (hi : X.N[i]? = some x := by rfl) (hx : Loc X.env.scope x := by first | exact Or.inl rfl | exact Or.inr rfl) (hs : swapsWith e (some (.Name x pos')) pos.line X.env = pure false := by rfl)
    (hf : X.fn x = true ∨ X.env.scope.names.lookup x = some .local := by first | exact .inl rfl | exact .inr rfl) : DS X W rl (.Assign [.Name x pos'] e pos) (xOwn da i) := by
  obtain ⟨t, p, ha⟩ := ha
  exact ⟨_, ps_set (i := i) hN hi hx p hs hf, fun c σ H env st D sr h => ha c σ H env st _ sr (bindS h fun p st1 v c1 H1 sr1 po r h1 => own_fin sr po sr1 r i h1)⟩
/-- x = y, y one's own, given up -/
def xMove (i j : Nat) : DenS := fun env st => match env[j]? with | some (.ow p) => .nx ((env.set j .no).set i (.pl p)) st | _ => .no
theorem SRk.move {c : Ctl} {σ : L2.St} {H : Hp} {env : Env} {st : Sto} {p : PV} {a : Addr} (sr : SR X c σ H env st) (j : Nat) (e : env[j]? = some (Slot.ow p)) (ha : σ[j]? = some (some (V.ref a))) :
    SR X c σ H (env.set j .no) st ∧ Rep (gv X c) H (c.N σ (env.set j .no)) p (.ref a) := by
  have hj : j < env.length := (List.getElem?_eq_some_iff.mp e).1
  obtain ⟨a', h1, h2, h3, h4, h5⟩ := sr.ow j p e
  obtain rfl : a = a' := by rw [ha] at h1; cases h1; rfl
  have ho : ∀ b, OwnS σ (env.set j .no) b → OwnS σ env b ∧ b ≠ a := fun b ⟨k, pv, k1, k2⟩ => by
    by_cases hk : j = k
    · subst hk; rw [List.getElem?_set_self hj] at k1; cases k1
    · rw [List.getElem?_set_ne hk] at k1
      exact ⟨⟨k, pv, k1, k2⟩, fun z => hk (sr.dist j k p pv a e k1 ha (by rw [← z]; exact k2))⟩
  have hn : ∀ b, c.N σ (env.set j .no) b → c.N σ env b := fun b h => h.imp id fun h => h.imp id fun h => (ho b h).1
  refine ⟨sr.weakN (by rw [List.length_set]; exact sr.len) (fun b h => (ho b h).1) (fun k pv q => ?_) (fun k pv q => ?_), ?_⟩
  · by_cases hk : j = k
    · subst hk; rw [List.getElem?_set_self hj] at q; cases q
    · rw [List.getElem?_set_ne hk] at q; exact sr.pl k pv q
  · by_cases hk : j = k
    · subst hk; rw [List.getElem?_set_self hj] at q; cases q
    · rw [List.getElem?_set_ne hk] at q; exact ⟨q, rfl⟩
  · refine (h5.mono (.refl _) (.same _ hn) fun _ q => q).rep fun z => ?_
    rcases z with z | z | z
    · exact h3 z
    · exact h4 z
    · exact (ho a z).2 rfl
theorem ds_move (i j : Nat) {x y : Str} {pos' p2 : Pos} (hN : X.N.Nodup) (hi : X.N[i]? = some x := by rfl) (hj : X.N[j]? = some y := by rfl) (hx : Loc X.env.scope x := by first | exact Or.inl rfl | exact Or.inr rfl) (hv : Vis X.env.scope y := by first | exact Or.inl rfl | exact Or.inr (Or.inl rfl) | exact Or.inr (Or.inr rfl))
    (hd : (y == ("__debug__" : Str)) = false := by decide) (hcd : (y == ("__classdict__" : Str)) = false := by decide) (hf : X.fn x = true ∨ X.env.scope.names.lookup x = some .local := by first | exact .inl rfl | exact .inr rfl) : DS X W rl (.Assign [.Name x pos'] (.Name y p2) pos) (xMove i j) := by
  refine ⟨_, ps_set (i := i) hN hi hx (pe_var hj hv hd hcd) rfl hf, fun c σ H env st D sr h => ?_⟩
  unfold xMove at h
  cases e : env[j]? with
  | none => rw [e] at h; exact h.elim
  | some s =>
    rw [e] at h
    cases s with
    | no => exact h.elim
    | pl _ => exact h.elim
    | ow p =>
      obtain ⟨a, e1, _⟩ := sr.ow j p e
      obtain ⟨s1, r1⟩ := sr.move j e e1
      exact ⟨_, e1, h c _ H (s1.setPl i r1) (.refl _)⟩
/-- one's own is given up where it stands -/
def xFrz (j : Nat) (d : DenS) : DenS := fun env st => match env[j]? with | some (.ow p) => d (env.set j (.pl p)) st | _ => d env st
theorem SRk.frz {c : Ctl} {σ : L2.St} {H : Hp} {env : Env} {st : Sto} {p : PV} (sr : SR X c σ H env st) (j : Nat) (e : env[j]? = some (Slot.ow p)) : SR X c σ H (env.set j (.pl p)) st := by
  obtain ⟨a, e1, _⟩ := sr.ow j p e
  obtain ⟨s1, r1⟩ := sr.move j e e1
  have q := s1.setPl j r1
  have hs : σ.set j (some (V.ref a)) = σ := by
    apply List.ext_getElem?
    intro i
    by_cases h : j = i
    · subst h; rw [List.getElem?_set_self (List.getElem?_eq_some_iff.mp e1).1, e1]
    · rw [List.getElem?_set_ne h]
  rw [hs, List.set_set] at q
  exact q
theorem ds_frz (j : Nat) (h : DS X W rl s d) : DS X W rl s (xFrz j d) := by
  obtain ⟨t, p, h⟩ := h
  refine ⟨t, p, fun c σ H env st D sr hy => ?_⟩
  unfold xFrz at hy
  cases e : env[j]? with
  | none => rw [e] at hy; exact h c σ H env st D sr hy
  | some sl =>
    rw [e] at hy
    cases sl with
    | no => exact h c σ H env st D sr hy
    | pl _ => exact h c σ H env st D sr hy
    | ow p => exact h c σ H _ st D (sr.frz j e) hy
/-- one's own is written -/
theorem SRk.writeOw {c : Ctl} {σ : L2.St} {H : Hp} {env : Env} {st : Sto} {p p' : PV} {a : Addr} {o' : HO} (sr : SR X c σ H env st) (j : Nat) (e : env[j]? = some (Slot.ow p)) (ha : σ[j]? = some (some (V.ref a)))
    (new : OwnAt (gv X c) (upd H a o') (c.N σ env) a p') : SR X c σ (upd H a o') (env.set j (.ow p')) st := by
  have hj : j < env.length := (List.getElem?_eq_some_iff.mp e).1
  obtain ⟨a', h1, h2, h3, h4, h5⟩ := sr.ow j p e
  obtain rfl : a = a' := by rw [ha] at h1; cases h1; rfl
  obtain ⟨ob, eo, _⟩ := h5.there
  have ho : ∀ b, OwnS σ (env.set j (.ow p')) b ↔ OwnS σ env b := fun b => by
    constructor
    · rintro ⟨k, pv, k1, k2⟩
      by_cases hk : j = k
      · subst hk; exact ⟨j, p, e, k2⟩
      · rw [List.getElem?_set_ne hk] at k1; exact ⟨k, pv, k1, k2⟩
    · rintro ⟨k, pv, k1, k2⟩
      by_cases hk : j = k
      · subst hk; exact ⟨j, p', List.getElem?_set_self hj, k2⟩
      · exact ⟨k, pv, by rw [List.getElem?_set_ne hk]; exact k1, k2⟩
  have hn : ∀ b, c.N σ (env.set j (.ow p')) b ↔ c.N σ env b := fun b => ⟨fun h => h.imp id fun h => h.imp id (ho b).mp, fun h => h.imp id fun h => h.imp id (ho b).mpr⟩
  have hNa : c.N σ env a := .inr (.inr ⟨j, p, e, ha⟩)
  have k : Kp H (upd H a o') (c.N σ env) (c.N σ (env.set j (.ow p'))) := .of (fun b u q n => by
    have : b ≠ a := fun z => n (by rw [z]; exact hNa)
    rw [upd_ne this]; exact q) fun b _ n z => n ((hn b).mp z)
  refine ⟨by rw [List.length_set]; exact sr.len, fun i pv q => ?_, fun i pv q => ?_, fun i k pi pk b e1 e2 s1 s2 => ?_, fun q hq => (sr.gh q hq).mono (.refl _) k, ⟨sr.sto.len, sr.sto.nd, sr.sto.own, fun n xs q => ?_⟩, fun b z => ?_, fun b u q n => ?_, fun b z => ?_, sr.fs⟩
  · by_cases hk : j = i
    · subst hk; rw [List.getElem?_set_self hj] at q; cases q
    · rw [List.getElem?_set_ne hk] at q
      obtain ⟨v, w1, w2⟩ := sr.pl i pv q
      exact ⟨v, w1, w2.mono (.refl _) k⟩
  · by_cases hk : j = i
    · subst hk
      rw [List.getElem?_set_self hj] at q
      cases q
      exact ⟨a, ha, h2, h3, h4, new.mono (.refl _) (.same _ fun b z => (hn b).mp z) fun _ q => q⟩
    · rw [List.getElem?_set_ne hk] at q
      obtain ⟨b, w1, w2, w3, w4, w5⟩ := sr.ow i pv q
      have hb : b ≠ a := fun z => hk (sr.dist j i p pv a e q ha (by rw [← z]; exact w1))
      exact ⟨b, w1, w2, w3, w4, w5.mono (.refl _) k fun u q => by rw [upd_ne hb]; exact q⟩
  · have f : ∀ (m : Nat) (pm : PV), (env.set j (.ow p'))[m]? = some (Slot.ow pm) → ∃ pm', env[m]? = some (Slot.ow pm') := fun m pm q => by
      by_cases hk : j = m
      · subst hk; exact ⟨p, e⟩
      · rw [List.getElem?_set_ne hk] at q; exact ⟨pm, q⟩
    obtain ⟨p1, q1⟩ := f i pi e1
    obtain ⟨p2, q2⟩ := f k pk e2
    exact sr.dist i k p1 p2 b q1 q2 s1 s2
  · obtain ⟨b, vs, w1, w2, w3, w4⟩ := sr.sto.lst n xs q
    have hb : b ≠ a := fun z => h3 (by rw [← z]; exact sr.sto.own b (List.mem_of_getElem? w1))
    exact ⟨b, vs, w1, by rw [upd_ne hb]; exact w2, w3, w4.mono (.refl _) k⟩
  · by_cases hb : b = a
    · rw [hb, upd_same]; simp
    · rw [upd_ne hb]; exact sr.dm b z
  · have hb : b ≠ a := fun z => by rw [z, h2] at q; cases q
    rw [upd_ne hb]; exact sr.fr b u q n
  · by_cases hb : b = a
    · rw [hb, upd_same]; simp
    · rw [upd_ne hb]; exact sr.d0 b z
/-- what behind a write of one's own is kept of a clean value -/
theorem KpOw {c : Ctl} {σ : L2.St} {H : Hp} {env : Env} {a : Addr} {o' : HO} (h : c.N σ env a) : Kp H (upd H a o') (c.N σ env) (c.N σ env) :=
  .of (fun b u q n => by
    have : b ≠ a := fun z => n (by rw [z]; exact h)
    rw [upd_ne this]; exact q) fun _ _ n => n
/-- xs.append(e) of one's own list -/
def xApp (j : Nat) (d : Den PV) : DenS := fun env st => match env[j]? with
  | some (.ow (.lst ps)) => (d env st).thenS fun q s => if ps.length < 16777216 then .nx (env.set j (.ow (.lst (ps ++ [q])))) s else .no
  | _ => .no
theorem ow_lst {σ : L2.St} {H : Hp} {env : Env} {st : Sto} {c : Ctl} {j : Nat} {ps : List PV} (sr : SR X c σ H env st) (e : env[j]? = some (Slot.ow (.lst ps))) : ∃ a vs, σ[j]? = some (some (V.ref a)) ∧ H a = some (.lst vs) ∧ ps.length ≤ sizeLine ∧ RepA (gv X c) H (c.N σ env) ps vs ∧ c.N σ env a := by
  obtain ⟨a, h1, h2, h3, h4, vs, h5, h6, h7⟩ := sr.ow j _ e
  exact ⟨a, vs, h1, h5, h6, h7, .inr (.inr ⟨j, _, e, h1⟩)⟩
theorem ds_app (j : Nat) {x : Str} {p1 apos : Pos} {pos2 : Pos} (ha : DE X W e .c da) (hN : X.N[j]? = some x := by rfl) (hv : Vis X.env.scope x := by first | exact Or.inl rfl | exact Or.inr (Or.inl rfl) | exact Or.inr (Or.inr rfl))
    (hd : (x == ("__debug__" : Str)) = false := by decide) (hcd : (x == ("__classdict__" : Str)) = false := by decide)
    (pb : ∀ (to : TE) (t : TA), PE X (.Name x p1) to → PA X [e] t → PE X (.Call (.Attribute (.Name x p1) "append" apos) [e] [] pos2) (tBM X.K "list" rAppend to t) := by
      intro to t h1 h2; exact pe_bm PySem.F.plainAttrs_list PySem.F.slot_list_append PySem.F.type_list_append mt_append h1 h2)
    (hs : starEach [e] X.env = (false, eval e X.env) :: starEach [] X.env := by rfl)
    (hsw : swapsWith (.Call (.Attribute (.Name x p1) "append" apos) [e] [] pos2) none pos.line X.env = pure false := by rfl) :
    DS X W rl (.Expr (.Call (.Attribute (.Name x p1) "append" apos) [e] [] pos2) pos) (xApp j da) := by
  obtain ⟨t, p, ha⟩ := ha
  refine ⟨_, ps_expr (pb _ _ (pe_var hN hv hd hcd) (pa_cons p pa_nil hs)) hsw, fun c σ H env st D sr h => ?_⟩
  unfold xApp at h
  split at h
  case h_2 => exact h.elim
  rename_i ps e1
  obtain ⟨a, vs, h1, h2, h3, h4, h5⟩ := ow_lst sr e1
  refine ⟨_, h1, .inl ⟨rfl, vs, SqL.of h2⟩, ha c σ H env st _ sr (bindS h fun q st1 v c1 H1 sr1 po r hq => ?_)⟩
  split at hq
  case isFalse => exact hq.elim
  rename_i hz
  obtain ⟨a', vs', k1, k2, k3, k4, k5⟩ := ow_lst sr1 e1
  obtain rfl : a = a' := by rw [h1] at k1; cases k1; rfl
  have sz : sizeLine = 16777216 := sizeLine_eq
  refine ⟨a, vs', v, rfl, rfl, k2, by rw [← k4.length, sz]; exact hz, ?_⟩
  refine hq c1 σ _ (sr1.writeOw j e1 h1 ⟨vs' ++ [v], upd_same, by rw [List.length_append]; simp; omega, ?_⟩) (.refl _)
  exact (k4.append (.cons r.1 .nil)).mono (.refl _) (KpOw k5)
/-- xs += e, of one's own list -/
def xExt (j : Nat) (d : Den PV) : DenS := fun env st => match env[j]? with
  | some (.ow (.lst ps)) => (d env st).thenS fun q s => match q with
    | .lst qs => if ps.length + qs.length ≤ 16777216 then .nx (env.set j (.ow (.lst (ps ++ qs)))) s else .no
    | _ => .no
  | _ => .no
theorem set_same {σ : L2.St} {j : Nat} {v : V} (h : σ[j]? = some (some v)) : σ.set j (some v) = σ := by
  apply List.ext_getElem?
  intro i
  by_cases k : j = i
  · subst k; rw [List.getElem?_set_self (List.getElem?_eq_some_iff.mp h).1, h]
  · rw [List.getElem?_set_ne k]
theorem ds_ext (j : Nat) {x : Str} {p1 : Pos} (hN : X.N.Nodup) (ha : DE X W e .c da) (hi : X.N[j]? = some x := by rfl) (hx : Loc X.env.scope x := by first | exact Or.inl rfl | exact Or.inr rfl)
    (hf : X.fn x = true ∨ X.env.scope.names.lookup x = some .local := by first | exact .inl rfl | exact .inr rfl) : DS X W rl (.AugAssign (.Name x p1) .Add e pos) (xExt j da) := by
  obtain ⟨t, p, ha⟩ := ha
  refine ⟨_, ps_aug (i := j) hN hi hx p (iop_ext (X := X)) hf, fun c σ H env st D sr h => ?_⟩
  unfold xExt at h
  split at h
  case h_2 => exact h.elim
  rename_i ps e1
  obtain ⟨a, vs, h1, h2, h3, h4, h5⟩ := ow_lst sr e1
  refine ⟨.ref a, h1, ha c σ H env st _ sr (bindS h fun q st1 v c1 H1 sr1 po r hq => ?_)⟩
  obtain ⟨a', vs', k1, k2, k3, k4, k5⟩ := ow_lst sr1 e1
  obtain rfl : a = a' := by rw [h1] at k1; cases k1; rfl
  have sz : sizeLine = 16777216 := sizeLine_eq
  cases q with
  | lst qs =>
    have hq : HypS X W rl c1 (if ps.length + qs.length ≤ 16777216 then .nx (env.set j (.ow (.lst (ps ++ qs)))) st1 else .no) D := hq
    split at hq
    case isFalse => exact hq.elim
    rename_i hz
    obtain ⟨b, ws, e2, w1, w2, w3⟩ := rv_lst (by decide) r.1
    refine ⟨a, b, vs', ws, rfl, e2, k2, w1, by rw [← k4.length, ← w3.length, sz]; exact hz, ?_⟩
    show D.nx (σ.set j (some (V.ref a))) _
    rw [set_same h1]
    refine hq c1 σ _ (sr1.writeOw j e1 h1 ⟨vs' ++ ws, upd_same, by rw [List.length_append, sz]; exact hz, ?_⟩) (.refl _)
    exact (k4.append w3).mono (.refl _) (KpOw k5)
  | _ => exact hq.elim
/-- x += e, of a plain int or text -/
def augPV : PV → PV → Option PV
  | .int a, .int b => some (.int (a + b))
  | .str a, .str b => if a.length + b.length ≤ 16777216 then some (.str (a ++ b)) else none
  | _, _ => none
def xAug (i : Nat) (d : Den PV) : DenS := fun env st => match env[i]? with
  | some (.pl p) => (d env st).thenS fun q s => match augPV p q with
    | some r => .nx (env.set i (.pl r)) s
    | none => .no
  | _ => .no
theorem ds_aug (i : Nat) {x : Str} {p1 : Pos} (hN : X.N.Nodup) (ha : DE X W e .c da) (hi : X.N[i]? = some x := by rfl) (hx : Loc X.env.scope x := by first | exact Or.inl rfl | exact Or.inr rfl)
    (hf : X.fn x = true ∨ X.env.scope.names.lookup x = some .local := by first | exact .inl rfl | exact .inr rfl) : DS X W rl (.AugAssign (.Name x p1) .Add e pos) (xAug i da) := by
  obtain ⟨t, p, ha⟩ := ha
  refine ⟨_, ps_aug (i := i) hN hi hx p (OpR.or iop_add iop_add_str) hf, fun c σ H env st D sr h => ?_⟩
  unfold xAug at h
  split at h
  case h_2 => exact h.elim
  rename_i p0 e1
  obtain ⟨v0, h1, h2⟩ := sr.pl i p0 e1
  refine ⟨v0, h1, ha c σ H env st _ sr (bindS h fun q st1 v c1 H1 sr1 po r hq => ?_)⟩
  have r0 := po.rep h2
  have sz : sizeLine = 16777216 := sizeLine_eq
  cases ea : augPV p0 q with
  | none => simp only [ea] at hq; exact hq.elim
  | some res =>
  simp only [ea] at hq
  unfold augPV at ea
  split at ea
  · cases ea
    cases r0
    exact .inl ⟨_, _, rfl, rv_int r.1, hq c1 _ H1 (sr1.setPl i (.int _)) (.refl _)⟩
  · split at ea
    · rename_i hz
      cases ea
      cases r0 with
      | str l z u =>
        obtain ⟨e2, z2, u2⟩ := rv_str r.1
        refine .inr ⟨_, _, rfl, e2, by rw [mkS_length, mkS_length, sz]; exact hz, ?_⟩
        rw [mkS_append]
        exact hq c1 _ H1 (sr1.setPl i (.str _ (by rw [List.length_append, sz]; exact hz) (fun c hc => (List.mem_append.mp hc).elim (u c) (u2 c)))) (.refl _)
    · cases ea
  · cases ea
/-- xs[k] = e, of one's own list -/
def xPut (j : Nat) (dk d : Den PV) : DenS := fun env st => (d env st).thenS fun q s => match env[j]? with
  | some (.ow (.lst ps)) => (dk env s).thenS fun k s1 => match k with
    | .int k => (match ixN ps.length k with
      | some m => .nx (env.set j (.ow (.lst (ps.set m q)))) s1
      | none => .no)
    | _ => .no
  | _ => .no
theorem ds_put (j : Nat) {x : Str} {p1 p2 : Pos} (hk : DE X W b .c db) (ha : DE X W e .c da) (hN : X.N[j]? = some x := by rfl) (hv : Vis X.env.scope x := by first | exact Or.inl rfl | exact Or.inr (Or.inl rfl) | exact Or.inr (Or.inr rfl))
    (hd : (x == ("__debug__" : Str)) = false := by decide) (hcd : (x == ("__classdict__" : Str)) = false := by decide)
    (hp : ∀ (te to ti : TE), PE X e te → PE X (.Name x p1) to → PE X b ti → PS X (.Assign [.Subscript (.Name x p1) b p2] e pos) (tAsg te (gSub to ti rSetL)) := by intro te to ti h1 h2 h3; exact ps_asg h1 (pg_sub h2 h3 set_list)) :
    DS X W rl (.Assign [.Subscript (.Name x p1) b p2] e pos) (xPut j db da) := by
  obtain ⟨t, p, ha⟩ := ha
  obtain ⟨u, q, hk⟩ := hk
  refine ⟨_, hp _ _ _ p (pe_var hN hv hd hcd) q, fun c σ H env st D sr h => ha c σ H env st _ sr (bindS h fun pv st1 v c1 H1 sr1 po r h1 => ?_)⟩
  split at h1
  case h_2 => exact h1.elim
  rename_i ps e1
  obtain ⟨a, vs, k1, k2, k3, k4, k5⟩ := ow_lst sr1 e1
  refine ⟨_, k1, hk c1 σ H1 env st1 _ sr1 (bindS h1 fun kv st2 w c2 H2 sr2 po2 r2 h2 => ?_)⟩
  obtain ⟨a', vs', m1, m2, m3, m4, m5⟩ := ow_lst sr2 e1
  obtain rfl : a = a' := by rw [k1] at m1; cases m1; rfl
  cases kv with
  | int k =>
    cases ei : ixN ps.length k with
    | none => simp only [ei] at h2; exact h2.elim
    | some m =>
      simp only [ei] at h2
      refine ⟨a, vs', k, m, rfl, rv_int r2.1, m2, by rw [← m4.length]; exact ei, ?_⟩
      refine h2 c2 σ _ (sr2.writeOw j e1 k1 ⟨vs'.set m v, upd_same, by rw [List.length_set]; exact m3, ?_⟩) (.refl _)
      exact (RepA.set (po2.rep r.1) m m4).mono (.refl _) (KpOw m5)
  | _ => exact h2.elim

/-! ### loops -/
def unG (c : Ctl) (g : List (PV × V)) : Ctl := { c with g := g }
theorem SRk.ghosts {c : Ctl} {σ : L2.St} {H : Hp} {env : Env} {st : Sto} (sr : SR X c σ H env st) (gs : List (PV × V)) (h : ∀ p ∈ gs, Rep (gv X c) H (c.N σ env) p.1 p.2) : SR X (unG c gs) σ H env st :=
  ⟨sr.len, sr.pl, sr.ow, sr.dist, h, sr.sto, sr.dm, sr.fr, sr.d0, sr.fs⟩
def forL (g : PV → Env → Option Env) (db : DenS) : List PV → Env → Sto → SRes
  | [], env, st => .nx env st
  | p :: ps, env, st => match g p env with
    | none => .no
    | some env' => match db env' st with
      | .nx e s => forL g db ps e s
      | .ct e s => forL g db ps e s
      | .bk e s => .nx e s
      | r => r
def xFor (di : Den (List PV)) (g : PV → Env → Option Env) (db : DenS) : DenS := fun env st => (di env st).thenS fun items s => forL g db items env s
theorem bindSI {l : Lv} {σ : L2.St} {env : Env} {c : Ctl} {H : Hp} {r : Res (List PV)} {f : List PV → Sto → SRes} {D : Ends} {R : It → Hp → Prop} (h : HypS X W rl c (r.thenS f) D)
    (k : ∀ items st1 c1 H1 J g, SR X c1 σ H1 env st1 → Post c c1 H H1 → WalkOk X l J items g → GhOk X l c1 σ env H1 g → HypS X W rl c1 (f items st1) D → R J H1) : HypI X W l σ env c H r R := by
  cases r with
  | no => exact h
  | er x s => exact fun cls dd c' H' sr po ex => h cls dd c' σ H' env sr po.seq ex
  | ok p s => exact fun c1 H1 J g sr po w gh => k p s c1 H1 J g sr po w gh (HypS.seq (r := f p s) h po.seq)
/-- what is wanted, the walked things' ghosts forgotten -/
theorem HypS.ghosts {c c2 : Ctl} {r : SRes} {D : Ends} {N : L2.St → Hp → Prop} {gs : List (PV × V)} {next : Env → Sto → SRes} (q : Seq c (unG c2 c.g)) (hg : c2.g = gs ++ c.g) (sub : ∀ p ∈ c.g, p ∈ c2.g)
    (h : HypS X W rl c (match r with | .nx e s => next e s | .ct e s => next e s | .bk e s => .nx e s | r => r) D)
    (hN : ∀ e s, (r = .nx e s ∨ r = .ct e s) → HypS X W rl c (next e s) D → ∀ c' σ' H', SR X c' σ' H' e s → Seq c2 c' → N σ' H') : HypS X W rl c2 r { D with nx := N, ct := N, bk := D.nx } := by
  have un : ∀ {c' : Ctl} {σ' : L2.St} {H' : Hp} {e : Env} {s : Sto}, SR X c' σ' H' e s → Seq c2 c' → SR X (unG c' c.g) σ' H' e s ∧ Seq c (unG c' c.g) := fun {c' σ' H' e s} sr k =>
    ⟨sr.ghosts c.g fun p hp => sr.gh p (by rw [k.g]; exact sub p hp), ⟨k.M.trans q.M, rfl, k.H0.trans q.H0, k.S0.trans q.S0, q.sa.trans k.sa⟩⟩
  cases r with
  | nx e s => exact fun c' σ' H' sr k => hN e s (.inl rfl) h c' σ' H' sr k
  | ct e s => exact fun c' σ' H' sr k => hN e s (.inr rfl) h c' σ' H' sr k
  | bk e s => exact fun c' σ' H' sr k => h _ σ' H' (un sr k).1 (un sr k).2
  | rt p s => exact fun v c' σ' H' e sr k rt => h v _ σ' H' e (un sr k).1 (un sr k).2 rt
  | er x s => exact fun cls dd c' σ' H' e sr k ex => h cls dd _ σ' H' e (un sr k).1 (un sr k).2 ex
  | no => exact h
theorem ds_for {tg iter : Expr} {body : List Stmt} {di : Den (List PV)} {ix : List Nat} {g : PV → Env → Option Env} {db : DenS} (hp : PassesOwn (model X.prog X.w) X.A X.env X.xe) (hc : X.calm = true) (hi : DI X W tg iter .c di) (hg : DG X tg ix g) (hb : DSs X W rl body db)
    (hs : ∀ x, foldedSetIterable iter X.env x = pure x := by intro _; rfl) : DS X W rl (.For tg iter body [] pos) (xFor di g db) := by
  obtain ⟨wi, pi, hi⟩ := hi
  obtain ⟨tgd, pg, hg⟩ := hg
  obtain ⟨tb, pb, hb⟩ := hb
  refine ⟨_, ps_for hp hc pi pg pb hs, fun c σ H env st D sr h => hi c σ H env st _ sr (bindSI h fun items st1 c1 H1 J gs sr1 po w gh h1 => ?_)⟩
  refine ⟨fun i m σ' H' => m = items.length - i ∧ i ≤ items.length ∧ ∃ c2 env2 st2, SR X c2 σ' H' env2 st2 ∧ Seq c1 (unG c2 c1.g) ∧ c2.g = gs ++ c1.g ∧ HypS X W rl c1 (forL g db (items.drop i) env2 st2) D,
    ⟨items.length, by simp, Nat.zero_le _, unG c1 (gs ++ c1.g), env, st1, sr1.ghosts _ fun p hp => (List.mem_append.mp hp).elim (gh p) (sr1.gh p), .refl _, rfl, h1⟩, ?_⟩
  rintro i m σ' H' ⟨rfl, hin, c2, env2, st2, sr2, sq, hg2, h2⟩
  have gb : GhOk X .c c2 σ' env2 H' gs := fun p hp => sr2.gh p (by rw [hg2]; exact List.mem_append_left _ hp)
  by_cases hlt : i < items.length
  · refine .inr ⟨w.goes i c2 σ' env2 H' hlt gb, fun σ'' H'' => items.length - (i + 1) = items.length - (i + 1) ∧ i + 1 ≤ items.length ∧ ∃ c2 env2 st2, SR X c2 σ'' H'' env2 st2 ∧ Seq c1 (unG c2 c1.g) ∧ c2.g = gs ++ c1.g ∧ HypS X W rl c1 (forL g db (items.drop (i + 1)) env2 st2) D, fun σ'' H'' q => ⟨items.length - (i + 1), by omega, q⟩, fun x H2 hy => ?_⟩
    obtain ⟨p, ep, gro, rp⟩ := w.yields i c2 σ' env2 H' st2 x H2 sr2 gb hy hlt
    have hdrop : items.drop i = p :: items.drop (i + 1) := by
      rw [List.drop_eq_getElem_cons hlt]
      rw [List.getElem?_eq_getElem hlt] at ep
      rw [Option.some.inj ep]
    rw [hdrop] at h2
    unfold forL at h2
    refine hg c2 σ' H2 env2 st2 _ p x (sr2.grow gro) rp ?_
    cases eg : g p env2 with
    | none => rw [eg] at h2; exact h2.elim
    | some env' =>
    rw [eg] at h2
    intro σ3 sr3 bt
    refine hb c2 σ3 H2 env' st2 _ sr3 ?_
    refine HypS.ghosts (gs := gs) (next := fun e s => forL g db (items.drop (i + 1)) e s) sq hg2 (fun p hp => by rw [hg2]; exact List.mem_append_right _ hp) ?_ fun e s _ hn c' σ' H' sr' k => ?_
    · simp only at h2
      cases er : db env' st2 <;> rw [er] at h2 <;> exact h2
    · exact ⟨rfl, hlt, c', e, s, sr', ⟨k.M.trans sq.M, rfl, k.H0.trans sq.H0, k.S0.trans sq.S0, sq.sa.trans k.sa⟩, k.g.trans hg2, hn⟩
  · have ei : i = items.length := by omega
    subst ei
    rw [List.drop_length] at h2
    refine .inl ⟨w.stops c2 σ' env2 H' gb, h2 _ σ' H' (sr2.ghosts c1.g fun p hp => sr2.gh p (by rw [hg2]; exact List.mem_append_right _ hp)) sq⟩
def whileL (dt : Den Bool) (db : DenS) : Nat → Env → Sto → SRes
  | 0, _, _ => .no
  | n + 1, env, st => match dt env st with
    | .ok true s => (match db env s with
      | .nx e s' => whileL dt db n e s'
      | .ct e s' => whileL dt db n e s'
      | .bk e s' => .nx e s'
      | r => r)
    | .ok false s => .nx env s
    | .er x s => .er x s
    | .no => .no
theorem ds_while {t : Expr} {body : List Stmt} {dt : Den Bool} {db : DenS} (fuel : Nat) (hp : PassesOwn (model X.prog X.w) X.A X.env X.xe) (ht : DT X W t dt) (hb : DSs X W rl body db) : DS X W rl (.While t body [] pos) (whileL dt db fuel) := by
  obtain ⟨tt, pt, ht⟩ := ht
  obtain ⟨tb, pb, hb⟩ := hb
  refine ⟨_, ps_while hp pt pb, fun c σ H env st D sr h => ?_⟩
  refine ⟨fun m σ' H' => ∃ c2 env2 st2, SR X c2 σ' H' env2 st2 ∧ Seq c c2 ∧ HypS X W rl c (whileL dt db m env2 st2) D, ⟨fuel, c, env, st, sr, .refl _, h⟩, ?_⟩
  rintro m σ' H' ⟨c2, env2, st2, sr2, sq, h2⟩
  cases m with
  | zero => exact h2.elim
  | succ m =>
    unfold whileL at h2
    refine ht c2 σ' H' env2 st2 _ sr2 ?_
    cases et : dt env2 st2 with
    | no => rw [et] at h2; exact h2
    | er x s =>
      rw [et] at h2
      exact fun cls dd c' H'' sr' po ex => h2 cls dd c' σ' H'' env2 sr' (sq.trans po.seq) ex
    | ok b s =>
      rw [et] at h2
      intro b' c3 H3 sr3 po eb
      cases (show b = b' from eb)
      have sq3 := sq.trans po.seq
      cases b with
      | false =>
        rw [if_neg Bool.false_ne_true]
        exact h2 c3 σ' H3 sr3 sq3
      | true =>
        rw [if_pos rfl]
        refine ⟨fun σ'' H'' => ∃ c2 env2 st2, SR X c2 σ'' H'' env2 st2 ∧ Seq c c2 ∧ HypS X W rl c (whileL dt db m env2 st2) D, fun σ'' H'' q => ⟨m, Nat.lt_succ_self m, q⟩, ?_⟩
        refine hb c3 σ' H3 env2 s _ sr3 ?_
        refine HypS.ghosts (c := c) (gs := []) (next := fun e s => whileL dt db m e s) (by rw [show unG c3 c.g = c3 from by unfold unG; rw [← sq3.g]]; exact sq3) (by rw [sq3.g]; rfl) (fun p hp => by rw [sq3.g]; exact hp) ?_ fun e s _ hn c' σ' H' sr' k => ?_
        · simp only at h2
          cases er : db env2 s <;> rw [er] at h2 <;> exact h2
        · exact ⟨c', e, s, sr', sq3.trans k, hn⟩
end
end Vl

set_option Elab.async false
set_option linter.all false
set_option maxRecDepth 100000
set_option maxHeartbeats 1000000
namespace Vl
open PySem PySem.Spec PyProof.Rows L2

/-! ### a, b = e1, e2 -/
def cDs (c : Ctl) (Ds : List Addr) : Ctl := { c with M := fun a => c.M a ∨ a ∈ Ds }
theorem cDs_nil (c : Ctl) : cDs c [] = c := by
  unfold cDs
  have : (fun a => c.M a ∨ a ∈ ([] : List Addr)) = c.M := funext fun a => propext (by simp)
  rw [this]
theorem cDs_cons (c : Ctl) (D : Addr) (Ds : List Addr) : cDs (cD c D) Ds = cD (cDs c Ds) D := by
  unfold cDs cD
  have : (fun a => (c.M a ∨ a = D) ∨ a ∈ Ds) = (fun a => (c.M a ∨ a ∈ Ds) ∨ a = D) := funext fun a => propext ⟨fun h => h.elim (fun h => h.elim (fun h => .inl (.inl h)) .inr) fun h => .inl (.inr h), fun h => h.elim (fun h => h.elim (fun h => .inl (.inl h)) .inr) fun h => .inl (.inr h)⟩
  simp only [this]
theorem cDs_cons' (c : Ctl) (D : Addr) (Ds : List Addr) : cDs c (D :: Ds) = cD (cDs c Ds) D := by
  unfold cDs cD
  have : (fun a => c.M a ∨ a ∈ D :: Ds) = (fun a => (c.M a ∨ a ∈ Ds) ∨ a = D) := funext fun a => propext ⟨fun h => h.elim (fun h => .inl (.inl h)) fun h => (List.mem_cons.mp h).elim .inr fun h => .inl (.inr h), fun h => h.elim (fun h => h.elim .inl fun h => .inr (List.mem_cons_of_mem _ h)) fun h => .inr (h ▸ List.mem_cons_self)⟩
  simp only [this]
/-- the values of a list of expressions: plain, or new containers at Ds -/
inductive Itm (g : Gv) (H : Hp) (N : Addr → Prop) : List Bool → List PV → List V → List Addr → Prop
  | nil : Itm g H N [] [] [] []
  | pl {ks : List Bool} {p : PV} {ps : List PV} {v : V} {vs : List V} {Ds : List Addr} (h : Rep g H N p v) (r : Itm g H N ks ps vs Ds) : Itm g H N (false :: ks) (p :: ps) (v :: vs) Ds
  | ow {ks : List Bool} {p : PV} {ps : List PV} {D : Addr} {vs : List V} {Ds : List Addr} (h : OwnAt g H N D p) (r : Itm g H N ks ps vs Ds) : Itm g H N (true :: ks) (p :: ps) (.ref D :: vs) (D :: Ds)
theorem Itm.mono {g g' : Gv} {H H' : Hp} {N N' : Addr → Prop} (hg : Gle g g') (k : Kp H H' N N') : ∀ {ks : List Bool} {ps : List PV} {vs : List V} {Ds : List Addr}, (∀ D ∈ Ds, ∀ o, H D = some o → H' D = some o) → Itm g H N ks ps vs Ds → Itm g' H' N' ks ps vs Ds
  | _, _, _, _, _, .nil => .nil
  | _, _, _, _, e, .pl h r => .pl (h.mono hg k) (r.mono hg k e)
  | _, _, _, _, e, .ow h r => .ow (h.mono hg k (e _ List.mem_cons_self)) (r.mono hg k fun D hD => e D (List.mem_cons_of_mem _ hD))
theorem Itm.length {g : Gv} {H : Hp} {N : Addr → Prop} : ∀ {ks : List Bool} {ps : List PV} {vs : List V} {Ds : List Addr}, Itm g H N ks ps vs Ds → vs.length = ks.length ∧ ps.length = ks.length
  | _, _, _, _, .nil => ⟨rfl, rfl⟩
  | _, _, _, _, .pl _ r => ⟨by simp [r.length.1], by simp [r.length.2]⟩
  | _, _, _, _, .ow _ r => ⟨by simp [r.length.1], by simp [r.length.2]⟩
theorem SRk.lessM {X : Cx} {c : Ctl} {σ : L2.St} {H : Hp} {env : Env} {st : Sto} (sr : SR X c σ H env st) {M' : Addr → Prop} (h : ∀ a, M' a → c.M a) : SR X { c with M := M' } σ H env st := by
  have k : ∀ a, ({ c with M := M' } : Ctl).N σ env a → c.N σ env a := fun a z => z.imp id fun z => z.imp (h a) id
  have kp : Kp H H (c.N σ env) (({ c with M := M' } : Ctl).N σ env) := .same _ k
  refine ⟨sr.len, fun i pv e => ?_, fun i pv e => ?_, sr.dist, fun p hp => Rep.loosen k (sr.gh p hp), ⟨sr.sto.len, sr.sto.nd, sr.sto.own, fun n xs e => ?_⟩, fun a z => sr.dm a (z.imp id (h a)), sr.fr, sr.d0, sr.fs⟩
  · obtain ⟨v, h1, h2⟩ := sr.pl i pv e
    exact ⟨v, h1, Rep.loosen k h2⟩
  · obtain ⟨a, h1, h2, h3, h4, h5⟩ := sr.ow i pv e
    exact ⟨a, h1, h2, h3, fun z => h4 (h a z), h5.mono (.refl _) kp fun _ q => q⟩
  · obtain ⟨a, vs, h1, h2, h3, h4⟩ := sr.sto.lst n xs e
    exact ⟨a, vs, h1, h2, h3, RepA.loosen k h4⟩
def HypO (X : Cx) (W : WX) (σ : L2.St) (env : Env) (ks : List Bool) (c : Ctl) (H : Hp) (r : Res (List PV)) (Q : List V → Hp → Prop) : Prop :=
  match r with
  | .ok ps st' => ∀ vs c' H' Ds, SR X (cDs c' Ds) σ H' env st' → Post c c' H H' → (∀ D ∈ Ds, H D = none ∧ ¬ c'.S D) → Ds.Nodup → Itm (gv X c') H' ((cDs c' Ds).N σ env) ks ps vs Ds → Q vs H'
  | .er x st' => ∀ cls dd c' H', SR X c' σ H' env st' → Post c c' H H' → ExcAt X x cls dd H' → W cls dd σ H'
  | .no => False
def DAo (X : Cx) (W : WX) (es : List Expr) (ks : List Bool) (d : Den (List PV)) : Prop :=
  ∃ t, PA X es t ∧ ∀ c σ H env st Q, SR X c σ H env st → HypO X W σ env ks c H (d env st) Q → t σ H Q
section
variable {X : Cx} {W : WX} {rl : Lv} {a b e : Expr} {es : List Expr} {ks : List Bool} {da db : Den PV} {ds : Den (List PV)} {pos : Pos}
theorem dao_nil : DAo X W [] [] xNil := ⟨_, pa_nil, fun c σ H env st Q sr h => h [] c H [] (by rw [cDs_nil]; exact sr) (.refl _ _) (fun _ h => absurd h (by simp)) List.nodup_nil .nil⟩
theorem dao_pl (ha : DE X W a .c da) (hr : DAo X W es ks ds) (hs : starEach (a :: es) X.env = (false, eval a X.env) :: starEach es X.env := by rfl) : DAo X W (a :: es) (false :: ks) (xCons da ds) := by
  obtain ⟨ta, pa, ha⟩ := ha
  obtain ⟨tb, pb, hb⟩ := hr
  refine ⟨_, pa_cons pa pb hs, fun c σ H env st Q sr h => ha c σ H env st _ sr ?_⟩
  unfold xCons at h
  cases ea : da env st with
  | no => rw [ea] at h; exact h.elim
  | er x s => rw [ea] at h; exact h
  | ok p s =>
  rw [ea] at h
  intro v c1 H1 sr1 po1 r1
  refine hb c1 σ H1 env s _ sr1 ?_
  cases eb : ds env s with
  | no => simp only [Res.bind, eb] at h; exact h.elim
  | er x s' =>
    simp only [Res.bind, eb] at h
    exact fun cls dd c' H' sr' po ex => h cls dd c' H' sr' (po1.trans po) ex
  | ok ps s' =>
  simp only [Res.bind, eb] at h
  intro vs c' H' Ds sr' po hD nd im
  refine h (v :: vs) c' H' Ds sr' (po1.trans po) (fun D m => ⟨Classical.byContradiction fun z => po1.dm D z (hD D m).1, (hD D m).2⟩) nd (.pl ?_ im)
  have k0 := po.keeps (OwnS σ env)
  refine Rep.mono (p := p) po.gle ⟨k0.ex, k0.rd, fun a ha n z => ?_⟩ r1.1
  rcases z with z | (z | z) | z
  · exact k0.n a ha n (.inl z)
  · exact k0.n a ha n (.inr (.inl z))
  · exact ha (hD a z).1
  · exact k0.n a ha n (.inr (.inr z))
theorem dao_ow (ha : DE X W a .f da) (hr : DAo X W es ks ds) (hs : starEach (a :: es) X.env = (false, eval a X.env) :: starEach es X.env := by rfl) : DAo X W (a :: es) (true :: ks) (xCons da ds) := by
  obtain ⟨ta, pa, ha⟩ := ha
  obtain ⟨tb, pb, hb⟩ := hr
  refine ⟨_, pa_cons pa pb hs, fun c σ H env st Q sr h => ha c σ H env st _ sr ?_⟩
  unfold xCons at h
  cases ea : da env st with
  | no => rw [ea] at h; exact h.elim
  | er x s => rw [ea] at h; exact h
  | ok p s =>
  rw [ea] at h
  intro v c1 H1 sr1 po1 r1
  obtain ⟨D, rfl, n, nS, o, sD⟩ := r1.2 rfl
  refine hb (cD c1 D) σ H1 env s _ sD ?_
  cases eb : ds env s with
  | no => simp only [Res.bind, eb] at h; exact h.elim
  | er x s' =>
    simp only [Res.bind, eb] at h
    exact fun cls dd c' H' sr' po ex => h cls dd { c' with M := c1.M } H' (SRk.lessM sr' fun a z => by rw [po.M]; exact .inl z) (po1.trans po.unD) ex
  | ok ps s' =>
  simp only [Res.bind, eb] at h
  intro vs c' H' Ds sr' po hD nd im
  have ec := cD_un po
  obtain ⟨ob, eo, _⟩ := o.there
  have nSD : ¬ c'.S D := fun z => (po.S D z).elim nS (by rw [eo]; simp)
  have nin : D ∉ Ds := fun z => by rw [(hD D z).1] at eo; cases eo
  have em : cDs { c' with M := c1.M } (D :: Ds) = cDs c' Ds := by
    rw [cDs_cons', ← cDs_cons, ec]
  refine h (.ref D :: vs) { c' with M := c1.M } H' (D :: Ds) (by rw [em]; exact sr') (po1.trans po.unD) (fun E m => ?_) (List.nodup_cons.mpr ⟨nin, nd⟩) ?_
  · rcases List.mem_cons.mp m with e | m
    · subst e; exact ⟨n, nSD⟩
    · exact ⟨Classical.byContradiction fun z => po1.dm E z (hD E m).1, (hD E m).2⟩
  · rw [em]
    refine .ow ?_ im
    have k0 := po.keeps (OwnS σ env)
    refine o.mono (N := (cD c1 D).N σ env) po.gle ⟨k0.ex, k0.rd, fun a ha n z => ?_⟩ fun u q => po.fr D u q nS
    rcases z with z | (z | z) | z
    · exact k0.n a ha n (.inl z)
    · exact k0.n a ha n (.inr (.inl z))
    · exact ha (hD a z).1
    · exact k0.n a ha n (.inr (.inr z))
/-- the slots are set, one behind the other -/
def setE : List (Nat × Bool) → List PV → Env → Option Env
  | [], [], env => some env
  | (i, k) :: r, p :: ps, env => if i < env.length then setE r ps (env.set i (if k then .ow p else .pl p)) else none
  | _, _, _ => none
def setσ : List (Nat × Bool) → List V → L2.St → L2.St
  | (i, _) :: r, v :: vs, σ => setσ r vs (σ.set i (some v))
  | _, _, σ => σ
def kinds (l : List (Nat × Bool)) : List Bool := l.map (·.2)
theorem set_all : ∀ {l : List (Nat × Bool)} {ps : List PV} {vs : List V} {Ds : List Addr} {c : Ctl} {σ : L2.St} {H : Hp} {env env' : Env} {st : Sto}, SR X (cDs c Ds) σ H env st → (∀ D ∈ Ds, c.H0 D = none ∧ ¬ c.S D ∧ ¬ c.M D) → Ds.Nodup →
    Itm (gv X c) H ((cDs c Ds).N σ env) (kinds l) ps vs Ds → setE l ps env = some env' → SR X c (setσ l vs σ) H env' st
  | [], _, _, _, c, σ, H, env, env', st, sr, hD, nd, im, h => by
    cases im
    unfold setE at h
    cases h
    rw [cDs_nil] at sr
    exact sr
  | (i, false) :: r, _, _, Ds, c, σ, H, env, env', st, sr, hD, nd, im, h => by
    cases im with
    | @pl _ p ps v vs _ hp im =>
    unfold setE at h
    split at h
    · have s1 := sr.setPl i hp
      refine set_all (l := r) s1 hD nd (im.mono (.refl _) (.same _ fun a z => ?_) fun _ _ _ q => q) h
      exact z.imp id fun z => z.imp id (OwnS_set a)
    · cases h
  | (i, true) :: r, _, _, _, c, σ, H, env, env', st, sr, hD, nd, im, h => by
    cases im with
    | @ow _ p ps D vs Ds hp im =>
    unfold setE at h
    split at h
    · rename_i hi
      rw [cDs_cons'] at sr hp im
      obtain ⟨h1, h2, h3⟩ := hD D List.mem_cons_self
      have nin := (List.nodup_cons.mp nd).1
      have s1 : SR X (cDs c Ds) (σ.set i (some (.ref D))) H (env.set i (.ow p)) st := SRk.setOw sr i hi h1 h2 (fun z => z.elim h3 nin) hp
      refine set_all (l := r) s1 (fun E m => hD E (List.mem_cons_of_mem _ m)) (List.nodup_cons.mp nd).2 (im.mono (.refl _) (.same _ fun a z => cD_N a |>.mpr ?_) fun _ _ _ q => q) h
      rcases z with z | z | ⟨j, pv, z1, z2⟩
      · exact .inl (.inl z)
      · exact .inl (.inr (.inl z))
      · by_cases hj : i = j
        · subst hj
          rw [List.getElem?_set_self (by rw [← sr.len]; exact hi)] at z2
          exact .inr (by cases z2; rfl)
        · rw [List.getElem?_set_ne hj] at z1 z2
          exact .inl (.inr (.inr ⟨j, pv, z1, z2⟩))
    · cases h
def xPar (l : List (Nat × Bool)) (ds : Den (List PV)) : DenS := fun env st => (ds env st).thenS fun ps s => optS (setE l ps env) s
theorem par_core {l : List (Nat × Bool)} {ta : TA} {c : Ctl} {σ : L2.St} {H : Hp} {env : Env} {st : Sto} {D : Ends} (ha : ∀ c σ H env st Q, SR X c σ H env st → HypO X W σ env (kinds l) c H (ds env st) Q → ta σ H Q) (sr : SR X c σ H env st)
    (h : HypS X W rl c (xPar l ds env st) D) {Q : List V → Hp → Prop}
    (k : ∀ vs H', vs.length = l.length → (∀ H'', Gro H' H'' → D.nx (setσ l vs σ) H'') → Q vs H') : ta σ H Q := by
  refine ha c σ H env st _ sr ?_
  unfold xPar at h
  cases ea : ds env st with
  | no => rw [ea] at h; exact h.elim
  | er x s =>
    rw [ea] at h
    exact fun cls dd c' H' sr' po ex => h cls dd c' σ H' env sr' po.seq ex
  | ok ps s =>
  rw [ea] at h
  intro vs c' H' Ds sr' po hD nd im
  cases ee : setE l ps env with
  | none => simp only [Res.thenS, ee] at h; exact h.elim
  | some env' =>
  simp only [Res.thenS, ee] at h
  have h0 : ∀ E ∈ Ds, c'.H0 E = none ∧ ¬ c'.S E ∧ ¬ c'.M E := fun E m => ⟨by
    rw [po.H0]; exact Classical.byContradiction fun z => sr.d0 E z (hD E m).1, (hD E m).2, fun z => by
    rw [po.M] at z; exact sr.dm E (.inr z) (hD E m).1⟩
  refine k vs H' (by rw [im.length.1]; simp [kinds]) fun H'' gr => ?_
  exact h c' _ H'' ((set_all sr' h0 nd im ee).grow gr) po.seq
end
end Vl

set_option Elab.async false
set_option linter.all false
set_option maxRecDepth 100000
set_option maxHeartbeats 1000000
namespace Vl
open PySem PySem.Spec PyProof.Rows L2

/-! ### statements that are never reached -/
section
variable {X : Cx} {W : WX} {rl : Lv} {s : Stmt} {l : Lv} {e : Expr} {pos : Pos}
def xDead : DenS := fun _ _ => .no
theorem ds_dead : DS X W rl s xDead := ⟨fun _ _ _ => False, ⟨fun _ _ _ _ _ _ h => h.elim⟩, fun c σ H env st D sr h => h.elim⟩
def xNo {α : Type} : Den α := fun _ _ => .no
theorem de_dead : DE X W e l xNo := ⟨fun _ _ _ => False, ⟨fun _ _ _ _ _ _ h => h.elim⟩, fun c σ H env st D sr h => h.elim⟩
theorem dt_dead : DT X W e xNo := ⟨fun _ _ _ => False, ⟨fun _ _ _ _ _ _ h => h.elim⟩, fun c σ H env st D sr h => h.elim⟩
end

/-! ### defs -/
abbrev FDen := List PV → Sto → Res PV
def startE (n : Nat) (ps : List PV) : Env := ps.map .pl ++ List.replicate (n - ps.length) .no
/-- a def's body as a function of its arguments -/
def fnDen (rl : Lv) (n : Nat) (body : DenS) : FDen := fun ps st => match body (startE n ps) st with
  | .rt p s => .ok p s
  | .nx _ s => if rl = .f then .no else .ok .non s
  | .er x s => .er x s
  | _ => .no
def RtM (rl : Lv) (g : Gv) (S M : Addr → Prop) (H H' : Hp) (st' : Sto) (p : PV) (v : V) : Prop :=
  if rl = .f then ∃ D, v = .ref D ∧ H D = none ∧ ¬ S D ∧ OwnAt g H' (fun a => S a ∨ M a ∨ a = D) D p ∧ StoOk g S H' (fun a => S a ∨ M a ∨ a = D) st' else Rep g H' (fun a => S a ∨ M a) p v
def callM (rl : Lv) (K : PySem.W.Frag) (mg : Str → Option Value) (S M : Addr → Prop) (sa : List Addr) (H : Hp) (r : Res PV) (Q : VK) (E : XK) : Prop :=
  match r with
  | .ok p st' => ∀ v H' S' sa', sa <+: sa' → (∀ a, S' a → S a ∨ H a = none) → StoOk ⟨K, mg, sa'⟩ S' H' (fun a => S' a ∨ M a) st' → (∀ a, S' a → H' a ≠ none) → (∀ a o, H a = some o → ¬ S a → H' a = some o) → (∀ a, H a ≠ none → H' a ≠ none) →
      RtM rl ⟨K, mg, sa'⟩ S' M H H' st' p v → Q v H'
  | .er x st' => ∀ cls dd H' S' sa', sa <+: sa' → (∀ a, S' a → S a ∨ H a = none) → StoOk ⟨K, mg, sa'⟩ S' H' (fun a => S' a ∨ M a) st' → (∀ a, S' a → H' a ≠ none) → (∀ a o, H a = some o → ¬ S a → H' a = some o) → (∀ a, H a ≠ none → H' a ≠ none) →
      (∃ C, mg x.cls = some (.ref C) ∧ cls = .ref C ∧ (x.fs = [] ∨ ∃ d fvs, dd = some d ∧ H' d = some (.xd fvs) ∧ ∀ f p, x.fs.lookup f = some p → ∃ v, fvs.lookup f = some v ∧ Rep ⟨K, mg, []⟩ H' (fun _ => False) p v)) → E cls dd H'
  | .no => False
def spOf (rl : Lv) (K : PySem.W.Frag) (mg : Str → Option Value) (np : Nat) (F : FDen) : Sp := fun vs H Q E =>
  ∃ (S M : Addr → Prop) (sa : List Addr) (ps : List PV) (st : Sto), ps.length = np ∧ (∀ a, S a ∨ M a → H a ≠ none) ∧ StoOk ⟨K, mg, sa⟩ S H (fun a => S a ∨ M a) st ∧ RepA ⟨K, mg, sa⟩ H (fun a => S a ∨ M a) ps vs ∧ callM rl K mg S M sa H (F ps st) Q E
theorem StoOk.loosen {g : Gv} {S : Addr → Prop} {H : Hp} {N N' : Addr → Prop} {st : Sto} (s : StoOk g S H N st) (h : ∀ a, N' a → N a) : StoOk g S H N' st :=
  ⟨s.len, s.nd, s.own, fun n xs e => by
    obtain ⟨a, vs, h1, h2, h3, h4⟩ := s.lst n xs e
    exact ⟨a, vs, h1, h2, h3, RepA.loosen h h4⟩⟩
theorem start_get {N : List Str} {vs : List V} {ps : List PV} {g : Gv} {H : Hp} {M : Addr → Prop} (r : RepA g H M ps vs) {i : Nat} {pv : PV} (e : (startE N.length ps)[i]? = some (.pl pv)) : ∃ v, (L2.start N vs)[i]? = some (some v) ∧ Rep g H M pv v := by
  unfold startE at e
  rw [List.getElem?_append] at e
  split at e
  · rename_i hi
    rw [List.getElem?_map] at e
    cases q : ps[i]? with
    | none => rw [q] at e; cases e
    | some p =>
      rw [q] at e
      cases e
      obtain ⟨v, h1, h2⟩ := r.get q
      refine ⟨v, ?_, h2⟩
      unfold L2.start
      rw [List.getElem?_append_left (by rw [List.length_map, ← r.length]; simpa using hi), List.getElem?_map, h1]
      rfl
  · rw [List.getElem?_replicate] at e
    split at e <;> cases e
theorem start_own {n : Nat} {ps : List PV} {i : Nat} {pv : PV} : (startE n ps)[i]? ≠ some (.ow pv) := by
  unfold startE
  rw [List.getElem?_append]
  split
  · rw [List.getElem?_map]
    cases ps[i]? <;> simp
  · rw [List.getElem?_replicate]
    split <;> simp
theorem start_len {N : List Str} {vs : List V} {ps : List PV} (h : ps.length = vs.length) : (startE N.length ps).length = (L2.start N vs).length := by
  unfold startE L2.start
  simp [h]
section
variable {P : Program} {w : World} {K : PySem.W.Frag} {mg : Str → Option Value} {base : Heap}
theorem fn_sound {x qual : Str} {st : Stmt} {f : Addr} {fd : FuncData} {N ps : List Str} {k : Nat} {F : FDen} {body : DenS} {rl : Lv} (F0 : Fun K x qual st f fd) (S : FnScope N ps (defScope st))
    (hbody : ∀ (cdv : Value) (A : Around) (outer : List PySem.Env) (s : Shared) (H : Hp) (E : XK), Room k (A.deeper (envOfC qual (defScope st) s.heap.objs.size f cdv)) →
      DSs (cxOf (L2.CX P w) P w K mg base N qual (defScope st) f cdv A outer s H E) (fun cls d _ H => E cls d H) rl (defBody st) body)
    (hF : F = fnDen rl N.length body) : FnOk P w K mg base (L2.CX P w) (k + 1) f fd ps (spOf rl K mg ps.length F) := by
  subst hF
  refine F0.okX S (fun vs H Q E h => ?_) (fun cdv A outer s H vs Q E hr h => ?_)
  · obtain ⟨S, M, sa, pv, st, h1, _, _, h2, _⟩ := h
    rw [← h2.length, h1]
  obtain ⟨S', M, sa, pv, st', h1, dm, sto, ra, q⟩ := h
  obtain ⟨t, pt, ht⟩ := hbody cdv A outer s H E hr
  refine ⟨t, pt, ?_⟩
  let c : Ctl := ⟨S', M, sa, [], H, S'⟩
  have cN : ∀ a, c.N (L2.start N vs) (startE N.length pv) a → S' a ∨ M a := fun a z => by
    rcases z with z | z | ⟨i, p, z, _⟩
    · exact .inl z
    · exact .inr z
    · exact absurd z start_own
  have sr : SRk K mg c (L2.start N vs) H (startE N.length pv) st' :=
    ⟨start_len ra.length, fun i p e => start_get (RepA.loosen cN ra) e, fun i p e => absurd e start_own, fun i j p _ _ e => absurd e start_own, fun p hp => absurd hp (by simp [c]), sto.loosen cN, dm, fun a o e _ => e, fun a z => z, fun a z => .inl z⟩
  refine ht c _ H _ st' _ sr ?_
  unfold fnDen at q
  cases eb : body (startE N.length pv) st' with
  | nx e s2 =>
    rw [eb] at q
    by_cases hrl : rl = .f
    · simp only [hrl, if_true] at q
      exact q.elim
    simp only [hrl, if_false] at q
    exact fun c' σ' H' sr' k' => q .non H' c'.S c'.sa k'.sa (fun a z => by
      rcases sr'.fs a z with z | z
      · rw [k'.S0] at z; exact .inl z
      · rw [k'.H0] at z; exact .inr z) (sr'.sto.loosen fun a z => z.elim .inl fun z => .inr (.inl (by rw [k'.M]; exact z))) (fun a z => sr'.dm a (.inl z))
      (fun a o e n => sr'.fr a o (by rw [k'.H0]; exact e) (by rw [k'.S0]; exact n)) (fun a z => sr'.d0 a (by rw [k'.H0]; exact z)) (by unfold RtM; rw [if_neg hrl]; exact .non)
  | rt p s2 =>
    rw [eb] at q
    exact fun v c' σ' H' e sr' k' r => q v H' c'.S c'.sa k'.sa (fun a z => by
      rcases sr'.fs a z with z | z
      · rw [k'.S0] at z; exact .inl z
      · rw [k'.H0] at z; exact .inr z) (sr'.sto.loosen fun a z => z.elim .inl fun z => .inr (.inl (by rw [k'.M]; exact z))) (fun a z => sr'.dm a (.inl z))
      (fun a o e n => sr'.fr a o (by rw [k'.H0]; exact e) (by rw [k'.S0]; exact n)) (fun a z => sr'.d0 a (by rw [k'.H0]; exact z)) (by
        unfold RT at r
        unfold RtM
        by_cases hrl : rl = .f
        · rw [if_pos hrl] at r ⊢
          obtain ⟨D, e1, e2, e3, e4, e5⟩ := r
          have hl : ∀ a, (c'.S a ∨ M a ∨ a = D) → (cD c' D).NM a := fun a z => z.imp id fun z => z.imp (fun z => by rw [k'.M]; exact z) id
          exact ⟨D, e1, by rw [k'.H0] at e2; exact e2, e3, e4.mono (.refl _) (.same _ hl) fun _ q => q, e5.loosen hl⟩
        · rw [if_neg hrl] at r ⊢
          exact Rep.loosen (fun a z => z.elim .inl fun z => .inr (by rw [k'.M]; exact z)) r)
  | er x s2 =>
    rw [eb] at q
    exact fun cls dd c' σ' H' e sr' k' ex => q cls dd H' c'.S c'.sa k'.sa (fun a z => by
      rcases sr'.fs a z with z | z
      · rw [k'.S0] at z; exact .inl z
      · rw [k'.H0] at z; exact .inr z) (sr'.sto.loosen fun a z => z.elim .inl fun z => .inr (.inl (by rw [k'.M]; exact z))) (fun a z => sr'.dm a (.inl z))
      (fun a o e n => sr'.fr a o (by rw [k'.H0]; exact e) (by rw [k'.S0]; exact n)) (fun a z => sr'.d0 a (by rw [k'.H0]; exact z)) ex
  | bk e s2 => rw [eb] at q; exact q.elim
  | ct e s2 => rw [eb] at q; exact q.elim
  | no => rw [eb] at q; exact q.elim
end
section
variable {X : Cx} {W : WX} {es : List Expr} {e : Expr} {x : Str} {p pos : Pos}
def xCall (np : Nat) (F : FDen) (ds : Den (List PV)) : Den PV := fun env st => (ds env st).bind fun ps s => if ps.length = np then F ps s else .no
theorem call_mk {c1 : Ctl} {σ : L2.St} {env : Env} {H1 : Hp} {st1 : Sto} (sr1 : SR X c1 σ H1 env st1) {H' : Hp} {S' : Addr → Prop} {sa' : List Addr} {st' : Sto} (a1 : c1.sa <+: sa') (a2 : ∀ a, S' a → c1.S a ∨ H1 a = none)
    (a3 : StoOk ⟨X.K, X.mg, sa'⟩ S' H' (fun a => S' a ∨ c1.M a ∨ OwnS σ env a) st') (a4 : ∀ a, S' a → H' a ≠ none) (a5 : ∀ a o, H1 a = some o → ¬ c1.S a → H' a = some o) (a6 : ∀ a, H1 a ≠ none → H' a ≠ none) :
      Post c1 { c1 with S := S', sa := sa' } H1 H' ∧ (∀ a, S' a → c1.S0 a ∨ c1.H0 a = none) ∧ SR X { c1 with S := S', sa := sa' } σ H' env st' := by
  have po : Post c1 { c1 with S := S', sa := sa' } H1 H' := ⟨rfl, rfl, rfl, rfl, a1, a2, a5, a6⟩
  have fs : ∀ a, S' a → c1.S0 a ∨ c1.H0 a = none := fun a z => by
    rcases a2 a z with z | z
    · exact sr1.fs a z
    · exact .inr (Classical.byContradiction fun y => sr1.d0 a y z)
  exact ⟨po, fs, sr1.post po a3 a4 fs⟩
theorem call_core {rl : Lv} (hrl : rl = .m ∨ rl = .f) {np : Nat} {F : FDen} {ds : Den (List PV)} {c : Ctl} {σ : L2.St} {env : Env} {H : Hp} {st : Sto} {Q : VK} {t : TA} (ha : ∀ c σ H env st Q, SR X c σ H env st → HypG X W σ env (RA X σ env) c H (ds env st) Q → t σ H Q)
    (sr : SR X c σ H env st) (h : HypG X W σ env (RL X σ env (if rl = .f then .f else .c)) c H (xCall np F ds env st) Q) : t σ H fun vs H1 => spOf rl X.K X.mg np F vs H1 Q (WE W σ) := by
  refine ha c σ H env st _ sr (bindG back_RL h fun pv st1 vs c1 H1 sr1 po r h1 => ?_)
  by_cases hl : pv.length = np
  case neg => simp only [hl, if_false] at h1; exact h1.elim
  simp only [hl, if_true] at h1
  have hN : (fun a => c1.S a ∨ c1.M a ∨ OwnS σ env a) = c1.N σ env := rfl
  refine ⟨c1.S, fun a => c1.M a ∨ OwnS σ env a, c1.sa, pv, st1, hl, fun a z => OwnS.gone sr1 z, sr1.sto, r, ?_⟩
  unfold callM
  cases ef : F pv st1 with
  | no => rw [ef] at h1; exact h1.elim
  | ok q st2 =>
    rw [ef] at h1
    intro v H' S' sa' a1 a2 a3 a4 a5 a6 a7
    obtain ⟨po2, fs, sr2⟩ := call_mk sr1 a1 a2 a3 a4 a5 a6
    refine h1 v _ H' sr2 po2 ?_
    unfold RtM at a7
    rcases hrl with rfl | rfl
    · rw [if_neg (by decide)] at a7
      exact rlc a7
    · rw [if_pos rfl] at a7
      obtain ⟨D, rfl, e2, e3, e4, e5⟩ := a7
      have hl : ∀ a, (cD { c1 with S := S', sa := sa' } D).N σ env a → (S' a ∨ (c1.M a ∨ OwnS σ env a) ∨ a = D) := fun a z => (cD_N a |>.mp z).elim (fun z => z.elim .inl fun z => .inr (.inl z)) fun z => .inr (.inr z)
      have hl2 : ∀ a, ({ c1 with S := S', sa := sa' } : Ctl).N σ env a → (cD { c1 with S := S', sa := sa' } D).N σ env a := fun a z => cD_N a |>.mpr (.inl z)
      have o1 : OwnAt (gv X { c1 with S := S', sa := sa' }) H' ((cD { c1 with S := S', sa := sa' } D).N σ env) D q := e4.mono (.refl _) (.same _ hl) fun _ q => q
      have nM : ¬ ({ c1 with S := S', sa := sa' } : Ctl).NM D := fun z => z.elim e3 fun z => sr1.dm D (.inr z) e2
      refine ⟨⟨D, rfl, e2, nM, o1.mono (.refl _) (.same _ hl2) fun _ q => q⟩, fun _ => ⟨D, rfl, e2, e3, o1, sr1.postD po2 e2 (by
        obtain ⟨o, eo, _⟩ := o1.there
        rw [eo]; simp) (e5.loosen hl) a4 fs⟩⟩
  | er y st2 =>
    rw [ef] at h1
    intro cls dd H' S' sa' a1 a2 a3 a4 a5 a6 a7
    obtain ⟨po2, fs, sr2⟩ := call_mk sr1 a1 a2 a3 a4 a5 a6
    exact h1 cls dd _ H' sr2 po2 a7
/-- a call of a def of the text -/
theorem d_call {k : Nat} {f : Addr} {fd : FuncData} {ps : List Str} {F : FDen} {ds : Den (List PV)} (F0 : FnOk X.prog X.w X.K X.mg X.base (L2.CX X.prog X.w) k f fd ps (spOf .m X.K X.mg ps.length F)) (tk : Takes X W) (hr : Room k X.A) (hg : Gl X x) (hm : X.mg x = some (.ref f))
    (hk : PySem.W.keepIn X.K (.ref f) = true) (hb : Binds X.K fd ps []) (ha : DA X W (e :: es) ds) (hdb : (x == ("__debug__" : Str)) = false := by decide) (he : starEach (e :: es) X.env = (false, eval e X.env) :: starEach es X.env := by rfl)
    (hpl : (backTo pos (starEach es X.env)).any (·.1) = false := by rfl) : DE X W (.Call (.Name x p) (e :: es) [] pos) .c (xCall ps.length F ds) := by
  obtain ⟨t, pt, ha⟩ := ha
  exact ⟨_, pe_callS F0 hr hg hm hk hb (passAt tk) pt hdb he hpl, fun c σ H env st Q sr h => call_core (.inl rfl) ha sr h⟩
theorem d_callF {k : Nat} {f : Addr} {fd : FuncData} {ps : List Str} {F : FDen} {ds : Den (List PV)} (F0 : FnOk X.prog X.w X.K X.mg X.base (L2.CX X.prog X.w) k f fd ps (spOf .f X.K X.mg ps.length F)) (tk : Takes X W) (hr : Room k X.A) (hg : Gl X x) (hm : X.mg x = some (.ref f))
    (hk : PySem.W.keepIn X.K (.ref f) = true) (hb : Binds X.K fd ps []) (ha : DA X W (e :: es) ds) (hdb : (x == ("__debug__" : Str)) = false := by decide) (he : starEach (e :: es) X.env = (false, eval e X.env) :: starEach es X.env := by rfl)
    (hpl : (backTo pos (starEach es X.env)).any (·.1) = false := by rfl) : DE X W (.Call (.Name x p) (e :: es) [] pos) .f (xCall ps.length F ds) := by
  obtain ⟨t, pt, ha⟩ := ha
  exact ⟨_, pe_callS F0 hr hg hm hk hb (passAt tk) pt hdb he hpl, fun c σ H env st Q sr h => call_core (.inr rfl) ha sr h⟩
end
end Vl

set_option Elab.async false
set_option linter.all false
set_option maxRecDepth 100000
set_option maxHeartbeats 1000000
namespace Vl
open PySem PySem.Spec PyProof.Rows L2

/-! ### lists that are shared and written: the store -/
section
variable {X : Cx} {W : WX} {rl : Lv} {a b e : Expr} {da db : Den PV} {l : Lv} {pos : Pos}
def newSto (c : Ctl) (D : Addr) : Ctl := { c with S := fun a => c.S a ∨ a = D, sa := c.sa ++ [D] }
theorem SRk.adopt {c : Ctl} {σ : L2.St} {H : Hp} {env : Env} {st : Sto} {ps : List PV} {D : Addr} (sr : SR X (cD c D) σ H env st) (nS : ¬ c.S D) (h0 : c.H0 D = none) (o : OwnAt (gv X c) H ((cD c D).N σ env) D (.lst ps)) :
    SR X (newSto c D) σ H env (st ++ [.lst ps]) := by
  have hn : ∀ a, (newSto c D).N σ env a → (cD c D).N σ env a := fun a h => cD_N a |>.mpr (by
    rcases h with (h | h) | h | h
    · exact .inl (.inl h)
    · exact .inr h
    · exact .inl (.inr (.inl h))
    · exact .inl (.inr (.inr h)))
  have gl : Gle (gv X c) (gv X (newSto c D)) := ⟨rfl, rfl, List.prefix_append _ _⟩
  have kp : Kp H H ((cD c D).N σ env) ((newSto c D).N σ env) := .same _ hn
  obtain ⟨vs0, hv, hz, hr⟩ := o
  refine ⟨sr.len, fun j pv e => ?_, fun j pv e => ?_, sr.dist, fun q hq => (sr.gh q hq).mono gl kp, ⟨?_, ?_, fun a ha => ?_, fun n xs e => ?_⟩, fun a z => ?_, sr.fr, sr.d0, fun a z => ?_⟩
  · obtain ⟨v, h1, h2⟩ := sr.pl j pv e
    exact ⟨v, h1, h2.mono gl kp⟩
  · obtain ⟨a, h1, h2, h3, h4, h5⟩ := sr.ow j pv e
    exact ⟨a, h1, h2, fun z => z.elim h3 fun z => h4 (.inr z), fun z => h4 (.inl z), h5.mono gl kp fun _ q => q⟩
  · show (c.sa ++ [D]).length = (st ++ [SO.lst ps]).length
    rw [List.length_append, List.length_append]
    exact congrArg (· + 1) sr.sto.len
  · show (c.sa ++ [D]).Nodup
    refine List.nodup_append.mpr ⟨sr.sto.nd, by simp, fun x hx y hy => ?_⟩
    simp only [List.mem_singleton] at hy
    rintro rfl
    exact nS (hy ▸ sr.sto.own x hx)
  · rcases List.mem_append.mp ha with h | h
    · exact .inl (sr.sto.own a h)
    · exact .inr (by simpa using h)
  · rw [List.getElem?_append] at e
    split at e
    · obtain ⟨a, vs, h1, h2, h3, h4⟩ := sr.sto.lst n xs e
      exact ⟨a, vs, gl.at h1, h2, h3, h4.mono gl kp⟩
    · rename_i hlt
      have hl := sr.sto.len
      have e0 : n = st.length := by
        have := (List.getElem?_eq_some_iff.mp e).1
        simp at this
        omega
      subst e0
      simp only [Nat.sub_self, List.getElem?_cons_zero, Option.some.injEq, SO.lst.injEq] at e
      subst e
      refine ⟨D, vs0, ?_, hv, hz, hr.mono gl kp⟩
      show (c.sa ++ [D])[st.length]? = some D
      rw [← show c.sa.length = st.length from hl, List.getElem?_append_right (Nat.le_refl _)]
      simp
  · have z' : (c.S a ∨ c.M a ∨ a = D) := by
      rcases z with (z | z) | z
      · exact .inl z
      · exact .inr (.inr z)
      · exact .inr (.inl z)
    exact sr.dm a z'
  · rcases z with z | z
    · exact sr.fs a z
    · exact .inr (by rw [z]; exact h0)
def xSto (d : Den PV) (i : Nat) : DenS := fun env st => (d env st).thenS fun p s => match p with
  | .lst ps => .nx (env.set i (.pl (.obj s.length))) (s ++ [.lst ps])
  | _ => .no
theorem ds_sto (i : Nat) {x : Str} {pos' : Pos} (hN : X.N.Nodup) (ha : DE X W e .f da) (hi : X.N[i]? = some x := by rfl) (hx : Loc X.env.scope x := by first | exact Or.inl rfl | exact Or.inr rfl) (hs : swapsWith e (some (.Name x pos')) pos.line X.env = pure false := by rfl)
    (hf : X.fn x = true ∨ X.env.scope.names.lookup x = some .local := by first | exact .inl rfl | exact .inr rfl) : DS X W rl (.Assign [.Name x pos'] e pos) (xSto da i) := by
  obtain ⟨t, p, ha⟩ := ha
  refine ⟨_, ps_set (i := i) hN hi hx p hs hf, fun c σ H env st D sr h => ha c σ H env st _ sr (bindS h fun p st1 v c1 H1 sr1 po r h1 => ?_)⟩
  obtain ⟨A, e1, n, nS, o, sD⟩ := r.2 rfl
  subst e1
  cases p with
  | lst ps =>
    have h0 : c1.H0 A = none := by rw [po.H0]; exact Classical.byContradiction fun z => sr.d0 A z n
    have s1 := sD.adopt nS h0 o
    have hl : c1.sa.length = st1.length := sr1.sto.len
    refine h1 (newSto c1 A) _ H1 (s1.setPl i (p := .obj st1.length) (v := .ref A) (.obj ?_)) ⟨rfl, rfl, rfl, rfl, List.prefix_append _ _⟩
    show (c1.sa ++ [A])[st1.length]? = some A
    rw [← hl, List.getElem?_append_right (Nat.le_refl _)]
    simp
  | _ => exact h1.elim
theorem SRk.writeSto {c : Ctl} {σ : L2.St} {H : Hp} {env : Env} {st : Sto} {xs xs' : List PV} {vs' : List V} {a : Addr} {n : Nat} (sr : SR X c σ H env st) (e : st[n]? = some (.lst xs)) (ha : c.sa[n]? = some a)
    (z : xs'.length ≤ sizeLine) (r : RepA (gv X c) H (c.N σ env) xs' vs') : SR X c σ (upd H a (.lst vs')) env (st.set n (.lst xs')) := by
  have hn : n < st.length := (List.getElem?_eq_some_iff.mp e).1
  have hS : c.S a := sr.sto.own a (List.mem_of_getElem? ha)
  have hd : H a ≠ none := sr.dm a (.inl hS)
  have k : Kp H (upd H a (.lst vs')) (c.N σ env) (c.N σ env) := .of (fun b u q n => by
    have : b ≠ a := fun z => n (by rw [z]; exact .inl hS)
    rw [upd_ne this]; exact q) fun _ _ n => n
  refine ⟨sr.len, fun i pv q => ?_, fun i pv q => ?_, sr.dist, fun q hq => (sr.gh q hq).mono (.refl _) k, ⟨by rw [List.length_set]; exact sr.sto.len, sr.sto.nd, sr.sto.own, fun m ys q => ?_⟩, fun b z => ?_, fun b u q n => ?_, fun b z => ?_, sr.fs⟩
  · obtain ⟨v, w1, w2⟩ := sr.pl i pv q
    exact ⟨v, w1, w2.mono (.refl _) k⟩
  · obtain ⟨b, w1, w2, w3, w4, w5⟩ := sr.ow i pv q
    have hb : b ≠ a := fun z => w3 (by rw [z]; exact hS)
    exact ⟨b, w1, w2, w3, w4, w5.mono (.refl _) k fun u q => by rw [upd_ne hb]; exact q⟩
  · by_cases hm : n = m
    · subst hm
      rw [List.getElem?_set_self hn] at q
      cases q
      exact ⟨a, vs', ha, upd_same, z, r.mono (.refl _) k⟩
    · rw [List.getElem?_set_ne hm] at q
      obtain ⟨b, vs, w1, w2, w3, w4⟩ := sr.sto.lst m ys q
      have hb : b ≠ a := fun z => by
        have w1 : c.sa[m]? = some b := w1
        rw [z] at w1
        obtain ⟨l1, e1⟩ := List.getElem?_eq_some_iff.mp w1
        obtain ⟨l2, e2⟩ := List.getElem?_eq_some_iff.mp ha
        exact hm ((List.getElem_inj (h₀ := l2) (h₁ := l1) (sr.sto.nd : c.sa.Nodup)).mp (e2.trans e1.symm))
      exact ⟨b, vs, w1, by rw [upd_ne hb]; exact w2, w3, w4.mono (.refl _) k⟩
  · by_cases hb : b = a
    · rw [hb, upd_same]; simp
    · rw [upd_ne hb]; exact sr.dm b z
  · have hb : b ≠ a := fun z => by
      subst z
      rcases sr.fs b hS with y | y
      · exact n y
      · rw [y] at q; cases q
    rw [upd_ne hb]; exact sr.fr b u q n
  · by_cases hb : b = a
    · rw [hb, upd_same]; simp
    · rw [upd_ne hb]; exact sr.d0 b z
/-- xs[k] of a list of the store -/
def getS (st : Sto) : PV → Option (List PV)
  | .obj n => (match st[n]? with | some (.lst xs) => some xs | _ => none)
  | _ => none
def ixS (st : Sto) (p q : PV) : Option PV := match getS st p, q with
  | some xs, .int k => atI xs k
  | _, _ => none
def xIxS (da db : Den PV) : Den PV := fun env st => (da env st).bind fun p s => (db env s).bind fun q s' => opt (ixS s' p q) s'
theorem sto_at {c : Ctl} {σ : L2.St} {H : Hp} {env : Env} {st : Sto} {p : PV} {x : V} {xs : List PV} (sr : SR X c σ H env st) (r : Rep (gv X c) H (c.N σ env) p x) (h : getS st p = some xs) :
    ∃ n a vs, p = .obj n ∧ x = .ref a ∧ st[n]? = some (.lst xs) ∧ c.sa[n]? = some a ∧ H a = some (.lst vs) ∧ xs.length ≤ sizeLine ∧ RepA (gv X c) H (c.N σ env) xs vs := by
  cases p with
  | obj n =>
    unfold getS at h
    cases e : st[n]? with
    | none => simp only [e] at h; cases h
    | some so =>
      cases so with
      | lst ys =>
        simp only [e] at h
        cases h
        obtain ⟨a, vs, h1, h2, h3, h4⟩ := sr.sto.lst n xs e
        cases r with
        | obj h0 =>
          have h0 : c.sa[n]? = some _ := h0
          have h1 : c.sa[n]? = some a := h1
          rw [h0] at h1
          cases h1
          exact ⟨n, _, vs, rfl, rfl, e, h0, h2, h3, h4⟩
  | _ => cases h
theorem d_ixS (ha : DE X W a .c da) (hb : DE X W b .c db) (hs : PlainIx b := by exact fun _ _ => rfl) : DE X W (.Subscript a b pos) .c (xIxS da db) := by
  obtain ⟨ta, pa, ha⟩ := ha
  obtain ⟨tb, pb, hb⟩ := hb
  refine ⟨_, pe_ix ix_list pa pb hs, fun c σ H env st Q sr h => ha c σ H env st _ sr (bindG back_RL h fun p st1 v c1 H1 sr1 po r h1 => hb c1 σ H1 env st1 _ sr1 (bindG back_RL h1 fun q st2 w c2 H2 sr2 po2 r2 h2 => ?_))⟩
  obtain ⟨res, e, h3⟩ := opt_some h2
  unfold ixS at e
  split at e
  · rename_i xs k e1
    obtain ⟨n, A, vs, rfl, rfl, s1, s2, s3, s4, s5⟩ := sto_at sr2 (po2.rep r.1) e1
    obtain ⟨y, g1, g2⟩ := atI_rep s5 e
    exact ⟨A, vs, k, y, rfl, rv_int r2.1, SqL.of s3, g1, h3 y c2 H2 sr2 (.refl _ _) (rlc g2)⟩
  · cases e
/-- xs[k] = e of a list of the store -/
def xPutS (d da db : Den PV) : DenS := fun env st => (d env st).thenS fun q s => (da env s).thenS fun p s1 => (db env s1).thenS fun k s2 => match getS s2 p, p, k with
  | some xs, .obj n, .int k => (match ixN xs.length k with
    | some m => .nx env (s2.set n (.lst (xs.set m q)))
    | none => .no)
  | _, _, _ => .no
theorem ds_putS {d : Den PV} {p2 : Pos} (h : DE X W e .c d) (ha : DE X W a .c da) (hb : DE X W b .c db)
    (hp : ∀ (te to ti : TE), PE X e te → PE X a to → PE X b ti → PS X (.Assign [.Subscript a b p2] e pos) (tAsg te (gSub to ti rSetL)) := by intro te to ti h1 h2 h3; exact ps_asg h1 (pg_sub h2 h3 set_list)) :
    DS X W rl (.Assign [.Subscript a b p2] e pos) (xPutS d da db) := by
  obtain ⟨t, p, h⟩ := h
  obtain ⟨ta, pa, ha⟩ := ha
  obtain ⟨tb, pb, hb⟩ := hb
  refine ⟨_, hp _ _ _ p pa pb, fun c σ H env st D sr hy => h c σ H env st _ sr (bindS hy fun q st1 v c1 H1 sr1 po r h1 => ha c1 σ H1 env st1 _ sr1 (bindS h1 fun o st2 ov c2 H2 sr2 po2 r2 h2 => hb c2 σ H2 env st2 _ sr2 (bindS h2 fun kp st3 kv c3 H3 sr3 po3 r3 h3 => ?_)))⟩
  split at h3
  · rename_i xs n k e1
    obtain ⟨n', A, vs, e0, rfl, s1, s2, s3, s4, s5⟩ := sto_at sr3 (po3.rep r2.1) e1
    cases e0
    cases ei : ixN xs.length k with
    | none => simp only [ei] at h3; exact h3.elim
    | some m =>
      simp only [ei] at h3
      refine ⟨A, vs, k, m, rfl, rv_int r3.1, s3, by rw [← s5.length]; exact ei, ?_⟩
      exact h3 c3 σ _ (sr3.writeSto s1 s2 (by rw [List.length_set]; exact s4) (RepA.set (po3.rep (po2.rep r.1)) m s5)) (.refl _)
  · exact h3.elim
end
end Vl

set_option Elab.async false
set_option linter.all false
set_option maxRecDepth 100000
set_option maxHeartbeats 1000000
namespace Vl
open PySem PySem.Spec PyProof.Rows L2

theorem valsGetV : ∀ {xs : List V} {us : List Value} {i : Nat} {u : Value}, Vals xs us → us[i]? = some u → ∃ x, xs[i]? = some x ∧ RelV x u
  | _, _, 0, _, .cons r _, e => ⟨_, rfl, by cases e; exact r⟩
  | _, _, i + 1, _, .cons _ rr, e => valsGetV (i := i) rr e
/-! ### enumerate, zip, over lists, tuples, texts in any mix -/
inductive Src where
  | l (a : Addr) | t (a : Addr) | s (x : Str)
def Src.v : Src → V
  | .l a => .ref a
  | .t a => .ref a
  | .s x => .str x
def Src.at (K : PySem.W.Frag) (H : Hp) : Src → List V → Prop
  | .l a, xs => SqL K H a xs
  | .t a, xs => SqT K H a xs
  | .s x, xs => xs = x.cps.toList.map fun c => V.str ⟨#[c]⟩
def Src.it (src : Src) (tok : Tok) (it : Addr) (i : Nat) (h : Heap) : Prop := match src with
  | .l a => h.IsListIter it a i
  | .t a => h.IsTupleIter it a i
  | .s x => h.IsStrIter it (strIterType x) x tok i
def Src.as : Src → List Addr
  | .l a => [a]
  | .t a => [a]
  | .s _ => []
theorem Src.it_obj {src : Src} {tok : Tok} {it : Addr} {i : Nat} {h : Heap} (st : src.it tok it i h) : ∃ o, h.get? it = some o ∧ ∀ v, o.data ≠ .cell v := by
  cases src <;> (obtain ⟨o, e, _, d⟩ := st; exact ⟨o, e, fun v q => by rw [d] at q; cases q⟩)
theorem Src.it_at {src : Src} {tok : Tok} {it : Addr} {i : Nat} {h h' : Heap} (st : src.it tok it i h) (k : ∀ o, h.get? it = some o → h'.get? it = some o) : src.it tok it i h' := by
  cases src <;> (obtain ⟨o, e, r⟩ := st; exact ⟨o, k o e, r⟩)
section
variable {X : Cx} {pins : List (Addr × Obj)} {σ : L2.St} {H : Hp} {s : Shared}
theorem src_inj {src : Src} {xs ys : List V} (I : Inv X pins σ H s) (h : src.at X.K H xs) (h' : src.at X.K H ys) : xs = ys := by
  cases src with
  | l a => exact I.list_inj h h'
  | t a => exact I.tuple_inj h h'
  | s x => exact Eq.trans (show xs = _ from h) (Eq.symm (show ys = _ from h'))
theorem src_draws {src : Src} {xs : List V} {tok : Tok} {it : Addr} {i : Nat} (hc : X.calm = true) (I : Inv X pins σ H s) (h : src.at X.K H xs) (hap : it ∉ src.as) (st : src.it tok it i s.heap) :
    ∃ (P : Nat → Value → Prop) (St : Nat → Heap → Prop), Draws X.prog X.w X.A.in1 it (it :: src.as) xs.length P St ∧ St i s.heap ∧ (∀ i v, P i v → ∃ x, xs[i]? = some x ∧ RelV x v) ∧ ∀ i h, St i h → src.it tok it i h := by
  have hh : X.A.in1.handled = none := I.ok.hd hc
  cases src with
  | l a =>
    obtain ⟨its, rv, p, _⟩ := I.list h
    have hl : xs.length = its.toArray.size := by rw [rv.length]; simp
    rw [hl]
    refine ⟨_, _, Draws.list hh it a (fun z => hap (by simp [Src.as, z])) its.toArray, ⟨st, p.isList⟩, fun i v e => ?_, fun i h z => z.1⟩
    obtain ⟨x, e1, e2⟩ := valsGetV (i := i) (u := v) rv (by simpa using e)
    exact ⟨x, e1, e2⟩
  | t a =>
    obtain ⟨its, rv, p, _⟩ := I.tuple h
    have hl : xs.length = its.toArray.size := by rw [rv.length]; simp
    rw [hl]
    refine ⟨_, _, Draws.tuple hh it a (fun z => hap (by simp [Src.as, z])) its.toArray, ⟨st, p⟩, fun i v e => ?_, fun i h z => z.1⟩
    obtain ⟨x, e1, e2⟩ := valsGetV (i := i) (u := v) rv (by simpa using e)
    exact ⟨x, e1, e2⟩
  | s x =>
    have h : xs = _ := h
    have hl : xs.length = x.cps.size := by rw [h]; simp
    rw [hl]
    refine ⟨_, _, Draws.text hh it x tok, st, fun i v e => ?_, fun i h z => z⟩
    obtain ⟨c, u, e1, rfl⟩ := e
    refine ⟨.str ⟨#[c]⟩, ?_, ⟨u, rfl⟩⟩
    rw [h, List.getElem?_map]
    have : x.cps.toList[i]? = some c := by simpa using e1
    rw [this]; rfl
end

def IteA (K : PySem.W.Frag) (src : Src) : It :=
  ⟨fun i H => ∃ (xs : List V) (x : V), src.at K H xs ∧ xs[i]? = some x, fun i H v H' => ∃ T x, v = .ref T ∧ H T = none ∧ H' = upd H T (.tup [.int (i : Nat), x]) ∧ ∀ xs, src.at K H xs → xs[i]? = some x, fun i H => ∃ xs : List V, src.at K H xs ∧ xs.length = i⟩
theorem turn_enumA {P : Program} {w : World} {K : PySem.W.Frag} {elts : List Expr} {kk : Nat} {tpos : Pos} (src : Src) (tok : Tok) (e it : Addr) (hne : e ≠ it) (hea : e ∉ src.as) (hia : it ∉ src.as) :
    Turn P w K (.Tuple elts kk tpos) (IteA K src) [e, it] e (fun i h => (∃ old, IsEnum h e it ((i : Nat) : Int) old) ∧ src.it tok it i h) where
  mem := by simp
  obj := fun i h st b hb => by
    obtain ⟨⟨old, he⟩, hi⟩ := st
    have e' : b = e ∨ b = it := by simpa using hb
    rcases e' with z | z
    · rw [z]; exact ⟨_, he, fun v q => nomatch q⟩
    · rw [z]; exact Src.it_obj hi
  keep := fun i h h' st k => let ⟨⟨old, he⟩, hi⟩ := st; ⟨⟨old, k e (by simp) _ he⟩, Src.it_at hi fun o q => k it (by simp) o q⟩
  item := by
    intro X hP hw hK hc i pins s σ H E I hf st hg
    subst hP hw hK
    obtain ⟨⟨old, he⟩, hit⟩ := st
    obtain ⟨xs, x, hq, hx⟩ := hg
    have hel : e < s.heap.objs.size := Heap.lt_size he
    have hil : it < s.heap.objs.size := by obtain ⟨_, q, _⟩ := Src.it_obj hit; exact Heap.lt_size q
    obtain ⟨Pr, St, D, st0, hPr, hSt⟩ := src_draws hc I hq hia hit
    have hlt : i < xs.length := (List.getElem?_eq_some_iff.mp hx).1
    refine wpAny_pyNext_enum_itemC D he st0 hlt hne (fun z => (List.mem_cons.mp z).elim hne hea) fun u h' tk hu ho st1 hT hsz hk => ?_
    obtain ⟨x', hx', ru⟩ := hPr i u hu
    obtain rfl : x = x' := by rw [hx] at hx'; exact Option.some.inj hx'
    refine ⟨_, rfl, wpAny_letOwnedTupleGo_enum (s := { s with heap := h', toks := tk + 1 }) ho fun h'' he' sb => ?_⟩
    have hT2 : h''.get? s.heap.objs.size = some { cls := .type "tuple", data := .seq #[.int i tk, u] } := (sb.2 _ (Nat.ne_of_gt hel)).trans hT
    have new : ObjOk X.prog X.w (upd H s.heap.objs.size (.tup [.int (i : Nat), x])) h'' s.heap.objs.size (.tup [.int (i : Nat), x]) :=
      ⟨by show 2 ≤ sizeLine; decide, [.int i tk, u], .cons ⟨_, rfl⟩ (.cons ru .nil), ⟨_, hT2, rfl, _, rfl⟩⟩
    have I1 : Inv X pins σ (upd H s.heap.objs.size (.tup [.int (i : Nat), x])) { s with heap := h'', toks := tk + 1 } :=
      I.turnedNew (ch := [e, it]) (fun b ob hb q => (sb.2 b (fun z => hb (by simp [z]))).trans (hk b ob (fun z => hb (by simp [z])) (fun z => hb (by simp [z])) q)) hf (Nat.le_refl _) new
    refine ⟨.ref s.heap.objs.size, _, I1, rfl, ⟨_, x, rfl, I.hok.fresh (Nat.le_refl _), rfl, fun ys hy => by rw [src_inj I hy hq]; exact hx⟩, ⟨⟨u, ?_⟩, Src.it_at (hSt _ _ st1) fun o q => (sb.2 it (Ne.symm hne)).trans q⟩, fun b hb => ?_⟩
    · have e1 : ((i + 1 : Nat) : Int) = (i : Int) + 1 := by omega
      rw [e1]; exact he'
    · have hb' : b < s.heap.objs.size := by
        have e' : b = e ∨ b = it := by simpa using hb
        rcases e' with z | z
        · rw [z]; exact hel
        · rw [z]; exact hil
      rw [upd_ne (Nat.ne_of_lt hb')]
      exact (hf b hb).1
  done := by
    intro X hP hw hK hc i pins s σ H E I hf st hg
    subst hP hw hK
    obtain ⟨⟨old, he⟩, hit⟩ := st
    obtain ⟨xs, hq, hx⟩ := hg
    subst hx
    obtain ⟨Pr, St, D, st0, hPr, hSt⟩ := src_draws hc I hq hia hit
    obtain ⟨f0, f1, f2, f3, f4, f5⟩ := hf it (by simp)
    exact wpAny_pyNext_enum_endD D he st0 fun h' eb => ⟨rfl, I.turned (t' := s.toks) (fun b o hb q => eb b o hb q) f0 f1 f3 f4 f5⟩
  self := fun A i s Q E st h => let ⟨⟨_, he⟩, _⟩ := st; wpAny_pyIter_enum he h
/-- the source's new iterator -/
def Src.ob (tok : Tok) : Src → Obj
  | .l a => { cls := .type "list_iterator", data := .fields #[.ref a, .int 0 0] }
  | .t a => { cls := .type "tuple_iterator", data := .fields #[.ref a, .int 0 0] }
  | .s x => { cls := .type (strIterType x), data := .fields #[.str x tok, .int 0 0] }
theorem src_begins {X : Cx} {pins : List (Addr × Obj)} {σ : L2.St} {H : Hp} {s : Shared} {src : Src} {xs : List V} {u : Value} (I : Inv X pins σ H s) (h : src.at X.K H xs) (r : RelV src.v u) :
    ∃ (tok : Tok) (Hh : Heap → Prop), Begins u (src.ob tok) Hh ∧ Hh s.heap ∧ (∀ (h' : Heap) it, h'.get? it = some (src.ob tok) → src.it tok it 0 h') ∧ ∀ b ∈ src.as, b < s.heap.objs.size := by
  cases src with
  | l a =>
    cases r
    obtain ⟨its, rv, p, _⟩ := I.list h
    exact ⟨0, _, begins_list a its.toArray, p.isList, fun h' it e => ⟨_, e, rfl, rfl⟩, fun b hb => by rw [List.mem_singleton.mp hb]; exact p.lt⟩
  | t a =>
    cases r
    obtain ⟨its, rv, p, _⟩ := I.tuple h
    obtain ⟨o, ho, _⟩ := id p
    exact ⟨0, _, begins_tuple a its.toArray, p, fun h' it e => ⟨_, e, rfl, rfl⟩, fun b hb => by rw [List.mem_singleton.mp hb]; exact Heap.lt_size ho⟩
  | s x =>
    obtain ⟨t, rfl⟩ := r
    exact ⟨t, _, begins_text x t, trivial, fun h' it e => ⟨_, e, rfl, rfl⟩, fun b hb => absurd hb (by simp [Src.as])⟩
set_option maxHeartbeats 4000000 in
theorem meets_enum1 {v : Value} {o : Obj} {Hh : Heap → Prop} (B : Begins v o Hh) :
    Meets (Builtin.«enumerate.__new__» ⟨[.type "enumerate", v], []⟩) (fun _ R s => Hh s.heap ∧
      R (.ok (.ret (.ref (s.heap.push o).objs.size))) { s with heap := (s.heap.push o).push { cls := .type "enumerate", data := .fields #[.none, .bool false, .ref s.heap.objs.size, rawInt 0, .none, .none] } }) :=
  .of_wp fun prog w A R s h => by
    obtain ⟨hp, g, d, tk, os⟩ := s; obtain ⟨h1, h⟩ := h
    have hsub := sub_enumerate
    have q1 : ∀ {A' : Around} {E : Value → Shared → Prop} {Q : Value → Shared → Prop}, Q (.ref hp.objs.size) ⟨hp.push o, g, d, tk, os⟩ → wpAny (model prog w) A' (pyIter v) Q E ⟨hp, g, d, tk, os⟩ :=
      fun q => B.iter prog w _ _ ⟨hp, g, d, tk, os⟩ _ h1 q
    wp_walk using q1
    refine wpAny_stack_any fun st => wpAny_pure ?_
    split
    · rename_i c _ _ _ _ _
      cases (c == Value.type "enumerate")
      · wp_walk using q1
        exact ⟨_, rfl, h⟩
      · wp_walk using q1
        exact ⟨_, rfl, h⟩
    · wp_walk using q1
      exact ⟨_, rfl, h⟩
theorem enum1 {prog : Program} {w : World} {A : Around} {E : Value → Shared → Prop} {s : Shared} {v : Value} {o : Obj} {Hh : Heap → Prop} {Q : Value → Shared → Prop} (B : Begins v o Hh) (h1 : Hh s.heap)
    (h : ∀ h', IsEnum h' (s.heap.objs.size + 1) s.heap.objs.size 0 .none → h'.get? s.heap.objs.size = some o → h'.objs.size = s.heap.objs.size + 2 →
      (∀ b o, s.heap.get? b = some o → h'.get? b = some o) → Q (.ref (s.heap.objs.size + 1)) { s with heap := h' }) :
    wpAny (model prog w) A (call (.type "enumerate") [v]) Q E s := by
  refine callType_new F.called_enumerate (by decide) (F.typeCall_enumerate_1 _) (F.newCall_enumerate_1 _) (fun obj => F.args_object_init_2 obj _) F.entry_enumerate_new
    (meets_enum1 B) ⟨h1, ?_⟩
  have hz : (s.heap.push o).objs.size = s.heap.objs.size + 1 := Heap.size_push ..
  show _ ∧ _
  rw [hz]
  have he : IsEnum ((s.heap.push o).push { cls := .type "enumerate", data := .fields #[.none, .bool false, .ref s.heap.objs.size, rawInt 0, .none, .none] }) (s.heap.objs.size + 1) s.heap.objs.size 0 .none := by
    have := Heap.get?_push_size (s.heap.push o) (o := { cls := .type "enumerate", data := .fields #[.none, .bool false, .ref s.heap.objs.size, rawInt 0, .none, .none] }) rfl
    rw [hz] at this; exact this
  refine ⟨⟨_, he, rfl⟩, h _ he (Heap.get?_push_of_some _ (Heap.get?_push_size _ B.free)) (by rw [Heap.size_push, hz]) fun b o x => Heap.get?_push_of_some _ (Heap.get?_push_of_some _ x)⟩
theorem notmem_lt {N j : Nat} {l : List Addr} (h : ∀ b ∈ l, b < N) (hj : N ≤ j) : (j : Addr) ∉ l := fun z => absurd (h _ z) (Nat.not_lt.mpr hj)
def iEnumA (K : PySem.W.Frag) (ta : TA) : TI := fun σ H R => ta σ H fun vs H1 => ∃ (src : Src) (xs : List V), vs = [src.v] ∧ src.at K H1 xs ∧ R (IteA K src) H1
theorem pi_enumA {X : Cx} {e : Expr} {ta : TA} {p pos tpos : Pos} {elts : List Expr} {kk : Nat} (hg : Gl X "enumerate") (hm : X.mg "enumerate" = none) (ha : PA X [e] ta) (hs : starEach [e] X.env = [(false, eval e X.env)] := by rfl) :
    PI X (.Tuple elts kk tpos) (.Call (.Name "enumerate" p) [e] [] pos) (iEnumA X.K ta) := by
  refine ⟨fun pins s σ H R I h => ?_⟩
  refine Call_ (ld_blt I hg hm boot_enumerate (PyProof.Rows.callWith_type1 (thn (ha.run pos pins s σ H _ I h) fun us s1 ⟨vs, H1, I1, r1, q1⟩ => ?_) hs rfl))
  obtain ⟨src, xs, ex, hq, q⟩ := q1
  subst ex
  cases r1 with
  | cons r rr =>
    cases rr
    obtain ⟨tok, Hh, B, hh, hit, hlt⟩ := src_begins I1 hq r
    refine enum1 B hh fun h' he ho hsz hk => wpAny_pyIter_enum he ?_
    have I2 : Inv X pins σ H1 { s1 with heap := h' } := I1.kept (t' := s1.toks) hk
    refine ⟨s1.heap.objs.size + 1, [s1.heap.objs.size + 1, s1.heap.objs.size], _, _, H1, rfl, I2, turn_enumA src tok (s1.heap.objs.size + 1) s1.heap.objs.size (Nat.succ_ne_self _) (notmem_lt hlt (Nat.le_succ _)) (notmem_lt hlt (Nat.le_refl _)), ⟨⟨.none, he⟩, hit _ _ ho⟩, fun b hb => ?_, q⟩
    have e' : b = s1.heap.objs.size + 1 ∨ b = s1.heap.objs.size := by simpa using hb
    have hle : s1.heap.objs.size ≤ b := by
      rcases e' with z | z
      · rw [z]; exact Nat.le_add_right _ _
      · rw [z]; exact Nat.le_refl _
    exact I1.fpOk hle (I1.hok.fresh hle)

/-- zip of two -/
def ItzA (K : PySem.W.Frag) (a b : Src) : It :=
  ⟨fun i H => ∃ (xs ys : List V) (x y : V), a.at K H xs ∧ b.at K H ys ∧ xs[i]? = some x ∧ ys[i]? = some y,
    fun i H v H' => ∃ T x y, v = .ref T ∧ H T = none ∧ H' = upd H T (.tup [x, y]) ∧ (∀ xs, a.at K H xs → xs[i]? = some x) ∧ ∀ ys, b.at K H ys → ys[i]? = some y,
    fun i H => ∃ xs ys : List V, a.at K H xs ∧ b.at K H ys ∧ i ≤ xs.length ∧ i ≤ ys.length ∧ (i = xs.length ∨ i = ys.length)⟩
theorem turn_zipA {P : Program} {w : World} {K : PySem.W.Frag} {elts : List Expr} {kk : Nat} {tpos : Pos} {a b : Src} {t1 t2 : Tok} {z TI TO i1 i2 : Addr} (D : ZipSep2 z TI TO i1 i2 (i1 :: a.as) (i2 :: b.as)) (h1a : i1 ∉ a.as) (h2b : i2 ∉ b.as) :
    Turn P w K (.Tuple elts kk tpos) (ItzA K a b) [z, TI, TO, i1, i2] z (fun i h => IsZip h z TI TO .none ∧ IsTupOf2 h TI (.ref i1) (.ref i2) ∧ (∃ x y, IsTupOf2 h TO x y) ∧ a.it t1 i1 i h ∧ b.it t2 i2 i h) where
  mem := by simp
  obj := fun i h st c hc => by
    obtain ⟨hz, hTI, ⟨x, y, hTO⟩, s1, s2⟩ := st
    have e' : c = z ∨ c = TI ∨ c = TO ∨ c = i1 ∨ c = i2 := by simpa using hc
    rcases e' with q | q | q | q | q
    · rw [q]; exact ⟨_, hz, fun v q => nomatch q⟩
    · rw [q]; exact ⟨_, hTI, fun v q => nomatch q⟩
    · rw [q]; exact ⟨_, hTO, fun v q => nomatch q⟩
    · rw [q]; exact Src.it_obj s1
    · rw [q]; exact Src.it_obj s2
  keep := fun i h h' st k => by
    obtain ⟨hz, hTI, ⟨x, y, hTO⟩, s1, s2⟩ := st
    exact ⟨k z (by simp) _ hz, k TI (by simp) _ hTI, ⟨x, y, k TO (by simp) _ hTO⟩, Src.it_at s1 fun o q => k i1 (by simp) o q, Src.it_at s2 fun o q => k i2 (by simp) o q⟩
  item := by
    intro X hP hw hK hc i pins s σ H E I hf st hg
    subst hP hw hK
    obtain ⟨hz, hTI, ⟨x0, y0, hTO⟩, s1, s2⟩ := st
    obtain ⟨xs, ys, x, y, hqx, hqy, hx, hy⟩ := hg
    obtain ⟨P1, St1, D1, st1, hP1, hS1⟩ := src_draws hc I hqx h1a s1
    obtain ⟨P2, St2, D2, st2, hP2, hS2⟩ := src_draws hc I hqy h2b s2
    have hzl : z < s.heap.objs.size := Heap.lt_size hz
    refine wpAny_pyNext_zipD2_item D D1 D2 hz hTI hTO st1 st2 (List.getElem?_eq_some_iff.mp hx).1 (List.getElem?_eq_some_iff.mp hy).1 fun u u2 h' tk hu hu2 z' TO' st1' st2' hT hsz hk => ?_
    obtain ⟨x', hx', ru⟩ := hP1 i u hu
    obtain ⟨y', hy', ru2⟩ := hP2 i u2 hu2
    obtain rfl : x = x' := by rw [hx] at hx'; exact Option.some.inj hx'
    obtain rfl : y = y' := by rw [hy] at hy'; exact Option.some.inj hy'
    refine ⟨_, rfl, wpAny_letOwnedTupleGo_zip (s := { s with heap := h', toks := tk }) z' fun h'' z'' sb => ?_⟩
    have hT2 : h''.get? s.heap.objs.size = some { cls := .type "tuple", data := .seq #[u, u2] } := (sb.2 _ (Nat.ne_of_gt hzl)).trans hT
    have new : ObjOk X.prog X.w (upd H s.heap.objs.size (.tup [x, y])) h'' s.heap.objs.size (.tup [x, y]) :=
      ⟨by show 2 ≤ sizeLine; decide, [u, u2], .cons ru (.cons ru2 .nil), ⟨_, hT2, rfl, _, rfl⟩⟩
    have I1 : Inv X pins σ (upd H s.heap.objs.size (.tup [x, y])) { s with heap := h'', toks := tk } :=
      I.turnedNew (t' := tk) (ch := [z, TI, TO, i1, i2]) (fun c o hb q => (sb.2 c (fun q' => hb (by simp [q']))).trans (hk c o (fun q' => hb (by simp [q'])) (fun q' => hb (by simp [q'])) (fun q' => hb (by simp [q'])) (fun q' => hb (by simp [q'])) q)) hf (Nat.le_refl _) new
    refine ⟨.ref s.heap.objs.size, _, I1, rfl, ⟨_, x, y, rfl, I.hok.fresh (Nat.le_refl _), rfl, fun l hl => by rw [src_inj I hl hqx]; exact hx, fun l hl => by rw [src_inj I hl hqy]; exact hy⟩, ⟨z'', ?_, ⟨u, u2, ?_⟩, ?_, ?_⟩, fun c hcm => ?_⟩
    · exact (sb.2 _ D.TIz).trans (hk _ _ D.TIz D.TITO D.TIi1 D.TIi2 hTI)
    · exact (sb.2 _ D.TOz).trans TO'
    · exact Src.it_at (hS1 _ _ st1') fun o q => (sb.2 _ (Ne.symm D.zi1)).trans q
    · exact Src.it_at (hS2 _ _ st2') fun o q => (sb.2 _ (Ne.symm D.zi2)).trans q
    · have hlt : c < s.heap.objs.size := by
        have e' : c = z ∨ c = TI ∨ c = TO ∨ c = i1 ∨ c = i2 := by simpa using hcm
        rcases e' with q | q | q | q | q
        · rw [q]; exact hzl
        · rw [q]; exact Heap.lt_size hTI
        · rw [q]; exact Heap.lt_size hTO
        · rw [q]; obtain ⟨_, e1, _⟩ := Src.it_obj s1; exact Heap.lt_size e1
        · rw [q]; obtain ⟨_, e2, _⟩ := Src.it_obj s2; exact Heap.lt_size e2
      rw [upd_ne (Nat.ne_of_lt hlt)]
      exact (hf c hcm).1
  done := by
    intro X hP hw hK hc i pins s σ H E I hf st hg
    subst hP hw hK
    obtain ⟨hz, hTI, ⟨x0, y0, hTO⟩, s1, s2⟩ := st
    obtain ⟨xs, ys, hqx, hqy, l1, l2, hend⟩ := hg
    obtain ⟨P1, St1, D1, st1, hP1, hS1⟩ := src_draws hc I hqx h1a s1
    obtain ⟨P2, St2, D2, st2, hP2, hS2⟩ := src_draws hc I hqy h2b s2
    exact wpAny_pyNext_zipD2_end D D1 D2 hz hTI hTO st1 st2 l1 l2 hend fun h' tk hk => ⟨rfl, I.turnedL (t' := tk) (ch := [z, TI, TO, i1, i2]) (fun c o hb q =>
      hk c o (fun q' => hb (by simp [q'])) (fun q' => hb (by simp [q'])) (fun q' => hb (by simp [q'])) (fun q' => hb (by simp [q'])) q) hf⟩
  self := fun A i s Q E st h => wpAny_pyIter_zip st.1 h
def iZipS (K : PySem.W.Frag) (ta : TA) : TI := fun σ H R => ta σ H fun vs H1 => ∃ (a b : Src) (xs ys : List V), vs = [a.v, b.v] ∧ a.at K H1 xs ∧ b.at K H1 ys ∧ R (ItzA K a b) H1
theorem pi_zipS {X : Cx} {e e2 : Expr} {ta : TA} {p pos tpos : Pos} {elts : List Expr} {kk : Nat} (hg : Gl X "zip") (hm : X.mg "zip" = none) (ha : PA X [e, e2] ta)
    (hs : starEach [e, e2] X.env = (false, eval e X.env) :: starEach [e2] X.env := by rfl) (hpl : (backTo pos (starEach [e2] X.env)).any (·.1) = false := by rfl) :
    PI X (.Tuple elts kk tpos) (.Call (.Name "zip" p) [e, e2] [] pos) (iZipS X.K ta) := by
  refine ⟨fun pins s σ H R I h => ?_⟩
  refine Call_ (ld_blt I hg hm PyProof.Rows.boot_zip (PyProof.Rows.callWith_type1 (thn (ha.run pos pins s σ H _ I h) fun us s1 ⟨vs, H1, I1, r1, q1⟩ => ?_) hs hpl))
  obtain ⟨a, b, xs, ys, ex, hqx, hqy, q⟩ := q1
  subst ex
  cases r1 with
  | cons r rr =>
    cases rr with
    | cons r' rr =>
      cases rr
      obtain ⟨t1, Hh1, B1, hh1, hit1, hlt1⟩ := src_begins I1 hqx r
      obtain ⟨t2, Hh2, B2, hh2, hit2, hlt2⟩ := src_begins I1 hqy r'
      refine zip_begins2 B1 B2 hh1 hh2 fun h' hz hTI hTO h1 h2 hsz hk => wpAny_pyIter_zip hz ?_
      have I2 : Inv X pins σ H1 { s1 with heap := h' } := I1.kept (t' := s1.toks) hk
      refine ⟨s1.heap.objs.size + 4, [s1.heap.objs.size + 4, s1.heap.objs.size + 2, s1.heap.objs.size + 3, s1.heap.objs.size, s1.heap.objs.size + 1], _, _, H1, rfl, I2, turn_zipA (t1 := t1) (t2 := t2) (zip_sep2 hlt1 hlt2) (notmem_lt hlt1 (Nat.le_refl _)) (notmem_lt hlt2 (Nat.le_succ _)), ⟨hz, hTI, ⟨_, _, hTO⟩, hit1 _ _ h1, hit2 _ _ h2⟩, fun c hcm => ?_, q⟩
      have e' : c = s1.heap.objs.size + 4 ∨ c = s1.heap.objs.size + 2 ∨ c = s1.heap.objs.size + 3 ∨ c = s1.heap.objs.size ∨ c = s1.heap.objs.size + 1 := by simpa using hcm
      have hle : s1.heap.objs.size ≤ c := by
        rcases e' with z | z | z | z | z
        · rw [z]; exact Nat.le_add_right _ _
        · rw [z]; exact Nat.le_add_right _ _
        · rw [z]; exact Nat.le_add_right _ _
        · rw [z]; exact Nat.le_refl _
        · rw [z]; exact Nat.le_add_right _ _
      exact I1.fpOk hle (I1.hok.fresh hle)
end Vl

set_option Elab.async false
set_option linter.all false
set_option maxRecDepth 100000
set_option maxHeartbeats 1000000
namespace Vl
open PySem PySem.Spec PyProof.Rows L2
def srcOf : PV → V → Src
  | .lst _, .ref a => .l a
  | .tup _, .ref a => .t a
  | .str l, _ => .s (mkS l)
  | _, _ => .s (mkS [])
section
variable {X : Cx} {W : WX} {c : Ctl} {σ : L2.St} {env : Env} {H H0 : Hp} {st : Sto} {l : Lv}
theorem rep_signs {g : Gv} {H : Hp} {N : Addr → Prop} : ∀ {l : List Nat}, (∀ c ∈ l, c < 1114112) → RepA g H N (l.map fun c => .str [c]) (l.map fun c => V.str ⟨#[c]⟩)
  | [], _ => .nil
  | ch :: r, u => .cons (.str [ch] (by rw [sizeLine_eq]; show 1 ≤ 16777216; decide) (by simpa using u ch List.mem_cons_self)) (rep_signs fun c h => u c (List.mem_cons_of_mem _ h))
theorem src_rep {p : PV} {v : V} {xs : List PV} (hl : l ≠ .m) (hl2 : l ≠ .f) (r : RV X c σ env H0 H p v l) (e : itemsOf p = some xs) : v = (srcOf p v).v ∧ ∃ vs, (srcOf p v).at X.K H vs ∧ RepA (gv X c) H (c.N σ env) xs vs := by
  cases p with
  | lst ps =>
    cases e
    obtain ⟨a, vs, e1, h1, _, h2⟩ := rv_lst hl r
    subst e1
    exact ⟨rfl, vs, SqL.of h1, h2⟩
  | tup ps =>
    cases e
    obtain ⟨a, vs, e1, h1, _, h2⟩ := rv_tup hl r
    subst e1
    exact ⟨rfl, vs, h1.sq, h2⟩
  | str s =>
    cases e
    cases l with
    | c =>
      obtain ⟨e1, _, u⟩ := rv_str r
      subst e1
      refine ⟨rfl, _, rfl, ?_⟩
      have : (mkS s).cps.toList = s := by simp [mkS]
      show RepA _ _ _ _ ((mkS s).cps.toList.map _)
      rw [this]
      exact rep_signs u
    | i => obtain ⟨_, _, _, o⟩ := r; exact o.elim
    | m => exact absurd rfl hl
    | f => exact absurd rfl hl2
  | _ => cases e
def enumG : Int → List PV → List PV
  | _, [] => []
  | k, p :: r => .tup [.int k, p] :: enumG (k + 1) r
theorem enumG_get : ∀ {xs : List PV} {k : Int} {i : Nat} {p : PV}, xs[i]? = some p → (enumG k xs)[i]? = some (.tup [.int (k + i), p])
  | q :: r, k, 0, p, e => by cases e; show some _ = _; rw [Int.natCast_zero, Int.add_zero]
  | q :: r, k, i + 1, p, e => by
    have := enumG_get (xs := r) (k := k + 1) (i := i) (p := p) e
    show (enumG (k + 1) r)[i]? = _
    rw [this]
    have e2 : k + 1 + (i : Int) = k + ((i + 1 : Nat) : Int) := by omega
    rw [e2]
theorem enumG_len : ∀ {xs : List PV} {k : Int}, (enumG k xs).length = xs.length
  | [], _ => rfl
  | _ :: r, k => congrArg (· + 1) (enumG_len (xs := r) (k := k + 1))
theorem newTup {vs : List V} {ps : List PV} {T : Addr} (sr : SR X c σ H env st) (n : H T = none) (z : ps.length ≤ sizeLine) (r : RepA (gv X c) H (c.N σ env) ps vs) : Rep (gv X c) (upd H T (.tup vs)) (c.N σ env) (.tup ps) (.ref T) :=
  .tup (.inl ⟨upd_same, fun y => OwnS.gone sr y n⟩) z (SRk.repA_grow (grow_upd n) r)
theorem walk_enumOk {p : PV} {v : V} {xs : List PV} (hl : l ≠ .m) (hl2 : l ≠ .f) (e : itemsOf p = some xs) : WalkOk X l (IteA X.K (srcOf p v)) (enumG 0 xs) [(p, v)] := by
  have key : ∀ {c σ env H}, GhOk X l c σ env H [(p, v)] → ∃ vs, (srcOf p v).at X.K H vs ∧ RepA (gv X c) H (c.N σ env) xs vs := fun {c σ env H} g => (src_rep hl hl2 (g _ (List.mem_singleton.mpr rfl)) e).2
  refine ⟨fun i c σ env H hi g => ?_, fun c σ env H g => ?_, fun i c σ env H st x H' sr g y hi => ?_⟩
  · obtain ⟨vs, h1, h2⟩ := key g
    rw [enumG_len] at hi
    have : i < vs.length := by rw [← h2.length]; exact hi
    exact ⟨vs, vs[i], h1, by simp [this]⟩
  · obtain ⟨vs, h1, h2⟩ := key g
    exact ⟨vs, h1, by rw [enumG_len, h2.length]⟩
  · obtain ⟨vs, h1, h2⟩ := key g
    obtain ⟨T, y0, rfl, n, rfl, y⟩ := y
    obtain ⟨q, e1, e2⟩ := h2.getV (y vs h1)
    refine ⟨_, enumG_get e1, grow_upd n, ?_⟩
    have sr' : SR X c σ H env st := sr
    have e0 : (0 : Int) + (i : Int) = (i : Int) := by omega
    rw [e0]
    exact newTup sr' n (by rw [sizeLine_eq]; show 2 ≤ 16777216; decide) (.cons (.int _) (.cons e2 .nil))
def xEnum (d : Den PV) : Den (List PV) := fun env st => (d env st).bind fun p s => opt ((itemsOf p).map (enumG 0)) s
theorem di_enum {a : Expr} {da : Den PV} {elts : List Expr} {kk : Nat} {tpos p pos : Pos} (hg : Gl X "enumerate") (hm : X.mg "enumerate" = none) (ha : DE X W a l da) (hl : l ≠ .m := by decide) (hl2 : l ≠ .f := by decide) (hs : starEach [a] X.env = [(false, eval a X.env)] := by rfl) :
    DI X W (.Tuple elts kk tpos) (.Call (.Name "enumerate" p) [a] [] pos) l (xEnum da) := by
  obtain ⟨t, pe, ha⟩ := ha
  refine ⟨_, pi_enumA hg hm (pa_cons pe pa_nil hs) hs, fun c σ H env st R sr h => ha c σ H env st _ sr (bindI h fun p st1 v c1 H1 sr1 po r h1 => ?_)⟩
  obtain ⟨ys, e, h2⟩ := optI h1
  cases ei : itemsOf p with
  | none => rw [ei] at e; cases e
  | some xs =>
    rw [ei] at e
    cases e
    have r' : RV X c1 σ env H1 H1 p v l := (Post.refl c1 H1).lv hl2 r.1
    obtain ⟨e1, vs, h3, h4⟩ := src_rep hl hl2 r.1 ei
    exact ⟨srcOf p v, vs, by rw [← e1], h3, h2 c1 H1 _ _ sr1 (.refl _ _) (walk_enumOk hl hl2 ei) fun q hq => by rw [List.mem_singleton.mp hq]; exact r'⟩
def zipL : List PV → List PV → List PV
  | p :: r, q :: s => .tup [p, q] :: zipL r s
  | _, _ => []
theorem zipL_get : ∀ {xs ys : List PV} {i : Nat} {p q : PV}, xs[i]? = some p → ys[i]? = some q → (zipL xs ys)[i]? = some (.tup [p, q])
  | _ :: _, _ :: _, 0, p, q, e, f => by cases e; cases f; rfl
  | _ :: r, _ :: s, i + 1, p, q, e, f => zipL_get (xs := r) (ys := s) (i := i) e f
theorem zipL_len : ∀ {xs ys : List PV}, (zipL xs ys).length = min xs.length ys.length
  | [], _ => by simp [zipL]
  | _ :: _, [] => by simp [zipL]
  | _ :: r, _ :: s => by
    show (zipL r s).length + 1 = min (r.length + 1) (s.length + 1)
    rw [zipL_len]; omega
theorem walk_zipOk {p1 p2 : PV} {v1 v2 : V} {xs ys : List PV} (hl : l ≠ .m) (hl2 : l ≠ .f) (e1 : itemsOf p1 = some xs) (e2 : itemsOf p2 = some ys) : WalkOk X l (ItzA X.K (srcOf p1 v1) (srcOf p2 v2)) (zipL xs ys) [(p1, v1), (p2, v2)] := by
  have key : ∀ {c σ env H}, GhOk X l c σ env H [(p1, v1), (p2, v2)] → ∃ vs ws, (srcOf p1 v1).at X.K H vs ∧ RepA (gv X c) H (c.N σ env) xs vs ∧ (srcOf p2 v2).at X.K H ws ∧ RepA (gv X c) H (c.N σ env) ys ws := fun {c σ env H} g => by
    obtain ⟨_, vs, a1, a2⟩ := src_rep hl hl2 (g (p1, v1) (by simp)) e1
    obtain ⟨_, ws, b1, b2⟩ := src_rep hl hl2 (g (p2, v2) (by simp)) e2
    exact ⟨vs, ws, a1, a2, b1, b2⟩
  refine ⟨fun i c σ env H hi g => ?_, fun c σ env H g => ?_, fun i c σ env H st x H' sr g y hi => ?_⟩
  · obtain ⟨vs, ws, a1, a2, b1, b2⟩ := key g
    rw [zipL_len, a2.length, b2.length] at hi
    have t1 : i < vs.length := by omega
    have t2 : i < ws.length := by omega
    exact ⟨vs, ws, vs[i], ws[i], a1, b1, by simp [t1], by simp [t2]⟩
  · obtain ⟨vs, ws, a1, a2, b1, b2⟩ := key g
    refine ⟨vs, ws, a1, b1, ?_, ?_, ?_⟩ <;> rw [zipL_len, a2.length, b2.length] <;> omega
  · obtain ⟨vs, ws, a1, a2, b1, b2⟩ := key g
    obtain ⟨T, y1, y2, rfl, n, rfl, f1, f2⟩ := y
    obtain ⟨q1, g1, g2⟩ := a2.getV (f1 vs a1)
    obtain ⟨q2, g3, g4⟩ := b2.getV (f2 ws b1)
    have sr' : SR X c σ H env st := sr
    exact ⟨_, zipL_get g1 g3, grow_upd n, newTup sr' n (by rw [sizeLine_eq]; show 2 ≤ 16777216; decide) (.cons g2 (.cons g4 .nil))⟩
def xZip (da db : Den PV) : Den (List PV) := fun env st => (da env st).bind fun p s => (db env s).bind fun q s' => match itemsOf p, itemsOf q with
  | some xs, some ys => .ok (zipL xs ys) s'
  | _, _ => .no
theorem di_zip {a b : Expr} {da db : Den PV} {elts : List Expr} {kk : Nat} {tpos p pos : Pos} (hg : Gl X "zip") (hm : X.mg "zip" = none) (ha : DE X W a .c da) (hb : DE X W b .c db)
    (hs : starEach [a, b] X.env = (false, eval a X.env) :: starEach [b] X.env := by rfl) (hs2 : starEach [b] X.env = (false, eval b X.env) :: starEach [] X.env := by rfl) (hpl : (backTo pos (starEach [b] X.env)).any (·.1) = false := by rfl) :
    DI X W (.Tuple elts kk tpos) (.Call (.Name "zip" p) [a, b] [] pos) .c (xZip da db) := by
  obtain ⟨t, pe, ha⟩ := ha
  obtain ⟨u, pf, hb⟩ := hb
  refine ⟨_, pi_zipS hg hm (pa_cons pe (pa_cons pf pa_nil hs2) hs) hs hpl, fun c σ H env st R sr h => ha c σ H env st _ sr (bindI h fun p st1 v c1 H1 sr1 po r h1 => hb c1 σ H1 env st1 _ sr1 (bindI h1 fun q st2 w c2 H2 sr2 po2 r2 h2 => ?_))⟩
  split at h2
  · rename_i xs ys e1 e2
    have r1' : RV X c2 σ env H2 H2 p v .c := po2.rep r.1
    have r2' : RV X c2 σ env H2 H2 q w .c := r2.1
    obtain ⟨k1, vs, k2, k3⟩ := src_rep (by decide) (by decide) r1' e1
    obtain ⟨m1, ws, m2, m3⟩ := src_rep (by decide) (by decide) r2' e2
    refine ⟨srcOf p v, srcOf q w, vs, ws, by rw [← k1, ← m1], k2, m2, h2 c2 H2 _ _ sr2 (.refl _ _) (walk_zipOk (by decide) (by decide) e1 e2) fun z hz => ?_⟩
    simp only [List.mem_cons, List.not_mem_nil, or_false] at hz
    rcases hz with rfl | rfl
    · exact r1'
    · exact r2'
  · exact h2.elim
end
end Vl

set_option Elab.async false
set_option linter.all false
set_option maxRecDepth 100000
set_option maxHeartbeats 1000000
namespace Vl
open PySem PySem.Spec PyProof.Rows L2

/-! ### sorted, of ints and of texts -/
def insB {α : Type} (lt : α → α → Bool) (x : α) : List α → List α
  | [] => [x]
  | y :: r => if lt y x then y :: insB lt x r else x :: y :: r
def isort {α : Type} (lt : α → α → Bool) : List α → List α
  | [] => []
  | x :: r => insB lt x (isort lt r)
/-- the order of texts -/
def ltS : List Nat → List Nat → Bool
  | _, [] => false
  | [], _ :: _ => true
  | a :: r, b :: s => if a < b then true else if b < a then false else ltS r s
theorem ltS_iff : ∀ (a b : List Nat), ltS a b = decide (a < b)
  | [], [] => by simp [ltS]
  | _ :: _, [] => by simp [ltS]
  | [], _ :: _ => by simp [ltS]
  | a :: r, b :: s => by
    unfold ltS
    rw [ltS_iff r s]
    rw [Bool.eq_iff_iff, decide_eq_true_iff, List.cons_lt_cons_iff]
    split
    · rename_i h; simp [h]
    · split
      · rename_i h h2; simp [h]; omega
      · rename_i h h2
        have : a = b := by omega
        simp [this]
theorem insB_perm {α : Type} {lt : α → α → Bool} {x : α} : ∀ {l : List α}, (insB lt x l).Perm (x :: l)
  | [] => .refl _
  | y :: r => by
    unfold insB
    split
    · exact (List.Perm.cons y insB_perm).trans (.swap x y r)
    · exact .refl _
theorem isort_perm {α : Type} {lt : α → α → Bool} : ∀ {l : List α}, (isort lt l).Perm l
  | [] => .refl _
  | x :: r => insB_perm.trans (.cons x isort_perm)
theorem insB_srt {α : Type} {lt : α → α → Bool} (as : ∀ x y, lt x y = true → lt y x = false) (tr : ∀ x y z, lt y x = false → lt z y = false → lt z x = false) {x : α} : ∀ {l : List α}, l.Pairwise (fun x y => lt y x = false) → (insB lt x l).Pairwise fun x y => lt y x = false
  | [], _ => List.pairwise_singleton _ _
  | y :: r, h => by
    obtain ⟨h1, h2⟩ := List.pairwise_cons.mp h
    unfold insB
    split
    · rename_i e
      refine List.pairwise_cons.mpr ⟨fun z hz => ?_, insB_srt as tr h2⟩
      rcases List.mem_cons.mp (insB_perm.mem_iff.mp hz) with rfl | hz
      · exact as _ _ e
      · exact h1 z hz
    · rename_i e
      have e : lt y x = false := by simpa using e
      refine List.pairwise_cons.mpr ⟨fun z hz => ?_, h⟩
      rcases List.mem_cons.mp hz with rfl | hz
      · exact e
      · exact tr _ _ _ e (h1 z hz)
theorem isort_srt {α : Type} {lt : α → α → Bool} (as : ∀ x y, lt x y = true → lt y x = false) (tr : ∀ x y z, lt y x = false → lt z y = false → lt z x = false) : ∀ {l : List α}, (isort lt l).Pairwise fun x y => lt y x = false
  | [] => .nil
  | x :: r => insB_srt as tr (isort_srt as tr)
def ltI (a b : Int) : Bool := decide (a < b)
theorem srt_eq {α : Type} {lt : α → α → Bool} (as : ∀ x y, lt x y = true → lt y x = false) (tr : ∀ x y z, lt y x = false → lt z y = false → lt z x = false) (anti : ∀ x y, lt x y = false → lt y x = false → x = y) {l m : List α} (p : m.Perm l) (s : m.Pairwise fun x y => lt y x = false) : m = isort lt l :=
  List.Perm.eq_of_pairwise (le := fun x y => lt y x = false) (fun a b _ _ h1 h2 => anti a b h2 h1) s (isort_srt as tr) (p.trans isort_perm.symm)
theorem isort_int {l m : List Int} (p : m.Perm l) (s : m.Pairwise (· ≤ ·)) : m = isort ltI l := by
  refine srt_eq (lt := ltI) (fun x y h => ?_) (fun x y z h1 h2 => ?_) (fun x y h1 h2 => ?_) p (s.imp fun {x y} h => ?_)
  · simp [ltI] at *; omega
  · simp [ltI] at *; omega
  · simp [ltI] at *; omega
  · simp [ltI] at *; omega
theorem ltS_as (x y : List Nat) (h : ltS x y = true) : ltS y x = false := by
  rw [ltS_iff] at *
  simp only [decide_eq_true_iff, decide_eq_false_iff_not] at *
  exact List.lt_asymm h
theorem ltS_tr (x y z : List Nat) (h1 : ltS y x = false) (h2 : ltS z y = false) : ltS z x = false := by
  rw [ltS_iff] at *
  simp only [decide_eq_false_iff_not, List.not_lt] at *
  exact List.le_trans h1 h2
theorem ltS_anti (x y : List Nat) (h1 : ltS x y = false) (h2 : ltS y x = false) : x = y := by
  rw [ltS_iff] at *
  simp only [decide_eq_false_iff_not, List.not_lt] at *
  exact List.le_antisymm h2 h1
end Vl
namespace SrtO
open PySem PySem.Spec PyProof.Rows
def sv : Value → List Nat
  | .str x _ => x.cps.toList
  | _ => []
def ltSv (v u : Value) : Bool := Vl.ltS (sv v) (sv u)
theorem swo_str : Swo ltSv := ⟨fun x y h => Vl.ltS_as _ _ h, fun x y z h1 h2 => Vl.ltS_tr _ _ _ h1 h2⟩
variable {prog : Program} {w : World} {A : Around} {E : Value → Shared → Prop} {s : Shared}
theorem str_cmp {vs : List Value} {ss : List PySem.Str} (hS : StrsAre vs ss) : Cmp prog w A s oneType' (fun p => p.1 ∈ vs) (lt2 ltSv) := by
  intro p q hm hm'
  obtain ⟨a, t, e⟩ := hS.all _ hm
  obtain ⟨b, u, e'⟩ := hS.all _ hm'
  show wpAny (model prog w) A (keyLt' oneType' p.1 q.1) (fun r s' => s' = s ∧ r = ltSv p.1 q.1) (fun _ _ => False) s
  rw [e, e', keyLt'_oneType]
  exact oneLt_str ⟨rfl, (Vl.ltS_iff _ _).symm⟩
theorem strs_sortable {a : Addr} {vs : List Value} {ss : List PySem.Str} (hS : StrsAre vs ss) (h2 : 2 ≤ vs.length) : SortableO prog w A s a vs ltSv := by
  intro h' _
  refine ⟨oneType', fun Q E hq => ?_, str_cmp hS⟩
  match vs, hS, h2 with
  | v1 :: v2 :: rest, hS, _ =>
    rw [keyKind_strs hS]
    exact wpAny_pure hq
  | [], _, h => exact absurd h (by decide)
  | [v], _, h => exact absurd h (by simp)
end SrtO
namespace L2
open PySem PySem.Spec PyProof.Rows
theorem vals_strsAre : ∀ {xs : List Str} {us : List Value}, Vals (xs.map V.str) us → StrsAre us xs
  | [], _, r => by cases r; exact .nil
  | x :: xs, _, r => by
    rw [List.map_cons] at r
    cases r with
    | cons h r =>
      obtain ⟨t, rfl⟩ := h
      exact .cons x t (vals_strsAre r)
theorem strsAre_vals : ∀ {xs : List Str} {us : List Value}, StrsAre us xs → Vals (xs.map V.str) us
  | _, _, .nil => .nil
  | _, _, .cons x t r => .cons ⟨t, rfl⟩ (strsAre_vals r)
def rSortedTx (K : PySem.W.Frag) : List V → Hp → VK → Prop := fun vs H Q => ∃ (a : Addr) (xs : List (List Nat)), vs = [V.ref a] ∧ SqL K H a ((xs.map Vl.mkS).map V.str) ∧
  ∀ (p : Addr), H p = none → Q (.ref p) (upd H p (.lst (((Vl.isort Vl.ltS xs).map Vl.mkS).map V.str)))
theorem mkS_cps (l : List Nat) : (Vl.mkS l).cps.toList = l := by simp [Vl.mkS]
theorem mkS_of (x : Str) : Vl.mkS x.cps.toList = x := by simp [Vl.mkS]
theorem cr_sortedTx {X : Cx} : CallR X (.builtin "sorted") (rSortedTx X.K) := by
  intro pins s σ H vs us Q I r h
  obtain ⟨a, ns, rfl, hs, q⟩ := h
  obtain ⟨its, rv, hl, hz⟩ := I.list hs
  rw [Vals.ref1 r]
  have hi := vals_strsAre rv
  refine SrtO.sorted_ord SrtO.swo_str hl.isList (by rw [← rv.length]; exact hz) (fun h2 h₁ a' _ _ => SrtO.strs_sortable hi h2) fun out h1 h2 => ?_
  obtain ⟨ep, he'⟩ := PyProof.Rows.sortedAll_at s.heap its out.toArray
  have hS : StrsAre out (out.map strOf) := strsAre_map out fun v hv => hi.all v (h2.perm.mem_iff.mp hv)
  have e1 : ∀ v, SrtO.sv v = (strOf v).cps.toList := fun v => by cases v <;> rfl
  have e2 : out.map SrtO.sv = Vl.isort Vl.ltS ns := by
    refine Vl.srt_eq Vl.ltS_as Vl.ltS_tr Vl.ltS_anti ?_ (List.pairwise_map.mpr h1)
    have p := h2.perm.map SrtO.sv
    have e3 : its.map SrtO.sv = ns := by
      have e4 := hi.strs
      rw [show its.map SrtO.sv = (its.map strOf).map fun x => x.cps.toList by rw [List.map_map]; exact List.map_congr_left fun v _ => e1 v, e4, List.map_map]
      exact (List.map_congr_left fun l _ => mkS_cps l).trans (List.map_id _)
    rw [e3] at p
    exact p
  have e5 : out.map strOf = (Vl.isort Vl.ltS ns).map Vl.mkS := by
    rw [← e2, List.map_map]
    exact List.map_congr_left fun v _ => by show strOf v = Vl.mkS (SrtO.sv v); rw [e1, mkS_of]
  rw [e5] at hS
  have hlen : (((Vl.isort Vl.ltS ns).map Vl.mkS).map V.str).length ≤ sizeLine := by
    rw [List.length_map, List.length_map, Vl.isort_perm.length_eq]
    rw [List.length_map, List.length_map] at hz
    exact hz
  exact ⟨.ref _, upd H (s.heap.objs.size + 1) (.lst (((Vl.isort Vl.ltS ns).map Vl.mkS).map V.str)), I.laid (t' := s.toks) (fun _ _ => PyProof.Rows.sortedAll_old) (Nat.le_succ _) ⟨hlen, out, ep, strsAre_vals hS, he'⟩, rfl, q _ (I.hok.fresh (Nat.le_succ _))⟩
end L2

set_option Elab.async false
set_option linter.all false
set_option maxRecDepth 100000
set_option maxHeartbeats 1000000
namespace Vl
open PySem PySem.Spec PyProof.Rows L2

/-! ### dicts with ints and texts as keys -/
def eqS : List Nat → List Nat → Bool
  | [], [] => true
  | a :: r, b :: s => if a = b then eqS r s else false
  | _, _ => false
theorem eqS_iff : ∀ (a b : List Nat), eqS a b = decide (a = b)
  | [], [] => by simp [eqS]
  | [], _ :: _ => by simp [eqS]
  | _ :: _, [] => by simp [eqS]
  | a :: r, b :: s => by
    unfold eqS
    rw [eqS_iff r s]
    by_cases h : a = b <;> simp [h]
def keyEq : PV → PV → Bool
  | .int i, .int j => decide (i = j)
  | .str a, .str b => eqS a b
  | _, _ => false
def keyOf : PV → Option L2.Key
  | .int i => some (.inl i)
  | .str l => some (.inr (mkS l))
  | _ => none
def isKey : PV → Bool
  | .int _ => true
  | .str _ => true
  | _ => false
theorem keyPV_keyEq (k k' : L2.Key) : keyEq (keyPV k') (keyPV k) = decide (k' = k) := by
  cases k with
  | inl i =>
    cases k' with
    | inl j => simp [keyPV, keyEq]
    | inr y => simp [keyPV, keyEq]
  | inr x =>
    cases k' with
    | inl j => simp [keyPV, keyEq]
    | inr y =>
      simp only [keyPV, keyEq, eqS_iff]
      have : (y.cps.toList = x.cps.toList) ↔ (Sum.inr y : L2.Key) = Sum.inr x := by
        constructor
        · intro h
          have := congrArg mkS h
          rw [L2.mkS_of, L2.mkS_of] at this
          rw [this]
        · intro h; cases h; rfl
      simp [this]
theorem keyOf_PV {q : PV} {k : L2.Key} (h : keyOf q = some k) : keyPV k = q := by
  cases q <;> cases h
  · rfl
  · show PV.str (mkS _).cps.toList = _; rw [L2.mkS_cps]
theorem keyOf_V {g : Gv} {H : Hp} {N : Addr → Prop} {q : PV} {k : L2.Key} {y : V} (h : keyOf q = some k) (r : Rep g H N q y) : y = kV k := by
  cases q <;> cases h <;> cases r <;> rfl
def lookK (kvs : List (PV × PV)) (q : PV) : Option PV := (kvs.find? fun kv => keyEq kv.1 q).map (·.2)
def putPV (kvs : List (PV × PV)) (q p : PV) : List (PV × PV) :=
  if (kvs.any fun kv => keyEq kv.1 q) = true then kvs.map (fun kv => if keyEq kv.1 q = true then (kv.1, p) else kv) else kvs ++ [(q, p)]
section
variable {g : Gv} {H : Hp} {N : Addr → Prop}
/-- the entries tell the pairs -/
structure KvR (g : Gv) (H : Hp) (N : Addr → Prop) (kvs : List (PV × PV)) (kks : List (L2.Key × V)) : Prop where
  e : kvs.map Prod.fst = kks.map fun p => keyPV p.1
  r : RepA g H N (kvs.map Prod.snd) (kks.map Prod.snd)
theorem KvR.nil : KvR g H N [] [] := ⟨rfl, .nil⟩
theorem KvR.un {p : PV × PV} {kvs : List (PV × PV)} {q : L2.Key × V} {kks : List (L2.Key × V)} (h : KvR g H N (p :: kvs) (q :: kks)) : p.1 = keyPV q.1 ∧ Rep g H N p.2 q.2 ∧ KvR g H N kvs kks := by
  obtain ⟨e, r⟩ := h
  simp only [List.map_cons, List.cons.injEq] at e
  rw [List.map_cons, List.map_cons] at r
  cases r with
  | cons r rr => exact ⟨e.1, r, e.2, rr⟩
theorem KvR.cons {p : PV × PV} {kvs : List (PV × PV)} {q : L2.Key × V} {kks : List (L2.Key × V)} (e : p.1 = keyPV q.1) (r : Rep g H N p.2 q.2) (h : KvR g H N kvs kks) : KvR g H N (p :: kvs) (q :: kks) :=
  ⟨by rw [List.map_cons, List.map_cons, e, h.e], .cons r h.r⟩
theorem KvR.length {kvs : List (PV × PV)} {kks : List (L2.Key × V)} (h : KvR g H N kvs kks) : kvs.length = kks.length := by
  have := congrArg List.length h.e
  simpa using this
theorem KvR.look {k : L2.Key} {q : PV} (hk : keyOf q = some k) : ∀ {kvs : List (PV × PV)} {kks : List (L2.Key × V)}, KvR g H N kvs kks →
    (∀ p, lookK kvs q = some p → ∃ v, valV kks k = some v ∧ Rep g H N p v) ∧ (lookK kvs q = none → valV kks k = none)
  | [], [], _ => ⟨fun p e => (by cases e), fun _ => rfl⟩
  | [], _ :: _, h => by have := h.length; simp at this
  | _ :: _, [], h => by have := h.length; simp at this
  | p :: kvs, (k', v) :: kks, h => by
    obtain ⟨e, r, hr⟩ := h.un
    obtain ⟨i1, i2⟩ := KvR.look hk hr
    have e2 : keyEq p.1 q = decide (k' = k) := by rw [e, ← keyOf_PV hk]; exact keyPV_keyEq k k'
    by_cases c : k' = k
    · have e3 : lookK (p :: kvs) q = some p.2 := by simp [lookK, List.find?_cons, e2, c]
      have e4 : valV ((k', v) :: kks) k = some v := valV_pos (p := (k', v)) c
      exact ⟨fun p' z => by rw [e3] at z; cases z; exact ⟨v, e4, r⟩, fun z => by rw [e3] at z; cases z⟩
    · have e3 : lookK (p :: kvs) q = lookK kvs q := by simp [lookK, List.find?_cons, e2, c]
      have e4 : valV ((k', v) :: kks) k = valV kks k := valV_neg (p := (k', v)) c
      rw [e3, e4]
      exact ⟨i1, i2⟩
theorem KvR.any {k : L2.Key} {q : PV} (hk : keyOf q = some k) : ∀ {kvs : List (PV × PV)} {kks : List (L2.Key × V)}, KvR g H N kvs kks → (kvs.any fun kv => keyEq kv.1 q) = kks.any fun kv => decide (kv.1 = k)
  | [], [], _ => rfl
  | [], _ :: _, h => by have := h.length; simp at this
  | _ :: _, [], h => by have := h.length; simp at this
  | p :: kvs, (k', v) :: kks, h => by
    obtain ⟨e, r, hr⟩ := h.un
    rw [List.any_cons, List.any_cons, KvR.any hk hr, e, ← keyOf_PV hk, keyPV_keyEq]
theorem KvR.mapPut {k : L2.Key} {q p : PV} {v : V} (hk : keyOf q = some k) (rp : Rep g H N p v) : ∀ {kvs : List (PV × PV)} {kks : List (L2.Key × V)}, KvR g H N kvs kks →
    KvR g H N (kvs.map fun kv => if keyEq kv.1 q = true then (kv.1, p) else kv) (kks.map fun kv => if kv.1 = k then (kv.1, v) else kv)
  | [], [], _ => .nil
  | [], _ :: _, h => by have := h.length; simp at this
  | _ :: _, [], h => by have := h.length; simp at this
  | p' :: kvs, (k', v') :: kks, h => by
    obtain ⟨e, r, hr⟩ := h.un
    have e2 : keyEq p'.1 q = decide (k' = k) := by rw [e, ← keyOf_PV hk]; exact keyPV_keyEq k k'
    rw [List.map_cons, List.map_cons]
    refine .cons ?_ ?_ (KvR.mapPut hk rp hr)
    · have e3 : (if keyEq p'.1 q = true then (p'.1, p) else p').1 = p'.1 := by split <;> rfl
      have e4 : (if k' = k then (k', v) else (k', v')).1 = k' := by split <;> rfl
      show (if keyEq p'.1 q = true then (p'.1, p) else p').1 = keyPV (if k' = k then (k', v) else (k', v')).1
      rw [e3, e4, e]
    · by_cases c : k' = k
      · simp [e2, c]; exact rp
      · simp [e2, c]; exact r
theorem KvR.app {q p : PV} {k : L2.Key} {v : V} (hk : keyOf q = some k) (rp : Rep g H N p v) {kvs : List (PV × PV)} {kks : List (L2.Key × V)} (h : KvR g H N kvs kks) : KvR g H N (kvs ++ [(q, p)]) (kks ++ [(k, v)]) := by
  refine ⟨by rw [List.map_append, List.map_append, h.e]; simp [keyOf_PV hk], ?_⟩
  rw [List.map_append, List.map_append]
  exact h.r.append (.cons rp .nil)
theorem KvR.put {q p : PV} {k : L2.Key} {v : V} (hk : keyOf q = some k) (rp : Rep g H N p v) {kvs : List (PV × PV)} {kks : List (L2.Key × V)} (h : KvR g H N kvs kks) : KvR g H N (putPV kvs q p) (putK kks k v) := by
  unfold putPV putK
  rw [h.any hk]
  split
  · exact h.mapPut hk rp
  · exact h.app hk rp
theorem KvR.mono {g' : Gv} {H' : Hp} {N' : Addr → Prop} (hg : Gle g g') (k : Kp H H' N N') {kvs : List (PV × PV)} {kks : List (L2.Key × V)} (h : KvR g H N kvs kks) : KvR g' H' N' kvs kks := ⟨h.e, h.r.mono hg k⟩
end
section
variable {X : Cx} {W : WX} {c : Ctl} {σ : L2.St} {env : Env} {H H0 H1 : Hp} {st : Sto} {l l1 l2 : Lv} {a b e : Expr} {da db dc : Den PV} {pos : Pos}
theorem rv_dct {kvs : List (PV × PV)} {v : V} (hl : l ≠ .m) (h : RV X c σ env H0 H (.dct false kvs) v l) : ∃ a kks, v = .ref a ∧ Rd H a (.dK kks) ∧ kvs.length ≤ sizeLine ∧ KvR (gv X c) H (c.N σ env) kvs kks := by
  cases l with
  | c => cases (show Rep _ _ _ _ _ from h) with | dK a b d e f => exact ⟨_, _, rfl, a, d, e, f⟩
  | m => exact absurd rfl hl
  | i => obtain ⟨a, rfl, _, kks, h1, h2, h3, h4⟩ := h; exact ⟨a, kks, rfl, .inl h1, h2, h3, h4⟩
  | f => obtain ⟨a, rfl, _, _, kks, h1, h2, h3, h4⟩ := h; exact ⟨a, kks, rfl, .inl h1, h2, h3, h4⟩
theorem rv_key {q : PV} {y : V} {k : L2.Key} (hk : keyOf q = some k) (h : RV X c σ env H0 H q y l) : y = kV k := by
  cases l with
  | c => exact keyOf_V hk (show Rep _ _ _ _ _ from h)
  | m => exact keyOf_V hk (show Rep _ _ _ _ _ from h)
  | i => obtain ⟨_, _, _, o⟩ := h; cases q <;> first | exact o.elim | cases hk
  | f => obtain ⟨_, _, _, _, o⟩ := h; cases q <;> first | exact o.elim | cases hk
/-- d[k] -/
def dgetPV : PV → PV → Option PV
  | .dct false kvs, q => if isKey q then lookK kvs q else none
  | _, _ => none
theorem isKey_of {q : PV} (h : isKey q = true) : ∃ k, keyOf q = some k := by cases q <;> first | cases h; done | exact ⟨_, rfl⟩
theorem d_dget (hu : X.A.units + 1 < cLine) (ha : DE X W a l1 da) (hb : DE X W b l2 db) (hs : NoSl b := by exact fun _ _ => rfl) (hl1 : l1 ≠ .m := by decide) (hf : l1 ≠ .f := by decide) : DE X W (.Subscript a b pos) .c (xBin dgetPV da db) := by
  obtain ⟨ta, pa, ha⟩ := ha
  obtain ⟨tb, pb, hb⟩ := hb
  refine ⟨_, pe_dget hu pa pb hs, fun c σ H env st Q sr h => ha c σ H env st _ sr (bin_core (Q2 := fun x y H2 => ∃ a v, x = .ref a ∧ DGet H2 a y (some v) ∧ Q v H2) sr hf hb h fun c2 H2 st2 p q x y res sr2 r1 ⟨H1, r2⟩ e g => ?_)⟩
  cases p with
  | dct b0 kvs =>
    cases b0 with
    | true => cases e
    | false =>
      have e : (if isKey q then lookK kvs q else none) = some res := e
      split at e
      · rename_i hk
        obtain ⟨k, hk⟩ := isKey_of hk
        obtain ⟨A, kks, e1, h1, z, kr⟩ := rv_dct hl1 r1
        obtain ⟨v, h2, h3⟩ := (kr.look hk).1 res e
        have ey := rv_key hk r2
        subst e1 ey
        exact ⟨A, v, rfl, .inl ⟨kks, k, h1, rfl, h2.symm⟩, give_c g h3⟩
      · cases e
  | _ => cases e
/-- d.get(k), d.get(k, x) -/
def xDget1 (da db : Den PV) : Den PV := fun env st => (da env st).bind fun p s => match p with
  | .dct false _ => (db env s).bind fun q s' => match p with
    | .dct false kvs => if isKey q then .ok ((lookK kvs q).getD .non) s' else .no
    | _ => .no
  | _ => .no
theorem m1_of {o e : Expr} {apos cpos : Pos} (h1 : attributeBase o "get" X.env (eval o X.env) = eval o X.env) (h2 : ((backTo cpos (starEach [e] X.env)).all (fun x => !x.1) && (backToKw cpos (keywordEach [] X.env)).all (fun x => x.1.isSome)
    && decide (([e] : List Expr).length + ([] : List Keyword).length + (if ([] : List Keyword).isEmpty then 0 else 1) < 30)) = true) (h3 : (apos.endLine == cpos.line) = true) (h4 : backTo cpos (starEach [e] X.env) = [(false, eval e X.env)]) : M1 X o "get" apos e cpos := ⟨h1, h2, h3, h4⟩
theorem d_dget1 {apos : Pos} (hu : X.A.units + 1 < cLine) (ha : DE X W a l1 da) (hb : DE X W b .c db) (m : M1 X a "get" apos b pos := by exact ⟨rfl, rfl, rfl, rfl⟩) (hl1 : l1 ≠ .m := by decide) (hf : l1 ≠ .f := by decide) :
    DE X W (.Call (.Attribute a "get" apos) [b] [] pos) .c (xDget1 da db) := by
  obtain ⟨ta, pa, ha⟩ := ha
  obtain ⟨tb, pb, hb⟩ := hb
  refine ⟨_, pe_dget1 hu pa pb m, fun c σ H env st Q sr h => ha c σ H env st _ sr (bindG back_RL h fun p st1 x c1 H1 sr1 po r h1 => ?_)⟩
  cases p with
  | dct b0 kvs =>
    cases b0 with
    | true => exact h1.elim
    | false =>
      obtain ⟨A, kks, e1, k1, z, kr⟩ := rv_dct hl1 r.1
      subst e1
      refine ⟨A, rfl, .inl ⟨kks, k1⟩, hb c1 σ H1 env st1 _ sr1 (bindG back_RL h1 fun q st2 y c2 H2 sr2 po2 r2 h2 => ?_)⟩
      have h2 : HypG X W σ env (RL X σ env .c) c2 H2 (if isKey q then .ok ((lookK kvs q).getD .non) st2 else .no) Q := h2
      split at h2
      · rename_i hk
        obtain ⟨k, hk⟩ := isKey_of hk
        have r1' : RV X c2 σ env H2 H2 (.dct false kvs) (.ref A) l1 := po2.lv hf r.1
        obtain ⟨A', kks', e1', k1', z', kr'⟩ := rv_dct hl1 r1'
        cases e1'
        have ey := rv_key hk r2.1
        subst ey
        refine ⟨valV kks' k, .inl ⟨kks', k, k1', rfl, rfl⟩, ?_⟩
        obtain ⟨i1, i2⟩ := kr'.look hk
        cases el : lookK kvs q with
        | none =>
          rw [el] at h2
          rw [i2 el]
          exact h2 .non c2 H2 sr2 (.refl _ _) (rlc .non)
        | some pv =>
          rw [el] at h2
          obtain ⟨v, j1, j2⟩ := i1 pv el
          rw [j1]
          exact h2 v c2 H2 sr2 (.refl _ _) (rlc j2)
      · exact h2.elim
  | _ => exact h1.elim
def xDget2 (da db dc : Den PV) : Den PV := fun env st => (da env st).bind fun p s => match p with
  | .dct false _ => (db env s).bind fun q s' => (dc env s').bind fun d s'' => match p with
    | .dct false kvs => if isKey q then .ok ((lookK kvs q).getD d) s'' else .no
    | _ => .no
  | _ => .no
theorem d_dget2 {f : Expr} {apos : Pos} (hu : X.A.units + 1 < cLine) (ha : DE X W a l1 da) (hb : DE X W b .c db) (hc : DE X W f .c dc) (m : M2 X a "get" apos b f pos := by exact ⟨rfl, rfl, rfl, rfl⟩) (hl1 : l1 ≠ .m := by decide) (hf : l1 ≠ .f := by decide) :
    DE X W (.Call (.Attribute a "get" apos) [b, f] [] pos) .c (xDget2 da db dc) := by
  obtain ⟨ta, pa, ha⟩ := ha
  obtain ⟨tb, pb, hb⟩ := hb
  obtain ⟨tc, pc, hc⟩ := hc
  refine ⟨_, pe_dget2 hu pa pb pc m, fun c σ H env st Q sr h => ha c σ H env st _ sr (bindG back_RL h fun p st1 x c1 H1 sr1 po r h1 => ?_)⟩
  cases p with
  | dct b0 kvs =>
    cases b0 with
    | true => exact h1.elim
    | false =>
      obtain ⟨A, kks, e1, k1, z, kr⟩ := rv_dct hl1 r.1
      subst e1
      refine ⟨A, rfl, .inl ⟨kks, k1⟩, hb c1 σ H1 env st1 _ sr1 (bindG back_RL h1 fun q st2 y c2 H2 sr2 po2 r2 h2 => hc c2 σ H2 env st2 _ sr2 (bindG back_RL h2 fun d st3 w c3 H3 sr3 po3 r3 h3 => ?_))⟩
      have h3 : HypG X W σ env (RL X σ env .c) c3 H3 (if isKey q then .ok ((lookK kvs q).getD d) st3 else .no) Q := h3
      split at h3
      · rename_i hk
        obtain ⟨k, hk⟩ := isKey_of hk
        have r1' : RV X c3 σ env H3 H3 (.dct false kvs) (.ref A) l1 := po3.lv hf (po2.lv (H0' := H2) hf r.1)
        obtain ⟨A', kks', e1', k1', z', kr'⟩ := rv_dct hl1 r1'
        cases e1'
        have ey := rv_key hk r2.1
        subst ey
        refine ⟨valV kks' k, .inl ⟨kks', k, k1', rfl, rfl⟩, ?_⟩
        obtain ⟨i1, i2⟩ := kr'.look hk
        cases el : lookK kvs q with
        | none =>
          rw [el] at h3
          rw [i2 el]
          exact h3 w c3 H3 sr3 (.refl _ _) (rlc r3.1)
        | some pv =>
          rw [el] at h3
          obtain ⟨v, j1, j2⟩ := i1 pv el
          rw [j1]
          exact h3 v c3 H3 sr3 (.refl _ _) (rlc j2)
      · exact h3.elim
  | _ => exact h1.elim
/-- a dict of the module -/
def tabLk (tab : List (List Nat × Int)) (l : List Nat) : Option Int := (tab.find? fun p => eqS p.1 l).map (·.2)
def tabPV (tab : List (List Nat × Int)) : PV → Option PV
  | .str l => (tabLk tab l).map .int
  | _ => none
def inTab (tab : List (List Nat × Int)) : PV → Option PV
  | .str l => some (.bl (tabLk tab l).isSome)
  | _ => none
/-- the dict at x of the module -/
structure GTab (K : PySem.W.Frag) (w : World) (mg : Str → Option Value) (x : Str) (tab : List (List Nat × Int)) : Prop where
  ex : ∃ d es n, mg x = some (.ref d) ∧ KDict K w d es n ∧ (∀ l i, tabLk tab l = some i → ∃ t, PySem.W.nsIn K d (mkS l) = some (some (.int i t))) ∧ ∀ l, tabLk tab l = none → PySem.W.nsIn K d (mkS l) = some none
theorem d_gtab {x : Str} {tab : List (List Nat × Int)} {p : Pos} (G : GTab X.K X.w X.mg x tab) (hg : Gl X x) (hb : DE X W b .c db) (hs : PlainIx b := by exact fun _ _ => rfl) (hd : (x == ("__debug__" : Str)) = false := by decide) : DE X W (.Subscript (.Name x p) b pos) .c (xUn (tabPV tab) db) := by
  obtain ⟨d, es, n, e1, D, g1, g2⟩ := G.ex
  obtain ⟨tb, pb, hb⟩ := hb
  have nm : PE X (.Name x p) (tC (.ref d)) := pe_glob hg e1 rfl hd
  have pe : PE X (.Subscript (.Name x p) b pos) (fun σ H Q => tb σ H fun y H2 => ∃ (z : Str) (u0 : Value) (v0 : V), y = .str z ∧ PySem.W.nsIn X.K d z = some (some u0) ∧ RelV v0 u0 ∧ Q v0 H2) := by
    refine ⟨fun pins s σ H Q I h => ?_⟩
    refine subD_of PySem.F.slot_dict_getitem.lookup hs (thn (nm.run pins s σ H (fun x0 H0 => x0 = .ref d ∧ H0 = H) I ⟨rfl, rfl⟩) fun u s1 ⟨x0, H1, I1, rx, ex, eH⟩ => ?_)
    subst ex eH
    refine thn (pb.run pins s1 σ H1 _ I1 h) fun iv s2 ⟨y, H2, I2, ry, z, u0, v0, ey, h1, h2, q⟩ => ?_
    subst ey
    have rx' : RelV (.ref d) u := rx
    obtain rfl : u = Value.ref d := rx
    exact ⟨kd_type D I2, op_item_kd D pins s2 σ H2 (.ref d) (.str z) _ _ Q I2 rx' ry ⟨z, u0, v0, rfl, rfl, h1, h2, q⟩⟩
  refine ⟨_, pe, fun c σ H env st Q sr h => hb c σ H env st _ sr (un_core sr h fun c1 H1 st1 p v res sr1 r e g => ?_)⟩
  cases p with
  | str l =>
    have e : (tabLk tab l).map PV.int = some res := e
    cases et : tabLk tab l with
    | none => rw [et] at e; cases e
    | some i =>
      rw [et] at e
      cases e
      obtain ⟨t, k⟩ := g1 l i et
      obtain ⟨ev, _⟩ := rv_str r
      exact ⟨mkS l, _, .int i, ev, k, ⟨t, rfl⟩, give_c g (.int i)⟩
  | _ => cases e
/-- k in SIZES, k not in SIZES -/
theorem ok_inTab {d : Addr} {es : Array DictEntry} {n : Nat} {tab : List (List Nat × Int)} : True := trivial
theorem d_inTab {x : Str} {tab : List (List Nat × Int)} {p : Pos} (G : GTab X.K X.w X.mg x tab) (hg : Gl X x) (ha : DE X W a .c da) (hm : behindInMarks .In (.Name x p) = false := by rfl) (hd : (x == ("__debug__" : Str)) = false := by decide) : DE X W (.Compare a [.In] [.Name x p] pos) .c (xUn (inTab tab) da) := by
  obtain ⟨d, es, n, e1, D, g1, g2⟩ := G.ex
  obtain ⟨ta, pa, ha⟩ := ha
  have nm : PE X (.Name x p) (tC (.ref d)) := pe_glob hg e1 rfl hd
  refine ⟨_, pe_cmpR (op_in_kd D) pa nm hm, fun c σ H env st Q sr h => ha c σ H env st _ sr (un_core sr h fun c1 H1 st1 p v res sr1 r e g => ?_)⟩
  cases p with
  | str l =>
    cases e
    obtain ⟨ev, _⟩ := rv_str r
    subst ev
    cases et : tabLk tab l with
    | none =>
      rw [et] at g
      exact ⟨mkS l, _, rfl, rfl, g2 l et, give_c g (.bl _)⟩
    | some i =>
      rw [et] at g
      obtain ⟨t, k⟩ := g1 l i et
      exact ⟨mkS l, _, rfl, rfl, k, give_c g (.bl _)⟩
  | _ => cases e
/-- sorted -/
def keyInts : List (PV × PV) → Option (List Int) := fun kvs => intsOf (kvs.map (·.1))
def sortedPV : PV → Option PV
  | .lst ps => (match intsOf ps with
    | some ns => some (.lst ((isort ltI ns).map .int))
    | none => (match strsOf ps with
      | some ss => some (.lst ((isort ltS ss).map .str))
      | none => none))
  | .dct false kvs => if kvs.length < 64 then (intsOf (kvs.map (·.1))).map fun ns => .lst ((isort ltI ns).map .int) else none
  | _ => none
theorem keys_inl {g : Gv} {H : Hp} {N : Addr → Prop} : ∀ {ns : List Int} {kvs : List (PV × PV)} {kks : List (L2.Key × V)}, KvR g H N kvs kks → kvs.map (·.1) = ns.map .int → kks.map (·.1) = ns.map Sum.inl
  | [], [], [], _, _ => rfl
  | _, [], _ :: _, h, _ => by have := h.length; simp at this
  | _, _ :: _, [], h, _ => by have := h.length; simp at this
  | n :: ns, [], [], _, e => by cases e
  | [], _ :: _, _, _, e => by cases e
  | n :: ns, p :: kvs, (k, v) :: kks, h, e => by
    obtain ⟨e1, _, hr⟩ := h.un
    simp only [List.map_cons, List.cons.injEq] at e ⊢
    refine ⟨?_, keys_inl hr e.2⟩
    rw [e.1] at e1
    cases k with
    | inl i => cases e1; rfl
    | inr x => cases e1
theorem ok_sorted (hc : X.calm = true) (hl1 : l1 ≠ .m := by decide) : UnOk X (fun x H Q => (rSortedI X.K [x] H Q ∨ rSortedTx X.K [x] H Q) ∨ (∃ (a : Addr) (kvs : List (L2.Key × V)) (ks : List Int), [x] = [V.ref a] ∧ Rd H a (.dK kvs) ∧ kvs.map (·.1) = ks.map Sum.inl ∧ ks.length < 64 ∧
    ∀ (ys : List Int) (p : Addr), ys.Perm ks → ys.Pairwise (· ≤ ·) → H p = none → Q (.ref p) (upd H p (.lst (ys.map V.int))))) l1 .f sortedPV := by
  intro c σ H H1 env st Q p res x sr r e g
  have repI : ∀ (ns : List Int), RepA (gv X c) H (c.N σ env) (ns.map .int) (ns.map V.int) := fun ns => by
    induction ns with
    | nil => exact .nil
    | cons n ns ih => exact .cons (.int n) ih
  cases p with
  | lst ps =>
    obtain ⟨a, vs, e1, h1, z, k⟩ := rv_lst hl1 r
    subst e1
    have e : (match intsOf ps with
      | some ns => some (.lst ((isort ltI ns).map .int))
      | none => (match strsOf ps with
        | some ss => some (.lst ((isort ltS ss).map .str))
        | none => none)) = some res := e
    cases ei : intsOf ps with
    | some ns =>
      rw [ei] at e
      cases e
      have e2 := intsOf_eq ei
      subst e2
      have e3 := k.ints
      subst e3
      refine .inl (.inl ⟨a, ns, rfl, SqL.of h1, fun ns' p hp hs hn => ?_⟩)
      have e4 := isort_int hp hs
      subst e4
      refine give_newL sr (.inr rfl) g ?_ (repI _) p hn
      rw [List.length_map, isort_perm.length_eq]
      rw [List.length_map] at z; exact z
    | none =>
      rw [ei] at e
      cases es : strsOf ps with
      | none => simp only [es] at e; cases e
      | some ss =>
        simp only [es] at e
        cases e
        have e2 := strsOf_eq es
        subst e2
        have e3 := k.strs
        subst e3
        refine .inl (.inr ⟨a, ss, rfl, SqL.of h1, fun p hn => ?_⟩)
        refine give_newL sr (.inr rfl) g ?_ ?_ p hn
        · rw [List.length_map, isort_perm.length_eq]
          rw [List.length_map] at z; exact z
        · have key : ∀ l ∈ isort ltS ss, l.length ≤ sizeLine ∧ ∀ c ∈ l, c < 1114112 := fun l hl => by
            have hl : l ∈ ss := isort_perm.mem_iff.mp hl
            obtain ⟨i, hi, e5⟩ := List.getElem_of_mem hl
            obtain ⟨v, g1, g2⟩ := k.get (i := i) (p := .str l) (by rw [List.getElem?_map, List.getElem?_eq_getElem hi, e5]; rfl)
            cases g2 with
            | str _ a b => exact ⟨a, b⟩
          revert key
          generalize isort ltS ss = tt
          intro key
          induction tt with
          | nil => exact .nil
          | cons t tt ih => exact .cons (.str t (key t (by simp)).1 (key t (by simp)).2) (ih fun l hl => key l (List.mem_cons_of_mem _ hl))
  | dct b0 kvs =>
    cases b0 with
    | true => cases e
    | false =>
      have e : (if kvs.length < 64 then (intsOf (kvs.map (·.1))).map fun ns => PV.lst ((isort ltI ns).map .int) else none) = some res := e
      split at e
      case isFalse => cases e
      rename_i h64
      cases ei : intsOf (kvs.map (·.1)) with
      | none => rw [ei] at e; cases e
      | some ns =>
        rw [ei] at e
        cases e
        have e2 := intsOf_eq ei
        obtain ⟨a, kks, e1, h1, z, k⟩ := rv_dct hl1 r
        subst e1
        have hlen : ns.length = kvs.length := by
          have := congrArg List.length e2
          simpa using this.symm
        refine .inr ⟨a, kks, ns, rfl, h1, keys_inl k e2, by omega, fun ys p hp hs hn => ?_⟩
        have e4 := isort_int hp hs
        subst e4
        refine give_newL sr (.inr rfl) g ?_ (repI _) p hn
        rw [List.length_map, isort_perm.length_eq, sizeLine_eq]
        omega
  | _ => cases e
theorem d_sorted {p : Pos} (hc : X.calm = true) (hg : Gl X "sorted") (hm : X.mg "sorted" = none) (ha : DE X W a l1 da) (hl1 : l1 ≠ .m := by decide) (hs : starEach [a] X.env = (false, eval a X.env) :: starEach [] X.env := by rfl) : DE X W (.Call (.Name "sorted" p) [a] [] pos) .f (xUn sortedPV da) :=
  d_call1 ((CallR.or cr_sortedI cr_sortedTx).or (call_sortedDI hc)) (ok_sorted hc hl1) hg hm rfl ha hs
/-- a dict display of constants -/
def DPs (X : Cx) (pos : Pos) (keys : List (Option Expr)) (values : List Expr) (kvs : List (PV × PV)) : Prop :=
  ∃ trs, PPs X pos keys values trs ∧ ∃ kks : List (L2.Key × V), (∀ g H N, KvR g H N kvs kks) ∧ ∀ σ H Q, Q (kks.map fun kv => (kV kv.1, kv.2)) H → tPairs trs σ H Q
theorem dps_nil : DPs X pos [] [] [] := ⟨_, pps_nil, [], fun _ _ _ => .nil, fun σ H Q h => h⟩
theorem dps_cons {ks : List (Option Expr)} {vs : List Expr} {kvs : List (PV × PV)} {ek ev : Expr} {q p : PV} {k : L2.Key} {v : V} (h1 : PE X ek (tC (kV k))) (hk : keyOf q = some k) (h2 : PE X ev (tC v)) (hv : ∀ g H N, Rep g H N p v) (hr : DPs X pos ks vs kvs) : DPs X pos (some ek :: ks) (ev :: vs) ((q, p) :: kvs) := by
  obtain ⟨trs, pt, kks, kr, run⟩ := hr
  exact ⟨_, pps_cons h1 h2 pt, (k, v) :: kks, fun g H N => .cons (keyOf_PV hk).symm (hv g H N) (kr g H N), fun σ H Q h => run σ H _ h⟩
theorem dps_si {ks : List (Option Expr)} {vs : List Expr} {kvs : List (PV × PV)} {x : Str} {j j2} {p1 p2 : Pos} (l : List Nat) {i : Int} (ex : x = mkS l := by rfl) (hr : DPs X pos ks vs kvs) : DPs X pos (some (.Constant (.str x) j p1) :: ks) (.Constant (.int i) j2 p2 :: vs) ((.str l, .int i) :: kvs) :=
  dps_cons (k := .inr x) pe_str (by rw [ex]; rfl) pe_int (fun _ _ _ => .int i) hr
theorem dps_ss {ks : List (Option Expr)} {vs : List Expr} {kvs : List (PV × PV)} {x y : Str} {j j2} {p1 p2 : Pos} (l m : List Nat) (ex : x = mkS l := by rfl) (ey : y = mkS m := by rfl) (z : m.length ≤ sizeLine := by decide) (u : ∀ c ∈ m, c < 1114112 := by decide) (hr : DPs X pos ks vs kvs) : DPs X pos (some (.Constant (.str x) j p1) :: ks) (.Constant (.str y) j2 p2 :: vs) ((.str l, .str m) :: kvs) :=
  dps_cons (k := .inr x) pe_str (by rw [ex]; rfl) pe_str (fun _ _ _ => ey ▸ .str m z u) hr
def mergePV (kvs : List (PV × PV)) : List (PV × PV) := kvs.foldl (fun acc kv => putPV acc kv.1 kv.2) []
theorem merge_rep {g : Gv} {H : Hp} {N : Addr → Prop} : ∀ {more acc : List (PV × PV)} {ms as : List (L2.Key × V)}, KvR g H N more ms → (∀ p ∈ more, isKey p.1 = true) → KvR g H N acc as → KvR g H N (more.foldl (fun acc kv => putPV acc kv.1 kv.2) acc) (mergeK as ms)
  | [], _, [], _, _, _, h => h
  | [], _, _ :: _, _, h, _, _ => by have := h.length; simp at this
  | _ :: _, _, [], _, h, _, _ => by have := h.length; simp at this
  | p :: more, acc, (k, v) :: ms, as, h, hk, ha => by
    obtain ⟨e, r, hr⟩ := h.un
    have hq : keyOf p.1 = some k := by
      obtain ⟨k', hk'⟩ := isKey_of (hk p List.mem_cons_self)
      have e2 := keyOf_PV hk'
      have e3 : keyPV k' = keyPV k := e2.trans e
      cases k <;> cases k' <;> simp only [keyPV, PV.int.injEq, PV.str.injEq, reduceCtorEq] at e3
      · rw [hk', e3]
      · rename_i x y
        have := congrArg mkS e3
        rw [L2.mkS_of, L2.mkS_of] at this
        rw [hk', this]
    show KvR g H N (more.foldl (fun acc kv => putPV acc kv.1 kv.2) (putPV acc p.1 p.2)) (mergeK (putK as k v) ms)
    exact merge_rep (more := more) (ms := ms) hr (fun q hq => hk q (List.mem_cons_of_mem _ hq)) (ha.put hq r)
theorem merge_len {g : Gv} : True := trivial
theorem d_disp {keys : List (Option Expr)} {values : List Expr} {kvs : List (PV × PV)} (h : DPs X pos keys values kvs) (hq : kvs.all (fun p => isKey p.1) = true := by rfl) (h15' : kvs.length ≤ 15 := by decide) (hall : keys.all (·.isSome) = true := by rfl) (hl : keys.length = values.length := by rfl) (h0 : keys ≠ [] := by simp)
    (h15 : keys.length ≤ 15 := by decide) : DE X W (.Dict keys values pos) .f (xC (.dct false (mergePV kvs))) := by
  obtain ⟨trs, pt, kks, kr, run⟩ := h
  refine ⟨_, pe_disp pt hall hl h0 h15, fun c σ H env st Q sr h => ?_⟩
  intro p hp
  refine run σ _ _ ⟨upd_same, kks, rfl, ?_, ?_⟩
  · rw [← (kr (gv X c) H (c.N σ env)).length]; exact h15'
  · have sr1 := sr.newM (o := .dK []) hp
    have m2 : KvR (gv X c) H ((cD c p).N σ env) (mergePV kvs) (mergeK [] kks) := merge_rep (kr _ _ _) (fun q hm => List.all_eq_true.mp hq q hm) .nil
    have hz : (mergePV kvs).length ≤ sizeLine := by
      rw [m2.length]
      have := length_mergeK kks []
      rw [List.length_nil] at this
      have h2 := (kr (gv X c) H (c.N σ env)).length
      rw [sizeLine_eq]; omega
    have nS : ¬ c.S p := fun z => sr.dm p (.inl z) hp
    have nM : ¬ c.M p := fun z => sr.dm p (.inr z) hp
    have h00 : c.H0 p = none := Classical.byContradiction fun z => sr.d0 p z hp
    have hupd : upd (upd H p (.dK [])) p (.dK (mergeK [] kks)) = upd H p (.dK (mergeK [] kks)) := by
      funext a
      by_cases ha : a = p
      · subst ha; rw [upd_same, upd_same]
      · rw [upd_ne ha, upd_ne ha, upd_ne ha]
    rw [hupd]
    have m3 : ∀ N', KvR (gv X c) (upd H p (.dK (mergeK [] kks))) N' (mergePV kvs) (mergeK [] kks) := fun N' => merge_rep (kr _ _ _) (fun q hm => List.all_eq_true.mp hq q hm) .nil
    have srD : SR X (cD c p) σ (upd H p (.dK (mergeK [] kks))) env st := sr.newM hp
    have sr0 : SR X c σ (upd H p (.dK (mergeK [] kks))) env st := sr.grow (grow_upd hp)
    exact h (.ref p) c _ sr0 (.grow (grow_upd hp)) ⟨⟨p, rfl, hp, fun z => z.elim nS nM, _, upd_same, hz, (m3 (fun _ => False)).e, (m3 _).r⟩, fun _ => ⟨p, rfl, hp, nS, ⟨_, upd_same, hz, (m3 (fun _ => False)).e, (m3 _).r⟩, srD⟩⟩
theorem d_dnew : DE X W (.Dict [] [] pos) .f (xC (.dct false [])) := by
  refine ⟨_, pe_dnewK, fun c σ H env st Q sr h => ?_⟩
  intro p hp
  have nS : ¬ c.S p := fun z => sr.dm p (.inl z) hp
  have nM : ¬ c.M p := fun z => sr.dm p (.inr z) hp
  exact h (.ref p) c _ (sr.grow (grow_upd hp)) (.grow (grow_upd hp)) ⟨⟨p, rfl, hp, fun z => z.elim nS nM, [], upd_same, Nat.zero_le _, rfl, .nil⟩, fun _ => ⟨p, rfl, hp, nS, ⟨[], upd_same, Nat.zero_le _, rfl, .nil⟩, sr.newM hp⟩⟩
/-- d[k] = e of one's own dict -/
def xDput (j : Nat) (dk d : Den PV) : DenS := fun env st => (d env st).thenS fun q s => match env[j]? with
  | some (.ow (.dct false kvs)) => (dk env s).thenS fun k s1 => if isKey k = true ∧ kvs.length < 16777216 then .nx (env.set j (.ow (.dct false (putPV kvs k q)))) s1 else .no
  | _ => .no
theorem ds_dput {rl : Lv} (j : Nat) {x : Str} {p1 p2 : Pos} (hu : X.A.units + 1 < cLine) (hk : DE X W b .c db) (ha : DE X W e .c da) (hN : X.N[j]? = some x := by rfl) (hv : Vis X.env.scope x := by first | exact Or.inl rfl | exact Or.inr (Or.inl rfl) | exact Or.inr (Or.inr rfl))
    (hd : (x == ("__debug__" : Str)) = false := by decide) (hcd : (x == ("__classdict__" : Str)) = false := by decide) (hs : swapsWith e (some (.Subscript (.Name x p1) b p2)) pos.line X.env = pure false := by rfl) :
    DS X W rl (.Assign [.Subscript (.Name x p1) b p2] e pos) (xDput j db da) := by
  obtain ⟨t, p, ha⟩ := ha
  obtain ⟨u, q, hk⟩ := hk
  refine ⟨_, ps_dput hu (pe_var hN hv hd hcd) q p hs, fun c σ H env st D sr h => ha c σ H env st _ sr (bindS h fun pv st1 v c1 H1 sr1 po r h1 => ?_)⟩
  split at h1
  case h_2 => exact h1.elim
  rename_i kvs e1
  obtain ⟨A, k1, k2, k3, k4, k5⟩ := sr1.ow j _ e1
  refine ⟨_, k1, hk c1 σ H1 env st1 _ sr1 (bindS h1 fun kv st2 w c2 H2 sr2 po2 r2 h2 => ?_)⟩
  split at h2
  case isFalse => exact h2.elim
  rename_i cond
  obtain ⟨kk, hkk⟩ := isKey_of cond.1
  obtain ⟨A', m1, m2, m3, m4, m5⟩ := sr2.ow j _ e1
  obtain rfl : A = A' := by rw [k1] at m1; cases m1; rfl
  obtain ⟨kks, f1, f2, f3, f4⟩ := m5
  have kr : KvR (gv X c2) H2 (c2.N σ env) kvs kks := ⟨f3, f4⟩
  have ew := rv_key hkk r2.1
  have kr2 := kr.put hkk (po2.rep r.1)
  have hNa : c2.N σ env A := .inr (.inr ⟨j, _, e1, k1⟩)
  refine ⟨A, _, rfl, .inl ⟨kks, kk, f1, ew, by rw [← kr.length, sizeLine_eq]; exact cond.2, rfl⟩, ?_⟩
  have kr3 := kr2.mono (.refl _) (KpOw (o' := .dK (putK kks kk v)) hNa)
  refine h2 c2 σ _ (sr2.writeOw j e1 k1 ⟨putK kks kk v, upd_same, ?_, kr3.e, kr3.r⟩) (.refl _)
  rw [kr2.length]
  have := length_putK kks kk v
  have := kr.length
  rw [sizeLine_eq]; omega
end
end Vl

set_option Elab.async false
set_option linter.all false
set_option maxRecDepth 100000
set_option maxHeartbeats 1000000
namespace Vl
open PySem PySem.Spec PyProof.Rows L2

/-! ### {k: v for .. in ..} -/
def compD (g : PV → Env → Option Env) (dt : Den Bool) (dk de : Den PV) : List PV → List (PV × PV) → Env → Sto → Res (List (PV × PV))
  | [], acc, _, st => .ok acc st
  | p :: ps, acc, env, st => match g p env with
    | none => .no
    | some env' => match dt env' st with
      | .ok true s1 => (match dk env' s1 with
        | .ok q s2 => (match de env' s2 with
          | .ok v s3 => if isKey q then compD g dt dk de ps (putPV acc q v) env s3 else .no
          | _ => .no)
        | _ => .no)
      | .ok false s1 => compD g dt dk de ps acc env s1
      | _ => .no
def xDc (vs : List Nat) (g : PV → Env → Option Env) (dt : Den Bool) (dk de : Den PV) (di : Den (List PV)) : Den PV := fun env st =>
  (di env st).bind fun items s => if notOwB env vs = true ∧ items.length ≤ 16777216 then (match compD g dt dk de items [] (wipeE env vs) s with | .ok kvs s' => .ok (.dct false kvs) s' | _ => .no) else .no
theorem putPV_len (kvs : List (PV × PV)) (q p : PV) : (putPV kvs q p).length ≤ kvs.length + 1 := by
  unfold putPV
  split
  · rw [List.length_map]; omega
  · rw [List.length_append]; simp
section
variable {X : Cx} {W : WX} {l : Lv} {σ : L2.St} {env : Env}
structure DInv (X : Cx) (l : Lv) (σ : L2.St) (env : Env) (vs : List Nat) (g : PV → Env → Option Env) (dt : Den Bool) (dk de : Den PV) (items : List PV) (gs : List (PV × V)) (D : Addr) (c1 : Ctl) (H1 : Hp) (ps : List (PV × PV)) (s' : Sto) (i : Nat) (H : Hp) : Prop where
  ex : ∃ c2 st2 acc kks, SR X (cD c2 D) (L2.wipe σ vs) H (wipeE env vs) st2 ∧ Post c1 c2 H1 H ∧ ¬ c2.S D ∧ H D = some (.dK kks) ∧ KvR (gv X c2) H ((cD c2 D).N (L2.wipe σ vs) (wipeE env vs)) acc kks ∧ acc.length ≤ i ∧
    compD g dt dk de (items.drop i) acc (wipeE env vs) st2 = .ok ps s'
end
section
variable {X : Cx} {W : WX} {l : Lv} {tg iter ek ev : Expr} {ifs : List Expr} {scope : Scope} {own : List (Str × Nat)} {pos : Pos} {ix : List Nat} {g : PV → Env → Option Env} {dt : Den Bool} {dk de : Den PV} {di : Den (List PV)}
theorem dc_sound {wi : TI} (hl : l ≠ .f) {vs : List Nat} (hi : ∀ c σ H env st R, SR X c σ H env st → HypI X W l σ env c H (di env st) R → wi σ H R) (hix : ∀ i ∈ ix, i ∈ vs)
    {c : Ctl} {σ : L2.St} {H : Hp} {env : Env} {st : Sto} {Q : VK} (sr : SR X c σ H env st) (h : HypG X W σ env (RL X σ env .f) c H (xDc vs g dt dk de di env st) Q) : tDc wi (TGd X ix g) (TDT X WF dt) (TD X WF .c dk) (TD X WF .c de) vs σ H Q := by
  refine hi c σ H env st _ sr (bindGI back_RL h fun items st1 c1 H1 J gs sr1 po1 w gh h1 => ?_)
  split at h1
  case isFalse => exact h1.elim
  rename_i cond
  obtain ⟨cow, csz⟩ := cond
  have sz : sizeLine = 16777216 := sizeLine_eq
  cases ec : compD g dt dk de items [] (wipeE env vs) st1 with
  | no => rw [ec] at h1; exact h1.elim
  | er x s => rw [ec] at h1; exact h1.elim
  | ok ps s' =>
  rw [ec] at h1
  have h1 : HypG X W σ env (RL X σ env .f) c1 H1 (.ok (.dct false ps) s') Q := h1
  intro D hD
  have hD0 : c1.H0 D = none := Classical.byContradiction fun z => sr1.d0 D z hD
  have hDS : ¬ c1.S D := fun z => sr1.dm D (.inl z) hD
  refine ⟨fun i m H' => m = items.length - i ∧ i ≤ items.length ∧ DInv X l σ env vs g dt dk de items gs D c1 H1 ps s' i H', ⟨items.length, by simp, Nat.zero_le _, ⟨c1, st1, [], [], ?_, .updD (.refl _ _) hD, hDS, upd_same, .nil, Nat.zero_le _, ec⟩⟩, ?_⟩
  · have q := (sr1.newM (o := .dK []) hD).wipe (vs := vs) cow
    exact q
  · rintro i m H' ⟨rfl, hin, ⟨c2, st2, acc, kks, sb, po, nS, hDv, racc, hal, hc⟩⟩
    have hM2 : c2.M = c1.M := po.M
    have hN : ∀ a, c2.N σ env a → (cD c2 D).N (L2.wipe σ vs) (wipeE env vs) a := fun a z => by
      rcases z with z | z | z
      · exact .inl z
      · exact .inr (.inl (.inl z))
      · exact .inr (.inr ((own_wipe cow a).mpr z))
    have so : SR X c2 σ H' env st2 := sr1.post po ⟨sb.sto.len, sb.sto.nd, sb.sto.own, fun n xs e => by
      obtain ⟨a, vs', h1, h2, h3, h4⟩ := sb.sto.lst n xs e
      exact ⟨a, vs', h1, h2, h3, RepA.loosen hN h4⟩⟩ (fun a z => sb.dm a (.inl z)) sb.fs
    have hdD : ∀ a, H1 a ≠ none → a ≠ D := fun a q z => q (by rw [z]; exact hD)
    have gb : GhOk X l (cD c2 D) (L2.wipe σ vs) (wipeE env vs) H' gs := fun p hp => by
      have q := gh p hp
      have k1 := po.keepsM
      have k2 := po.keeps (OwnS σ env)
      refine RepLv.mono hl po.gle ⟨k1.ex, k1.rd, fun a hd n z => ?_⟩ ⟨k2.ex, k2.rd, fun a hd n z => ?_⟩ (fun a o n e => po.fr a o e fun z => n (.inl z)) q
      · rcases z with z | z | z
        · exact k1.n a hd n (.inl z)
        · exact k1.n a hd n (.inr z)
        · exact hdD a hd z
      · rcases z with z | (z | z) | z
        · exact k2.n a hd n (.inl z)
        · exact k2.n a hd n (.inr (.inl z))
        · exact hdD a hd z
        · exact k2.n a hd n (.inr (.inr ((own_wipe cow a).mp z)))
    by_cases hlt : i < items.length
    · refine .inr ⟨w.goes i _ _ _ H' hlt gb, fun H2 => DInv X l σ env vs g dt dk de items gs D c1 H1 ps s' (i + 1) H2, fun H2 q => ⟨items.length - (i + 1), by omega, rfl, hlt, q⟩, fun x H2 hy => ?_⟩
      obtain ⟨p, ep, gro, rp⟩ := w.yields i _ _ _ H' st2 x H2 sb gb hy hlt
      have hdrop : items.drop i = p :: items.drop (i + 1) := by
        rw [List.drop_eq_getElem_cons hlt]
        rw [List.getElem?_eq_getElem hlt] at ep
        rw [Option.some.inj ep]
      rw [hdrop] at hc
      unfold compD at hc
      cases eg : g p (wipeE env vs) with
      | none => rw [eg] at hc; cases hc
      | some env' =>
      rw [eg] at hc
      simp only at hc
      have sb2 := sb.grow gro
      have hD2 : H2 D = some (.dK kks) := gro D _ hDv
      have poA : Post (cD c2 D) (cD c2 D) H' H2 := .grow gro
      refine ⟨cD c2 D, wipeE env vs, st2, p, sb2, rp, ?_⟩
      rw [eg]
      intro σ' sr' bt
      refine ⟨wipe_ext (by rw [bt.l1, wipe_length]) fun j hj => by rw [bt.s j fun z => hj (hix j z), wipe_get, if_neg hj], ?_⟩
      cases et : dt env' st2 with
      | no => rw [et] at hc; cases hc
      | er x s => rw [et] at hc; cases hc
      | ok b s3 =>
      rw [et] at hc
      refine ⟨cD c2 D, env', st2, sr', ?_⟩
      rw [et]
      intro b' c3 H3 sr3 po3 eb
      cases (show b = b' from eb)
      cases b with
      | false =>
        rw [if_neg Bool.false_ne_true]
        have rw3 := (sr3.rewipe bt hix so.len).1
        have poB := poA.trans po3
        have e3 := cD_un poB
        refine ⟨{ c3 with M := c2.M }, s3, acc, kks, by rw [e3]; exact rw3, po.trans poB.unD, fun z => ?_, poB.fr D _ hDv nS, ?_, by omega, hc⟩
        · exact (poB.S D z).elim nS (by rw [hDv]; simp)
        · rw [e3]
          exact racc.mono (poB.gle (X := X)) (poB.keeps (OwnS (L2.wipe σ vs) (wipeE env vs)))
      | true =>
        rw [if_pos rfl]
        cases ek : dk env' s3 with
        | no => simp only [ek] at hc; cases hc
        | er x s => simp only [ek] at hc; cases hc
        | ok q s4 =>
        simp only [ek] at hc
        cases ee : de env' s4 with
        | no => simp only [ee] at hc; cases hc
        | er x s => simp only [ee] at hc; cases hc
        | ok v s5 =>
        simp only [ee] at hc
        split at hc
        case isFalse => cases hc
        rename_i hkq
        obtain ⟨kk, hkk⟩ := isKey_of hkq
        refine ⟨c3, env', s3, sr3, ?_⟩
        rw [ek]
        intro yk c4 H4 sr4 po4 rk
        refine ⟨c4, env', s4, sr4, ?_⟩
        rw [ee]
        intro y c5 H5 sr5 po5 ry
        have poB := ((poA.trans po3).trans po4).trans po5
        have e5 := cD_un poB
        have hD5 : H5 D = some (.dK kks) := poB.fr D _ hDv nS
        have nS5 : ¬ c5.S D := fun z => (poB.S D z).elim nS (by rw [hDv]; simp)
        have hM5 : c5.M D := by rw [poB.M]; exact .inr rfl
        have h05 : c5.H0 D = none := by rw [poB.H0]; show c2.H0 D = none; rw [po.H0]; exact hD0
        obtain ⟨rw5, ho5⟩ := sr5.rewipe bt hix so.len
        have sb6 := rw5.setM (o := .dK (putK kks kk y)) hM5 nS5 h05 (by rw [hD5]; simp)
        have lenacc : acc.length = kks.length := racc.length
        have kD : Kp H5 (upd H5 D (.dK (putK kks kk y))) (c5.N (L2.wipe σ vs) (wipeE env vs)) (c5.N (L2.wipe σ vs) (wipeE env vs)) := .of (fun a u e n => by
          have : a ≠ D := fun z => n (by rw [z]; exact .inr (.inl hM5))
          rw [upd_ne this]; exact e) fun _ _ n => n
        have r1 : KvR (gv X c5) H5 (c5.N (L2.wipe σ vs) (wipeE env vs)) acc kks := racc.mono (poB.gle (X := X)) (poB.keeps (OwnS (L2.wipe σ vs) (wipeE env vs)))
        have r2 : Rep (gv X c5) H5 (c5.N (L2.wipe σ vs) (wipeE env vs)) v y := Rep.loosen (fun a z => z.imp id fun z => z.imp id (ho5 a)) ry.1
        refine ⟨kks, kk, rv_key hkk rk.1, hD5, by omega, { c5 with M := c2.M }, s5, putPV acc q v, putK kks kk y, by rw [e5]; exact sb6, (po.trans poB.unD).updD hD, nS5, upd_same, ?_, ?_, hc⟩
        · rw [e5]
          exact (r1.put hkk r2).mono (.refl _) kD
        · have := putPV_len acc q v
          omega
    · have ei : i = items.length := by omega
      subst ei
      rw [List.drop_length] at hc
      unfold compD at hc
      cases hc
      refine .inl ⟨w.stops _ _ _ H' gb, ?_⟩
      have hND : ∀ a, (cD c2 D).N σ env a → (cD c2 D).N (L2.wipe σ vs) (wipeE env vs) a := fun a z => by
        rcases z with z | z | z
        · exact .inl z
        · exact .inr (.inl z)
        · exact .inr (.inr ((own_wipe cow a).mpr z))
      have nM : ¬ c2.NM D := fun z => by
        rcases z with z | z
        · exact nS z
        · rw [hM2] at z; exact sr1.dm D (.inr z) hD
      have q1 := racc.mono (.refl _) (Kp.same _ hN)
      have q2 := racc.mono (.refl _) (Kp.same _ hND)
      refine h1 (.ref D) c2 H' so po ⟨⟨D, rfl, hD, nM, kks, hDv, by omega, q1.e, q1.r⟩, fun _ => ⟨D, rfl, hD, nS, ⟨kks, hDv, by omega, q2.e, q2.r⟩, ?_⟩⟩
      exact sr1.postD po hD (by rw [hDv]; simp) ⟨sb.sto.len, sb.sto.nd, sb.sto.own, fun n xs e => by
        obtain ⟨a, vs', h1, h2, h3, h4⟩ := sb.sto.lst n xs e
        exact ⟨a, vs', h1, h2, h3, RepA.loosen hND h4⟩⟩ (fun a z => sb.dm a (.inl z)) sb.fs
theorem d_dc (vs : List Nat) (hc : X.calm = true) (hN : X.N.Nodup) (hi : DI X W tg iter l di) (ok : BlkOk X.N X.env.scope scope own)
    (hg : ∀ (s : Shared) (H : Hp) (C : Addr) (cl : List (Str × Addr)) (fp : List Addr), DG (X.blk s H scope (compEnvC scope cl C X.env) fp) tg ix g) (ht : ∀ (s : Shared) (H : Hp) (C : Addr) (cl : List (Str × Addr)) (fp : List Addr), DTs (X.blk s H scope (compEnvC scope cl C X.env) fp) WF ifs dt)
    (hk : ∀ (s : Shared) (H : Hp) (C : Addr) (cl : List (Str × Addr)) (fp : List Addr), DE (X.blk s H scope (compEnvC scope cl C X.env) fp) WF ek .c dk)
    (he : ∀ (s : Shared) (H : Hp) (C : Addr) (cl : List (Str × Addr)) (fp : List Addr), DE (X.blk s H scope (compEnvC scope cl C X.env) fp) WF ev .c de) (hv : own.map (·.2) = vs := by rfl) (hix : ∀ i ∈ ix, i ∈ vs := by decide) (hl : l ≠ .f := by decide) (hs : ∀ x, foldedSetIterable iter X.env x = pure x := by intro _; rfl) :
    DE X W (.DictComp ek ev [⟨tg, iter, ifs, 0⟩] scope pos) .f (xDc vs g dt dk de di) := by
  obtain ⟨wi, pi, hi⟩ := hi
  subst hv
  exact ⟨_, pe_dc (g := TGd X ix g) (tt := TDT X WF dt) (tk := TD X WF .c dk) (tv := TD X WF .c de) hc hN pi ok (fun s H C cl fp => (hg s H C cl fp).canon) (fun s H C cl fp => ht s H C cl fp) (fun s H C cl fp => (hk s H C cl fp).canon) (fun s H C cl fp => (he s H C cl fp).canon) hs, fun c σ H env st Q sr h => dc_sound hl hi hix sr h⟩
end
end Vl

set_option Elab.async false
set_option linter.all false
set_option maxRecDepth 100000
set_option maxHeartbeats 1000000
namespace Vl
open PySem PySem.Spec PyProof.Rows L2

/-! ### two generators -/
def TDI (X : Cx) (W : WX) (l : Lv) (d : Den (List PV)) : TI := fun σ H R => ∃ c env st, SR X c σ H env st ∧ HypI X W l σ env c H (d env st) R
theorem DI.canon {X : Cx} {W : WX} {tg e : Expr} {l : Lv} {d : Den (List PV)} (h : DI X W tg e l d) : PI X tg e (TDI X W l d) := by
  obtain ⟨t, p, h⟩ := h
  refine ⟨fun pins s σ H R I q => ?_⟩
  obtain ⟨c, env, st, sr, hy⟩ := q
  exact p.run pins s σ H R I (h c σ H env st R sr hy)
/-- the keeping of what stood at c, H -/
structure Kept (X : Cx) (c c' : Ctl) (H H' : Hp) : Prop where
  gle : Gle (gv X c) (gv X c')
  k1 : Kp H H' c.NM c'.NM
  ex : ∀ a o, ¬ c.NM a → H a = some o → H' a = some o
theorem Kept.refl {X : Cx} {c : Ctl} {H : Hp} : Kept X c c H H := ⟨.refl _, .same _ fun _ z => z, fun _ _ _ e => e⟩
theorem Kp.trans {H H1 H2 : Hp} {N N1 N2 : Addr → Prop} (a : Kp H H1 N N1) (b : Kp H1 H2 N1 N2) (d : ∀ x, H x ≠ none → H1 x ≠ none) : Kp H H2 N N2 := ⟨fun x o e d1 d2 n => b.ex x o (a.ex x o e d1 d2 n) d1 d2 (a.n x (by rw [e]; simp) n), fun x u r n => b.rd x u (a.rd x u r n) (a.n x (rdThere r) n), fun x h n => b.n x (d x h) (a.n x h n)⟩
theorem Kept.k2 {X : Cx} {c c' : Ctl} {H H' : Hp} (k : Kept X c c' H H') (O : Addr → Prop) : Kp H H' (fun a => c.S a ∨ c.M a ∨ O a) (fun a => c'.S a ∨ c'.M a ∨ O a) := by
  have h : ∀ a, ¬ (c.S a ∨ c.M a ∨ O a) → ¬ c.NM a := fun a n z => n (z.imp id .inl)
  refine ⟨fun x o e d1 d2 n => k.ex x o (h x n) e, fun x u r n => k.k1.rd x u r (h x n), fun x hd n z => ?_⟩
  rcases z with z | z | z
  · exact k.k1.n x hd (h x n) (.inl z)
  · exact k.k1.n x hd (h x n) (.inr z)
  · exact n (.inr (.inr z))
theorem Kept.trans {X : Cx} {c c1 c2 : Ctl} {H H1 H2 : Hp} (a : Kept X c c1 H H1) (b : Kept X c1 c2 H1 H2) (d : ∀ x, H x ≠ none → H1 x ≠ none) : Kept X c c2 H H2 :=
  ⟨⟨b.gle.1.trans a.gle.1, b.gle.2.trans a.gle.2, a.gle.3.trans b.gle.3⟩, Kp.trans a.k1 b.k1 d, fun x o n e => b.ex x o (a.k1.n x (by rw [e]; simp) n) (a.ex x o n e)⟩
theorem Kept.post {X : Cx} {c c' : Ctl} {H H' : Hp} (p : Post c c' H H') : Kept X c c' H H' := ⟨p.gle, p.keepsM, fun a o n e => p.fr a o e fun z => n (.inl z)⟩
theorem Kept.upd {X : Cx} {c : Ctl} {H : Hp} {D : Addr} {o : HO} (h : c.NM D) : Kept X c c H (L2.upd H D o) := by
  have ne : ∀ a, ¬ c.NM a → a ≠ D := fun a n z => n (by rw [z]; exact h)
  exact ⟨.refl _, .of (fun a u e n => by rw [upd_ne (ne a n)]; exact e) fun _ _ n => n, fun a o n e => by rw [upd_ne (ne a n)]; exact e⟩
theorem Kept.gh {X : Cx} {σ : L2.St} {env : Env} {c c' : Ctl} {H H' : Hp} {l : Lv} (hl : l ≠ .f) (k : Kept X c c' H H') {gs : List (PV × V)} (g : GhOk X l c σ env H gs) : GhOk X l c' σ env H' gs := fun p hp =>
  RepLv.mono hl k.gle k.k1 (k.k2 (OwnS σ env)) (fun a o n e => k.ex a o n e) (g p hp)
section
variable {X : Cx} {l : Lv} {σ : L2.St} {env : Env}
/-- the state of a loop that appends to D -/
structure ALoop (X : Cx) (O : Addr → Prop) (σ : L2.St) (env : Env) (vs : List Nat) (D : Addr) (c1 : Ctl) (H1 : Hp) (acc : List PV) (st : Sto) (c : Ctl) (H : Hp) : Prop where
  sb : SR X (cD c D) (L2.wipe σ vs) H (wipeE env vs) st
  po : Post c1 c H1 H
  nS : ¬ c.S D
  ac : ∃ vacc, H D = some (.lst vacc) ∧ RepA (gv X c) H (fun a => c.S a ∨ (c.M a ∨ a = D) ∨ O a) acc vacc
theorem app_loop {J : It} {items : List PV} {gs : List (PV × V)} {ix : List Nat} {g : PV → Env → Option Env} {dt : Den Bool} {de : Den PV} (hl : l ≠ .f) {vs : List Nat} (hix : ∀ i ∈ ix, i ∈ vs) (hlen : env.length = σ.length) {O : Addr → Prop} (hO : ∀ a, O a → OwnS (L2.wipe σ vs) (wipeE env vs) a) (w : WalkOk X l J items gs) {D : Addr} {c1 c0 : Ctl} {H1 H0 : Hp} {acc0 ps : List PV} {st0 s' : Sto} (hD : H1 D = none) (h00 : c1.H0 D = none)
    (A : ALoop X O σ env vs D c1 H1 acc0 st0 c0 H0) (gh : GhOk X l (cD c0 D) (L2.wipe σ vs) (wipeE env vs) H0 gs) (hc0 : compL g dt de items (wipeE env vs) st0 = .ok ps s') (hz : acc0.length + ps.length ≤ 16777216) {Ex : Hp → Prop} (hEx : ∀ c H, ALoop X O σ env vs D c1 H1 (acc0 ++ ps) s' c H → Kept X (cD c0 D) (cD c D) H0 H → (∀ a, H0 a ≠ none → H a ≠ none) → Ex H) :
    ∃ W1 : Nat → Nat → Hp → Prop, (∃ m, W1 0 m H0) ∧ ∀ j k H, W1 j k H → (J.stop j H ∧ Ex H) ∨ (J.go j H ∧ ∃ Nx1 : Hp → Prop, (∀ H', Nx1 H' → ∃ k', k' < k ∧ W1 (j + 1) k' H') ∧ ∀ x H', J.yld j H x H' → TGd X ix g x (L2.wipe σ vs) H' fun σ3 H5 => L2.wipe σ3 vs = L2.wipe σ vs ∧ TDT X WF dt σ3 H5 fun b H6 =>
        if b = true then TD X WF .c de σ3 H6 fun y H7 => ∃ acc, H7 D = some (.lst acc) ∧ acc.length < sizeLine ∧ Nx1 (upd H7 D (.lst (acc ++ [y]))) else Nx1 H6) := by
  have sz : sizeLine = 16777216 := sizeLine_eq
  refine ⟨fun i m H' => m = items.length - i ∧ i ≤ items.length ∧ ∃ c2 st2 acc rest, ALoop X O σ env vs D c1 H1 acc st2 c2 H' ∧ Kept X (cD c0 D) (cD c2 D) H0 H' ∧ (∀ a, H0 a ≠ none → H' a ≠ none) ∧ compL g dt de (items.drop i) (wipeE env vs) st2 = .ok rest s' ∧ acc ++ rest = acc0 ++ ps,
    ⟨items.length, by simp, Nat.zero_le _, c0, st0, acc0, ps, A, .refl, fun _ z => z, hc0, rfl⟩, ?_⟩
  rintro i m H' ⟨rfl, hin, c2, st2, acc, rest, ⟨sb, po, nS, vacc, hDv, racc⟩, kp, dmm, hc, hps⟩
  have gb := Kept.gh hl kp gh
  by_cases hlt : i < items.length
  · refine .inr ⟨w.goes i _ _ _ H' hlt gb, fun H2 => items.length - (i + 1) = items.length - (i + 1) ∧ i + 1 ≤ items.length ∧ ∃ c2 st2 acc rest, ALoop X O σ env vs D c1 H1 acc st2 c2 H2 ∧ Kept X (cD c0 D) (cD c2 D) H0 H2 ∧ (∀ a, H0 a ≠ none → H2 a ≠ none) ∧ compL g dt de (items.drop (i + 1)) (wipeE env vs) st2 = .ok rest s' ∧ acc ++ rest = acc0 ++ ps, fun H2 q => ⟨items.length - (i + 1), by omega, q⟩, fun x H2 hy => ?_⟩
    obtain ⟨p, ep, gro, rp⟩ := w.yields i _ _ _ H' st2 x H2 sb gb hy hlt
    have hdrop : items.drop i = p :: items.drop (i + 1) := by
      rw [List.drop_eq_getElem_cons hlt]
      rw [List.getElem?_eq_getElem hlt] at ep
      rw [Option.some.inj ep]
    rw [hdrop] at hc
    unfold compL at hc
    cases eg : g p (wipeE env vs) with
    | none => rw [eg] at hc; cases hc
    | some env' =>
    rw [eg] at hc
    simp only at hc
    have sb2 := sb.grow gro
    have hD2 : H2 D = some (.lst vacc) := gro D _ hDv
    have poA : Post (cD c2 D) (cD c2 D) H' H2 := .grow gro
    refine ⟨cD c2 D, wipeE env vs, st2, p, sb2, rp, ?_⟩
    rw [eg]
    intro σ' sr' bt
    refine ⟨wipe_ext (by rw [bt.l1, wipe_length]) fun j hj => by rw [bt.s j fun z => hj (hix j z), wipe_get, if_neg hj], ?_⟩
    cases et : dt env' st2 with
    | no => rw [et] at hc; cases hc
    | er x s => rw [et] at hc; cases hc
    | ok b s3 =>
    rw [et] at hc
    refine ⟨cD c2 D, env', st2, sr', ?_⟩
    rw [et]
    intro b' c3 H3 sr3 po3 eb
    cases (show b = b' from eb)
    cases b with
    | false =>
      rw [if_neg Bool.false_ne_true]
      have rw3 := (sr3.rewipe bt hix hlen).1
      have poB := poA.trans po3
      have e3 := cD_un poB
      refine ⟨rfl, hlt, { c3 with M := c2.M }, s3, acc, rest, ⟨by rw [e3]; exact rw3, po.trans poB.unD, fun z => ?_, vacc, poB.fr D _ hDv nS, ?_⟩, ?_, fun a z => poB.dm a (dmm a z), hc, hps⟩
      · exact (poB.S D z).elim nS (by rw [hDv]; simp)
      · have eM : c3.M = fun a => c2.M a ∨ a = D := poB.M
        show RepA (gv X c3) H3 (fun a => c3.S a ∨ (c2.M a ∨ a = D) ∨ O a) acc vacc
        rw [show (fun a => c3.S a ∨ (c2.M a ∨ a = D) ∨ O a) = fun a => c3.S a ∨ c3.M a ∨ O a by rw [eM]]
        exact racc.mono (poB.gle (X := X)) (poB.keeps O)
      · rw [e3]
        exact kp.trans (.post poB) dmm
    | true =>
      rw [if_pos rfl]
      cases ee : de env' s3 with
      | no => simp only [ee] at hc; cases hc
      | er x s => simp only [ee] at hc; cases hc
      | ok v s4 =>
      simp only [ee] at hc
      cases ecr : compL g dt de (items.drop (i + 1)) (wipeE env vs) s4 with
      | no => rw [ecr] at hc; cases hc
      | er x s => rw [ecr] at hc; cases hc
      | ok rest' s5 =>
      rw [ecr] at hc
      cases hc
      refine ⟨c3, env', s3, sr3, ?_⟩
      rw [ee]
      intro y c4 H4 sr4 po4 ry
      have poB := (poA.trans po3).trans po4
      have e4 := cD_un poB
      have hD4 : H4 D = some (.lst vacc) := poB.fr D _ hDv nS
      have nS4 : ¬ c4.S D := fun z => (poB.S D z).elim nS (by rw [hDv]; simp)
      have hM4 : c4.M D := by rw [poB.M]; exact .inr rfl
      have h04 : c4.H0 D = none := by rw [poB.H0]; show c2.H0 D = none; rw [po.H0]; exact h00
      obtain ⟨rw4, ho4⟩ := sr4.rewipe bt hix hlen
      have sb5 := rw4.setM (o := .lst (vacc ++ [y])) hM4 nS4 h04 (by rw [hD4]; simp)
      have lenacc : acc.length = vacc.length := racc.length
      have lenps : acc.length + (rest'.length + 1) = acc0.length + ps.length := by
        have := congrArg List.length hps
        simpa [List.length_append] using this
      have kD : Kp H4 (upd H4 D (.lst (vacc ++ [y]))) (fun a => c4.S a ∨ c4.M a ∨ O a) (fun a => c4.S a ∨ c4.M a ∨ O a) := .of (fun a u e n => by
        have : a ≠ D := fun z => n (by rw [z]; exact .inr (.inl hM4))
        rw [upd_ne this]; exact e) fun _ _ n => n
      refine ⟨vacc, hD4, by omega, rfl, hlt, { c4 with M := c2.M }, s4, acc ++ [v], rest', ⟨by rw [e4]; exact sb5, (po.trans poB.unD).updD hD, nS4, vacc ++ [y], upd_same, ?_⟩, ?_, fun a z => ?_, ecr, by rw [List.append_assoc]; exact hps⟩
      · have eM : c4.M = fun a => c2.M a ∨ a = D := poB.M
        show RepA (gv X c4) _ (fun a => c4.S a ∨ (c2.M a ∨ a = D) ∨ O a) _ _
        rw [show (fun a => c4.S a ∨ (c2.M a ∨ a = D) ∨ O a) = fun a => c4.S a ∨ c4.M a ∨ O a by rw [eM]]
        have r1 : RepA (gv X c4) H4 (fun a => c4.S a ∨ c4.M a ∨ O a) acc vacc := racc.mono (poB.gle (X := X)) (poB.keeps O)
        have r2 : Rep (gv X c4) H4 (fun a => c4.S a ∨ c4.M a ∨ O a) v y := Rep.loosen (fun a z => z.imp id fun z => z.imp id fun z => ho4 a (hO a z)) ry.1
        exact (r1.append (.cons r2 .nil)).mono (.refl _) kD
      · rw [e4]
        exact (kp.trans (.post poB) dmm).trans (.upd (.inr hM4)) fun a z => poB.dm a (dmm a z)
      · have q := poB.dm a (dmm a z)
        by_cases ha : a = D
        · rw [ha, upd_same]; simp
        · rw [upd_ne ha]; exact q
  · have ei : i = items.length := by omega
    subst ei
    rw [List.drop_length] at hc
    unfold compL at hc
    cases hc
    rw [List.append_nil] at hps
    subst hps
    exact .inl ⟨w.stops _ _ _ H' gb, hEx c2 H' ⟨sb, po, nS, vacc, hDv, racc⟩ kp dmm⟩
/-- the values of a comprehension of two generators -/
def compL2 (vs1 : List Nat) (g : PV → Env → Option Env) (dt : Den Bool) (di1 : Den (List PV)) (g1 : PV → Env → Option Env) (dt1 : Den Bool) (de : Den PV) : List PV → Env → Sto → Res (List PV)
  | [], _, st => .ok [] st
  | p :: ps, env, st => match g p env with
    | none => .no
    | some env' => match dt env' st with
      | .ok true s1 => (match di1 env' s1 with
        | .ok items1 s2 => if notOwB env' vs1 = true then (match compL g1 dt1 de items1 (wipeE env' vs1) s2 with
          | .ok xs s3 => (match compL2 vs1 g dt di1 g1 dt1 de ps env s3 with
            | .ok rest s => .ok (xs ++ rest) s
            | _ => .no)
          | _ => .no) else .no
        | _ => .no)
      | .ok false s1 => compL2 vs1 g dt di1 g1 dt1 de ps env s1
      | _ => .no
def xLc2 (vs vs1 : List Nat) (g : PV → Env → Option Env) (dt : Den Bool) (di1 : Den (List PV)) (g1 : PV → Env → Option Env) (dt1 : Den Bool) (de : Den PV) (di : Den (List PV)) : Den PV := fun env st =>
  (di env st).bind fun items s => if notOwB env vs = true then (match compL2 vs1 g dt di1 g1 dt1 de items (wipeE env vs) s with | .ok ps s' => if ps.length ≤ 16777216 then .ok (.lst ps) s' else .no | _ => .no) else .no
theorem lc2_sound {wi : TI} {l1 : Lv} {ix ix1 : List Nat} {g g1 : PV → Env → Option Env} {dt dt1 : Den Bool} {de : Den PV} {di di1 : Den (List PV)} (hl : l ≠ .f) (hl1 : l1 ≠ .f) {W : WX} {vs vs1 : List Nat} (hi : ∀ c σ H env st R, SR X c σ H env st → HypI X W l σ env c H (di env st) R → wi σ H R) (hix : ∀ i ∈ ix, i ∈ vs) (hix1 : ∀ i ∈ ix1, i ∈ vs1)
    (hv1 : ∀ i ∈ vs1, i ∈ vs) {c : Ctl} {σ : L2.St} {H : Hp} {env : Env} {st : Sto} {Q : VK} (sr : SR X c σ H env st) (h : HypG X W σ env (RL X σ env .f) c H (xLc2 vs vs1 g dt di1 g1 dt1 de di env st) Q) : tLc2 wi (TGd X ix g) (TDT X WF dt) (TDI X WF l1 di1) (TGd X ix1 g1) (TDT X WF dt1) (TD X WF .c de) vs vs1 σ H Q := by
  refine hi c σ H env st _ sr (bindGI back_RL h fun items st1 c1 H1 J gs sr1 po1 w gh h1 => ?_)
  split at h1
  case isFalse => exact h1.elim
  rename_i cow
  have sz : sizeLine = 16777216 := sizeLine_eq
  cases ec : compL2 vs1 g dt di1 g1 dt1 de items (wipeE env vs) st1 with
  | no => rw [ec] at h1; exact h1.elim
  | er x s => rw [ec] at h1; exact h1.elim
  | ok ps s' =>
  rw [ec] at h1
  have h1 : HypG X W σ env (RL X σ env .f) c1 H1 (if ps.length ≤ 16777216 then .ok (.lst ps) s' else .no) Q := h1
  split at h1
  case isFalse => exact h1.elim
  rename_i hpz
  intro D hD
  have hD0 : c1.H0 D = none := Classical.byContradiction fun z => sr1.d0 D z hD
  have hDS : ¬ c1.S D := fun z => sr1.dm D (.inl z) hD
  have ghD : GhOk X l (cD c1 D) (L2.wipe σ vs) (wipeE env vs) (upd H1 D (.lst [])) gs := fun p hp => by
    have hdD : ∀ a, H1 a ≠ none → a ≠ D := fun a q z => q (by rw [z]; exact hD)
    refine RepLv.mono hl (.refl _) (.of (fun a o e _ => grow_upd hD a o e) fun a hd n z => ?_) (.of (fun a o e _ => grow_upd hD a o e) fun a hd n z => ?_) (fun a o n e => grow_upd hD a o e) (gh p hp)
    · rcases z with z | z | z
      · exact n (.inl z)
      · exact n (.inr z)
      · exact hdD a hd z
    · rcases z with z | (z | z) | z
      · exact n (.inl z)
      · exact n (.inr (.inl z))
      · exact hdD a hd z
      · exact n (.inr (.inr ((own_wipe cow a).mp z)))
  refine ⟨fun i m H' => m = items.length - i ∧ i ≤ items.length ∧ ∃ c2 st2 acc rest, ALoop X (OwnS (L2.wipe σ vs) (wipeE env vs)) σ env vs D c1 H1 acc st2 c2 H' ∧ Kept X (cD c1 D) (cD c2 D) (upd H1 D (.lst [])) H' ∧ (∀ a, upd H1 D (.lst []) a ≠ none → H' a ≠ none) ∧ compL2 vs1 g dt di1 g1 dt1 de (items.drop i) (wipeE env vs) st2 = .ok rest s' ∧ acc ++ rest = ps,
    ⟨items.length, by simp, Nat.zero_le _, c1, st1, [], ps, ⟨?_, .updD (.refl _ _) hD, hDS, [], upd_same, .nil⟩, .refl, fun _ z => z, ec, rfl⟩, ?_⟩
  · exact (sr1.newM (o := .lst []) hD).wipe (vs := vs) cow
  rintro i m H' ⟨rfl, hin, c2, st2, acc, rest, ⟨sb, po, nS, vacc, hDv, racc⟩, kp, dmm, hc, hps⟩
  have hM2 : c2.M = c1.M := po.M
  have hN : ∀ a, c2.N σ env a → (cD c2 D).N (L2.wipe σ vs) (wipeE env vs) a := fun a z => by
    rcases z with z | z | z
    · exact .inl z
    · exact .inr (.inl (.inl z))
    · exact .inr (.inr ((own_wipe cow a).mpr z))
  have so : SR X c2 σ H' env st2 := sr1.post po ⟨sb.sto.len, sb.sto.nd, sb.sto.own, fun n xs e => by
    obtain ⟨a, vs', h1, h2, h3, h4⟩ := sb.sto.lst n xs e
    exact ⟨a, vs', h1, h2, h3, RepA.loosen hN h4⟩⟩ (fun a z => sb.dm a (.inl z)) sb.fs
  have gb := Kept.gh hl kp ghD
  by_cases hlt : i < items.length
  · refine .inr ⟨w.goes i _ _ _ H' hlt gb, fun H2 => items.length - (i + 1) = items.length - (i + 1) ∧ i + 1 ≤ items.length ∧ ∃ c2 st2 acc rest, ALoop X (OwnS (L2.wipe σ vs) (wipeE env vs)) σ env vs D c1 H1 acc st2 c2 H2 ∧ Kept X (cD c1 D) (cD c2 D) (upd H1 D (.lst [])) H2 ∧ (∀ a, upd H1 D (.lst []) a ≠ none → H2 a ≠ none) ∧ compL2 vs1 g dt di1 g1 dt1 de (items.drop (i + 1)) (wipeE env vs) st2 = .ok rest s' ∧ acc ++ rest = ps, fun H2 q => ⟨items.length - (i + 1), by omega, q⟩, fun x H2 hy => ?_⟩
    obtain ⟨p, ep, gro, rp⟩ := w.yields i _ _ _ H' st2 x H2 sb gb hy hlt
    have hdrop : items.drop i = p :: items.drop (i + 1) := by
      rw [List.drop_eq_getElem_cons hlt]
      rw [List.getElem?_eq_getElem hlt] at ep
      rw [Option.some.inj ep]
    rw [hdrop] at hc
    unfold compL2 at hc
    cases eg : g p (wipeE env vs) with
    | none => rw [eg] at hc; cases hc
    | some env' =>
    rw [eg] at hc
    simp only at hc
    have sb2 := sb.grow gro
    have hD2 : H2 D = some (.lst vacc) := gro D _ hDv
    have poA : Post (cD c2 D) (cD c2 D) H' H2 := .grow gro
    refine ⟨cD c2 D, wipeE env vs, st2, p, sb2, rp, ?_⟩
    rw [eg]
    intro σ' sr' bt
    refine ⟨wipe_ext (by rw [bt.l1, wipe_length]) fun j hj => by rw [bt.s j fun z => hj (hix j z), wipe_get, if_neg hj], ?_⟩
    cases et : dt env' st2 with
    | no => rw [et] at hc; cases hc
    | er x s => rw [et] at hc; cases hc
    | ok b s3 =>
    rw [et] at hc
    refine ⟨cD c2 D, env', st2, sr', ?_⟩
    rw [et]
    intro b' c3 H3 sr3 po3 eb
    cases (show b = b' from eb)
    cases b with
    | false =>
      rw [if_neg Bool.false_ne_true]
      have rw3 := (sr3.rewipe bt hix so.len).1
      have poB := poA.trans po3
      have e3 := cD_un poB
      refine ⟨rfl, hlt, { c3 with M := c2.M }, s3, acc, rest, ⟨by rw [e3]; exact rw3, po.trans poB.unD, fun z => ?_, vacc, poB.fr D _ hDv nS, ?_⟩, ?_, fun a z => poB.dm a (dmm a z), hc, hps⟩
      · exact (poB.S D z).elim nS (by rw [hDv]; simp)
      · have eM : c3.M = fun a => c2.M a ∨ a = D := poB.M
        show RepA (gv X c3) H3 (fun a => c3.S a ∨ (c2.M a ∨ a = D) ∨ OwnS (L2.wipe σ vs) (wipeE env vs) a) acc vacc
        rw [show (fun a => c3.S a ∨ (c2.M a ∨ a = D) ∨ OwnS (L2.wipe σ vs) (wipeE env vs) a) = fun a => c3.S a ∨ c3.M a ∨ OwnS (L2.wipe σ vs) (wipeE env vs) a by rw [eM]]
        exact racc.mono (poB.gle (X := X)) (poB.keeps (OwnS (L2.wipe σ vs) (wipeE env vs)))
      · rw [e3]
        exact kp.trans (.post poB) dmm
    | true =>
      rw [if_pos rfl]
      cases ei1 : di1 env' s3 with
      | no => simp only [ei1] at hc; cases hc
      | er x s => simp only [ei1] at hc; cases hc
      | ok items1 s4 =>
      simp only [ei1] at hc
      split at hc
      case isFalse => cases hc
      rename_i cow1
      cases ee : compL g1 dt1 de items1 (wipeE env' vs1) s4 with
      | no => simp only [ee] at hc; cases hc
      | er x s => simp only [ee] at hc; cases hc
      | ok xs s5 =>
      simp only [ee] at hc
      cases ecr : compL2 vs1 g dt di1 g1 dt1 de (items.drop (i + 1)) (wipeE env vs) s5 with
      | no => rw [ecr] at hc; cases hc
      | er x s => rw [ecr] at hc; cases hc
      | ok rest' s6 =>
      rw [ecr] at hc
      cases hc
      refine ⟨c3, env', s3, sr3, ?_⟩
      rw [ei1]
      intro c4 H4 J1 gs1 sr4 po4 w1 gh1
      have poB := (poA.trans po3).trans po4
      have e4 := cD_un poB
      have hD4 : H4 D = some (.lst vacc) := poB.fr D _ hDv nS
      have nS4 : ¬ c4.S D := fun z => (poB.S D z).elim nS (by rw [hDv]; simp)
      have hM4 : c4.M D := by rw [poB.M]; exact .inr rfl
      have lenacc : acc.length = vacc.length := racc.length
      have lenps : acc.length + (xs.length + rest'.length) = ps.length := by
        have := congrArg List.length hps
        simpa [List.length_append] using this
      have hl' : env'.length = σ'.length := by
        have := sr'.len
        exact this
      have ho := (sr'.rewipe bt hix so.len).2
      have eM : c4.M = fun a => c2.M a ∨ a = D := poB.M
      have raccO : RepA (gv X c4) H4 (fun a => c4.S a ∨ (c2.M a ∨ a = D) ∨ OwnS (L2.wipe σ vs) (wipeE env vs) a) acc vacc := by
        rw [show (fun a => c4.S a ∨ (c2.M a ∨ a = D) ∨ OwnS (L2.wipe σ vs) (wipeE env vs) a) = c4.N (L2.wipe σ vs) (wipeE env vs) by unfold Ctl.N; rw [eM]]
        exact racc.mono (poB.gle (X := X)) (poB.keeps (OwnS (L2.wipe σ vs) (wipeE env vs)))
      have A : ALoop X (OwnS (L2.wipe σ vs) (wipeE env vs)) σ' env' vs1 D c1 H1 acc s4 { c4 with M := c2.M } H4 := ⟨by rw [e4]; exact sr4.wipe cow1, po.trans poB.unD, nS4, vacc, hD4, raccO⟩
      have ghI : GhOk X l1 (cD { c4 with M := c2.M } D) (L2.wipe σ' vs1) (wipeE env' vs1) H4 gs1 := by
        rw [e4]
        intro p hp
        exact RepLv.mono hl1 (.refl _) (.same _ fun _ z => z) (.same _ fun a z => z.imp id fun z => z.imp id fun z => (own_wipe cow1 a).mp z) (fun _ _ _ e => e) (gh1 p hp)
      refine app_loop (O := OwnS (L2.wipe σ vs) (wipeE env vs)) hl1 hix1 hl' (fun a z => (own_wipe cow1 a).mpr (ho a z)) w1 hD hD0 A ghI ee (by omega) fun c5 H5 A5 kp5 dm5 => ?_
      obtain ⟨sb5, po5, nS5, vacc5, hDv5, racc5⟩ := A5
      have same : ∀ j (x : Slot), x ≠ .no → (wipeE env vs)[j]? = some x → (wipeE env' vs1)[j]? = some x ∧ (L2.wipe σ' vs1)[j]? = (L2.wipe σ vs)[j]? := fun j x hx e => by
        have hj := (wipeE_some hx e).2
        have hj1 : j ∉ vs1 := fun z => hj (hv1 j z)
        have hjx : j ∉ ix := fun z => hj (hix j z)
        exact ⟨by rw [wipeE_out hj1, bt.e j hjx]; exact e, by rw [wipe_get, if_neg hj1]; exact bt.s j hjx⟩
      refine ⟨rfl, hlt, c5, s5, acc ++ xs, rest', ⟨?_, po5, nS5, vacc5, hDv5, racc5⟩, ?_, fun a z => dm5 a (poB.dm a (dmm a z)), ecr, by rw [List.append_assoc]; exact hps⟩
      · refine sb5.weakN (by rw [wipeE_length, wipe_length]; exact so.len) (fun a z => (own_wipe cow1 a).mpr (ho a z)) (fun j pv e => ?_) (fun j pv e => ?_)
        · obtain ⟨q1, q2⟩ := same j _ (by simp) e
          obtain ⟨v, h1, h2⟩ := sb5.pl j pv q1
          exact ⟨v, by rw [← q2]; exact h1, h2⟩
        · obtain ⟨q1, q2⟩ := same j _ (by simp) e
          exact ⟨q1, q2.symm⟩
      · have kp4 : Kept X (cD c2 D) (cD { c4 with M := c2.M } D) H' H4 := by rw [e4]; exact .post poB
        exact (kp.trans kp4 dmm).trans kp5 fun a z => poB.dm a (dmm a z)
  · have ei : i = items.length := by omega
    subst ei
    rw [List.drop_length] at hc
    unfold compL2 at hc
    cases hc
    rw [List.append_nil] at hps
    subst hps
    refine .inl ⟨w.stops _ _ _ H' gb, ?_⟩
    have hND : ∀ a, (cD c2 D).N σ env a → (cD c2 D).N (L2.wipe σ vs) (wipeE env vs) a := fun a z => by
      rcases z with z | z | z
      · exact .inl z
      · exact .inr (.inl z)
      · exact .inr (.inr ((own_wipe cow a).mpr z))
    have nM : ¬ c2.NM D := fun z => by
      rcases z with z | z
      · exact nS z
      · rw [hM2] at z; exact sr1.dm D (.inr z) hD
    have hNr : ∀ a, c2.N σ env a → (c2.S a ∨ (c2.M a ∨ a = D) ∨ OwnS (L2.wipe σ vs) (wipeE env vs) a) := hN
    have hNDr : ∀ a, (cD c2 D).N σ env a → (c2.S a ∨ (c2.M a ∨ a = D) ∨ OwnS (L2.wipe σ vs) (wipeE env vs) a) := hND
    refine h1 (.ref D) c2 H' so po ⟨⟨D, rfl, hD, nM, vacc, hDv, by omega, RepA.loosen hNr racc⟩, fun _ => ⟨D, rfl, hD, nS, ⟨vacc, hDv, by omega, RepA.loosen hNDr racc⟩, ?_⟩⟩
    exact sr1.postD po hD (by rw [hDv]; simp) ⟨sb.sto.len, sb.sto.nd, sb.sto.own, fun n xs e => by
      obtain ⟨a, vs', h1, h2, h3, h4⟩ := sb.sto.lst n xs e
      exact ⟨a, vs', h1, h2, h3, RepA.loosen hND h4⟩⟩ (fun a z => sb.dm a (.inl z)) sb.fs
theorem d_lc2 {W : WX} {l1 : Lv} {tg iter elt tg1 iter1 : Expr} {ifs ifs1 : List Expr} {scope : Scope} {own : List (Str × Nat)} {pos : Pos} {ix ix1 : List Nat} {g g1 : PV → Env → Option Env} {dt dt1 : Den Bool} {de : Den PV} {di di1 : Den (List PV)} (vs vs1 : List Nat) (hc : X.calm = true) (hN : X.N.Nodup) (hi : DI X W tg iter l di) (ok : BlkOk X.N X.env.scope scope own)
    (hg : ∀ (s : Shared) (H : Hp) (C : Addr) (cl : List (Str × Addr)) (fp : List Addr), DG (X.blk s H scope (compEnvC scope cl C X.env) fp) tg ix g) (ht : ∀ (s : Shared) (H : Hp) (C : Addr) (cl : List (Str × Addr)) (fp : List Addr), DTs (X.blk s H scope (compEnvC scope cl C X.env) fp) WF ifs dt)
    (hi1 : ∀ (s : Shared) (H : Hp) (C : Addr) (cl : List (Str × Addr)) (fp : List Addr), DI (X.blk s H scope (compEnvC scope cl C X.env) fp) WF tg1 iter1 l1 di1)
    (hg1 : ∀ (s : Shared) (H : Hp) (C : Addr) (cl : List (Str × Addr)) (fp : List Addr), DG (X.blk s H scope (compEnvC scope cl C X.env) fp) tg1 ix1 g1) (ht1 : ∀ (s : Shared) (H : Hp) (C : Addr) (cl : List (Str × Addr)) (fp : List Addr), DTs (X.blk s H scope (compEnvC scope cl C X.env) fp) WF ifs1 dt1)
    (he : ∀ (s : Shared) (H : Hp) (C : Addr) (cl : List (Str × Addr)) (fp : List Addr), DE (X.blk s H scope (compEnvC scope cl C X.env) fp) WF elt .c de) (hv : own.map (·.2) = vs := by rfl) (hix : ∀ i ∈ ix, i ∈ vs := by decide) (hix1 : ∀ i ∈ ix1, i ∈ vs1 := by decide) (hv1 : ∀ i ∈ vs1, i ∈ vs := by decide) (hl : l ≠ .f := by decide) (hl1 : l1 ≠ .f := by decide)
    (hs : ∀ x, foldedSetIterable iter X.env x = pure x := by intro _; rfl) (hs1 : ∀ env x, foldedSetIterable iter1 env x = pure x := by intro _ _; rfl) :
    DE X W (.ListComp elt [⟨tg, iter, ifs, 0⟩, ⟨tg1, iter1, ifs1, 0⟩] scope pos) .f (xLc2 vs vs1 g dt di1 g1 dt1 de di) := by
  obtain ⟨wi, pi, hi⟩ := hi
  subst hv
  exact ⟨_, pe_lc2 (g := TGd X ix g) (tt := TDT X WF dt) (wi1 := TDI X WF l1 di1) (g1 := TGd X ix1 g1) (tt1 := TDT X WF dt1) (te := TD X WF .c de) (vs1 := vs1) hc hN pi ok hv1 (fun s H C cl fp => (hg s H C cl fp).canon) (fun s H C cl fp => ht s H C cl fp) (fun s H C cl fp => (hi1 s H C cl fp).canon) (fun s H C cl fp => (hg1 s H C cl fp).canon) (fun s H C cl fp => ht1 s H C cl fp) (fun s H C cl fp => (he s H C cl fp).canon) hs hs1, fun c σ H env st Q sr h => lc2_sound hl hl1 hi hix hix1 hv1 sr h⟩
end
end Vl

set_option Elab.async false
set_option linter.all false
set_option maxRecDepth 100000
set_option maxHeartbeats 1000000
namespace Vl
open PySem PySem.Spec PyProof.Rows L2
section
variable {X : Cx} {W : WX} {rl : Lv} {a b e f : Expr} {da db dc : Den PV} {l l1 l2 l3 lvl : Lv} {pos : Pos}
/-! ### a op b op c -/
def xChain (f g : PV → PV → Option PV) (da db dc : Den PV) : Den PV := fun env st => (da env st).bind fun p s => (db env s).bind fun q s' => match f p q with
  | some (.bl true) => (dc env s').bind fun r s'' => opt (g q r) s''
  | some (.bl false) => .ok (.bl false) s'
  | _ => .no
theorem chain_core {α β : Type} {R : Hp → Ctl → Hp → Sto → α → β → Prop} {r r' : R2} {f g : PV → PV → Option PV} {c : Ctl} {σ : L2.St} {env : Env} {H : Hp} {st : Sto} {Q : β → Hp → Prop} {Q' : VK} {tb tc : TE} {fin : PV → Sto → Res α} (back : Back R) (sr : SR X c σ H env st) (hl1 : l1 ≠ .f) (hl2 : l2 ≠ .f)
    (ok1 : OpOk X r l1 l2 .c f) (ok2 : OpOk X r' l2 l3 .c g)
    (hb : ∀ c σ H env st Q, SR X c σ H env st → HypG X W σ env (RL X σ env l2) c H (db env st) Q → tb σ H Q) (hc : ∀ c σ H env st Q, SR X c σ H env st → HypG X W σ env (RL X σ env l3) c H (dc env st) Q → tc σ H Q)
    (h : HypG X W σ env R c H ((xChain f g da db dc env st).bind fin) Q)
    (hf : ∀ p st1 v c1 H1, SR X c1 σ H1 env st1 → RL X σ env .c H1 c1 H1 st1 p v → HypG X W σ env R c1 H1 (fin p st1) Q → Q' v H1) :
    HypG X W σ env (RL X σ env l1) c H (da env st) fun x H1 => tb σ H1 fun y H2 => r x y H2 fun z H3 => ∃ k, z = .bl k ∧ (if k = true then tc σ H3 fun w' H4 => r' y w' H4 Q' else Q' (.bl false) H3) := by
  have h : HypG X W σ env R c H (((da env st).bind fun p s => (db env s).bind fun q s' => match f p q with
    | some (.bl true) => (dc env s').bind fun r s'' => opt (g q r) s''
    | some (.bl false) => .ok (.bl false) s'
    | _ => .no).bind fin) Q := h
  have assoc : ∀ {A B C : Type} (m : Res A) (k : A → Sto → Res B) (k2 : B → Sto → Res C), (m.bind k).bind k2 = m.bind fun a s => (k a s).bind k2 := fun m k k2 => by cases m <;> rfl
  rw [assoc] at h
  refine bindG back h fun p st1 x c1 H1 sr1 po r1 h1 => ?_
  rw [assoc] at h1
  refine hb c1 σ H1 env st1 _ sr1 (bindG back h1 fun q st2 y c2 H2 sr2 po2 r2 h2 => ?_)
  have r1' := po2.lv (H0' := H2) hl1 r1.1
  cases ef : f p q with
  | none => rw [ef] at h2; exact h2.elim
  | some res =>
  rw [ef] at h2
  cases res with
  | bl k =>
    refine ok1 c2 σ H2 H1 env st2 _ p q (.bl k) x y sr2 r1' r2.1 ef fun v H3 gro rv => ?_
    have e1 := rv_bl rv.1
    subst e1
    refine ⟨k, rfl, ?_⟩
    have sr3 := sr2.grow gro
    have po3 : Post c2 c2 H2 H3 := .grow gro
    cases k with
    | false =>
      rw [if_neg Bool.false_ne_true]
      have h2 : HypG X W σ env R c2 H2 (fin (.bl false) st2) Q := h2
      refine hf _ st2 _ c2 H3 sr3 (rlc (.bl false)) ?_
      cases e2 : fin (.bl false) st2 with
      | no => rw [e2] at h2; exact h2
      | er x s => rw [e2] at h2; exact fun cls dd c' H' s' p' ex => h2 cls dd c' H' s' (po3.trans p') ex
      | ok a s => rw [e2] at h2; exact fun v c' H' s' p' r' => h2 v c' H' s' (po3.trans p') (back _ _ _ _ _ _ _ po3.dm r')
    | true =>
      rw [if_pos rfl]
      have h2 : HypG X W σ env R c2 H2 (((dc env st2).bind fun r s'' => opt (g q r) s'').bind fin) Q := h2
      rw [assoc] at h2
      have h3 : HypG X W σ env R c2 H3 ((dc env st2).bind fun r s'' => (opt (g q r) s'').bind fin) Q := by
        cases e2 : ((dc env st2).bind fun r s'' => (opt (g q r) s'').bind fin) with
        | no => rw [e2] at h2; exact h2
        | er x s => rw [e2] at h2; exact fun cls dd c' H' s' p' ex => h2 cls dd c' H' s' (po3.trans p') ex
        | ok a s => rw [e2] at h2; exact fun v c' H' s' p' r' => h2 v c' H' s' (po3.trans p') (back _ _ _ _ _ _ _ po3.dm r')
      refine hc c2 σ H3 env st2 _ sr3 (bindG back h3 fun r0 st4 w c4 H4 sr4 po4 r4 h4 => ?_)
      have r2' : RV X c4 σ env H4 H4 q y l2 := po4.lv hl2 (po3.lv (H0' := H3) hl2 r2.1)
      cases eg : g q r0 with
      | none => rw [eg] at h4; exact h4.elim
      | some res2 =>
        rw [eg] at h4
        have h4 : HypG X W σ env R c4 H4 (fin res2 st4) Q := h4
        refine ok2 c4 σ H4 H3 env st4 _ q r0 res2 y w sr4 r2' r4.1 eg fun v H5 gro5 rv5 => ?_
        have po5 : Post c4 c4 H4 H5 := .grow gro5
        refine hf _ st4 _ c4 H5 (sr4.grow gro5) (rlc rv5.1) ?_
        cases e2 : fin res2 st4 with
        | no => rw [e2] at h4; exact h4
        | er x s => rw [e2] at h4; exact fun cls dd c' H' s' p' ex => h4 cls dd c' H' s' (po5.trans p') ex
        | ok a s => rw [e2] at h4; exact fun v c' H' s' p' r' => h4 v c' H' s' (po5.trans p') (back _ _ _ _ _ _ _ po5.dm r')
  | _ => exact h2.elim
theorem d_chain {op op' : CmpOp} {r r' : R2} {g1 g2 : PV → PV → Option PV} (ho : OpR X (compareOp op) r) (ho' : OpR X (compareOp op') r') (ok1 : OpOk X r l1 l2 .c g1) (ok2 : OpOk X r' l2 l3 .c g2) (ha : DE X W a l1 da) (hb : DE X W b l2 db) (hc : DE X W f l3 dc)
    (hl1 : l1 ≠ .f := by decide) (hl2 : l2 ≠ .f := by decide) (hm : lastMarks [op, op'] [b, f] = false := by with_unfolding_all rfl) : DE X W (.Compare a [op, op'] [b, f] pos) .c (xChain g1 g2 da db dc) := by
  obtain ⟨ta, pa, ha⟩ := ha
  obtain ⟨tb, pb, hb⟩ := hb
  obtain ⟨tc, pc, hc⟩ := hc
  refine ⟨_, pe_chain ho ho' pa pb pc hm, fun c σ H env st Q sr h => ha c σ H env st _ sr ?_⟩
  refine chain_core (fin := fun p s => .ok p s) back_RL sr hl1 hl2 ok1 ok2 hb hc ?_ fun p st1 v c1 H1 sr1 r1 h1 => h1 v c1 H1 sr1 (.refl _ _) r1
  cases e : xChain g1 g2 da db dc env st <;> rw [e] at h <;> exact h
theorem dt_chain {op op' : CmpOp} {r r' : R2} {g1 g2 : PV → PV → Option PV} (ho : OpR X (compareOp op) r) (ho' : OpR X (compareOp op') r') (ok1 : OpOk X r l1 l2 .c g1) (ok2 : OpOk X r' l2 l3 .c g2) (ha : DE X W a l1 da) (hb : DE X W b l2 db) (hc : DE X W f l3 dc)
    (hl1 : l1 ≠ .f := by decide) (hl2 : l2 ≠ .f := by decide) (hm : lastMarks [op, op'] [b, f] = false := by with_unfolding_all rfl) : DT X W (.Compare a [op, op'] [b, f] pos) (xTB (xChain g1 g2 da db dc)) := by
  obtain ⟨ta, pa, ha⟩ := ha
  obtain ⟨tb, pb, hb⟩ := hb
  obtain ⟨tc, pc, hc⟩ := hc
  refine ⟨_, pt_chain ho ho' pa pb pc hm, fun c σ H env st Q sr h => ha c σ H env st _ sr ?_⟩
  exact chain_core (fin := tbR) back_RB sr hl1 hl2 ok1 ok2 hb hc h fun p st1 v c1 H1 sr1 r1 h1 => tb_fin sr1 r1.1 h1
/-! ### tests -/
theorem dt_isN {j pos'} (ha : DE X W a l1 da) : DT X W (.Compare a [.Is] [.Constant .none j pos'] pos) (xTB (xUn (isNonPV false) da)) := by
  obtain ⟨t, p, ha⟩ := ha
  refine ⟨_, pt_cmp (pc_isN p), fun c σ H env st Q sr h => ha c σ H env st _ sr ?_⟩
  have h' := bindG (R1 := RL X σ env .c) (Q1 := fun x H' => ∃ k, x = .bl k ∧ Q k H') back_RB h fun p st1 x c1 H1 sr1 po1 r1 h1 => tb_fin sr1 r1.1 h1
  refine un_core sr h' fun c1 H1 st1 p v res sr1 r e g => ?_
  obtain ⟨N, k⟩ := rv_rep r
  rw [rep_non k]
  cases p <;> cases e <;> exact give_c g (.bl _)
theorem dt_notN {j pos'} (ha : DE X W a l1 da) : DT X W (.Compare a [.IsNot] [.Constant .none j pos'] pos) (xTB (xUn (isNonPV true) da)) := by
  obtain ⟨t, p, ha⟩ := ha
  refine ⟨_, pt_cmp (pc_notN p), fun c σ H env st Q sr h => ha c σ H env st _ sr ?_⟩
  have h' := bindG (R1 := RL X σ env .c) (Q1 := fun x H' => ∃ k, x = .bl k ∧ Q k H') back_RB h fun p st1 x c1 H1 sr1 po1 r1 h1 => tb_fin sr1 r1.1 h1
  refine un_core sr h' fun c1 H1 st1 p v res sr1 r e g => ?_
  obtain ⟨N, k⟩ := rv_rep r
  rw [rep_non k]
  cases p <;> cases e <;> exact give_c g (.bl _)
/-! ### range down -/
theorem di_down {tg : Expr} {p p3 p4 pos : Pos} {j3 : Nat} (hg : Gl X "range") (hm : X.mg "range" = none) (ha : DE X W a .c da) (hb : DE X W b .c db)
    (hs : starEach [a, b, .UnaryOp .USub (.Constant (.int 1) j3 p3) p4] X.env = (false, eval a X.env) :: starEach [b, .UnaryOp .USub (.Constant (.int 1) j3 p3) p4] X.env := by rfl)
    (hs2 : starEach [b, .UnaryOp .USub (.Constant (.int 1) j3 p3) p4] X.env = (false, eval b X.env) :: starEach [.UnaryOp .USub (.Constant (.int 1) j3 p3) p4] X.env := by rfl)
    (hs3 : starEach [.UnaryOp .USub (.Constant (.int 1) j3 p3) p4] X.env = (false, eval (.UnaryOp .USub (.Constant (.int 1) j3 p3) p4) X.env) :: starEach [] X.env := by rfl)
    (hpl : (backTo pos (starEach [b, .UnaryOp .USub (.Constant (.int 1) j3 p3) p4] X.env)).any (·.1) = false := by rfl) :
    DI X W tg (.Call (.Name "range" p) [a, b, .UnaryOp .USub (.Constant (.int 1) j3 p3) p4] [] pos) .c (xDown da db) := by
  obtain ⟨ta, pa, ha⟩ := ha
  obtain ⟨tb, pb, hb⟩ := hb
  have pm : PE X (.UnaryOp .USub (.Constant (.int 1) j3 p3) p4) _ := pe_un un_neg pe_int
  refine ⟨_, pi_range3 hg hm (pa_cons pa (pa_cons pb (pa_cons pm pa_nil hs3) hs2) hs) hs hpl, fun c σ H env st R sr h => ha c σ H env st _ sr (bindI h fun p st1 v c1 H1 sr1 po r h1 => hb c1 σ H1 env st1 _ sr1 (bindI h1 fun q st2 w c2 H2 sr2 po2 r2 h2 => ?_))⟩
  split at h2
  · rename_i i j
    split at h2
    · rename_i hij
      rw [← p62] at hij
      refine ⟨1, rfl, i, j, -1, (i - j).toNat, ?_, RgC.neg hij.1 hij.2.1 hij.2.2.1 hij.2.2.2, ?_⟩
      · rw [rv_int r.1, rv_int r2.1]
      · exact h2 c2 H2 _ [] sr2 (.refl _ _) walk_downOk fun z hz => absurd hz (by simp)
    · exact h2.elim
  · exact h2.elim
/-! ### a, b = x, y -/
theorem ds_par2 (i j : Nat) (ki kj : Bool) {x y : Str} {ds : Den (List PV)} {px py pt : Pos} {kt k2 pt2} (hc : X.calm = true) (hN : X.N.Nodup) (ha : DAo X W [a, b] [ki, kj] ds) (hi : X.N[i]? = some x := by rfl) (hj : X.N[j]? = some y := by rfl) (hij : i ≠ j := by decide)
    (hx : X.env.scope.names.lookup x = some .local := by rfl) (hy : X.env.scope.names.lookup y = some .local := by rfl)
    (hw : swappedStores [.Tuple [.Name x px, .Name y py] kt pt] (.Tuple [a, b] k2 pt2) X.env = pure (some [x, y]) := by rfl)
    (hs : swapsWithSole [.Tuple [.Name x px, .Name y py] kt pt] (.Tuple [a, b] k2 pt2) pos.line X.env = pure false := by rfl) :
    DS X W rl (.Assign [.Tuple [.Name x px, .Name y py] kt pt] (.Tuple [a, b] k2 pt2) pos) (xPar [(i, ki), (j, kj)] ds) := by
  obtain ⟨t, p, ha⟩ := ha
  refine ⟨_, ps_par hc hN hi hj hij hx hy p hw hs, fun c σ H env st D sr h => par_core (l := [(i, ki), (j, kj)]) ha sr h fun vs H' hl k => ?_⟩
  match vs, hl with
  | [v, w], _ => exact ⟨v, w, rfl, k H' fun _ _ q => q⟩
theorem ds_par3 (i j k : Nat) (ki kj kk : Bool) {x y z : Str} {ds : Den (List PV)} {px py pz pt : Pos} {kt k2 pt2} (hc : X.calm = true) (hN : X.N.Nodup) (ha : DAo X W [a, b, e] [ki, kj, kk] ds) (hi : X.N[i]? = some x := by rfl) (hj : X.N[j]? = some y := by rfl) (hk : X.N[k]? = some z := by rfl) (hij : i ≠ j := by decide) (hik : i ≠ k := by decide) (hjk : j ≠ k := by decide)
    (hx : X.env.scope.names.lookup x = some .local := by rfl) (hy : X.env.scope.names.lookup y = some .local := by rfl) (hz : X.env.scope.names.lookup z = some .local := by rfl)
    (hw : swappedStores [.Tuple [.Name x px, .Name y py, .Name z pz] kt pt] (.Tuple [a, b, e] k2 pt2) X.env = pure (some [x, y, z]) := by rfl)
    (hs : swapsWithSole [.Tuple [.Name x px, .Name y py, .Name z pz] kt pt] (.Tuple [a, b, e] k2 pt2) pos.line X.env = pure false := by rfl) :
    DS X W rl (.Assign [.Tuple [.Name x px, .Name y py, .Name z pz] kt pt] (.Tuple [a, b, e] k2 pt2) pos) (xPar [(i, ki), (j, kj), (k, kk)] ds) := by
  obtain ⟨t, p, ha⟩ := ha
  refine ⟨_, ps_par3 hc hN hi hj hk hij hik hjk hx hy hz p hw hs, fun c σ H env st D sr h => par_core (l := [(i, ki), (j, kj), (k, kk)]) ha sr h fun vs H' hl q => ?_⟩
  match vs, hl with
  | [u, v, w], _ => exact ⟨u, v, w, rfl, q H' fun _ _ q => q⟩
/-! ### y = [..] where the block's end is the store -/
section
variable {tg iter elt : Expr} {ifs : List Expr} {scope : Scope} {own : List (Str × Nat)} {spos : Pos} {ix : List Nat} {g : PV → Env → Option Env} {dt : Den Bool} {de : Den PV} {di : Den (List PV)}
theorem ds_setLc (i : Nat) (vs : List Nat) {y : Str} {py : Pos} (hc : X.calm = true) (hN : X.N.Nodup) (hi : DI X W tg iter l di) (ok : BlkOk X.N X.env.scope scope own)
    (hg : ∀ (s : Shared) (H : Hp) (C : Addr) (cl : List (Str × Addr)) (fp : List Addr), DG (X.blk s H scope (compEnvC scope cl C X.env) fp) tg ix g) (ht : ∀ (s : Shared) (H : Hp) (C : Addr) (cl : List (Str × Addr)) (fp : List Addr), DTs (X.blk s H scope (compEnvC scope cl C X.env) fp) WF ifs dt)
    (he : ∀ (s : Shared) (H : Hp) (C : Addr) (cl : List (Str × Addr)) (fp : List Addr), DE (X.blk s H scope (compEnvC scope cl C X.env) fp) WF elt .c de) (hy : X.N[i]? = some y := by rfl) (hyl : X.env.scope.names.lookup y = some .local := by rfl)
    (hsw : swapsWith (.ListComp elt [⟨tg, iter, ifs, 0⟩] scope pos) (some (.Name y py)) spos.line X.env = pure true := by rfl) (hv : own.map (·.2) = vs := by rfl) (hix : ∀ i ∈ ix, i ∈ vs := by decide) (hl : l ≠ .f := by decide) (hs : ∀ x, foldedSetIterable iter X.env x = pure x := by intro _; rfl) :
    DS X W rl (.Assign [.Name y py] (.ListComp elt [⟨tg, iter, ifs, 0⟩] scope pos) spos) (xAsg (xLc vs g dt de di) (gSlot i)) := by
  obtain ⟨wi, pi, hi⟩ := hi
  subst hv
  refine ⟨_, ps_setLc (i := i) (g := TGd X ix g) (tt := TDT X WF dt) (te := TD X WF .c de) hc hN hy hyl hsw pi ok (fun s H C cl fp => (hg s H C cl fp).canon) (fun s H C cl fp => ht s H C cl fp) (fun s H C cl fp => (he s H C cl fp).canon) hs, fun c σ H env st D sr h => lc_sound hl hi hix sr (bindS h fun p st1 v c1 H1 sr1 po r h1 => h1 c1 _ H1 (sr1.setPl i (RepLv.clean sr r.1)) (.refl _))⟩
theorem ds_ownLc (i : Nat) (vs : List Nat) {y : Str} {py : Pos} (hc : X.calm = true) (hN : X.N.Nodup) (hi : DI X W tg iter l di) (ok : BlkOk X.N X.env.scope scope own)
    (hg : ∀ (s : Shared) (H : Hp) (C : Addr) (cl : List (Str × Addr)) (fp : List Addr), DG (X.blk s H scope (compEnvC scope cl C X.env) fp) tg ix g) (ht : ∀ (s : Shared) (H : Hp) (C : Addr) (cl : List (Str × Addr)) (fp : List Addr), DTs (X.blk s H scope (compEnvC scope cl C X.env) fp) WF ifs dt)
    (he : ∀ (s : Shared) (H : Hp) (C : Addr) (cl : List (Str × Addr)) (fp : List Addr), DE (X.blk s H scope (compEnvC scope cl C X.env) fp) WF elt .c de) (hy : X.N[i]? = some y := by rfl) (hyl : X.env.scope.names.lookup y = some .local := by rfl)
    (hsw : swapsWith (.ListComp elt [⟨tg, iter, ifs, 0⟩] scope pos) (some (.Name y py)) spos.line X.env = pure true := by rfl) (hv : own.map (·.2) = vs := by rfl) (hix : ∀ i ∈ ix, i ∈ vs := by decide) (hl : l ≠ .f := by decide) (hs : ∀ x, foldedSetIterable iter X.env x = pure x := by intro _; rfl) :
    DS X W rl (.Assign [.Name y py] (.ListComp elt [⟨tg, iter, ifs, 0⟩] scope pos) spos) (xOwn (xLc vs g dt de di) i) := by
  obtain ⟨wi, pi, hi⟩ := hi
  subst hv
  refine ⟨_, ps_setLc (i := i) (g := TGd X ix g) (tt := TDT X WF dt) (te := TD X WF .c de) hc hN hy hyl hsw pi ok (fun s H C cl fp => (hg s H C cl fp).canon) (fun s H C cl fp => ht s H C cl fp) (fun s H C cl fp => (he s H C cl fp).canon) hs, fun c σ H env st D sr h => lc_sound hl hi hix sr (bindS h fun p st1 v c1 H1 sr1 po r h1 => own_fin sr po sr1 r i h1)⟩
theorem ds_setLc2 {l1 : Lv} {tg1 iter1 : Expr} {ifs1 : List Expr} {ix1 : List Nat} {g1 : PV → Env → Option Env} {dt1 : Den Bool} {di1 : Den (List PV)} (i : Nat) (vs vs1 : List Nat) {y : Str} {py : Pos} (hc : X.calm = true) (hN : X.N.Nodup) (hi : DI X W tg iter l di) (ok : BlkOk X.N X.env.scope scope own)
    (hg : ∀ (s : Shared) (H : Hp) (C : Addr) (cl : List (Str × Addr)) (fp : List Addr), DG (X.blk s H scope (compEnvC scope cl C X.env) fp) tg ix g) (ht : ∀ (s : Shared) (H : Hp) (C : Addr) (cl : List (Str × Addr)) (fp : List Addr), DTs (X.blk s H scope (compEnvC scope cl C X.env) fp) WF ifs dt)
    (hi1 : ∀ (s : Shared) (H : Hp) (C : Addr) (cl : List (Str × Addr)) (fp : List Addr), DI (X.blk s H scope (compEnvC scope cl C X.env) fp) WF tg1 iter1 l1 di1)
    (hg1 : ∀ (s : Shared) (H : Hp) (C : Addr) (cl : List (Str × Addr)) (fp : List Addr), DG (X.blk s H scope (compEnvC scope cl C X.env) fp) tg1 ix1 g1) (ht1 : ∀ (s : Shared) (H : Hp) (C : Addr) (cl : List (Str × Addr)) (fp : List Addr), DTs (X.blk s H scope (compEnvC scope cl C X.env) fp) WF ifs1 dt1)
    (he : ∀ (s : Shared) (H : Hp) (C : Addr) (cl : List (Str × Addr)) (fp : List Addr), DE (X.blk s H scope (compEnvC scope cl C X.env) fp) WF elt .c de) (hy : X.N[i]? = some y := by rfl) (hyl : X.env.scope.names.lookup y = some .local := by rfl)
    (hsw : swapsWith (.ListComp elt [⟨tg, iter, ifs, 0⟩, ⟨tg1, iter1, ifs1, 0⟩] scope pos) (some (.Name y py)) spos.line X.env = pure true := by rfl) (hv : own.map (·.2) = vs := by rfl) (hix : ∀ i ∈ ix, i ∈ vs := by decide) (hix1 : ∀ i ∈ ix1, i ∈ vs1 := by decide) (hv1 : ∀ i ∈ vs1, i ∈ vs := by decide) (hl : l ≠ .f := by decide) (hl1 : l1 ≠ .f := by decide)
    (hs : ∀ x, foldedSetIterable iter X.env x = pure x := by intro _; rfl) (hs1 : ∀ env x, foldedSetIterable iter1 env x = pure x := by intro _ _; rfl) :
    DS X W rl (.Assign [.Name y py] (.ListComp elt [⟨tg, iter, ifs, 0⟩, ⟨tg1, iter1, ifs1, 0⟩] scope pos) spos) (xAsg (xLc2 vs vs1 g dt di1 g1 dt1 de di) (gSlot i)) := by
  obtain ⟨wi, pi, hi⟩ := hi
  subst hv
  refine ⟨_, ps_setLc2 (i := i) (g := TGd X ix g) (tt := TDT X WF dt) (wi1 := TDI X WF l1 di1) (g1 := TGd X ix1 g1) (tt1 := TDT X WF dt1) (te := TD X WF .c de) (vs1 := vs1) hc hN hy hyl hsw pi ok hv1 (fun s H C cl fp => (hg s H C cl fp).canon) (fun s H C cl fp => ht s H C cl fp) (fun s H C cl fp => (hi1 s H C cl fp).canon) (fun s H C cl fp => (hg1 s H C cl fp).canon) (fun s H C cl fp => ht1 s H C cl fp) (fun s H C cl fp => (he s H C cl fp).canon) hs hs1,
    fun c σ H env st D sr h => lc2_sound hl hl1 hi hix hix1 hv1 sr (bindS h fun p st1 v c1 H1 sr1 po r h1 => h1 c1 _ H1 (sr1.setPl i (RepLv.clean sr r.1)) (.refl _))⟩
end
/-! ### str(x) -/
def strPV : PV → Option PV
  | .str l => some (.str l)
  | _ => none
theorem ok_str : UnOk X (fun x H Q => ∃ a, [x] = [V.str a] ∧ Q (.str a) H) l1 .c strPV := by
  intro c σ H H1 env st Q p res x sr r e g
  cases p with
  | str l =>
    cases e
    obtain ⟨e1, z, u⟩ := rv_str r
    subst e1
    exact ⟨_, rfl, give_c g (.str l z u)⟩
  | _ => cases e
end
/-! ### calls, in short -/
structure CalOk (P : Program) (w : World) (K : PySem.W.Frag) (mg : Str → Option Value) (base : Heap) (rl : Lv) (k : Nat) (x : Str) (ps : List Str) (F : FDen) : Prop where
  ex : ∃ f fd, FnOk P w K mg base (L2.CX P w) k f fd ps (spOf rl K mg ps.length F) ∧ mg x = some (.ref f) ∧ PySem.W.keepIn K (.ref f) = true ∧ Binds K fd ps []
section
variable {X : Cx} {W : WX} {es : List Expr} {e : Expr} {x : Str} {p pos : Pos}
theorem d_cal {k j n : Nat} {ps : List Str} {F : FDen} {ds : Den (List PV)} (C : CalOk X.prog X.w X.K X.mg X.base .m j x ps F) (tk : Takes X W) (hr : Room k X.A) (hg : Gl X x) (ha : DA X W (e :: es) ds) (hn : ps.length = n := by rfl) (hjk : j ≤ k := by decide) (hdb : (x == ("__debug__" : Str)) = false := by decide)
    (he : starEach (e :: es) X.env = (false, eval e X.env) :: starEach es X.env := by rfl) (hpl : (backTo pos (starEach es X.env)).any (·.1) = false := by rfl) : DE X W (.Call (.Name x p) (e :: es) [] pos) .c (xCall n F ds) := by
  obtain ⟨f, fd, F0, h1, h2, h3⟩ := C.ex
  subst hn
  exact d_call F0 tk (hr.mono hjk) hg h1 h2 h3 ha hdb he hpl
theorem d_calF {k j n : Nat} {ps : List Str} {F : FDen} {ds : Den (List PV)} (C : CalOk X.prog X.w X.K X.mg X.base .f j x ps F) (tk : Takes X W) (hr : Room k X.A) (hg : Gl X x) (ha : DA X W (e :: es) ds) (hn : ps.length = n := by rfl) (hjk : j ≤ k := by decide) (hdb : (x == ("__debug__" : Str)) = false := by decide)
    (he : starEach (e :: es) X.env = (false, eval e X.env) :: starEach es X.env := by rfl) (hpl : (backTo pos (starEach es X.env)).any (·.1) = false := by rfl) : DE X W (.Call (.Name x p) (e :: es) [] pos) .f (xCall n F ds) := by
  obtain ⟨f, fd, F0, h1, h2, h3⟩ := C.ex
  subst hn
  exact d_callF F0 tk (hr.mono hjk) hg h1 h2 h3 ha hdb he hpl
theorem CalOk.mk' {P : Program} {w : World} {K : PySem.W.Frag} {mg : Str → Option Value} {base : Heap} {rl : Lv} {k : Nat} {x : Str} {ps : List Str} {F : FDen} {f : Addr} {fd : FuncData} (h : FnOk P w K mg base (L2.CX P w) k f fd ps (spOf rl K mg ps.length F)) (h1 : mg x = some (.ref f)) (h2 : PySem.W.keepIn K (.ref f) = true) (h3 : Binds K fd ps []) : CalOk P w K mg base rl k x ps F := ⟨f, fd, h, h1, h2, h3⟩
end
end Vl

set_option Elab.async false
set_option linter.all false
set_option maxRecDepth 100000
set_option maxHeartbeats 1000000
namespace Vl
open PySem PySem.Spec PyProof.Rows L2
section
variable {X : Cx} {W : WX} {rl : Lv} {a b e f : Expr} {da db dc : Den PV} {l l1 l2 l3 lvl : Lv} {pos : Pos}
/-! ### small things -/
def xNotT (dt : Den Bool) : Den Bool := fun env st => (dt env st).bind fun k s => .ok (!k) s
def min2PV : PV → PV → Option PV
  | .int i, .int j => some (.int (if j < i then j else i))
  | _, _ => none
def max2PV : PV → PV → Option PV
  | .int i, .int j => some (.int (if j > i then j else i))
  | _, _ => none
theorem ok_min2 : OpOk X (fun x y H Q => (fun xs H Q => ∃ i j, xs = [V.int i, V.int j] ∧ Q (.int (if j < i then j else i)) H) [x, y] H Q) l1 l2 .c min2PV := by
  intro c σ H H1 env st Q p q res x y sr r1 r2 e g
  unfold min2PV at e
  split at e
  · cases e; exact ⟨_, _, by rw [rv_int r1, rv_int r2], give_c g (.int _)⟩
  · cases e
theorem ok_max2 : OpOk X (fun x y H Q => (fun xs H Q => ∃ i j, xs = [V.int i, V.int j] ∧ Q (.int (if j > i then j else i)) H) [x, y] H Q) l1 l2 .c max2PV := by
  intro c σ H H1 env st Q p q res x y sr r1 r2 e g
  unfold max2PV at e
  split at e
  · cases e; exact ⟨_, _, by rw [rv_int r1, rv_int r2], give_c g (.int _)⟩
  · cases e
/-- a built-in of two arguments -/
theorem d_call2 {x : Str} {id : String} {p : Pos} {r : List V → Hp → VK → Prop} {g : PV → PV → Option PV} (hc : CallR X (.builtin id) r) (ok : OpOk X (fun x y H Q => r [x, y] H Q) l1 l2 lvl g) (hg : Gl X x) (hm : X.mg x = none) (hv : bootBuiltins x = some (.builtin id)) (ha : DE X W a l1 da) (hb : DE X W b l2 db) (hl1 : l1 ≠ .f := by decide)
    (hs : starEach [a, b] X.env = (false, eval a X.env) :: starEach [b] X.env := by rfl) (hs2 : starEach [b] X.env = (false, eval b X.env) :: starEach [] X.env := by rfl) (hpl : (backTo pos (starEach [b] X.env)).any (·.1) = false := by rfl) (hn : x ≠ "__name__" := by decide) (hdb : (x == ("__debug__" : Str)) = false := by decide) :
    DE X W (.Call (.Name x p) [a, b] [] pos) lvl (xBin g da db) := by
  obtain ⟨ta, pa, ha⟩ := ha
  obtain ⟨tb, pb, hb⟩ := hb
  exact ⟨_, pe_callB hc hg hm hv (pa_cons pa (pa_cons pb pa_nil hs2) hs) hn hdb hs hpl, fun c σ H env st Q sr h => ha c σ H env st _ sr (bin_core (Q2 := fun x y H2 => r [x, y] H2 Q) sr hl1 hb h fun c2 H2 st2 p q x y res sr2 r1 ⟨H1, r2⟩ e g => ok c2 σ H2 H1 env st2 Q p q res x y sr2 r1 r2 e g)⟩
/-! ### targets: what stays one's own -/
def Keeps (ix : List Nat) (g : PV → Env → Option Env) : Prop := ∀ p env env', g p env = some env' → ∀ (j : Nat) (q : PV), env'[j]? = some (Slot.ow q) → env[j]? = some (Slot.ow q) ∧ j ∉ ix
def KeepsL (ix : List Nat) (g : List PV → Env → Option Env) : Prop := ∀ p env env', g p env = some env' → ∀ (j : Nat) (q : PV), env'[j]? = some (Slot.ow q) → env[j]? = some (Slot.ow q) ∧ j ∉ ix
theorem gNil_ows : KeepsL [] gNilE := by
  intro p env env' h j q e
  unfold gNilE at h
  split at h
  · cases h; exact ⟨e, by simp⟩
  · cases h
theorem gCons_ows {ix iy : List Nat} {g : PV → Env → Option Env} {gs : List PV → Env → Option Env} (h1 : Keeps ix g) (h2 : KeepsL iy gs) : KeepsL (ix ++ iy) (gConsE g gs) := by
  intro p env env' h j q e
  unfold gConsE at h
  split at h
  · rename_i p0 r
    cases e1 : g p0 env with
    | none => rw [e1] at h; cases h
    | some env1 =>
      rw [e1] at h
      obtain ⟨a1, a2⟩ := h2 r env1 env' h j q e
      obtain ⟨b1, b2⟩ := h1 p0 env env1 e1 j q a1
      exact ⟨b1, fun z => (List.mem_append.mp z).elim b2 a2⟩
  · cases h
theorem gTup_ow {n : Nat} {ix : List Nat} {gs : List PV → Env → Option Env} (h2 : KeepsL ix gs) : Keeps ix (gTupE n gs) := by
  intro p env env' h j q e
  unfold gTupE at h
  split at h
  · split at h
    · exact h2 _ env env' h j q e
    · cases h
  · cases h
end
/-! ### a def that is not reached -/
theorem cal_dead {P : Program} {w : World} {K : PySem.W.Frag} {mg : Str → Option Value} {base : Heap} {x qual : Str} {st : Stmt} {f : Addr} {fd : FuncData} {N ps : List Str} {k : Nat} {rl : Lv} (F0 : Fun K x qual st f fd) (S : FnScope N ps (defScope st)) : FnOk P w K mg base (L2.CX P w) k f fd ps (spOf rl K mg ps.length fun _ _ => .no) :=
  ⟨fun vs H Q E h => by
    obtain ⟨S, M, sa, pv, st, h1, _, _, h2, _⟩ := h
    rw [← h2.length, h1], fun A outer s H args us vs Q E hr e0 hb hv h => by
    obtain ⟨_, _, _, _, _, _, _, _, _, h⟩ := h
    exact h.elim⟩
/-! ### the script -/
abbrev p18 : Int := 10 ^ 18
def headA (ns : List Int) : Int := let c := (ns ++ [0]).headD 0; if c < 0 then -c else c
def cup1 (d : Int) (ns : List Int) : Int := if 1000000000000000000 ≤ headA ns then headA ns / d else 0
def cup2 (m a n c : Int) (ns : List Int) : Int := (headA ns * m + a) % n + c
/-- what _law_cup promises: the new list, all that was tracked kept -/
def spCup (K : PySem.W.Frag) (d m a n c : Int) : Sp := fun vs H Q _ => ∃ (s : Addr) (ns : List Int), vs = [.ref s] ∧ SqL K H s (ns.map V.int) ∧ ns.length ≤ 63 ∧ ∀ H' p, Same H H' → H p = none → H' p = some (.lst [.int (cup1 d ns), .int (cup2 m a n c ns)]) → Q (.ref p) H'
theorem same_new {H : Hp} {p : Addr} {o : HO} (h : H p = none) : Same H (upd H p o) := fun b x e => grow_upd h b x e
/-! ### the law's own def -/
def spLawV (K : PySem.W.Frag) : Sp := fun vs H Q _ => ∃ (a : Addr) (ns : List Int), vs = [.ref a] ∧ SqL K H a (ns.map V.int) ∧ ns.length ≤ 63 ∧ ∀ H', Q (.bl true) H'
def env1 (n : Nat) : Env := .no :: .pl (.obj 0) :: List.replicate (n - 2) .no
theorem law_entry {P : Program} {w : World} {K : PySem.W.Frag} {mg : Str → Option Value} {base : Heap} {st : Stmt} {f fc : Addr} {fd fdc : FuncData} {N : List Str} {k j : Nat} {d m a n c : Int} {s1 : Stmt} {rest : List Stmt} {drest : DenS}
    (F0 : Fun K "law" "law" st f fd) (S : FnScope N ["script"] (defScope st)) (hN2 : 2 ≤ N.length) (C : FnOk P w K mg base (L2.CX P w) j fc fdc ["script"] (spCup K d m a n c)) (gc : mg "_law_cup" = some (.ref fc)) (kc : PySem.W.keepIn K (.ref fc) = true) (bc : Binds K fdc ["script"] []) (hjk : j ≤ k)
    (hb : defBody st = s1 :: rest)
    (hs1 : ∀ (cdv : Value) (A : Around) (outer : List PySem.Env) (s : Shared) (H : Hp) (E : XK), Room k (A.deeper (envOfC "law" (defScope st) s.heap.objs.size f cdv)) →
      PS (cxOf (L2.CX P w) P w K mg base N "law" (defScope st) f cdv A outer s H E) s1 (tAsg (tCallS (spCup K d m a n c) (WE fun cls d _ H => E cls d H) (tCons (tVar 0) tNil)) (gName 1)))
    (hrest : ∀ (cdv : Value) (A : Around) (outer : List PySem.Env) (s : Shared) (H : Hp) (E : XK), Room k (A.deeper (envOfC "law" (defScope st) s.heap.objs.size f cdv)) →
      DSs (cxOf (L2.CX P w) P w K mg base N "law" (defScope st) f cdv A outer s H E) (fun cls d _ H => E cls d H) .m rest drest)
    (hden : ∀ ns : List Int, ∃ st', drest (env1 N.length) [SO.lst [.int (cup1 d ns), .int (cup2 m a n c ns)]] = .rt (.bl true) st') : FnOk P w K mg base (L2.CX P w) (k + 1) f fd ["script"] (spLawV K) := by
  refine F0.okX S (fun vs H Q E h => ?_) (fun cdv A outer s H vs Q E hr h => ?_)
  · obtain ⟨a, ns, rfl, _⟩ := h
    rfl
  obtain ⟨l, ns, rfl, hS, hl, q⟩ := h
  obtain ⟨t, pt, ht⟩ := hrest cdv A outer s H E hr
  rw [hb]
  refine ⟨_, pss_cons (hs1 cdv A outer s H E hr) pt, ?_⟩
  have g0 : (L2.start N [V.ref l])[0]? = some (some (V.ref l)) := rfl
  refine ⟨V.ref l, g0, l, ns, rfl, hS, hl, fun H1 p sm hp hv => ?_⟩
  let c1 : Ctl := ⟨fun b => b = p, fun _ => False, [p], [], H1, fun b => b = p⟩
  obtain ⟨st', e⟩ := hden ns
  have sr : SRk K mg c1 ((L2.start N [V.ref l]).set 1 (some (V.ref p))) H1 (env1 N.length) [SO.lst [.int (cup1 d ns), .int (cup2 m a n c ns)]] := by
    refine ⟨?_, fun i pv e => ?_, fun i pv e => ?_, fun i j pi pj b e => ?_, fun b hb => absurd hb (by simp [c1]), ⟨rfl, ?_, fun b hb => by simpa [c1] using hb, fun i xs e => ?_⟩, fun b z => ?_, fun b o e _ => e, fun b z => z, fun b z => .inl z⟩
    · unfold env1 L2.start
      simp
      omega
    · match i with
      | 0 => cases e
      | 1 =>
        cases e
        refine ⟨V.ref p, List.getElem?_set_self ?_, .obj rfl⟩
        unfold L2.start
        simp
        omega
      | i + 2 =>
        have e : (List.replicate (N.length - 2) Slot.no)[i]? = some (Slot.pl pv) := e
        rw [List.getElem?_replicate] at e
        split at e <;> cases e
    · match i with
      | 0 => cases e
      | 1 => cases e
      | i + 2 =>
        have e : (List.replicate (N.length - 2) Slot.no)[i]? = some (Slot.ow pv) := e
        rw [List.getElem?_replicate] at e
        split at e <;> cases e
    · match i with
      | 0 => cases e
      | 1 => cases e
      | i + 2 =>
        have e : (List.replicate (N.length - 2) Slot.no)[i]? = some (Slot.ow pi) := e
        rw [List.getElem?_replicate] at e
        split at e <;> cases e
    · show [p].Nodup
      simp
    · match i with
      | 0 => cases e; exact ⟨p, _, rfl, hv, by rw [sizeLine_eq]; exact (by decide : 2 ≤ 16777216), .cons (.int _) (.cons (.int _) .nil)⟩
      | i + 1 => cases e
    · rcases z with z | z
      · rw [show b = p from z, hv]; simp
      · exact z.elim
  refine ht c1 _ H1 _ _ _ sr ?_
  rw [e]
  intro v c' σ' H' e' sr' sq r
  unfold RT at r
  rw [if_neg (by decide)] at r
  cases r
  exact q H'
theorem cx_none {P : Program} {w : World} {H : Hp} {s : Shared} {e : Value} {s' : Shared} (h : L2.CX P w [] H s (fun _ _ _ => False) e s') : False := by
  obtain ⟨_, _, _, _, _, _, _, _, _, _, _, _, z⟩ := h
  exact z
end Vl

set_option Elab.async false
set_option linter.all false
set_option maxRecDepth 100000
set_option maxHeartbeats 1000000
namespace Vl
open PySem PySem.Spec PyProof.Rows L2
/-! ### a dict of the module, told by its entries -/
def TabE : List DictEntry → List (List Nat × Int) → Prop
  | [], [] => True
  | e :: r, (l, i) :: s => (∃ t, e.key = .str (mkS l) t) ∧ (∃ t, e.val = .int i t) ∧ TabE r s
  | _, _ => False
theorem isStr_mk (l m : List Nat) (t : Tok) : (Value.str (mkS l) t).isStr (mkS m) = eqS l m := by
  rw [eqS_iff]
  show (mkS l == mkS m) = _
  by_cases h : l = m
  · subst h; simp
  · have : ¬ mkS l = mkS m := fun z => h (by rw [← L2.mkS_cps l, z, L2.mkS_cps])
    simp [h, this]
theorem tabE_find : ∀ {es : List DictEntry} {tab : List (List Nat × Int)}, TabE es tab → ∀ m : List Nat, (es.any (·.refKey) = false) ∧
    (∀ i, tabLk tab m = some i → ∃ e t, es.find? (·.key.isStr (mkS m)) = some e ∧ e.val = .int i t) ∧ (tabLk tab m = none → es.find? (·.key.isStr (mkS m)) = none)
  | [], [], _, m => ⟨rfl, fun i h => (by cases h), fun _ => rfl⟩
  | e :: r, [], h, _ => h.elim
  | [], _ :: _, h, _ => h.elim
  | e :: r, (l, i) :: s, ⟨⟨t, h1⟩, ⟨u, h2⟩, h3⟩, m => by
    obtain ⟨i1, i2, i3⟩ := tabE_find h3 m
    have ek : e.key.isStr (mkS m) = eqS l m := by rw [h1]; exact isStr_mk l m t
    refine ⟨?_, fun j hj => ?_, fun hn => ?_⟩
    · rw [List.any_cons, i1]
      unfold DictEntry.refKey
      rw [h1]
      rfl
    · unfold tabLk at hj
      rw [List.find?_cons] at hj ⊢
      rw [ek]
      cases c : eqS l m with
      | true =>
        rw [c] at hj
        cases hj
        exact ⟨e, u, rfl, h2⟩
      | false =>
        rw [c] at hj
        exact i2 j hj
    · unfold tabLk at hn
      rw [List.find?_cons] at hn ⊢
      rw [ek]
      cases c : eqS l m with
      | true => rw [c] at hn; cases hn
      | false =>
        rw [c] at hn
        exact i3 hn
theorem gtab_of {K : PySem.W.Frag} {w : World} {mg : Str → Option Value} {x : Str} {tab : List (List Nat × Int)} {d : Addr} {es : Array DictEntry} {n : Nat} (hm : mg x = some (.ref d)) (hl : K.lookup d = some ⟨.type "dict", none, .dict es n, #[]⟩) (hk : PySem.W.KeysLit w.params es.toList) (low : (d == sysModules) = false) (ht : TabE es.toList tab) : GTab K w mg x tab := by
  refine ⟨d, es, n, hm, ⟨hl, hk, low⟩, fun l i h => ?_, fun l h => ?_⟩
  · obtain ⟨_, i2, _⟩ := tabE_find ht l
    obtain ⟨e, t, h1, h2⟩ := i2 i h
    refine ⟨t, ?_⟩
    unfold PySem.W.nsIn
    rw [hl]
    dsimp only
    rw [h1]
    show some (some e.val) = _
    rw [h2]
  · obtain ⟨i1, _, i3⟩ := tabE_find ht l
    unfold PySem.W.nsIn
    rw [hl]
    dsimp only
    rw [i3 h]
    simp [i1]
end Vl

set_option Elab.async false
set_option linter.all false
set_option maxRecDepth 100000
set_option maxHeartbeats 1000000
namespace Vl
open PySem PySem.Spec PyProof.Rows L2
/-! ### reading denotations -/
def nOw : Slot → Bool
  | .ow _ => false
  | _ => true
/-- a comprehension over mapped items, its parts told -/
theorem compL_map {α : Type} {g : PV → Env → Option Env} {dt : Den Bool} {de : Den PV} {env : Env} {st : Sto} (w : α → PV) (c : α → Bool) (f : α → PV) : ∀ (l : List α), (∀ x ∈ l, ∃ env', g (w x) env = some env' ∧ dt env' st = .ok (c x) st ∧ (c x = true → de env' st = .ok (f x) st)) →
    compL g dt de (l.map w) env st = .ok ((l.filter c).map f) st
  | [], _ => rfl
  | x :: l, h => by
    obtain ⟨env', h1, h2, h3⟩ := h x List.mem_cons_self
    have ih := compL_map w c f l fun y hy => h y (List.mem_cons_of_mem _ hy)
    rw [List.map_cons]
    unfold compL
    rw [h1]
    simp only [h2]
    cases e : c x with
    | false =>
      rw [List.filter_cons_of_neg (by simp [e])]
      exact ih
    | true =>
      rw [List.filter_cons_of_pos e, List.map_cons]
      simp only [h3 e, ih]
theorem compL_cons {g : PV → Env → Option Env} {dt : Den Bool} {de : Den PV} {env env' : Env} {st s1 s2 s3 : Sto} {p v : PV} {ps vs : List PV} (h1 : g p env = some env') (h2 : dt env' st = .ok true s1) (h3 : de env' s1 = .ok v s2) (h4 : compL g dt de ps env s2 = .ok vs s3) : compL g dt de (p :: ps) env st = .ok (v :: vs) s3 := by
  rw [compL, h1]
  simp only [h2, h3, h4]
theorem filter_all {α : Type} (l : List α) : l.filter (fun _ => true) = l := by simp
theorem intsOf_mapf {α : Type} (f : α → Int) (l : List α) : intsOf (l.map fun x => PV.int (f x)) = some (l.map f) := by
  rw [show (l.map fun x => PV.int (f x)) = (l.map f).map PV.int by rw [List.map_map]; rfl]
  exact intsOf_map _
theorem strsOf_mapf {α : Type} (f : α → List Nat) (l : List α) : strsOf (l.map fun x => PV.str (f x)) = some (l.map f) := by
  rw [show (l.map fun x => PV.str (f x)) = (l.map f).map PV.str by rw [List.map_map]; rfl]
  exact strsOf_map _
theorem blsOf_mapf {α : Type} (f : α → Bool) (l : List α) : blsOf (l.map fun x => PV.bl (f x)) = some (l.map f) := by
  rw [show (l.map fun x => PV.bl (f x)) = (l.map f).map PV.bl by rw [List.map_map]; rfl]
  exact blsOf_map _
theorem rng1_eq {d : Den PV} {env : Env} {st st' : Sto} {j : Int} (h : d env st = .ok (.int j) st') (hj : -4611686018427387904 ≤ j ∧ j < 4611686018427387904) : xRng1 d env st = .ok (rangeL 0 j.toNat) st' := by
  unfold xRng1
  rw [h]
  exact if_pos hj
theorem rng2_eq {d e : Den PV} {env : Env} {st st' st2 : Sto} {i j : Int} (h : d env st = .ok (.int i) st') (h' : e env st' = .ok (.int j) st2) (hj : -4611686018427387904 ≤ i ∧ i < 4611686018427387904 ∧ -4611686018427387904 ≤ j ∧ j < 4611686018427387904) : xRng2 d e env st = .ok (rangeL i (j - i).toNat) st2 := by
  unfold xRng2
  rw [h]
  show (Res.bind (e env st') _) = _
  rw [h']
  exact if_pos hj
theorem small_in {j : Int} (h : -16777216 ≤ j ∧ j ≤ 16777216) : -4611686018427387904 ≤ j ∧ j < 4611686018427387904 := by omega
theorem rng1_nat {d : Den PV} {env : Env} {st st' : Sto} {n : Nat} (h : d env st = .ok (.int (n : Int)) st') (hn : n ≤ 16777216) : xRng1 d env st = .ok ((List.range n).map fun i : Nat => PV.int (i : Int)) st' := by
  have hj : -16777216 ≤ (n : Int) ∧ (n : Int) ≤ 16777216 := by omega
  rw [rng1_eq h (small_in hj)]
  unfold rangeL
  rw [Int.toNat_natCast]
  have e : ∀ i : Nat, PV.int (0 + (i : Int)) = PV.int (i : Int) := fun i => by rw [Int.zero_add]
  simp only [e]
theorem rng2_nat {d e : Den PV} {env : Env} {st st' st2 : Sto} {lo : Int} {n : Nat} (h : d env st = .ok (.int lo) st') (h' : e env st' = .ok (.int (lo + n)) st2) (hl : -16777216 ≤ lo ∧ lo ≤ 1000000) (hn : n ≤ 1000000) : xRng2 d e env st = .ok ((List.range n).map fun i : Nat => PV.int (lo + (i : Int))) st2 := by
  have h1 := small_in (j := lo) (by omega)
  have h2 := small_in (j := lo + n) (by omega)
  rw [rng2_eq h h' ⟨h1.1, h1.2, h2.1, h2.2⟩]
  unfold rangeL
  have e : (lo + (n : Int) - lo).toNat = n := by omega
  rw [e]
theorem xLc_eq {vs : List Nat} {g : PV → Env → Option Env} {dt : Den Bool} {de : Den PV} {di : Den (List PV)} {env : Env} {st s1 s2 : Sto} {items ps : List PV} (h : di env st = .ok items s1) (hb : notOwB env vs = true) (hz : items.length ≤ 16777216) (hc : compL g dt de items (wipeE env vs) s1 = .ok ps s2) : xLc vs g dt de di env st = .ok (.lst ps) s2 := by
  have hc2 : notOwB env vs = true ∧ items.length ≤ 16777216 := ⟨hb, hz⟩
  unfold xLc
  rw [h]
  refine Eq.trans (if_pos hc2) ?_
  rw [hc]
theorem fn_rt {rl : Lv} {n : Nat} {body : DenS} {ps : List PV} {st s : Sto} {p : PV} (h : body (startE n ps) st = .rt p s) : fnDen rl n body ps st = .ok p s := by
  unfold fnDen
  rw [h]
theorem fn_nx {n : Nat} {body : DenS} {ps : List PV} {st s : Sto} {e : Env} (h : body (startE n ps) st = .nx e s) : fnDen .m n body ps st = .ok .non s := by
  unfold fnDen
  rw [h]
  rfl
section
variable {env e : Env} {st s s2 : Sto} {p q : PV} {d da db : Den PV} {d1 d2 : DenS} {i : Nat}
theorem ret_eq (h : d env st = .ok p s) : xRet d env st = .rt p s := by
  unfold xRet
  rw [h]
theorem seq_nx (h : d1 env st = .nx e s) : xSeq d1 d2 env st = d2 e s := by
  unfold xSeq
  rw [h]
theorem seq_rt (h : d1 env st = .rt p s) : xSeq d1 d2 env st = .rt p s := by
  unfold xSeq
  rw [h]
theorem asg_eq (h : d env st = .ok p s) : xAsg d (gSlot i) env st = .nx (env.set i (.pl p)) s := by
  unfold xAsg
  rw [h]
  rfl
theorem un_eq {f : PV → Option PV} (h : d env st = .ok p s) (hf : f p = some q) : xUn f d env st = .ok q s := by
  unfold xUn
  rw [h]
  show opt (f p) s = _
  rw [hf]
  rfl
theorem bin_eq {f : PV → PV → Option PV} {p2 : PV} (h : da env st = .ok p s) (h2 : db env s = .ok p2 s2) (hf : f p p2 = some q) : xBin f da db env st = .ok q s2 := by
  unfold xBin
  rw [h]
  show Res.bind (db env s) _ = _
  rw [h2]
  show opt (f p p2) s2 = _
  rw [hf]
  rfl
theorem cons_eq {ds : Den (List PV)} {ps : List PV} (h : d env st = .ok p s) (h2 : ds env s = .ok ps s2) : xCons d ds env st = .ok (p :: ps) s2 := by
  unfold xCons
  rw [h]
  show Res.bind (ds env s) _ = _
  rw [h2]
theorem call_eq {F : FDen} {n : Nat} {ds : Den (List PV)} {ps : List PV} {r : Res PV} (h : ds env st = .ok ps s) (hn : ps.length = n) (hF : F ps s = r) : xCall n F ds env st = r := by
  unfold xCall
  rw [h]
  exact (if_pos hn).trans hF
theorem ifS_eq {dt : Den Bool} {k : Bool} (h : dt env st = .ok k s) : xIfS dt d1 d2 env st = if k = true then d1 env s else d2 env s := by
  unfold xIfS
  rw [h]
theorem tb_eq {k : Bool} (h : d env st = .ok (.bl k) s) : xTB d env st = .ok k s := by
  unfold xTB
  rw [h]
  rfl
theorem if_eq {dt : Den Bool} {k : Bool} (h : dt env st = .ok k s) (h1 : (if k = true then da env s else db env s) = .ok p s2) : xIf dt da db env st = .ok p s2 := by
  unfold xIf
  rw [h]
  exact h1
theorem join_eq {ls : List (List Nat)} {a : List Nat} (h : da env st = .ok (.str a) s) (h2 : db env s = .ok (.lst (ls.map .str)) s2) (hz : (ls.map List.length).sum + ls.length * a.length ≤ 16777216) : xM1 joinPV da db env st = .ok (.str (joinL a ls)) s2 := by
  unfold xM1
  rw [h]
  show Res.bind (db env s) _ = _
  rw [h2]
  show opt (joinPV (.str a) (.lst (ls.map .str))) s2 = _
  have e : joinPV (.str a) (.lst (ls.map .str)) = some (.str (joinL a ls)) := by
    show ((strsOf (ls.map .str)).bind fun ls => if (ls.map List.length).sum + ls.length * a.length ≤ 16777216 then some (PV.str (joinL a ls)) else none) = _
    rw [strsOf_map]
    exact if_pos hz
  rw [e]
  rfl
end
theorem shA_ints : ∀ (ns : List Int) (n : Nat), shA (ns.map .int) n = true
  | [], _ => by simp [shA]
  | x :: r, n => by simp [shA, PV.sh, shA_ints r n]
theorem shA_strs : ∀ (ns : List (List Nat)) (n : Nat), shA (ns.map .str) n = true
  | [], _ => by simp [shA]
  | x :: r, n => by simp [shA, PV.sh, shA_strs r n]
theorem in_ints (ns : List Int) (k : Int) : inPV false (.int k) (.lst (ns.map .int)) = some (.bl (decide (k ∈ ns))) := by
  have e : ((ns.map PV.int).any fun z => PV.eqv z (.int k)) = decide (k ∈ ns) := by
    rw [List.any_map, Bool.eq_iff_iff]
    simp [PV.eqv]
  unfold inPV
  have c : (shA (ns.map .int) 60 && PV.sh (.int k) 60) = true := by rw [shA_ints]; rfl
  refine (if_pos c).trans ?_
  rw [e]
  rfl
theorem eqvA_strs : ∀ (a b : List (List Nat)), eqvA (a.map .str) (b.map .str) = decide (a = b)
  | [], [] => rfl
  | [], _ :: _ => rfl
  | _ :: _, [] => rfl
  | x :: a, y :: b => by
    show (PV.eqv (.str x) (.str y) && eqvA (a.map .str) (b.map .str)) = _
    rw [eqvA_strs a b]
    show ((x == y) && _) = _
    rw [Bool.eq_iff_iff]
    simp
theorem eq_strs (neg : Bool) (a b : List (List Nat)) : eqPV neg (.lst (a.map .str)) (.lst (b.map .str)) = some (.bl (if neg then !decide (a = b) else decide (a = b))) := by
  have c : (PV.sh (.lst (b.map .str)) 60 && PV.sh (.lst (a.map .str)) 60) = true := by simp [PV.sh, shA_strs]
  unfold eqPV
  refine (if_pos c).trans ?_
  show some (PV.bl (if neg then !eqvA _ _ else eqvA _ _)) = _
  rw [eqvA_strs]
theorem mul_int {a b : Int} (h : -16777216 ≤ a ∧ a ≤ 16777216) : mulPV (.int a) (.int b) = some (.int (a * b)) := by
  have c : (-18446744073709551616 < a ∧ a < 18446744073709551616) ∨ (-18446744073709551616 < b ∧ b < 18446744073709551616) := .inl ⟨by omega, by omega⟩
  show (if _ then _ else _) = _
  exact if_pos c
theorem div_int {a b : Int} (h : 0 < b ∧ b < 1073741824) : fdivPV (.int a) (.int b) = some (.int (a / b)) := if_pos h
theorem mod_int {a b : Int} (h : 0 < b) : modPV (.int a) (.int b) = some (.int (a % b)) := if_pos h
/-! ### bricks -/
def isSg (c : Nat) : Bool := c == 115 || c == 116 || c == 104 || c == 113
def Sg (l : List Nat) : Prop := ∀ c ∈ l, isSg c = true
def szc (c : Nat) : Int := if c = 115 then 4 else if c = 116 then 3 else if c = 104 then 2 else 1
def szL (l : List Nat) : Int := (l.map szc).sum
theorem szc_cases {c : Nat} (h : isSg c = true) : (c = 115 ∧ szc c = 4) ∨ (c = 116 ∧ szc c = 3) ∨ (c = 104 ∧ szc c = 2) ∨ (c = 113 ∧ szc c = 1) := by
  simp only [isSg, Bool.or_eq_true, beq_iff_eq] at h
  rcases h with ((h | h) | h) | h <;> subst h <;> decide
theorem szc_pos {c : Nat} (h : isSg c = true) : 1 ≤ szc c ∧ szc c ≤ 4 := by
  rcases szc_cases h with h | h | h | h <;> rw [h.2] <;> decide
end Vl

set_option Elab.async false
set_option linter.all false
set_option maxRecDepth 100000
set_option maxHeartbeats 1000000
namespace Vl
open PySem PySem.Spec PyProof.Rows L2
theorem cutA_take {α : Type} (l : List α) (i : Nat) (h : i ≤ l.length) : cutA l none (some (i : Int)) = l.take i := by
  unfold cutA
  rw [HT.sIx_none, HT.sIx_nat]
  simp [Nat.min_eq_left h]
theorem sg_take {l : List Nat} (h : Sg l) (i : Nat) : Sg (l.take i) := fun c hc => h c (List.mem_of_mem_take hc)
theorem joinL_nil : ∀ l : List Nat, joinL [] (l.map fun c => [c]) = l
  | [] => rfl
  | [x] => rfl
  | x :: y :: r => by
    show [x] ++ [] ++ joinL [] ((y :: r).map fun c => [c]) = _
    rw [joinL_nil (y :: r)]
    rfl
theorem sg_snoc {c : List Nat} {s : Nat} (h : Sg c) (hs : isSg s = true) : Sg (c ++ [s]) := fun x hx => by
  rcases List.mem_append.mp hx with z | z
  · exact h x z
  · rw [List.mem_singleton.mp z]; exact hs
theorem plus_str {a b : List Nat} (h : a.length + b.length ≤ 16777216) : plusPV (.str a) (.str b) = some (.str (a ++ b)) := if_pos h
theorem plus_lst {a b : List PV} (h : a.length + b.length ≤ 16777216) : plusPV (.lst a) (.lst b) = some (.lst (a ++ b)) := if_pos h
theorem tup_eq {ds : Den (List PV)} {env : Env} {st s : Sto} {ps : List PV} (h : ds env st = .ok ps s) (hz : ps.length ≤ 16777216) : xTup ds env st = .ok (.tup ps) s := by
  unfold xTup
  rw [h]
  exact if_pos hz
theorem lst_eq {ds : Den (List PV)} {env : Env} {st s : Sto} {ps : List PV} (h : ds env st = .ok ps s) (hz : ps.length ≤ 16777216) : xLst ds env st = .ok (.lst ps) s := by
  unfold xLst
  rw [h]
  exact if_pos hz
theorem nil_eq {env : Env} {st : Sto} : xNil env st = .ok [] st := rfl
theorem eq_str (neg : Bool) (a b : List Nat) : eqPV neg (.str a) (.str b) = some (.bl (if neg then !(a == b) else a == b)) := rfl
theorem eq_strD (a b : List Nat) : eqPV false (.str a) (.str b) = some (.bl (decide (a = b))) := by
  have e : (a == b) = decide (a = b) := by rw [Bool.eq_iff_iff]; simp
  rw [← e]
  rfl
theorem nat_of {r m : Int} (h0 : 0 ≤ r) (h1 : r < m) : ∃ k : Nat, r = k := ⟨r.toNat, by omega⟩
theorem rep_str (c w : Nat) (h : w ≤ 1000) : mulPV (.str [c]) (.int (w : Int)) = some (.str (List.replicate w c)) := by
  have hc : -9223372036854775808 ≤ (w : Int) ∧ (w : Int) < 9223372036854775808 ∧ (w : Int).toNat * [c].length ≤ 16777216 := ⟨by omega, by omega, by rw [Int.toNat_natCast]; show w * 1 ≤ _; omega⟩
  have e : (List.replicate (w : Int).toNat [c]).flatten = List.replicate w c := by
    rw [Int.toNat_natCast]
    clear hc h
    induction w with
    | zero => rfl
    | succ n ih => rw [List.replicate_succ, List.flatten_cons, ih]; rfl
  have q : mulPV (.str [c]) (.int (w : Int)) = if (-9223372036854775808 ≤ (w : Int) ∧ (w : Int) < 9223372036854775808 ∧ (w : Int).toNat * [c].length ≤ 16777216) then some (.str (List.replicate (w : Int).toNat [c]).flatten) else none := by
    unfold mulPV
    rfl
  rw [q, if_pos hc, e]
section
variable {env e : Env} {st s s2 s3 : Sto} {p q r : PV} {d da db dc : Den PV} {d1 d2 : DenS}
theorem and_t (h : da env st = .ok (.bl true) s) (h2 : db env s = .ok p s2) : xAnd da db env st = .ok p s2 := by
  unfold xAnd
  rw [h]
  exact h2
theorem chain_tt {f g : PV → PV → Option PV} {p1 p2 p3 : PV} (ha : da env st = .ok p1 s) (hb : db env s = .ok p2 s2) (hf : f p1 p2 = some (.bl true)) (hc : dc env s2 = .ok p3 s3) (hg : g p2 p3 = some q) : xChain f g da db dc env st = .ok q s3 := by
  unfold xChain
  rw [ha]
  show Res.bind (db env s) _ = _
  rw [hb]
  show (match f p1 p2 with
    | some (.bl true) => (dc env s2).bind fun r s'' => opt (g p2 r) s''
    | some (.bl false) => .ok (.bl false) s2
    | _ => .no) = _
  rw [hf]
  show Res.bind (dc env s2) _ = _
  rw [hc]
  show opt (g p2 p3) s3 = _
  rw [hg]
  rfl
theorem le_tt {i j : Int} (h : i ≤ j) : lePV (.int i) (.int j) = some (.bl true) := by
  show some (PV.bl (decide (i ≤ j))) = _
  rw [decide_eq_true h]
theorem tru_t {k : Bool} (h : d env st = .ok (.bl k) s) : xTru d env st = .ok k s := by
  unfold xTru
  rw [h]
  first | done | rfl
theorem not_t {dt : Den Bool} {k : Bool} (h : dt env st = .ok k s) : xNotT dt env st = .ok (!k) s := by
  unfold xNotT
  rw [h]
  first | done | rfl
theorem orT_f {d e : Den Bool} {k : Bool} (h : d env st = .ok false s) (h2 : e env s = .ok k s2) : xOrT d e env st = .ok k s2 := by
  unfold xOrT
  rw [h]
  exact h2
theorem orT_t {d e : Den Bool} (h : d env st = .ok true s) : xOrT d e env st = .ok true s := by
  unfold xOrT
  rw [h]
  first | done | rfl
theorem andT_t {d e : Den Bool} {k : Bool} (h : d env st = .ok true s) (h2 : e env s = .ok k s2) : xAndT d e env st = .ok k s2 := by
  unfold xAndT
  rw [h]
  exact h2
theorem andT_f {d e : Den Bool} (h : d env st = .ok false s) : xAndT d e env st = .ok false s := by
  unfold xAndT
  rw [h]
  first | done | rfl
/-- a check that is passed -/
theorem need_eq (h : d env st = .ok (.bl true) s) : xIfS (xNotT (xTru d)) d1 xSkip env st = .nx env s := (ifS_eq (not_t (tru_t h))).trans rfl
theorem expr_eq (h : d env st = .ok p s) : xExpr d env st = .nx env s := by
  unfold xExpr
  rw [h]
end
theorem app_eq {env : Env} {st s : Sto} {j : Nat} {ps : List PV} {q : PV} {d : Den PV} (he : env[j]? = some (.ow (.lst ps))) (h : d env st = .ok q s) (hz : ps.length < 16777216) : xApp j d env st = .nx (env.set j (.ow (.lst (ps ++ [q])))) s := by
  unfold xApp
  rw [he]
  show (Res.thenS (d env st) _) = _
  rw [h]
  exact if_pos hz
theorem sorted_ints (ns : List Int) : sortedPV (.lst (ns.map .int)) = some (.lst ((isort ltI ns).map .int)) := by
  show (match intsOf (ns.map .int) with
    | some ns => some (PV.lst ((isort ltI ns).map .int))
    | none => (match strsOf (ns.map .int) with
      | some ss => some (.lst ((isort ltS ss).map .str))
      | none => none)) = _
  rw [intsOf_map]
/-- the joints of a course from a on, round n -/
def offs (n : Int) : List Nat → Int → List Int
  | [], _ => []
  | c :: r, a => a % n :: offs n r (a + szc c)
theorem offs_len (n : Int) : ∀ (s : List Nat) (a : Int), (offs n s a).length = s.length
  | [], _ => rfl
  | c :: r, a => congrArg (· + 1) (offs_len n r (a + szc c))
def JP (s : List Nat) (a : Int) : List Int := isort ltI (offs (szL s) s a)
theorem all_true {α : Type} (l : List α) : allPV (.lst (l.map fun _ => PV.bl true)) = some (.bl true) := by
  show (blsOf _).map _ = _
  rw [blsOf_mapf]
  simp
theorem sum_szc (l : List Nat) : sumPV (.lst (l.map fun c => PV.int (szc c))) = some (.int (szL l)) := by
  show (intsOf _).map _ = _
  rw [intsOf_mapf]
  rfl
theorem len_le_sz {s : List Nat} (h : Sg s) : (s.length : Int) ≤ szL s := by
  induction s with
  | nil => decide
  | cons c r ih =>
    have h1 := szc_pos (h c List.mem_cons_self)
    have h2 := ih fun x hx => h x (List.mem_cons_of_mem _ hx)
    unfold szL at *
    rw [List.map_cons, List.sum_cons, List.length_cons]
    omega
end Vl

set_option Elab.async false
set_option linter.all false
set_option maxRecDepth 100000
set_option maxHeartbeats 1000000
namespace Vl
open PySem PySem.Spec PyProof.Rows L2
/-! ### rounds -/
theorem mod_ne {a d n : Int} (hd : 1 ≤ d) (hn : d < n) : (a + d) % n ≠ a % n := by
  intro e
  have h := Int.emod_emod_of_dvd (a + d - a) (Int.dvd_refl n)
  have h2 : (a + d - a) % n = 0 := Int.emod_eq_emod_iff_emod_sub_eq_zero.mp e
  rw [show a + d - a = d by omega] at h2
  rw [Int.emod_eq_of_lt (by omega) hn] at h2
  omega
theorem szL_cons (c : Nat) (r : List Nat) : szL (c :: r) = szc c + szL r := by
  unfold szL
  rw [List.map_cons, List.sum_cons]
theorem szL_nn {s : List Nat} (h : Sg s) : 0 ≤ szL s := by
  have := len_le_sz h
  omega
theorem offs_mem {n : Int} : ∀ {r : List Nat} {b x : Int}, Sg r → x ∈ offs n r b → ∃ q, 0 ≤ q ∧ q < szL r ∧ x = (b + q) % n
  | [], _, _, _, h => absurd h (by simp [offs])
  | c :: r, b, x, hs, h => by
    have h1 := szc_pos (hs c List.mem_cons_self)
    have h2 := szL_nn (s := r) fun y hy => hs y (List.mem_cons_of_mem _ hy)
    rw [szL_cons]
    rcases List.mem_cons.mp h with rfl | h
    · exact ⟨0, by omega, by omega, by rw [Int.add_zero]⟩
    · obtain ⟨q, q1, q2, rfl⟩ := offs_mem (r := r) (fun y hy => hs y (List.mem_cons_of_mem _ hy)) h
      exact ⟨szc c + q, by omega, by omega, by rw [Int.add_assoc]⟩
theorem offs_nodup {n : Int} : ∀ {r : List Nat} (b : Int), Sg r → szL r ≤ n → (offs n r b).Nodup
  | [], _, _, _ => List.nodup_nil
  | c :: r, b, hs, hz => by
    have h1 := szc_pos (hs c List.mem_cons_self)
    rw [szL_cons] at hz
    have hs2 : Sg r := fun y hy => hs y (List.mem_cons_of_mem _ hy)
    refine List.nodup_cons.mpr ⟨fun h => ?_, offs_nodup (b + szc c) hs2 (by omega)⟩
    obtain ⟨q, q1, q2, e⟩ := offs_mem hs2 h
    rw [Int.add_assoc] at e
    exact mod_ne (a := b) (d := szc c + q) (n := n) (by omega) (by omega) e.symm
theorem offs_mod {n : Int} : ∀ (r : List Nat) (a b : Int), a % n = b % n → offs n r a = offs n r b
  | [], _, _, _ => rfl
  | c :: r, a, b, h => by
    show a % n :: offs n r (a + szc c) = b % n :: offs n r (b + szc c)
    rw [h, offs_mod r (a + szc c) (b + szc c) (by rw [Int.add_emod, h, ← Int.add_emod])]
theorem putPV_new {ks : List Int} {a : Int} (h : a ∉ ks) : putPV (ks.map fun x => (PV.int x, PV.bl true)) (.int a) (.bl true) = (ks ++ [a]).map fun x => (PV.int x, PV.bl true) := by
  have e : ((ks.map fun x => (PV.int x, PV.bl true)).any fun kv => keyEq kv.1 (.int a)) = false := by
    rw [List.any_map, List.any_eq_false]
    intro x hx
    show ¬ (decide (x = a) = true)
    rw [decide_eq_true_iff]
    rintro rfl
    exact h hx
  unfold putPV
  rw [e, if_neg Bool.false_ne_true, List.map_append]
  rfl
theorem sorted_keys (ks : List Int) (h : ks.length < 64) : sortedPV (.dct false (ks.map fun x => (PV.int x, PV.bl true))) = some (.lst ((isort ltI ks).map .int)) := by
  have c : (ks.map fun x => (PV.int x, PV.bl true)).length < 64 := by rw [List.length_map]; exact h
  refine (if_pos c).trans ?_
  rw [List.map_map]
  show (intsOf (ks.map PV.int)).map _ = _
  rw [intsOf_map]
  rfl
theorem dput_eq {env : Env} {st s s2 : Sto} {j : Nat} {kvs : List (PV × PV)} {q k : PV} {d dk : Den PV} (h : d env st = .ok q s) (he : env[j]? = some (.ow (.dct false kvs))) (h2 : dk env s = .ok k s2) (hk : isKey k = true) (hz : kvs.length < 16777216) : xDput j dk d env st = .nx (env.set j (.ow (.dct false (putPV kvs k q)))) s2 := by
  have c : isKey k = true ∧ kvs.length < 16777216 := ⟨hk, hz⟩
  unfold xDput
  rw [h]
  show (match env[j]? with
    | some (.ow (.dct false kvs)) => (dk env s).thenS fun k s1 => if isKey k = true ∧ kvs.length < 16777216 then SRes.nx (env.set j (.ow (.dct false (putPV kvs k q)))) s1 else .no
    | _ => .no) = _
  rw [he]
  show (Res.thenS (dk env s) _) = _
  rw [h2]
  exact if_pos c
/-! ### two generators, read -/
theorem compL2_map {α β : Type} {vs1 : List Nat} {g g1 : PV → Env → Option Env} {dt dt1 : Den Bool} {di1 : Den (List PV)} {de : Den PV} {env : Env} {st : Sto} (w : α → PV) (w1 : β → PV) (l1 : List β) (f : α → β → PV) : ∀ (l : List α),
    (∀ x ∈ l, ∃ env', g (w x) env = some env' ∧ dt env' st = .ok true st ∧ di1 env' st = .ok (l1.map w1) st ∧ notOwB env' vs1 = true ∧ ∀ y ∈ l1, ∃ env'', g1 (w1 y) (wipeE env' vs1) = some env'' ∧ dt1 env'' st = .ok true st ∧ de env'' st = .ok (f x y) st) →
    compL2 vs1 g dt di1 g1 dt1 de (l.map w) env st = .ok (l.flatMap fun x => l1.map (f x)) st
  | [], _ => rfl
  | x :: l, h => by
    obtain ⟨env', h1, h2, h3, h4, h5⟩ := h x List.mem_cons_self
    have ih := compL2_map w w1 l1 f l fun y hy => h y (List.mem_cons_of_mem _ hy)
    have e := compL_map (g := g1) (dt := dt1) (de := de) (env := wipeE env' vs1) (st := st) w1 (fun _ => true) (f x) l1 fun y hy => by
      obtain ⟨env'', k1, k2, k3⟩ := h5 y hy
      exact ⟨env'', k1, k2, fun _ => k3⟩
    rw [filter_all] at e
    rw [List.map_cons]
    unfold compL2
    rw [h1]
    simp only [h2, h3]
    rw [if_pos h4]
    simp only [e, ih]
    rw [List.flatMap_cons]
theorem xLc2_eq {vs vs1 : List Nat} {g g1 : PV → Env → Option Env} {dt dt1 : Den Bool} {de : Den PV} {di di1 : Den (List PV)} {env : Env} {st s1 s2 : Sto} {items ps : List PV} (h : di env st = .ok items s1) (hb : notOwB env vs = true) (hc : compL2 vs1 g dt di1 g1 dt1 de items (wipeE env vs) s1 = .ok ps s2) (hz : ps.length ≤ 16777216) : xLc2 vs vs1 g dt di1 g1 dt1 de di env st = .ok (.lst ps) s2 := by
  unfold xLc2
  rw [h]
  refine (if_pos hb).trans ?_
  rw [hc]
  exact if_pos hz
/-- min(g, n - g) -/
def foldG (n g : Int) : Int := if n - g < g then n - g else g
def gapsP (n : Int) (J1 J2 : List Int) : List Int := J1.flatMap fun h => J2.map fun t => (h - t) % n
def LP (n : Int) (J1 J2 : List Int) : Int := (minL ((gapsP n J1 J2).map (foldG n))).getD 0
theorem minL_spec {l : List Int} (h : l ≠ []) : ∃ m, minL l = some m ∧ m ∈ l ∧ ∀ y ∈ l, m ≤ y := by
  cases l with
  | nil => exact absurd rfl h
  | cons x r =>
    obtain ⟨h1, h2⟩ := foldl_min r x
    exact ⟨_, rfl, h1, h2⟩
theorem min_ints (l : List Int) : minPV (.lst (l.map .int)) = (minL l).map .int := by
  show ((intsOf (l.map .int)).bind _) = _ 
  rw [intsOf_map]
  rfl
end Vl

set_option Elab.async false
set_option linter.all false
set_option maxRecDepth 100000
set_option maxHeartbeats 4000000
namespace Vl
open PySem PySem.Spec PyProof.Rows L2
def topS (i : Nat) : Stmt := PySem.Challenge.pw_brickbonds_k61_whole_spirals.main.body.getD i (.Pass ⟨0, 0, 0, 0⟩)
def tab_SIZES : List (List Nat × Int) := [([115], 4), ([104], 2), ([116], 3), ([113], 1)]
abbrev s__law_cup : Stmt := topS 31
theorem sc__law_cup : FnScope ["script", "cell"] ["script"] (defScope s__law_cup) := ⟨rfl, rfl, rfl, by decide +kernel, rfl, by decide +kernel, by decide +kernel⟩
theorem ok__law_cup {P : Program} {w : World} {K : PySem.W.Frag} {mg : Str → Option Value} {base : Heap} {fa : Addr} {fd : FuncData} (F0 : Fun K "_law_cup" "_law_cup" s__law_cup fa fd) (m_abs : mg "abs" = none) (m_list : mg "list" = none) (m_int : mg "int" = none) :
    FnOk P w K mg base (L2.CX P w) 1 fa fd ["script"] (spCup K 163 419 4027 2077502087 281) := by
  refine F0.okX sc__law_cup (fun vs H Q E h => ?_) (fun cdv A outer s H vs Q E hr h => ?_)
  · obtain ⟨a, ns, rfl, _⟩ := h
    rfl
  obtain ⟨a, ns, rfl, hS, hl, q⟩ := h
  refine ⟨_, pss_cons (ps_set (i := 1) sc__law_cup.nd rfl (.inl rfl) (pe_callB call_abs (by rfl) m_abs rfl (pa_cons (pe_ix ix_list (pe_op op_cat (pe_callTy call_list_of (by rfl) m_list rfl (pa_cons (pv 0) pa_nil)) (pe_lst (pa_cons pe_int pa_nil))) pe_int (fun _ _ => rfl)) pa_nil)))
    (pss_one (ps_ret (pe_lst (pa_cons (pe_ifExp (pt_cmpR op_ge (pv 1) (pe_op op_pow pe_int pe_int) (nomark _)) (pe_op op_fdiv (pv 1) pe_int) pe_int) (pa_cons (pe_op op_add (pe_op op_mod (pe_callTy call_int1 (by rfl) m_int rfl (pa_cons (pe_op op_add (pe_op op_mul (pv 1) pe_int) pe_int) pa_nil)) pe_int) pe_int) pa_nil))))), ?_⟩
  refine ⟨V.ref a, rfl, a, ns.map V.int, rfl, .inl hS, fun l1 n1 => ?_⟩
  have s1 : Same H (upd H l1 (.lst (ns.map V.int))) := same_new n1
  refine ⟨by rw [sizeLine_eq]; decide, fun l2 n2 => ?_⟩
  have n12 : l1 ≠ l2 := fun z => by rw [z, upd_same] at n2; cases n2
  have s2 := s1.trans (same_new (o := .lst [V.int 0]) n2)
  refine ⟨l1, l2, ns.map V.int, [V.int 0], rfl, rfl, by rw [upd_ne n12, upd_same], upd_same, by rw [sizeLine_eq, List.length_map]; simp; omega, fun l3 n3 => ?_⟩
  have s3 := s2.trans (same_new (o := .lst (ns.map V.int ++ [V.int 0])) n3)
  refine ⟨l3, _, 0, .int ((ns ++ [0]).headD 0), rfl, rfl, .inl (.inl upd_same), ?_, (ns ++ [0]).headD 0, rfl, ?_⟩
  · cases ns with
    | nil => exact atI_nat (j := 0) rfl
    | cons x r => exact atI_nat (j := 0) rfl
  have e1 : (if (ns ++ [0]).headD 0 < 0 then -((ns ++ [0]).headD 0) else (ns ++ [0]).headD 0) = headA ns := rfl
  rw [e1]
  refine ⟨V.int (headA ns), rfl, ?_⟩
  refine ⟨10, 18, rfl, rfl, ⟨by decide, by decide, by decide⟩, headA ns, 1000000000000000000, rfl, rfl, _, rfl, ?_⟩
  have e2 : (headA ns * 419 + 4027) % 2077502087 + 281 = cup2 419 4027 2077502087 281 ns := rfl
  by_cases hc : (1000000000000000000 : Int) ≤ headA ns
  · rw [decide_eq_true hc]
    have e3 : headA ns / 163 = cup1 163 ns := (if_pos hc).symm
    refine ⟨V.int (headA ns), rfl, headA ns, 163, rfl, rfl, ⟨by decide, by decide⟩, V.int (headA ns), rfl, headA ns, 419, rfl, rfl, .inr ⟨by decide, by decide⟩, headA ns * 419, 4027, rfl, rfl, .inl ⟨_, rfl, headA ns * 419 + 4027, 2077502087, rfl, rfl, (show (0 : Int) < 2077502087 by decide), _, 281, rfl, rfl, ?_⟩⟩
    refine ⟨by rw [sizeLine_eq]; exact (by decide : 2 ≤ 16777216), fun p hp => q _ p (s3.trans (same_new hp)) (s3.free hp) ?_⟩
    rw [← e3]
    exact upd_same
  · rw [decide_eq_false hc]
    have e3 : (0 : Int) = cup1 163 ns := (if_neg hc).symm
    refine ⟨V.int (headA ns), rfl, headA ns, 419, rfl, rfl, .inr ⟨by decide, by decide⟩, headA ns * 419, 4027, rfl, rfl, .inl ⟨_, rfl, headA ns * 419 + 4027, 2077502087, rfl, rfl, (show (0 : Int) < 2077502087 by decide), _, 281, rfl, rfl, ?_⟩⟩
    refine ⟨by rw [sizeLine_eq]; exact (by decide : 2 ≤ 16777216), fun p hp => q _ p (s3.trans (same_new hp)) (s3.free hp) ?_⟩
    rw [← e3]
    exact upd_same

abbrev s__law_same : Stmt := topS 34
theorem sc__law_same : FnScope ["told", "due", "at"] ["told", "due"] (defScope s__law_same) := ⟨rfl, rfl, rfl, by decide +kernel, rfl, by decide +kernel, by decide +kernel⟩
def b__law_same (F : FDen) : DenS := xSeq (xIfS (xTru (xUn (isiPV "tuple") (xV 1))) (xSeq (xIfS (xOrT (xNotT (xTru (xUn (isiPV "tuple") (xV 0)))) (xTB (xBin (eqPV true) (xUn lenPV (xV 0)) (xUn lenPV (xV 1))))) (xRet (xC (.bl false))) (xSkip)) (xRet (xUn allPV (xLc [2] (gSlot 2) (xYes) (xCall 2 (F) (xCons (xBin idxPV (xV 0) (xV 2)) (xCons (xBin idxPV (xV 1) (xV 2)) (xNil)))) (xRng1 (xUn lenPV (xV 1))))))) (xSkip)) (xSeq (xIfS (xTB (xUn (isNonPV false) (xV 1))) (xRet (xUn (isNonPV false) (xV 0))) (xSkip)) (xSeq (xIfS (xTru (xUn (isiPV "bool") (xV 1))) (xRet (xIf (xTru (xV 1)) (xBin (isBlPV false) (xV 0) (xC (.bl true))) (xBin (isBlPV false) (xV 0) (xC (.bl false))))) (xSkip)) (xSeq (xIfS (xTru (xUn (isiPV "int") (xV 1))) (xRet (xAnd (xUn (isiPV "int") (xV 0)) (xAnd (xUn notPV (xUn (isiPV "bool") (xV 0))) (xBin (eqPV false) (xUn intPV (xV 0)) (xV 1))))) (xSkip)) (xRet (xAnd (xUn (isiPV "str") (xV 0)) (xBin (eqPV false) (xUn strPV (xV 0)) (xV 1)))))))
def F__law_same : Nat → FDen
  | 0 => fun _ _ => .no
  | n + 1 => fnDen .m 3 (b__law_same (F__law_same n))
theorem ds__law_same {P : Program} {w : World} {K : PySem.W.Frag} {mg : Str → Option Value} {base : Heap} {k : Nat} (m_isinstance : mg "isinstance" = none) (m_tuple : mg "tuple" = none) (m_len : mg "len" = none) (m_range : mg "range" = none) {F : FDen} {j : Nat} (hjk : j ≤ k) (c__law_same : CalOk P w K mg base .m j "_law_same" ["told", "due"] F) (m_all : mg "all" = none) (m_bool : mg "bool" = none) (m_int : mg "int" = none) (m_str : mg "str" = none) {fa : Addr} {cdv : Value} {A : Around} {outer : List PySem.Env} {s : Shared} {H : Hp} {E : XK} (hr : Room k (A.deeper (envOfC "_law_same" (defScope s__law_same) s.heap.objs.size fa cdv))) :
    DSs (cxOf (L2.CX P w) P w K mg base ["told", "due", "at"] "_law_same" (defScope s__law_same) fa cdv A outer s H E) (fun cls d _ H => E cls d H) .m (defBody s__law_same) (b__law_same F) :=
  dss_cons (ds_if (dt_tru (d_isi (tyOk_of (by decide +kernel)) (by rfl) m_isinstance rfl (by rfl) m_tuple rfl (d_var 1))) (dss_cons (ds_if (dw_pt (dw_or (dt_not (dt_tru (d_isi (tyOk_of (by decide +kernel)) (by rfl) m_isinstance rfl (by rfl) m_tuple rfl (d_var 0)))) (dw_or1 (dt_cmp op_neP (ok_eq hr.units) (d_call1 call_len ok_len (by rfl) m_len rfl (d_var 0)) (d_call1 call_len ok_len (by rfl) m_len rfl (d_var 1)) (nomark _))))) (dss_one (ds_retC (d_bl))) (dss_nil)) (dss_one (ds_retC (d_call1 (cr_all rfl) ok_all (by rfl) m_all rfl ((d_lc [2] rfl sc__law_same.nd (di_rng1 (by rfl) m_range (d_call1 call_len ok_len (by rfl) m_len rfl (d_var 1))) (blkOk_by (N := ["told", "due", "at"]) (sc := defScope s__law_same) (own := [("at", 2)]) (by decide +kernel)) (fun s_ H_ C_ cl_ fp_ => dg_name 2 sc__law_same.nd) (fun s_ H_ C_ cl_ fp_ => dts_nil) (fun s_ H_ C_ cl_ fp_ => d_cal c__law_same takes0 hr (by rfl) (da_cons (d_ix (d_var 0) (d_var 2)) (da_cons (d_ix (d_var 1) (d_var 2)) (da_nil))) (hjk := hjk))).fc))))) (dss_nil)) (dss_cons (ds_if (dt_isN (d_var 1)) (dss_one (ds_retC (d_isN (d_var 0)))) (dss_nil)) (dss_cons (ds_if (dt_tru (d_isi (tyOk_of (by decide +kernel)) (by rfl) m_isinstance rfl (by rfl) m_bool rfl (d_var 1))) (dss_one (ds_retC (d_ifExp (dt_tru (d_var 1)) (d_cmp op_isBl ok_isB (d_var 0) (d_bl) (nomark _)) (d_cmp op_isBl ok_isB (d_var 0) (d_bl) (nomark _))))) (dss_nil)) (dss_cons (ds_if (dt_tru (d_isi (tyOk_of (by decide +kernel)) (by rfl) m_isinstance rfl (by rfl) m_int rfl (d_var 1))) (dss_one (ds_retC (d_and (d_isi (tyOk_of (by decide +kernel)) (by rfl) m_isinstance rfl (by rfl) m_int rfl (d_var 0)) (d_and (d_not (d_isi (tyOk_of (by decide +kernel)) (by rfl) m_isinstance rfl (by rfl) m_bool rfl (d_var 0))) (d_one (d_cmp op_eqP (ok_eq hr.units) (d_callT call_int1 ok_int (by rfl) m_int rfl (d_var 0)) (d_var 1) (nomark _))))))) (dss_nil)) (dss_one (ds_retC (d_and (d_isi (tyOk_of (by decide +kernel)) (by rfl) m_isinstance rfl (by rfl) m_str rfl (d_var 0)) (d_one (d_cmp op_eqP (ok_eq hr.units) (d_callT SkE.call_str_str ok_str (by rfl) m_str rfl (d_var 0)) (d_var 1) (nomark _)))))))))
theorem ok__law_same {P : Program} {w : World} {K : PySem.W.Frag} {mg : Str → Option Value} {base : Heap} {fa : Addr} {fd : FuncData} (F0 : Fun K "_law_same" "_law_same" s__law_same fa fd) (gf : mg "_law_same" = some (.ref fa)) (m_isinstance : mg "isinstance" = none) (m_tuple : mg "tuple" = none) (m_len : mg "len" = none) (m_range : mg "range" = none) (m_all : mg "all" = none) (m_bool : mg "bool" = none) (m_int : mg "int" = none) (m_str : mg "str" = none) : ∀ n : Nat, CalOk P w K mg base .m (n + 0) "_law_same" ["told", "due"] (F__law_same n)
  | 0 => CalOk.mk' (cal_dead F0 sc__law_same) gf F0.kp (F0.binds (ps := ["told", "due"]) fun _ _ _ _ _ _ us hl => match us, hl with | [_, _], _ => rfl)
  | n + 1 => CalOk.mk' ((fn_sound F0 sc__law_same (fun cdv A outer s H E hr => ds__law_same m_isinstance m_tuple m_len m_range (Nat.le_refl _) (ok__law_same F0 gf m_isinstance m_tuple m_len m_range m_all m_bool m_int m_str n) m_all m_bool m_int m_str hr) rfl).mono (by omega)) gf F0.kp (F0.binds (ps := ["told", "due"]) fun _ _ _ _ _ _ us hl => match us, hl with | [_, _], _ => rfl)
abbrev s__law_roll : Stmt := topS 32
theorem sc__law_roll : FnScope ["cup", "many", "found", "deep"] ["cup", "many"] (defScope s__law_roll) := ⟨rfl, rfl, rfl, by decide +kernel, rfl, by decide +kernel, by decide +kernel⟩
def b__law_roll : DenS := xSeq (xIfS (xTB (xBin gtPV (xIxS (xV 0) (xC (.int 0))) (xC (.int 0)))) (xSeq (xAsg (xBin modPV (xUn intPV (xIxS (xV 0) (xC (.int 0)))) (xV 1)) (gSlot 2)) (xSeq (xPutS (xBin fdivPV (xIxS (xV 0) (xC (.int 0))) (xV 1)) (xV 0) (xC (.int 0))) (xRet (xV 2)))) (xSkip)) (xSeq (xPutS (xBin modPV (xUn intPV (xBin plusPV (xBin mulPV (xIxS (xV 0) (xC (.int 1))) (xC (.int 30859))) (xC (.int 7907)))) (xC (.int 2147482951))) (xV 0) (xC (.int 1))) (xSeq (xAsg (xBin modPV (xUn intPV (xBin mulPV (xIxS (xV 0) (xC (.int 1))) (xBin plusPV (xIxS (xV 0) (xC (.int 1))) (xC (.int 311))))) (xC (.int 2147483059))) (gSlot 3)) (xRet (xBin modPV (xUn intPV (xBin fdivPV (xV 3) (xC (.int 929)))) (xV 1)))))
def F__law_roll : FDen := fnDen .m 4 b__law_roll
theorem ds__law_roll {P : Program} {w : World} {K : PySem.W.Frag} {mg : Str → Option Value} {base : Heap}  (m_int : mg "int" = none) {fa : Addr} {cdv : Value} {A : Around} {outer : List PySem.Env} {s : Shared} {H : Hp} {E : XK} (hr : Room 0 (A.deeper (envOfC "_law_roll" (defScope s__law_roll) s.heap.objs.size fa cdv))) :
    DSs (cxOf (L2.CX P w) P w K mg base ["cup", "many", "found", "deep"] "_law_roll" (defScope s__law_roll) fa cdv A outer s H E) (fun cls d _ H => E cls d H) .m (defBody s__law_roll) (b__law_roll) :=
  dss_cons (ds_if (dt_cmp op_gt ok_cmp (d_ixS (d_var 0) (d_int)) (d_int) (nomark _)) (dss_cons (ds_set 2 sc__law_roll.nd (d_bin op_mod ok_mod (d_callT call_int1 ok_int (by rfl) m_int rfl (d_ixS (d_var 0) (d_int))) (d_var 1))) (dss_cons (ds_putS (d_bin op_fdiv ok_fdiv (d_ixS (d_var 0) (d_int)) (d_var 1)) (d_var 0) (d_int)) (dss_one (ds_retC (d_var 2))))) (dss_nil)) (dss_cons (ds_putS (d_bin op_mod ok_mod (d_callT call_int1 ok_int (by rfl) m_int rfl (d_bin op_plus ok_plusC (d_bin op_mulA ok_mulC (d_ixS (d_var 0) (d_int)) (d_int)) (d_int))) (d_int)) (d_var 0) (d_int)) (dss_cons (ds_set 3 sc__law_roll.nd (d_bin op_mod ok_mod (d_callT call_int1 ok_int (by rfl) m_int rfl (d_bin op_mulA ok_mulC (d_ixS (d_var 0) (d_int)) (d_bin op_plus ok_plusC (d_ixS (d_var 0) (d_int)) (d_int)))) (d_int))) (dss_one (ds_retC (d_bin op_mod ok_mod (d_callT call_int1 ok_int (by rfl) m_int rfl (d_bin op_fdiv ok_fdiv (d_var 3) (d_int))) (d_var 1))))))
theorem ok__law_roll {P : Program} {w : World} {K : PySem.W.Frag} {mg : Str → Option Value} {base : Heap} {fa : Addr} {fd : FuncData} (F0 : Fun K "_law_roll" "_law_roll" s__law_roll fa fd) (gf : mg "_law_roll" = some (.ref fa)) (m_int : mg "int" = none) : CalOk P w K mg base .m 1 "_law_roll" ["cup", "many"] F__law_roll :=
  CalOk.mk' (fn_sound F0 sc__law_roll (fun cdv A outer s H E hr => ds__law_roll m_int hr) rfl) gf F0.kp (F0.binds (ps := ["cup", "many"]) fun _ _ _ _ _ _ us hl => match us, hl with | [_, _], _ => rfl)
abbrev s_fits_course : Stmt := topS 13
theorem sc_fits_course : FnScope ["value", "sign"] ["value"] (defScope s_fits_course) := ⟨rfl, rfl, rfl, by decide +kernel, rfl, by decide +kernel, by decide +kernel⟩
def b_fits_course : DenS := xSeq (xIfS (xOrT (xNotT (xTru (xUn (isiPV "str") (xV 0)))) (xOrT (xNotT (xTB (xChain lePV lePV (xC (.int 1)) (xUn lenPV (xV 0)) (xC (.int 24))))) (xNotT (xTru (xUn allPV (xLc [1] (gSlot 1) (xYes) (xUn (inTab tab_SIZES) (xV 1)) (xItems (xV 0)))))))) (xRet (xC (.bl false))) (xSkip)) (xRet (xBin lePV (xUn sumPV (xLc [1] (gSlot 1) (xYes) (xUn (tabPV tab_SIZES) (xV 1)) (xItems (xV 0)))) (xC (.int 60))))
def F_fits_course : FDen := fnDen .m 2 b_fits_course
theorem ds_fits_course {P : Program} {w : World} {K : PySem.W.Frag} {mg : Str → Option Value} {base : Heap}  (m_isinstance : mg "isinstance" = none) (m_str : mg "str" = none) (m_len : mg "len" = none) (g_MANY : ∃ t, mg "MANY" = some (.int 24 t)) (t_SIZES : GTab K w mg "SIZES" tab_SIZES) (m_all : mg "all" = none) (m_sum : mg "sum" = none) (g_LONG : ∃ t, mg "LONG" = some (.int 60 t)) {fa : Addr} {cdv : Value} {A : Around} {outer : List PySem.Env} {s : Shared} {H : Hp} {E : XK} (hr : Room 0 (A.deeper (envOfC "fits_course" (defScope s_fits_course) s.heap.objs.size fa cdv))) :
    DSs (cxOf (L2.CX P w) P w K mg base ["value", "sign"] "fits_course" (defScope s_fits_course) fa cdv A outer s H E) (fun cls d _ H => E cls d H) .m (defBody s_fits_course) (b_fits_course) :=
  dss_cons (ds_if (dw_pt (dw_or (dt_not (dt_tru (d_isi (tyOk_of (by decide +kernel)) (by rfl) m_isinstance rfl (by rfl) m_str rfl (d_var 0)))) (dw_or (dt_not (dt_chain op_le op_le ok_cmp ok_cmp (d_int) (d_call1 call_len ok_len (by rfl) m_len rfl (d_var 0)) ((by obtain ⟨t, ht⟩ := g_MANY; exact d_gint 24 (by rfl) ht)))) (dw_or1 (dt_not (dt_tru (d_call1 (cr_all rfl) ok_all (by rfl) m_all rfl ((d_lc [1] rfl sc_fits_course.nd (di_seq (d_var 0)) (blkOk_by (N := ["value", "sign"]) (sc := defScope s_fits_course) (own := [("sign", 1)]) (by decide +kernel)) (fun s_ H_ C_ cl_ fp_ => dg_name 1 sc_fits_course.nd) (fun s_ H_ C_ cl_ fp_ => dts_nil) (fun s_ H_ C_ cl_ fp_ => d_inTab t_SIZES (by rfl) (d_var 1))).fc)))))))) (dss_one (ds_retC (d_bl))) (dss_nil)) (dss_one (ds_retC (d_cmp op_le ok_cmp (d_call1 (cr_sum rfl) ok_sum (by rfl) m_sum rfl ((d_lc [1] rfl sc_fits_course.nd (di_seq (d_var 0)) (blkOk_by (N := ["value", "sign"]) (sc := defScope s_fits_course) (own := [("sign", 1)]) (by decide +kernel)) (fun s_ H_ C_ cl_ fp_ => dg_name 1 sc_fits_course.nd) (fun s_ H_ C_ cl_ fp_ => dts_nil) (fun s_ H_ C_ cl_ fp_ => d_gtab t_SIZES (by rfl) (d_var 1))).fc)) ((by obtain ⟨t, ht⟩ := g_LONG; exact d_gint 60 (by rfl) ht)) (nomark _))))
theorem ok_fits_course {P : Program} {w : World} {K : PySem.W.Frag} {mg : Str → Option Value} {base : Heap} {fa : Addr} {fd : FuncData} (F0 : Fun K "fits_course" "fits_course" s_fits_course fa fd) (gf : mg "fits_course" = some (.ref fa)) (m_isinstance : mg "isinstance" = none) (m_str : mg "str" = none) (m_len : mg "len" = none) (g_MANY : ∃ t, mg "MANY" = some (.int 24 t)) (t_SIZES : GTab K w mg "SIZES" tab_SIZES) (m_all : mg "all" = none) (m_sum : mg "sum" = none) (g_LONG : ∃ t, mg "LONG" = some (.int 60 t)) : CalOk P w K mg base .m 1 "fits_course" ["value"] F_fits_course :=
  CalOk.mk' (fn_sound F0 sc_fits_course (fun cdv A outer s H E hr => ds_fits_course m_isinstance m_str m_len g_MANY t_SIZES m_all m_sum g_LONG hr) rfl) gf F0.kp (F0.binds (ps := ["value"]) fun _ _ _ _ _ _ us hl => match us, hl with | [_], _ => rfl)
abbrev s_need_course : Stmt := topS 14
theorem sc_need_course : FnScope ["value"] ["value"] (defScope s_need_course) := ⟨rfl, rfl, rfl, by decide +kernel, rfl, by decide +kernel, by decide +kernel⟩
def b_need_course : DenS := xIfS (xNotT (xTru (xCall 1 (F_fits_course) (xCons (xV 0) (xNil))))) (xDead) (xSkip)
def F_need_course : FDen := fnDen .m 1 b_need_course
theorem ds_need_course {P : Program} {w : World} {K : PySem.W.Frag} {mg : Str → Option Value} {base : Heap}  (c_fits_course : CalOk P w K mg base .m 1 "fits_course" ["value"] F_fits_course) {fa : Addr} {cdv : Value} {A : Around} {outer : List PySem.Env} {s : Shared} {H : Hp} {E : XK} (hr : Room 1 (A.deeper (envOfC "need_course" (defScope s_need_course) s.heap.objs.size fa cdv))) :
    DSs (cxOf (L2.CX P w) P w K mg base ["value"] "need_course" (defScope s_need_course) fa cdv A outer s H E) (fun cls d _ H => E cls d H) .m (defBody s_need_course) (b_need_course) :=
  dss_one (ds_if (dt_not (dt_tru (d_cal c_fits_course (takes_of rfl rfl rfl rfl) hr (by rfl) (da_cons (d_var 0) (da_nil)) ))) (dss_one (ds_dead)) (dss_nil))
theorem ok_need_course {P : Program} {w : World} {K : PySem.W.Frag} {mg : Str → Option Value} {base : Heap} {fa : Addr} {fd : FuncData} (F0 : Fun K "need_course" "need_course" s_need_course fa fd) (gf : mg "need_course" = some (.ref fa)) (c_fits_course : CalOk P w K mg base .m 1 "fits_course" ["value"] F_fits_course) : CalOk P w K mg base .m 2 "need_course" ["value"] F_need_course :=
  CalOk.mk' (fn_sound F0 sc_need_course (fun cdv A outer s H E hr => ds_need_course c_fits_course hr) rfl) gf F0.kp (F0.binds (ps := ["value"]) fun _ _ _ _ _ _ us hl => match us, hl with | [_], _ => rfl)
abbrev s_length_in : Stmt := topS 16
theorem sc_length_in : FnScope ["course", "sign"] ["course"] (defScope s_length_in) := ⟨rfl, rfl, rfl, by decide +kernel, rfl, by decide +kernel, by decide +kernel⟩
def b_length_in : DenS := xRet (xUn sumPV (xLc [1] (gSlot 1) (xYes) (xUn (tabPV tab_SIZES) (xV 1)) (xItems (xV 0))))
def F_length_in : FDen := fnDen .m 2 b_length_in
theorem ds_length_in {P : Program} {w : World} {K : PySem.W.Frag} {mg : Str → Option Value} {base : Heap}  (t_SIZES : GTab K w mg "SIZES" tab_SIZES) (m_sum : mg "sum" = none) {fa : Addr} {cdv : Value} {A : Around} {outer : List PySem.Env} {s : Shared} {H : Hp} {E : XK} (hr : Room 0 (A.deeper (envOfC "length_in" (defScope s_length_in) s.heap.objs.size fa cdv))) :
    DSs (cxOf (L2.CX P w) P w K mg base ["course", "sign"] "length_in" (defScope s_length_in) fa cdv A outer s H E) (fun cls d _ H => E cls d H) .m (defBody s_length_in) (b_length_in) :=
  dss_one (ds_retC (d_call1 (cr_sum rfl) ok_sum (by rfl) m_sum rfl ((d_lc [1] rfl sc_length_in.nd (di_seq (d_var 0)) (blkOk_by (N := ["course", "sign"]) (sc := defScope s_length_in) (own := [("sign", 1)]) (by decide +kernel)) (fun s_ H_ C_ cl_ fp_ => dg_name 1 sc_length_in.nd) (fun s_ H_ C_ cl_ fp_ => dts_nil) (fun s_ H_ C_ cl_ fp_ => d_gtab t_SIZES (by rfl) (d_var 1))).fc)))
theorem ok_length_in {P : Program} {w : World} {K : PySem.W.Frag} {mg : Str → Option Value} {base : Heap} {fa : Addr} {fd : FuncData} (F0 : Fun K "length_in" "length_in" s_length_in fa fd) (gf : mg "length_in" = some (.ref fa)) (t_SIZES : GTab K w mg "SIZES" tab_SIZES) (m_sum : mg "sum" = none) : CalOk P w K mg base .m 1 "length_in" ["course"] F_length_in :=
  CalOk.mk' (fn_sound F0 sc_length_in (fun cdv A outer s H E hr => ds_length_in t_SIZES m_sum hr) rfl) gf F0.kp (F0.binds (ps := ["course"]) fun _ _ _ _ _ _ us hl => match us, hl with | [_], _ => rfl)
abbrev s_joints_in : Stmt := topS 23
theorem sc_joints_in : FnScope ["ring", "course", "at", "size", "found", "sign"] ["ring"] (defScope s_joints_in) := ⟨rfl, rfl, rfl, by decide +kernel, rfl, by decide +kernel, by decide +kernel⟩
def b_joints_in : DenS := xSeq (xAsg (xV 0) (gTupE 2 (gConsE (gSlot 1) (gConsE (gSlot 2) (gNilE))))) (xSeq (xPar [(3, false), (4, true)] (xCons (xCall 1 (F_length_in) (xCons (xV 1) (xNil))) (xCons (xLst (xNil)) (xNil)))) (xSeq (xFor (xItems (xV 1)) (gSlot 5) (xSeq (xApp 4 (xBin modPV (xV 2) (xV 3))) (xAsg (xBin plusPV (xV 2) (xUn (tabPV tab_SIZES) (xV 5))) (gSlot 2)))) (xRet (xUn sortedPV (xO 4)))))
def F_joints_in : FDen := fnDen .m 6 b_joints_in
theorem ds_joints_in {P : Program} {w : World} {K : PySem.W.Frag} {mg : Str → Option Value} {base : Heap}  (c_length_in : CalOk P w K mg base .m 1 "length_in" ["course"] F_length_in) (t_SIZES : GTab K w mg "SIZES" tab_SIZES) (m_sorted : mg "sorted" = none) {fa : Addr} {cdv : Value} {A : Around} {outer : List PySem.Env} {s : Shared} {H : Hp} {E : XK} (hr : Room 1 (A.deeper (envOfC "joints_in" (defScope s_joints_in) s.heap.objs.size fa cdv))) :
    DSs (cxOf (L2.CX P w) P w K mg base ["ring", "course", "at", "size", "found", "sign"] "joints_in" (defScope s_joints_in) fa cdv A outer s H E) (fun cls d _ H => E cls d H) .m (defBody s_joints_in) (b_joints_in) :=
  dss_cons (ds_asg (d_var 0) (dg_tup rfl (dgs_cons (dg_name 1 sc_joints_in.nd) (dgs_cons (dg_name 2 sc_joints_in.nd) (dgs_nil) (gSlot_ow 2)) (gSlot_ow 1)))) (dss_cons (ds_par2 3 4 false true rfl sc_joints_in.nd (dao_pl (d_cal c_length_in (takes_of rfl rfl rfl rfl) hr (by rfl) (da_cons (d_var 1) (da_nil)) ) (dao_ow (d_lst (da_nil)) (dao_nil)))) (dss_cons (ds_for (passes_of rfl) rfl (di_seq (d_var 1)) (dg_name 5 sc_joints_in.nd) (dss_cons (ds_app 4 (d_bin op_mod ok_mod (d_var 2) (d_var 3))) (dss_one (ds_set 2 sc_joints_in.nd (d_bin op_plus ok_plusC (d_var 2) (d_gtab t_SIZES (by rfl) (d_var 5))))))) (dss_one (ds_retF (d_sorted rfl (by rfl) m_sorted (d_own 4))))))
theorem ok_joints_in {P : Program} {w : World} {K : PySem.W.Frag} {mg : Str → Option Value} {base : Heap} {fa : Addr} {fd : FuncData} (F0 : Fun K "joints_in" "joints_in" s_joints_in fa fd) (gf : mg "joints_in" = some (.ref fa)) (c_length_in : CalOk P w K mg base .m 1 "length_in" ["course"] F_length_in) (t_SIZES : GTab K w mg "SIZES" tab_SIZES) (m_sorted : mg "sorted" = none) : CalOk P w K mg base .m 2 "joints_in" ["ring"] F_joints_in :=
  CalOk.mk' (fn_sound F0 sc_joints_in (fun cdv A outer s H E hr => ds_joints_in c_length_in t_SIZES m_sorted hr) rfl) gf F0.kp (F0.binds (ps := ["ring"]) fun _ _ _ _ _ _ us hl => match us, hl with | [_], _ => rfl)
abbrev s_is_whole : Stmt := topS 10
theorem sc_is_whole : FnScope ["value"] ["value"] (defScope s_is_whole) := ⟨rfl, rfl, rfl, by decide +kernel, rfl, by decide +kernel, by decide +kernel⟩
def b_is_whole : DenS := xRet (xAnd (xUn (isiPV "int") (xV 0)) (xUn notPV (xUn (isiPV "bool") (xV 0))))
def F_is_whole : FDen := fnDen .m 1 b_is_whole
theorem ds_is_whole {P : Program} {w : World} {K : PySem.W.Frag} {mg : Str → Option Value} {base : Heap}  (m_isinstance : mg "isinstance" = none) (m_int : mg "int" = none) (m_bool : mg "bool" = none) {fa : Addr} {cdv : Value} {A : Around} {outer : List PySem.Env} {s : Shared} {H : Hp} {E : XK} (hr : Room 0 (A.deeper (envOfC "is_whole" (defScope s_is_whole) s.heap.objs.size fa cdv))) :
    DSs (cxOf (L2.CX P w) P w K mg base ["value"] "is_whole" (defScope s_is_whole) fa cdv A outer s H E) (fun cls d _ H => E cls d H) .m (defBody s_is_whole) (b_is_whole) :=
  dss_one (ds_retC (d_and (d_isi (tyOk_of (by decide +kernel)) (by rfl) m_isinstance rfl (by rfl) m_int rfl (d_var 0)) (d_one (d_not (d_isi (tyOk_of (by decide +kernel)) (by rfl) m_isinstance rfl (by rfl) m_bool rfl (d_var 0))))))
theorem ok_is_whole {P : Program} {w : World} {K : PySem.W.Frag} {mg : Str → Option Value} {base : Heap} {fa : Addr} {fd : FuncData} (F0 : Fun K "is_whole" "is_whole" s_is_whole fa fd) (gf : mg "is_whole" = some (.ref fa)) (m_isinstance : mg "isinstance" = none) (m_int : mg "int" = none) (m_bool : mg "bool" = none) : CalOk P w K mg base .m 1 "is_whole" ["value"] F_is_whole :=
  CalOk.mk' (fn_sound F0 sc_is_whole (fun cdv A outer s H E hr => ds_is_whole m_isinstance m_int m_bool hr) rfl) gf F0.kp (F0.binds (ps := ["value"]) fun _ _ _ _ _ _ us hl => match us, hl with | [_], _ => rfl)
abbrev s_fits_whole : Stmt := topS 11
theorem sc_fits_whole : FnScope ["value", "low", "high"] ["value", "low", "high"] (defScope s_fits_whole) := ⟨rfl, rfl, rfl, by decide +kernel, rfl, by decide +kernel, by decide +kernel⟩
def b_fits_whole : DenS := xRet (xAnd (xCall 1 (F_is_whole) (xCons (xV 0) (xNil))) (xChain lePV lePV (xV 1) (xV 0) (xV 2)))
def F_fits_whole : FDen := fnDen .m 3 b_fits_whole
theorem ds_fits_whole {P : Program} {w : World} {K : PySem.W.Frag} {mg : Str → Option Value} {base : Heap}  (c_is_whole : CalOk P w K mg base .m 1 "is_whole" ["value"] F_is_whole) {fa : Addr} {cdv : Value} {A : Around} {outer : List PySem.Env} {s : Shared} {H : Hp} {E : XK} (hr : Room 1 (A.deeper (envOfC "fits_whole" (defScope s_fits_whole) s.heap.objs.size fa cdv))) :
    DSs (cxOf (L2.CX P w) P w K mg base ["value", "low", "high"] "fits_whole" (defScope s_fits_whole) fa cdv A outer s H E) (fun cls d _ H => E cls d H) .m (defBody s_fits_whole) (b_fits_whole) :=
  dss_one (ds_retC (d_and (d_cal c_is_whole (takes_of rfl rfl rfl rfl) hr (by rfl) (da_cons (d_var 0) (da_nil)) ) (d_one (d_chain op_le op_le ok_cmp ok_cmp (d_var 1) (d_var 0) (d_var 2)))))
theorem ok_fits_whole {P : Program} {w : World} {K : PySem.W.Frag} {mg : Str → Option Value} {base : Heap} {fa : Addr} {fd : FuncData} (F0 : Fun K "fits_whole" "fits_whole" s_fits_whole fa fd) (gf : mg "fits_whole" = some (.ref fa)) (c_is_whole : CalOk P w K mg base .m 1 "is_whole" ["value"] F_is_whole) : CalOk P w K mg base .m 2 "fits_whole" ["value", "low", "high"] F_fits_whole :=
  CalOk.mk' (fn_sound F0 sc_fits_whole (fun cdv A outer s H E hr => ds_fits_whole c_is_whole hr) rfl) gf F0.kp (F0.binds (ps := ["value", "low", "high"]) fun _ _ _ _ _ _ us hl => match us, hl with | [_, _, _], _ => rfl)
abbrev s_spiral_again : Stmt := topS 29
theorem sc_spiral_again : FnScope ["course", "step", "size", "joints", "many"] ["course", "step"] (defScope s_spiral_again) := ⟨rfl, rfl, rfl, by decide +kernel, rfl, by decide +kernel, by decide +kernel⟩
def b_spiral_again : DenS := xSeq (xExpr (xCall 1 (F_need_course) (xCons (xV 0) (xNil)))) (xSeq (xAsg (xCall 1 (F_length_in) (xCons (xV 0) (xNil))) (gSlot 2)) (xSeq (xIfS (xNotT (xTru (xCall 3 (F_fits_whole) (xCons (xV 1) (xCons (xC (.int 0)) (xCons (xBin minusPV (xV 2) (xC (.int 1))) (xNil))))))) (xDead) (xSkip)) (xSeq (xAsg (xCall 1 (F_joints_in) (xCons (xTup (xCons (xV 0) (xCons (xC (.int 0)) (xNil)))) (xNil))) (gSlot 3)) (xRet (xBin idxPV (xLc [4] (gSlot 4) (xTB (xBin (eqPV false) (xCall 1 (F_joints_in) (xCons (xTup (xCons (xV 0) (xCons (xBin modPV (xBin mulPV (xV 1) (xV 4)) (xV 2)) (xNil)))) (xNil))) (xV 3))) (xV 4) (xRng2 (xC (.int 1)) (xBin plusPV (xV 2) (xC (.int 1))))) (xC (.int 0)))))))
def F_spiral_again : FDen := fnDen .m 5 b_spiral_again
theorem ds_spiral_again {P : Program} {w : World} {K : PySem.W.Frag} {mg : Str → Option Value} {base : Heap}  (c_need_course : CalOk P w K mg base .m 2 "need_course" ["value"] F_need_course) (c_length_in : CalOk P w K mg base .m 1 "length_in" ["course"] F_length_in) (c_fits_whole : CalOk P w K mg base .m 2 "fits_whole" ["value", "low", "high"] F_fits_whole) (c_joints_in : CalOk P w K mg base .m 2 "joints_in" ["ring"] F_joints_in) (m_range : mg "range" = none) {fa : Addr} {cdv : Value} {A : Around} {outer : List PySem.Env} {s : Shared} {H : Hp} {E : XK} (hr : Room 2 (A.deeper (envOfC "spiral_again" (defScope s_spiral_again) s.heap.objs.size fa cdv))) :
    DSs (cxOf (L2.CX P w) P w K mg base ["course", "step", "size", "joints", "many"] "spiral_again" (defScope s_spiral_again) fa cdv A outer s H E) (fun cls d _ H => E cls d H) .m (defBody s_spiral_again) (b_spiral_again) :=
  dss_cons (ds_expr (d_cal c_need_course (takes_of rfl rfl rfl rfl) hr (by rfl) (da_cons (d_var 0) (da_nil)) )) (dss_cons (ds_set 2 sc_spiral_again.nd (d_cal c_length_in (takes_of rfl rfl rfl rfl) hr (by rfl) (da_cons (d_var 0) (da_nil)) )) (dss_cons (ds_if (dt_not (dt_tru (d_cal c_fits_whole (takes_of rfl rfl rfl rfl) hr (by rfl) (da_cons (d_var 1) (da_cons (d_int) (da_cons (d_bin op_sub ok_minus (d_var 2) (d_int)) (da_nil)))) ))) (dss_one (ds_dead)) (dss_nil)) (dss_cons (ds_set 3 sc_spiral_again.nd (d_cal c_joints_in (takes_of rfl rfl rfl rfl) hr (by rfl) (da_cons (d_tup (da_cons (d_var 0) (da_cons (d_int) (da_nil)))) (da_nil)) )) (dss_one (ds_retC (d_ix ((d_lc [4] rfl sc_spiral_again.nd (di_rng2 (by rfl) m_range (d_int) (d_bin op_plus ok_plusC (d_var 2) (d_int))) (blkOk_by (N := ["course", "step", "size", "joints", "many"]) (sc := defScope s_spiral_again) (own := [("many", 4)]) (by decide +kernel)) (fun s_ H_ C_ cl_ fp_ => dg_name 4 sc_spiral_again.nd) (fun s_ H_ C_ cl_ fp_ => dts_one (dt_cmp op_eqP (ok_eq hr.units) (d_cal c_joints_in takes0 hr (by rfl) (da_cons (d_tup (da_cons (d_var 0) (da_cons (d_bin op_mod ok_mod (d_bin op_mulA ok_mulC (d_var 1) (d_var 4)) (d_var 2)) (da_nil)))) (da_nil)) ) (d_var 3) (nomark _))) (fun s_ H_ C_ cl_ fp_ => d_var 4)).fc) (d_int)))))))
theorem ok_spiral_again {P : Program} {w : World} {K : PySem.W.Frag} {mg : Str → Option Value} {base : Heap} {fa : Addr} {fd : FuncData} (F0 : Fun K "spiral_again" "spiral_again" s_spiral_again fa fd) (gf : mg "spiral_again" = some (.ref fa)) (c_need_course : CalOk P w K mg base .m 2 "need_course" ["value"] F_need_course) (c_length_in : CalOk P w K mg base .m 1 "length_in" ["course"] F_length_in) (c_fits_whole : CalOk P w K mg base .m 2 "fits_whole" ["value", "low", "high"] F_fits_whole) (c_joints_in : CalOk P w K mg base .m 2 "joints_in" ["ring"] F_joints_in) (m_range : mg "range" = none) : CalOk P w K mg base .m 3 "spiral_again" ["course", "step"] F_spiral_again :=
  CalOk.mk' (fn_sound F0 sc_spiral_again (fun cdv A outer s H E hr => ds_spiral_again c_need_course c_length_in c_fits_whole c_joints_in m_range hr) rfl) gf F0.kp (F0.binds (ps := ["course", "step"]) fun _ _ _ _ _ _ us hl => match us, hl with | [_, _], _ => rfl)
abbrev s_need_lap : Stmt := topS 15
theorem sc_need_lap : FnScope ["value"] ["value"] (defScope s_need_lap) := ⟨rfl, rfl, rfl, by decide +kernel, rfl, by decide +kernel, by decide +kernel⟩
def b_need_lap : DenS := xIfS (xNotT (xTru (xCall 3 (F_fits_whole) (xCons (xV 0) (xCons (xC (.int 1)) (xCons (xC (.int 4)) (xNil))))))) (xDead) (xSkip)
def F_need_lap : FDen := fnDen .m 1 b_need_lap
theorem ds_need_lap {P : Program} {w : World} {K : PySem.W.Frag} {mg : Str → Option Value} {base : Heap}  (c_fits_whole : CalOk P w K mg base .m 2 "fits_whole" ["value", "low", "high"] F_fits_whole) {fa : Addr} {cdv : Value} {A : Around} {outer : List PySem.Env} {s : Shared} {H : Hp} {E : XK} (hr : Room 2 (A.deeper (envOfC "need_lap" (defScope s_need_lap) s.heap.objs.size fa cdv))) :
    DSs (cxOf (L2.CX P w) P w K mg base ["value"] "need_lap" (defScope s_need_lap) fa cdv A outer s H E) (fun cls d _ H => E cls d H) .m (defBody s_need_lap) (b_need_lap) :=
  dss_one (ds_if (dt_not (dt_tru (d_cal c_fits_whole (takes_of rfl rfl rfl rfl) hr (by rfl) (da_cons (d_var 0) (da_cons (d_int) (da_cons (d_int) (da_nil)))) ))) (dss_one (ds_dead)) (dss_nil))
theorem ok_need_lap {P : Program} {w : World} {K : PySem.W.Frag} {mg : Str → Option Value} {base : Heap} {fa : Addr} {fd : FuncData} (F0 : Fun K "need_lap" "need_lap" s_need_lap fa fd) (gf : mg "need_lap" = some (.ref fa)) (c_fits_whole : CalOk P w K mg base .m 2 "fits_whole" ["value", "low", "high"] F_fits_whole) : CalOk P w K mg base .m 3 "need_lap" ["value"] F_need_lap :=
  CalOk.mk' (fn_sound F0 sc_need_lap (fun cdv A outer s H E hr => ds_need_lap c_fits_whole hr) rfl) gf F0.kp (F0.binds (ps := ["value"]) fun _ _ _ _ _ _ us hl => match us, hl with | [_], _ => rfl)
abbrev s_lap_in : Stmt := topS 24
theorem sc_lap_in : FnScope ["one", "other", "size", "gaps", "here", "there", "gap"] ["one", "other"] (defScope s_lap_in) := ⟨rfl, rfl, rfl, by decide +kernel, rfl, by decide +kernel, by decide +kernel⟩
def b_lap_in : DenS := xSeq (xAsg (xCall 1 (F_length_in) (xCons (xBin idxPV (xV 0) (xC (.int 0))) (xNil))) (gSlot 2)) (xSeq (xAsg (xLc2 [4, 5] [5] (gSlot 4) (xYes) (xItems (xCall 1 (F_joints_in) (xCons (xV 1) (xNil)))) (gSlot 5) (xYes) (xBin modPV (xBin minusPV (xV 4) (xV 5)) (xV 2)) (xItems (xCall 1 (F_joints_in) (xCons (xV 0) (xNil))))) (gSlot 3)) (xRet (xUn minPV (xLc [6] (gSlot 6) (xYes) (xBin min2PV (xV 6) (xBin minusPV (xV 2) (xV 6))) (xItems (xV 3))))))
def F_lap_in : FDen := fnDen .m 7 b_lap_in
theorem ds_lap_in {P : Program} {w : World} {K : PySem.W.Frag} {mg : Str → Option Value} {base : Heap}  (c_length_in : CalOk P w K mg base .m 1 "length_in" ["course"] F_length_in) (c_joints_in : CalOk P w K mg base .m 2 "joints_in" ["ring"] F_joints_in) (m_min : mg "min" = none) {fa : Addr} {cdv : Value} {A : Around} {outer : List PySem.Env} {s : Shared} {H : Hp} {E : XK} (hr : Room 2 (A.deeper (envOfC "lap_in" (defScope s_lap_in) s.heap.objs.size fa cdv))) :
    DSs (cxOf (L2.CX P w) P w K mg base ["one", "other", "size", "gaps", "here", "there", "gap"] "lap_in" (defScope s_lap_in) fa cdv A outer s H E) (fun cls d _ H => E cls d H) .m (defBody s_lap_in) (b_lap_in) :=
  dss_cons (ds_set 2 sc_lap_in.nd (d_cal c_length_in (takes_of rfl rfl rfl rfl) hr (by rfl) (da_cons (d_ix (d_var 0) (d_int)) (da_nil)) )) (dss_cons (by first | exact ds_set 3 sc_lap_in.nd (d_lc2 [4, 5] [5] rfl sc_lap_in.nd (di_seq (d_cal c_joints_in (takes_of rfl rfl rfl rfl) hr (by rfl) (da_cons (d_var 0) (da_nil)) )) (blkOk_by (N := ["one", "other", "size", "gaps", "here", "there", "gap"]) (sc := defScope s_lap_in) (own := [("here", 4), ("there", 5)]) (by decide +kernel)) (fun s_ H_ C_ cl_ fp_ => dg_name 4 sc_lap_in.nd) (fun s_ H_ C_ cl_ fp_ => dts_nil) (fun s_ H_ C_ cl_ fp_ => di_seq (d_cal c_joints_in takes0 hr (by rfl) (da_cons (d_var 1) (da_nil)) )) (fun s_ H_ C_ cl_ fp_ => dg_name 5 sc_lap_in.nd) (fun s_ H_ C_ cl_ fp_ => dts_nil) (fun s_ H_ C_ cl_ fp_ => d_bin op_mod ok_mod (d_bin op_sub ok_minus (d_var 4) (d_var 5)) (d_var 2))).fc | exact ds_setLc2 3 [4, 5] [5] rfl sc_lap_in.nd (di_seq (d_cal c_joints_in (takes_of rfl rfl rfl rfl) hr (by rfl) (da_cons (d_var 0) (da_nil)) )) (blkOk_by (N := ["one", "other", "size", "gaps", "here", "there", "gap"]) (sc := defScope s_lap_in) (own := [("here", 4), ("there", 5)]) (by decide +kernel)) (fun s_ H_ C_ cl_ fp_ => dg_name 4 sc_lap_in.nd) (fun s_ H_ C_ cl_ fp_ => dts_nil) (fun s_ H_ C_ cl_ fp_ => di_seq (d_cal c_joints_in takes0 hr (by rfl) (da_cons (d_var 1) (da_nil)) )) (fun s_ H_ C_ cl_ fp_ => dg_name 5 sc_lap_in.nd) (fun s_ H_ C_ cl_ fp_ => dts_nil) (fun s_ H_ C_ cl_ fp_ => d_bin op_mod ok_mod (d_bin op_sub ok_minus (d_var 4) (d_var 5)) (d_var 2))) (dss_one (ds_retC (d_call1 (cr_min rfl) ok_min (by rfl) m_min rfl ((d_lc [6] rfl sc_lap_in.nd (di_seq (d_var 3)) (blkOk_by (N := ["one", "other", "size", "gaps", "here", "there", "gap"]) (sc := defScope s_lap_in) (own := [("gap", 6)]) (by decide +kernel)) (fun s_ H_ C_ cl_ fp_ => dg_name 6 sc_lap_in.nd) (fun s_ H_ C_ cl_ fp_ => dts_nil) (fun s_ H_ C_ cl_ fp_ => d_call2 (call_min2 rfl) ok_min2 (by rfl) m_min rfl (d_var 6) (d_bin op_sub ok_minus (d_var 2) (d_var 6)))).fc)))))
theorem ok_lap_in {P : Program} {w : World} {K : PySem.W.Frag} {mg : Str → Option Value} {base : Heap} {fa : Addr} {fd : FuncData} (F0 : Fun K "lap_in" "lap_in" s_lap_in fa fd) (gf : mg "lap_in" = some (.ref fa)) (c_length_in : CalOk P w K mg base .m 1 "length_in" ["course"] F_length_in) (c_joints_in : CalOk P w K mg base .m 2 "joints_in" ["ring"] F_joints_in) (m_min : mg "min" = none) : CalOk P w K mg base .m 3 "lap_in" ["one", "other"] F_lap_in :=
  CalOk.mk' (fn_sound F0 sc_lap_in (fun cdv A outer s H E hr => ds_lap_in c_length_in c_joints_in m_min hr) rfl) gf F0.kp (F0.binds (ps := ["one", "other"]) fun _ _ _ _ _ _ us hl => match us, hl with | [_, _], _ => rfl)
abbrev s_spiral_steps : Stmt := topS 28
theorem sc_spiral_steps : FnScope ["course", "lap", "step"] ["course", "lap"] (defScope s_spiral_steps) := ⟨rfl, rfl, rfl, by decide +kernel, rfl, by decide +kernel, by decide +kernel⟩
def b_spiral_steps : DenS := xSeq (xExpr (xCall 1 (F_need_course) (xCons (xV 0) (xNil)))) (xSeq (xExpr (xCall 1 (F_need_lap) (xCons (xV 1) (xNil)))) (xRet (xUn tuplePV (xLc [2] (gSlot 2) (xTB (xBin gePV (xCall 2 (F_lap_in) (xCons (xTup (xCons (xV 0) (xCons (xC (.int 0)) (xNil)))) (xCons (xTup (xCons (xV 0) (xCons (xV 2) (xNil)))) (xNil)))) (xV 1))) (xV 2) (xRng1 (xCall 1 (F_length_in) (xCons (xV 0) (xNil))))))))
def F_spiral_steps : FDen := fnDen .m 3 b_spiral_steps
theorem ds_spiral_steps {P : Program} {w : World} {K : PySem.W.Frag} {mg : Str → Option Value} {base : Heap}  (c_need_course : CalOk P w K mg base .m 2 "need_course" ["value"] F_need_course) (c_need_lap : CalOk P w K mg base .m 3 "need_lap" ["value"] F_need_lap) (c_length_in : CalOk P w K mg base .m 1 "length_in" ["course"] F_length_in) (m_range : mg "range" = none) (c_lap_in : CalOk P w K mg base .m 3 "lap_in" ["one", "other"] F_lap_in) (m_tuple : mg "tuple" = none) {fa : Addr} {cdv : Value} {A : Around} {outer : List PySem.Env} {s : Shared} {H : Hp} {E : XK} (hr : Room 3 (A.deeper (envOfC "spiral_steps" (defScope s_spiral_steps) s.heap.objs.size fa cdv))) :
    DSs (cxOf (L2.CX P w) P w K mg base ["course", "lap", "step"] "spiral_steps" (defScope s_spiral_steps) fa cdv A outer s H E) (fun cls d _ H => E cls d H) .m (defBody s_spiral_steps) (b_spiral_steps) :=
  dss_cons (ds_expr (d_cal c_need_course (takes_of rfl rfl rfl rfl) hr (by rfl) (da_cons (d_var 0) (da_nil)) )) (dss_cons (ds_expr (d_cal c_need_lap (takes_of rfl rfl rfl rfl) hr (by rfl) (da_cons (d_var 1) (da_nil)) )) (dss_one (ds_retC (d_callT call_tuple_of ok_tuple (by rfl) m_tuple rfl ((d_lc [2] rfl sc_spiral_steps.nd (di_rng1 (by rfl) m_range (d_cal c_length_in (takes_of rfl rfl rfl rfl) hr (by rfl) (da_cons (d_var 0) (da_nil)) )) (blkOk_by (N := ["course", "lap", "step"]) (sc := defScope s_spiral_steps) (own := [("step", 2)]) (by decide +kernel)) (fun s_ H_ C_ cl_ fp_ => dg_name 2 sc_spiral_steps.nd) (fun s_ H_ C_ cl_ fp_ => dts_one (dt_cmp op_ge ok_cmp (d_cal c_lap_in takes0 hr (by rfl) (da_cons (d_tup (da_cons (d_var 0) (da_cons (d_int) (da_nil)))) (da_cons (d_tup (da_cons (d_var 0) (da_cons (d_var 2) (da_nil)))) (da_nil))) ) (d_var 1) (nomark _))) (fun s_ H_ C_ cl_ fp_ => d_var 2)).fc)))))
theorem ok_spiral_steps {P : Program} {w : World} {K : PySem.W.Frag} {mg : Str → Option Value} {base : Heap} {fa : Addr} {fd : FuncData} (F0 : Fun K "spiral_steps" "spiral_steps" s_spiral_steps fa fd) (gf : mg "spiral_steps" = some (.ref fa)) (c_need_course : CalOk P w K mg base .m 2 "need_course" ["value"] F_need_course) (c_need_lap : CalOk P w K mg base .m 3 "need_lap" ["value"] F_need_lap) (c_length_in : CalOk P w K mg base .m 1 "length_in" ["course"] F_length_in) (m_range : mg "range" = none) (c_lap_in : CalOk P w K mg base .m 3 "lap_in" ["one", "other"] F_lap_in) (m_tuple : mg "tuple" = none) : CalOk P w K mg base .m 4 "spiral_steps" ["course", "lap"] F_spiral_steps :=
  CalOk.mk' (fn_sound F0 sc_spiral_steps (fun cdv A outer s H E hr => ds_spiral_steps c_need_course c_need_lap c_length_in m_range c_lap_in m_tuple hr) rfl) gf F0.kp (F0.binds (ps := ["course", "lap"]) fun _ _ _ _ _ _ us hl => match us, hl with | [_, _], _ => rfl)
abbrev s__law_some : Stmt := topS 33
theorem sc__law_some : FnScope ["cup", "things"] ["cup", "things"] (defScope s__law_some) := ⟨rfl, rfl, rfl, by decide +kernel, rfl, by decide +kernel, by decide +kernel⟩
def b__law_some : DenS := xRet (xBin idxPV (xV 1) (xCall 2 (F__law_roll) (xCons (xV 0) (xCons (xUn lenPV (xV 1)) (xNil)))))
def F__law_some : FDen := fnDen .m 2 b__law_some
theorem ds__law_some {P : Program} {w : World} {K : PySem.W.Frag} {mg : Str → Option Value} {base : Heap}  (m_len : mg "len" = none) (c__law_roll : CalOk P w K mg base .m 1 "_law_roll" ["cup", "many"] F__law_roll) {fa : Addr} {cdv : Value} {A : Around} {outer : List PySem.Env} {s : Shared} {H : Hp} {E : XK} (hr : Room 1 (A.deeper (envOfC "_law_some" (defScope s__law_some) s.heap.objs.size fa cdv))) :
    DSs (cxOf (L2.CX P w) P w K mg base ["cup", "things"] "_law_some" (defScope s__law_some) fa cdv A outer s H E) (fun cls d _ H => E cls d H) .m (defBody s__law_some) (b__law_some) :=
  dss_one (ds_retC (d_ix (d_var 1) (d_cal c__law_roll (takes_of rfl rfl rfl rfl) hr (by rfl) (da_cons (d_var 0) (da_cons (d_call1 call_len ok_len (by rfl) m_len rfl (d_var 1)) (da_nil))) )))
theorem ok__law_some {P : Program} {w : World} {K : PySem.W.Frag} {mg : Str → Option Value} {base : Heap} {fa : Addr} {fd : FuncData} (F0 : Fun K "_law_some" "_law_some" s__law_some fa fd) (gf : mg "_law_some" = some (.ref fa)) (m_len : mg "len" = none) (c__law_roll : CalOk P w K mg base .m 1 "_law_roll" ["cup", "many"] F__law_roll) : CalOk P w K mg base .m 2 "_law_some" ["cup", "things"] F__law_some :=
  CalOk.mk' (fn_sound F0 sc__law_some (fun cdv A outer s H E hr => ds__law_some m_len c__law_roll hr) rfl) gf F0.kp (F0.binds (ps := ["cup", "things"]) fun _ _ _ _ _ _ us hl => match us, hl with | [_, _], _ => rfl)
abbrev s__law_size : Stmt := topS 35
theorem sc__law_size : FnScope ["course", "sign"] ["course"] (defScope s__law_size) := ⟨rfl, rfl, rfl, by decide +kernel, rfl, by decide +kernel, by decide +kernel⟩
def b__law_size : DenS := xRet (xUn sumPV (xLc [1] (gSlot 1) (xYes) (xBin dgetPV (xC (.dct false (mergePV [(.str [115], .int 4), (.str [116], .int 3), (.str [104], .int 2), (.str [113], .int 1)]))) (xV 1)) (xItems (xV 0))))
def F__law_size : FDen := fnDen .m 2 b__law_size
theorem ds__law_size {P : Program} {w : World} {K : PySem.W.Frag} {mg : Str → Option Value} {base : Heap}  (m_sum : mg "sum" = none) {fa : Addr} {cdv : Value} {A : Around} {outer : List PySem.Env} {s : Shared} {H : Hp} {E : XK} (hr : Room 0 (A.deeper (envOfC "_law_size" (defScope s__law_size) s.heap.objs.size fa cdv))) :
    DSs (cxOf (L2.CX P w) P w K mg base ["course", "sign"] "_law_size" (defScope s__law_size) fa cdv A outer s H E) (fun cls d _ H => E cls d H) .m (defBody s__law_size) (b__law_size) :=
  dss_one (ds_retC (d_call1 (cr_sum rfl) ok_sum (by rfl) m_sum rfl ((d_lc [1] rfl sc__law_size.nd (di_seq (d_var 0)) (blkOk_by (N := ["course", "sign"]) (sc := defScope s__law_size) (own := [("sign", 1)]) (by decide +kernel)) (fun s_ H_ C_ cl_ fp_ => dg_name 1 sc__law_size.nd) (fun s_ H_ C_ cl_ fp_ => dts_nil) (fun s_ H_ C_ cl_ fp_ => d_dget (hu_of hr) ((d_disp (dps_si [115] (hr := dps_si [116] (hr := dps_si [104] (hr := dps_si [113] (hr := dps_nil)))))).fc) (d_var 1))).fc)))
theorem ok__law_size {P : Program} {w : World} {K : PySem.W.Frag} {mg : Str → Option Value} {base : Heap} {fa : Addr} {fd : FuncData} (F0 : Fun K "_law_size" "_law_size" s__law_size fa fd) (gf : mg "_law_size" = some (.ref fa)) (m_sum : mg "sum" = none) : CalOk P w K mg base .m 1 "_law_size" ["course"] F__law_size :=
  CalOk.mk' (fn_sound F0 sc__law_size (fun cdv A outer s H E hr => ds__law_size m_sum hr) rfl) gf F0.kp (F0.binds (ps := ["course"]) fun _ _ _ _ _ _ us hl => match us, hl with | [_], _ => rfl)
abbrev s__law_row : Stmt := topS 36
theorem sc__law_row : FnScope ["cup", "length", "found", "left", "sign", "one"] ["cup", "length"] (defScope s__law_row) := ⟨rfl, rfl, rfl, by decide +kernel, rfl, by decide +kernel, by decide +kernel⟩
def b__law_row : DenS := xSeq (xAsg (xTup (xCons (xC (.str [])) (xCons (xV 1) (xNil)))) (gTupE 2 (gConsE (gSlot 2) (gConsE (gSlot 3) (gNilE))))) (xSeq (whileL (xTB (xBin gtPV (xV 3) (xC (.int 0)))) (xSeq (xAsg (xCall 2 (F__law_some) (xCons (xV 0) (xCons (xLc [5] (gSlot 5) (xTB (xBin lePV (xCall 1 (F__law_size) (xCons (xV 5) (xNil))) (xV 3))) (xV 5) (xItems (xC (.str [115, 104, 116, 113])))) (xNil)))) (gSlot 4)) (xAsg (xTup (xCons (xBin plusPV (xV 2) (xV 4)) (xCons (xBin minusPV (xV 3) (xCall 1 (F__law_size) (xCons (xV 4) (xNil)))) (xNil)))) (gTupE 2 (gConsE (gSlot 2) (gConsE (gSlot 3) (gNilE)))))) 64) (xRet (xV 2)))
def F__law_row : FDen := fnDen .m 6 b__law_row
theorem ds__law_row {P : Program} {w : World} {K : PySem.W.Frag} {mg : Str → Option Value} {base : Heap}  (c__law_size : CalOk P w K mg base .m 1 "_law_size" ["course"] F__law_size) (c__law_some : CalOk P w K mg base .m 2 "_law_some" ["cup", "things"] F__law_some) {fa : Addr} {cdv : Value} {A : Around} {outer : List PySem.Env} {s : Shared} {H : Hp} {E : XK} (hr : Room 2 (A.deeper (envOfC "_law_row" (defScope s__law_row) s.heap.objs.size fa cdv))) :
    DSs (cxOf (L2.CX P w) P w K mg base ["cup", "length", "found", "left", "sign", "one"] "_law_row" (defScope s__law_row) fa cdv A outer s H E) (fun cls d _ H => E cls d H) .m (defBody s__law_row) (b__law_row) :=
  dss_cons (ds_asg (d_tup (da_cons (d_str []) (da_cons (d_var 1) (da_nil)))) (dg_tup rfl (dgs_cons (dg_name 2 sc__law_row.nd) (dgs_cons (dg_name 3 sc__law_row.nd) (dgs_nil) (gSlot_ow 3)) (gSlot_ow 2)))) (dss_cons (ds_while 64 (passes_of rfl) (dt_cmp op_gt ok_cmp (d_var 3) (d_int) (nomark _)) (dss_cons (ds_set 4 sc__law_row.nd (d_cal c__law_some (takes_of rfl rfl rfl rfl) hr (by rfl) (da_cons (d_var 0) (da_cons ((d_lc [5] rfl sc__law_row.nd (di_seq (d_str [115, 104, 116, 113])) (blkOk_by (N := ["cup", "length", "found", "left", "sign", "one"]) (sc := defScope s__law_row) (own := [("one", 5)]) (by decide +kernel)) (fun s_ H_ C_ cl_ fp_ => dg_name 5 sc__law_row.nd) (fun s_ H_ C_ cl_ fp_ => dts_one (dt_cmp op_le ok_cmp (d_cal c__law_size takes0 hr (by rfl) (da_cons (d_var 5) (da_nil)) ) (d_var 3) (nomark _))) (fun s_ H_ C_ cl_ fp_ => d_var 5)).fc) (da_nil))) )) (dss_one (ds_asg (d_tup (da_cons (d_bin op_plus ok_plusC (d_var 2) (d_var 4)) (da_cons (d_bin op_sub ok_minus (d_var 3) (d_cal c__law_size (takes_of rfl rfl rfl rfl) hr (by rfl) (da_cons (d_var 4) (da_nil)) )) (da_nil)))) (dg_tup rfl (dgs_cons (dg_name 2 sc__law_row.nd) (dgs_cons (dg_name 3 sc__law_row.nd) (dgs_nil) (gSlot_ow 3)) (gSlot_ow 2))))))) (dss_one (ds_retC (d_var 2))))
theorem ok__law_row {P : Program} {w : World} {K : PySem.W.Frag} {mg : Str → Option Value} {base : Heap} {fa : Addr} {fd : FuncData} (F0 : Fun K "_law_row" "_law_row" s__law_row fa fd) (gf : mg "_law_row" = some (.ref fa)) (c__law_size : CalOk P w K mg base .m 1 "_law_size" ["course"] F__law_size) (c__law_some : CalOk P w K mg base .m 2 "_law_some" ["cup", "things"] F__law_some) : CalOk P w K mg base .m 3 "_law_row" ["cup", "length"] F__law_row :=
  CalOk.mk' (fn_sound F0 sc__law_row (fun cdv A outer s H E hr => ds__law_row c__law_size c__law_some hr) rfl) gf F0.kp (F0.binds (ps := ["cup", "length"]) fun _ _ _ _ _ _ us hl => match us, hl with | [_, _], _ => rfl)
abbrev s__law_around : Stmt := topS 37
theorem sc__law_around : FnScope ["ring", "course", "at", "size", "found", "sign"] ["ring"] (defScope s__law_around) := ⟨rfl, rfl, rfl, by decide +kernel, rfl, by decide +kernel, by decide +kernel⟩
def b__law_around : DenS := xSeq (xAsg (xV 0) (gTupE 2 (gConsE (gSlot 1) (gConsE (gSlot 2) (gNilE))))) (xSeq (xPar [(3, false), (4, true)] (xCons (xCall 1 (F__law_size) (xCons (xV 1) (xNil))) (xCons (xC (.dct false [])) (xNil)))) (xSeq (xFor (xItems (xV 1)) (gSlot 5) (xSeq (xDput 4 (xV 2) (xC (.bl true))) (xSeq (xAsg (xBin plusPV (xV 2) (xCall 1 (F__law_size) (xCons (xV 5) (xNil)))) (gSlot 2)) (xAsg (xIf (xTB (xBin gePV (xV 2) (xV 3))) (xBin minusPV (xV 2) (xV 3)) (xV 2)) (gSlot 2))))) (xRet (xUn sortedPV (xO 4)))))
def F__law_around : FDen := fnDen .m 6 b__law_around
theorem ds__law_around {P : Program} {w : World} {K : PySem.W.Frag} {mg : Str → Option Value} {base : Heap}  (c__law_size : CalOk P w K mg base .m 1 "_law_size" ["course"] F__law_size) (m_sorted : mg "sorted" = none) {fa : Addr} {cdv : Value} {A : Around} {outer : List PySem.Env} {s : Shared} {H : Hp} {E : XK} (hr : Room 1 (A.deeper (envOfC "_law_around" (defScope s__law_around) s.heap.objs.size fa cdv))) :
    DSs (cxOf (L2.CX P w) P w K mg base ["ring", "course", "at", "size", "found", "sign"] "_law_around" (defScope s__law_around) fa cdv A outer s H E) (fun cls d _ H => E cls d H) .m (defBody s__law_around) (b__law_around) :=
  dss_cons (ds_asg (d_var 0) (dg_tup rfl (dgs_cons (dg_name 1 sc__law_around.nd) (dgs_cons (dg_name 2 sc__law_around.nd) (dgs_nil) (gSlot_ow 2)) (gSlot_ow 1)))) (dss_cons (ds_par2 3 4 false true rfl sc__law_around.nd (dao_pl (d_cal c__law_size (takes_of rfl rfl rfl rfl) hr (by rfl) (da_cons (d_var 1) (da_nil)) ) (dao_ow (d_dnew) (dao_nil)))) (dss_cons (ds_for (passes_of rfl) rfl (di_seq (d_var 1)) (dg_name 5 sc__law_around.nd) (dss_cons (ds_dput 4 (hu_of hr) (d_var 2) (d_bl)) (dss_cons (ds_set 2 sc__law_around.nd (d_bin op_plus ok_plusC (d_var 2) (d_cal c__law_size (takes_of rfl rfl rfl rfl) hr (by rfl) (da_cons (d_var 5) (da_nil)) ))) (dss_one (ds_set 2 sc__law_around.nd (d_ifExp (dt_cmp op_ge ok_cmp (d_var 2) (d_var 3) (nomark _)) (d_bin op_sub ok_minus (d_var 2) (d_var 3)) (d_var 2))))))) (dss_one (ds_retF (d_sorted rfl (by rfl) m_sorted (d_own 4))))))
theorem ok__law_around {P : Program} {w : World} {K : PySem.W.Frag} {mg : Str → Option Value} {base : Heap} {fa : Addr} {fd : FuncData} (F0 : Fun K "_law_around" "_law_around" s__law_around fa fd) (gf : mg "_law_around" = some (.ref fa)) (c__law_size : CalOk P w K mg base .m 1 "_law_size" ["course"] F__law_size) (m_sorted : mg "sorted" = none) : CalOk P w K mg base .m 2 "_law_around" ["ring"] F__law_around :=
  CalOk.mk' (fn_sound F0 sc__law_around (fun cdv A outer s H E hr => ds__law_around c__law_size m_sorted hr) rfl) gf F0.kp (F0.binds (ps := ["ring"]) fun _ _ _ _ _ _ us hl => match us, hl with | [_], _ => rfl)
abbrev s_spiral_turret : Stmt := topS 27
theorem sc_spiral_turret : FnScope ["course", "step", "high", "size", "at"] ["course", "step", "high"] (defScope s_spiral_turret) := ⟨rfl, rfl, rfl, by decide +kernel, rfl, by decide +kernel, by decide +kernel⟩
def b_spiral_turret : DenS := xSeq (xExpr (xCall 1 (F_need_course) (xCons (xV 0) (xNil)))) (xSeq (xAsg (xCall 1 (F_length_in) (xCons (xV 0) (xNil))) (gSlot 3)) (xSeq (xIfS (xOrT (xNotT (xTru (xCall 3 (F_fits_whole) (xCons (xV 1) (xCons (xC (.int 0)) (xCons (xBin minusPV (xV 3) (xC (.int 1))) (xNil))))))) (xNotT (xTru (xCall 3 (F_fits_whole) (xCons (xV 2) (xCons (xC (.int 1)) (xCons (xC (.int 24)) (xNil)))))))) (xDead) (xSkip)) (xRet (xUn tuplePV (xLc [4] (gSlot 4) (xYes) (xTup (xCons (xV 0) (xCons (xBin modPV (xBin mulPV (xV 1) (xV 4)) (xV 3)) (xNil)))) (xRng1 (xV 2)))))))
def F_spiral_turret : FDen := fnDen .m 5 b_spiral_turret
theorem ds_spiral_turret {P : Program} {w : World} {K : PySem.W.Frag} {mg : Str → Option Value} {base : Heap}  (c_need_course : CalOk P w K mg base .m 2 "need_course" ["value"] F_need_course) (c_length_in : CalOk P w K mg base .m 1 "length_in" ["course"] F_length_in) (c_fits_whole : CalOk P w K mg base .m 2 "fits_whole" ["value", "low", "high"] F_fits_whole) (g_HIGH : ∃ t, mg "HIGH" = some (.int 24 t)) (m_range : mg "range" = none) (m_tuple : mg "tuple" = none) {fa : Addr} {cdv : Value} {A : Around} {outer : List PySem.Env} {s : Shared} {H : Hp} {E : XK} (hr : Room 2 (A.deeper (envOfC "spiral_turret" (defScope s_spiral_turret) s.heap.objs.size fa cdv))) :
    DSs (cxOf (L2.CX P w) P w K mg base ["course", "step", "high", "size", "at"] "spiral_turret" (defScope s_spiral_turret) fa cdv A outer s H E) (fun cls d _ H => E cls d H) .m (defBody s_spiral_turret) (b_spiral_turret) :=
  dss_cons (ds_expr (d_cal c_need_course (takes_of rfl rfl rfl rfl) hr (by rfl) (da_cons (d_var 0) (da_nil)) )) (dss_cons (ds_set 3 sc_spiral_turret.nd (d_cal c_length_in (takes_of rfl rfl rfl rfl) hr (by rfl) (da_cons (d_var 0) (da_nil)) )) (dss_cons (ds_if (dw_pt (dw_or (dt_not (dt_tru (d_cal c_fits_whole (takes_of rfl rfl rfl rfl) hr (by rfl) (da_cons (d_var 1) (da_cons (d_int) (da_cons (d_bin op_sub ok_minus (d_var 3) (d_int)) (da_nil)))) ))) (dw_or1 (dt_not (dt_tru (d_cal c_fits_whole (takes_of rfl rfl rfl rfl) hr (by rfl) (da_cons (d_var 2) (da_cons (d_int) (da_cons ((by obtain ⟨t, ht⟩ := g_HIGH; exact d_gint 24 (by rfl) ht)) (da_nil)))) )))))) (dss_one (ds_dead)) (dss_nil)) (dss_one (ds_retC (d_callT call_tuple_of ok_tuple (by rfl) m_tuple rfl ((d_lc [4] rfl sc_spiral_turret.nd (di_rng1 (by rfl) m_range (d_var 2)) (blkOk_by (N := ["course", "step", "high", "size", "at"]) (sc := defScope s_spiral_turret) (own := [("at", 4)]) (by decide +kernel)) (fun s_ H_ C_ cl_ fp_ => dg_name 4 sc_spiral_turret.nd) (fun s_ H_ C_ cl_ fp_ => dts_nil) (fun s_ H_ C_ cl_ fp_ => d_tup (da_cons (d_var 0) (da_cons (d_bin op_mod ok_mod (d_bin op_mulA ok_mulC (d_var 1) (d_var 4)) (d_var 3)) (da_nil))))).fc))))))
theorem ok_spiral_turret {P : Program} {w : World} {K : PySem.W.Frag} {mg : Str → Option Value} {base : Heap} {fa : Addr} {fd : FuncData} (F0 : Fun K "spiral_turret" "spiral_turret" s_spiral_turret fa fd) (gf : mg "spiral_turret" = some (.ref fa)) (c_need_course : CalOk P w K mg base .m 2 "need_course" ["value"] F_need_course) (c_length_in : CalOk P w K mg base .m 1 "length_in" ["course"] F_length_in) (c_fits_whole : CalOk P w K mg base .m 2 "fits_whole" ["value", "low", "high"] F_fits_whole) (g_HIGH : ∃ t, mg "HIGH" = some (.int 24 t)) (m_range : mg "range" = none) (m_tuple : mg "tuple" = none) : CalOk P w K mg base .m 3 "spiral_turret" ["course", "step", "high"] F_spiral_turret :=
  CalOk.mk' (fn_sound F0 sc_spiral_turret (fun cdv A outer s H E hr => ds_spiral_turret c_need_course c_length_in c_fits_whole g_HIGH m_range m_tuple hr) rfl) gf F0.kp (F0.binds (ps := ["course", "step", "high"]) fun _ _ _ _ _ _ us hl => match us, hl with | [_, _, _], _ => rfl)
abbrev s_is_tuple_of : Stmt := topS 12
theorem sc_is_tuple_of : FnScope ["value", "least", "most"] ["value", "least", "most"] (defScope s_is_tuple_of) := ⟨rfl, rfl, rfl, by decide +kernel, rfl, by decide +kernel, by decide +kernel⟩
def b_is_tuple_of : DenS := xRet (xAnd (xUn (isiPV "tuple") (xV 0)) (xChain lePV lePV (xV 1) (xUn lenPV (xV 0)) (xV 2)))
def F_is_tuple_of : FDen := fnDen .m 3 b_is_tuple_of
theorem ds_is_tuple_of {P : Program} {w : World} {K : PySem.W.Frag} {mg : Str → Option Value} {base : Heap}  (m_isinstance : mg "isinstance" = none) (m_tuple : mg "tuple" = none) (m_len : mg "len" = none) {fa : Addr} {cdv : Value} {A : Around} {outer : List PySem.Env} {s : Shared} {H : Hp} {E : XK} (hr : Room 0 (A.deeper (envOfC "is_tuple_of" (defScope s_is_tuple_of) s.heap.objs.size fa cdv))) :
    DSs (cxOf (L2.CX P w) P w K mg base ["value", "least", "most"] "is_tuple_of" (defScope s_is_tuple_of) fa cdv A outer s H E) (fun cls d _ H => E cls d H) .m (defBody s_is_tuple_of) (b_is_tuple_of) :=
  dss_one (ds_retC (d_and (d_isi (tyOk_of (by decide +kernel)) (by rfl) m_isinstance rfl (by rfl) m_tuple rfl (d_var 0)) (d_one (d_chain op_le op_le ok_cmp ok_cmp (d_var 1) (d_call1 call_len ok_len (by rfl) m_len rfl (d_var 0)) (d_var 2)))))
theorem ok_is_tuple_of {P : Program} {w : World} {K : PySem.W.Frag} {mg : Str → Option Value} {base : Heap} {fa : Addr} {fd : FuncData} (F0 : Fun K "is_tuple_of" "is_tuple_of" s_is_tuple_of fa fd) (gf : mg "is_tuple_of" = some (.ref fa)) (m_isinstance : mg "isinstance" = none) (m_tuple : mg "tuple" = none) (m_len : mg "len" = none) : CalOk P w K mg base .m 1 "is_tuple_of" ["value", "least", "most"] F_is_tuple_of :=
  CalOk.mk' (fn_sound F0 sc_is_tuple_of (fun cdv A outer s H E hr => ds_is_tuple_of m_isinstance m_tuple m_len hr) rfl) gf F0.kp (F0.binds (ps := ["value", "least", "most"]) fun _ _ _ _ _ _ us hl => match us, hl with | [_, _, _], _ => rfl)
abbrev s_fits_ring : Stmt := topS 18
theorem sc_fits_ring : FnScope ["value"] ["value"] (defScope s_fits_ring) := ⟨rfl, rfl, rfl, by decide +kernel, rfl, by decide +kernel, by decide +kernel⟩
def b_fits_ring : DenS := xRet (xAnd (xCall 3 (F_is_tuple_of) (xCons (xV 0) (xCons (xC (.int 2)) (xCons (xC (.int 2)) (xNil))))) (xAnd (xCall 1 (F_fits_course) (xCons (xBin idxPV (xV 0) (xC (.int 0))) (xNil))) (xCall 3 (F_fits_whole) (xCons (xBin idxPV (xV 0) (xC (.int 1))) (xCons (xC (.int 0)) (xCons (xBin minusPV (xCall 1 (F_length_in) (xCons (xBin idxPV (xV 0) (xC (.int 0))) (xNil))) (xC (.int 1))) (xNil)))))))
def F_fits_ring : FDen := fnDen .m 1 b_fits_ring
theorem ds_fits_ring {P : Program} {w : World} {K : PySem.W.Frag} {mg : Str → Option Value} {base : Heap}  (c_is_tuple_of : CalOk P w K mg base .m 1 "is_tuple_of" ["value", "least", "most"] F_is_tuple_of) (c_fits_course : CalOk P w K mg base .m 1 "fits_course" ["value"] F_fits_course) (c_length_in : CalOk P w K mg base .m 1 "length_in" ["course"] F_length_in) (c_fits_whole : CalOk P w K mg base .m 2 "fits_whole" ["value", "low", "high"] F_fits_whole) {fa : Addr} {cdv : Value} {A : Around} {outer : List PySem.Env} {s : Shared} {H : Hp} {E : XK} (hr : Room 2 (A.deeper (envOfC "fits_ring" (defScope s_fits_ring) s.heap.objs.size fa cdv))) :
    DSs (cxOf (L2.CX P w) P w K mg base ["value"] "fits_ring" (defScope s_fits_ring) fa cdv A outer s H E) (fun cls d _ H => E cls d H) .m (defBody s_fits_ring) (b_fits_ring) :=
  dss_one (ds_retC (d_and (d_cal c_is_tuple_of (takes_of rfl rfl rfl rfl) hr (by rfl) (da_cons (d_var 0) (da_cons (d_int) (da_cons (d_int) (da_nil)))) ) (d_and (d_cal c_fits_course (takes_of rfl rfl rfl rfl) hr (by rfl) (da_cons (d_ix (d_var 0) (d_int)) (da_nil)) ) (d_one (d_cal c_fits_whole (takes_of rfl rfl rfl rfl) hr (by rfl) (da_cons (d_ix (d_var 0) (d_int)) (da_cons (d_int) (da_cons (d_bin op_sub ok_minus (d_cal c_length_in (takes_of rfl rfl rfl rfl) hr (by rfl) (da_cons (d_ix (d_var 0) (d_int)) (da_nil)) ) (d_int)) (da_nil)))) )))))
theorem ok_fits_ring {P : Program} {w : World} {K : PySem.W.Frag} {mg : Str → Option Value} {base : Heap} {fa : Addr} {fd : FuncData} (F0 : Fun K "fits_ring" "fits_ring" s_fits_ring fa fd) (gf : mg "fits_ring" = some (.ref fa)) (c_is_tuple_of : CalOk P w K mg base .m 1 "is_tuple_of" ["value", "least", "most"] F_is_tuple_of) (c_fits_course : CalOk P w K mg base .m 1 "fits_course" ["value"] F_fits_course) (c_length_in : CalOk P w K mg base .m 1 "length_in" ["course"] F_length_in) (c_fits_whole : CalOk P w K mg base .m 2 "fits_whole" ["value", "low", "high"] F_fits_whole) : CalOk P w K mg base .m 3 "fits_ring" ["value"] F_fits_ring :=
  CalOk.mk' (fn_sound F0 sc_fits_ring (fun cdv A outer s H E hr => ds_fits_ring c_is_tuple_of c_fits_course c_length_in c_fits_whole hr) rfl) gf F0.kp (F0.binds (ps := ["value"]) fun _ _ _ _ _ _ us hl => match us, hl with | [_], _ => rfl)
abbrev s_fits_turret : Stmt := topS 20
theorem sc_fits_turret : FnScope ["value", "one"] ["value"] (defScope s_fits_turret) := ⟨rfl, rfl, rfl, by decide +kernel, rfl, by decide +kernel, by decide +kernel⟩
def b_fits_turret : DenS := xSeq (xIfS (xOrT (xNotT (xTru (xCall 3 (F_is_tuple_of) (xCons (xV 0) (xCons (xC (.int 1)) (xCons (xC (.int 24)) (xNil))))))) (xNotT (xTru (xUn allPV (xLc [1] (gSlot 1) (xYes) (xCall 1 (F_fits_ring) (xCons (xV 1) (xNil))) (xItems (xV 0))))))) (xRet (xC (.bl false))) (xSkip)) (xRet (xUn allPV (xLc [1] (gSlot 1) (xYes) (xBin (eqPV false) (xCall 1 (F_length_in) (xCons (xBin idxPV (xV 1) (xC (.int 0))) (xNil))) (xCall 1 (F_length_in) (xCons (xBin idxPV (xBin idxPV (xV 0) (xC (.int 0))) (xC (.int 0))) (xNil)))) (xItems (xV 0)))))
def F_fits_turret : FDen := fnDen .m 2 b_fits_turret
theorem ds_fits_turret {P : Program} {w : World} {K : PySem.W.Frag} {mg : Str → Option Value} {base : Heap}  (g_HIGH : ∃ t, mg "HIGH" = some (.int 24 t)) (c_is_tuple_of : CalOk P w K mg base .m 1 "is_tuple_of" ["value", "least", "most"] F_is_tuple_of) (c_fits_ring : CalOk P w K mg base .m 3 "fits_ring" ["value"] F_fits_ring) (m_all : mg "all" = none) (c_length_in : CalOk P w K mg base .m 1 "length_in" ["course"] F_length_in) {fa : Addr} {cdv : Value} {A : Around} {outer : List PySem.Env} {s : Shared} {H : Hp} {E : XK} (hr : Room 3 (A.deeper (envOfC "fits_turret" (defScope s_fits_turret) s.heap.objs.size fa cdv))) :
    DSs (cxOf (L2.CX P w) P w K mg base ["value", "one"] "fits_turret" (defScope s_fits_turret) fa cdv A outer s H E) (fun cls d _ H => E cls d H) .m (defBody s_fits_turret) (b_fits_turret) :=
  dss_cons (ds_if (dw_pt (dw_or (dt_not (dt_tru (d_cal c_is_tuple_of (takes_of rfl rfl rfl rfl) hr (by rfl) (da_cons (d_var 0) (da_cons (d_int) (da_cons ((by obtain ⟨t, ht⟩ := g_HIGH; exact d_gint 24 (by rfl) ht)) (da_nil)))) ))) (dw_or1 (dt_not (dt_tru (d_call1 (cr_all rfl) ok_all (by rfl) m_all rfl ((d_lc [1] rfl sc_fits_turret.nd (di_seq (d_var 0)) (blkOk_by (N := ["value", "one"]) (sc := defScope s_fits_turret) (own := [("one", 1)]) (by decide +kernel)) (fun s_ H_ C_ cl_ fp_ => dg_name 1 sc_fits_turret.nd) (fun s_ H_ C_ cl_ fp_ => dts_nil) (fun s_ H_ C_ cl_ fp_ => d_cal c_fits_ring takes0 hr (by rfl) (da_cons (d_var 1) (da_nil)) )).fc))))))) (dss_one (ds_retC (d_bl))) (dss_nil)) (dss_one (ds_retC (d_call1 (cr_all rfl) ok_all (by rfl) m_all rfl ((d_lc [1] rfl sc_fits_turret.nd (di_seq (d_var 0)) (blkOk_by (N := ["value", "one"]) (sc := defScope s_fits_turret) (own := [("one", 1)]) (by decide +kernel)) (fun s_ H_ C_ cl_ fp_ => dg_name 1 sc_fits_turret.nd) (fun s_ H_ C_ cl_ fp_ => dts_nil) (fun s_ H_ C_ cl_ fp_ => d_cmp op_eqP (ok_eq hr.units) (d_cal c_length_in takes0 hr (by rfl) (da_cons (d_ix (d_var 1) (d_int)) (da_nil)) ) (d_cal c_length_in takes0 hr (by rfl) (da_cons (d_ix (d_ix (d_var 0) (d_int)) (d_int)) (da_nil)) ) (nomark _))).fc))))
theorem ok_fits_turret {P : Program} {w : World} {K : PySem.W.Frag} {mg : Str → Option Value} {base : Heap} {fa : Addr} {fd : FuncData} (F0 : Fun K "fits_turret" "fits_turret" s_fits_turret fa fd) (gf : mg "fits_turret" = some (.ref fa)) (g_HIGH : ∃ t, mg "HIGH" = some (.int 24 t)) (c_is_tuple_of : CalOk P w K mg base .m 1 "is_tuple_of" ["value", "least", "most"] F_is_tuple_of) (c_fits_ring : CalOk P w K mg base .m 3 "fits_ring" ["value"] F_fits_ring) (m_all : mg "all" = none) (c_length_in : CalOk P w K mg base .m 1 "length_in" ["course"] F_length_in) : CalOk P w K mg base .m 4 "fits_turret" ["value"] F_fits_turret :=
  CalOk.mk' (fn_sound F0 sc_fits_turret (fun cdv A outer s H E hr => ds_fits_turret g_HIGH c_is_tuple_of c_fits_ring m_all c_length_in hr) rfl) gf F0.kp (F0.binds (ps := ["value"]) fun _ _ _ _ _ _ us hl => match us, hl with | [_], _ => rfl)
abbrev s_need_turret : Stmt := topS 21
theorem sc_need_turret : FnScope ["value"] ["value"] (defScope s_need_turret) := ⟨rfl, rfl, rfl, by decide +kernel, rfl, by decide +kernel, by decide +kernel⟩
def b_need_turret : DenS := xIfS (xNotT (xTru (xCall 1 (F_fits_turret) (xCons (xV 0) (xNil))))) (xDead) (xSkip)
def F_need_turret : FDen := fnDen .m 1 b_need_turret
theorem ds_need_turret {P : Program} {w : World} {K : PySem.W.Frag} {mg : Str → Option Value} {base : Heap}  (c_fits_turret : CalOk P w K mg base .m 4 "fits_turret" ["value"] F_fits_turret) {fa : Addr} {cdv : Value} {A : Around} {outer : List PySem.Env} {s : Shared} {H : Hp} {E : XK} (hr : Room 4 (A.deeper (envOfC "need_turret" (defScope s_need_turret) s.heap.objs.size fa cdv))) :
    DSs (cxOf (L2.CX P w) P w K mg base ["value"] "need_turret" (defScope s_need_turret) fa cdv A outer s H E) (fun cls d _ H => E cls d H) .m (defBody s_need_turret) (b_need_turret) :=
  dss_one (ds_if (dt_not (dt_tru (d_cal c_fits_turret (takes_of rfl rfl rfl rfl) hr (by rfl) (da_cons (d_var 0) (da_nil)) ))) (dss_one (ds_dead)) (dss_nil))
theorem ok_need_turret {P : Program} {w : World} {K : PySem.W.Frag} {mg : Str → Option Value} {base : Heap} {fa : Addr} {fd : FuncData} (F0 : Fun K "need_turret" "need_turret" s_need_turret fa fd) (gf : mg "need_turret" = some (.ref fa)) (c_fits_turret : CalOk P w K mg base .m 4 "fits_turret" ["value"] F_fits_turret) : CalOk P w K mg base .m 5 "need_turret" ["value"] F_need_turret :=
  CalOk.mk' (fn_sound F0 sc_need_turret (fun cdv A outer s H E hr => ds_need_turret c_fits_turret hr) rfl) gf F0.kp (F0.binds (ps := ["value"]) fun _ _ _ _ _ _ us hl => match us, hl with | [_], _ => rfl)
abbrev s_is_bonded_round : Stmt := topS 26
theorem sc_is_bonded_round : FnScope ["turret", "lap", "one", "other"] ["turret", "lap"] (defScope s_is_bonded_round) := ⟨rfl, rfl, rfl, by decide +kernel, rfl, by decide +kernel, by decide +kernel⟩
def b_is_bonded_round : DenS := xSeq (xExpr (xCall 1 (F_need_turret) (xCons (xV 0) (xNil)))) (xSeq (xExpr (xCall 1 (F_need_lap) (xCons (xV 1) (xNil)))) (xRet (xUn allPV (xLc [2, 3] (gTupE 2 (gConsE (gSlot 2) (gConsE (gSlot 3) (gNilE)))) (xYes) (xBin gePV (xCall 2 (F_lap_in) (xCons (xV 2) (xCons (xV 3) (xNil)))) (xV 1)) (xZip (xV 0) (xSlice (xV 0) (xPart (xC (.int 1))) (xNoPart)))))))
def F_is_bonded_round : FDen := fnDen .m 4 b_is_bonded_round
theorem ds_is_bonded_round {P : Program} {w : World} {K : PySem.W.Frag} {mg : Str → Option Value} {base : Heap}  (c_need_turret : CalOk P w K mg base .m 5 "need_turret" ["value"] F_need_turret) (c_need_lap : CalOk P w K mg base .m 3 "need_lap" ["value"] F_need_lap) (m_zip : mg "zip" = none) (c_lap_in : CalOk P w K mg base .m 3 "lap_in" ["one", "other"] F_lap_in) (m_all : mg "all" = none) {fa : Addr} {cdv : Value} {A : Around} {outer : List PySem.Env} {s : Shared} {H : Hp} {E : XK} (hr : Room 5 (A.deeper (envOfC "is_bonded_round" (defScope s_is_bonded_round) s.heap.objs.size fa cdv))) :
    DSs (cxOf (L2.CX P w) P w K mg base ["turret", "lap", "one", "other"] "is_bonded_round" (defScope s_is_bonded_round) fa cdv A outer s H E) (fun cls d _ H => E cls d H) .m (defBody s_is_bonded_round) (b_is_bonded_round) :=
  dss_cons (ds_expr (d_cal c_need_turret (takes_of rfl rfl rfl rfl) hr (by rfl) (da_cons (d_var 0) (da_nil)) )) (dss_cons (ds_expr (d_cal c_need_lap (takes_of rfl rfl rfl rfl) hr (by rfl) (da_cons (d_var 1) (da_nil)) )) (dss_one (ds_retC (d_call1 (cr_all rfl) ok_all (by rfl) m_all rfl ((d_lc [2, 3] rfl sc_is_bonded_round.nd (di_zip (by rfl) m_zip (d_var 0) (d_slice (d_var 0) (do_some (d_int)) (do_none))) (blkOk_by (N := ["turret", "lap", "one", "other"]) (sc := defScope s_is_bonded_round) (own := [("one", 2), ("other", 3)]) (by decide +kernel)) (fun s_ H_ C_ cl_ fp_ => dg_tup rfl (dgs_cons (dg_name 2 sc_is_bonded_round.nd) (dgs_cons (dg_name 3 sc_is_bonded_round.nd) (dgs_nil) (gSlot_ow 3)) (gSlot_ow 2))) (fun s_ H_ C_ cl_ fp_ => dts_nil) (fun s_ H_ C_ cl_ fp_ => d_cmp op_ge ok_cmp (d_cal c_lap_in takes0 hr (by rfl) (da_cons (d_var 2) (da_cons (d_var 3) (da_nil))) ) (d_var 1) (nomark _))).fc)))))
theorem ok_is_bonded_round {P : Program} {w : World} {K : PySem.W.Frag} {mg : Str → Option Value} {base : Heap} {fa : Addr} {fd : FuncData} (F0 : Fun K "is_bonded_round" "is_bonded_round" s_is_bonded_round fa fd) (gf : mg "is_bonded_round" = some (.ref fa)) (c_need_turret : CalOk P w K mg base .m 5 "need_turret" ["value"] F_need_turret) (c_need_lap : CalOk P w K mg base .m 3 "need_lap" ["value"] F_need_lap) (m_zip : mg "zip" = none) (c_lap_in : CalOk P w K mg base .m 3 "lap_in" ["one", "other"] F_lap_in) (m_all : mg "all" = none) : CalOk P w K mg base .m 6 "is_bonded_round" ["turret", "lap"] F_is_bonded_round :=
  CalOk.mk' (fn_sound F0 sc_is_bonded_round (fun cdv A outer s H E hr => ds_is_bonded_round c_need_turret c_need_lap m_zip c_lap_in m_all hr) rfl) gf F0.kp (F0.binds (ps := ["turret", "lap"]) fun _ _ _ _ _ _ us hl => match us, hl with | [_, _], _ => rfl)
abbrev s_need_ring : Stmt := topS 19
theorem sc_need_ring : FnScope ["value"] ["value"] (defScope s_need_ring) := ⟨rfl, rfl, rfl, by decide +kernel, rfl, by decide +kernel, by decide +kernel⟩
def b_need_ring : DenS := xIfS (xNotT (xTru (xCall 1 (F_fits_ring) (xCons (xV 0) (xNil))))) (xDead) (xSkip)
def F_need_ring : FDen := fnDen .m 1 b_need_ring
theorem ds_need_ring {P : Program} {w : World} {K : PySem.W.Frag} {mg : Str → Option Value} {base : Heap}  (c_fits_ring : CalOk P w K mg base .m 3 "fits_ring" ["value"] F_fits_ring) {fa : Addr} {cdv : Value} {A : Around} {outer : List PySem.Env} {s : Shared} {H : Hp} {E : XK} (hr : Room 3 (A.deeper (envOfC "need_ring" (defScope s_need_ring) s.heap.objs.size fa cdv))) :
    DSs (cxOf (L2.CX P w) P w K mg base ["value"] "need_ring" (defScope s_need_ring) fa cdv A outer s H E) (fun cls d _ H => E cls d H) .m (defBody s_need_ring) (b_need_ring) :=
  dss_one (ds_if (dt_not (dt_tru (d_cal c_fits_ring (takes_of rfl rfl rfl rfl) hr (by rfl) (da_cons (d_var 0) (da_nil)) ))) (dss_one (ds_dead)) (dss_nil))
theorem ok_need_ring {P : Program} {w : World} {K : PySem.W.Frag} {mg : Str → Option Value} {base : Heap} {fa : Addr} {fd : FuncData} (F0 : Fun K "need_ring" "need_ring" s_need_ring fa fd) (gf : mg "need_ring" = some (.ref fa)) (c_fits_ring : CalOk P w K mg base .m 3 "fits_ring" ["value"] F_fits_ring) : CalOk P w K mg base .m 4 "need_ring" ["value"] F_need_ring :=
  CalOk.mk' (fn_sound F0 sc_need_ring (fun cdv A outer s H E hr => ds_need_ring c_fits_ring hr) rfl) gf F0.kp (F0.binds (ps := ["value"]) fun _ _ _ _ _ _ us hl => match us, hl with | [_], _ => rfl)
abbrev s_need_rings : Stmt := topS 22
theorem sc_need_rings : FnScope ["one", "other"] ["one", "other"] (defScope s_need_rings) := ⟨rfl, rfl, rfl, by decide +kernel, rfl, by decide +kernel, by decide +kernel⟩
def b_need_rings : DenS := xSeq (xExpr (xCall 1 (F_need_ring) (xCons (xV 0) (xNil)))) (xSeq (xExpr (xCall 1 (F_need_ring) (xCons (xV 1) (xNil)))) (xIfS (xTB (xBin (eqPV true) (xCall 1 (F_length_in) (xCons (xBin idxPV (xV 0) (xC (.int 0))) (xNil))) (xCall 1 (F_length_in) (xCons (xBin idxPV (xV 1) (xC (.int 0))) (xNil))))) (xDead) (xSkip)))
def F_need_rings : FDen := fnDen .m 2 b_need_rings
theorem ds_need_rings {P : Program} {w : World} {K : PySem.W.Frag} {mg : Str → Option Value} {base : Heap}  (c_need_ring : CalOk P w K mg base .m 4 "need_ring" ["value"] F_need_ring) (c_length_in : CalOk P w K mg base .m 1 "length_in" ["course"] F_length_in) {fa : Addr} {cdv : Value} {A : Around} {outer : List PySem.Env} {s : Shared} {H : Hp} {E : XK} (hr : Room 4 (A.deeper (envOfC "need_rings" (defScope s_need_rings) s.heap.objs.size fa cdv))) :
    DSs (cxOf (L2.CX P w) P w K mg base ["one", "other"] "need_rings" (defScope s_need_rings) fa cdv A outer s H E) (fun cls d _ H => E cls d H) .m (defBody s_need_rings) (b_need_rings) :=
  dss_cons (ds_expr (d_cal c_need_ring (takes_of rfl rfl rfl rfl) hr (by rfl) (da_cons (d_var 0) (da_nil)) )) (dss_cons (ds_expr (d_cal c_need_ring (takes_of rfl rfl rfl rfl) hr (by rfl) (da_cons (d_var 1) (da_nil)) )) (dss_one (ds_if (dt_cmp op_neP (ok_eq hr.units) (d_cal c_length_in (takes_of rfl rfl rfl rfl) hr (by rfl) (da_cons (d_ix (d_var 0) (d_int)) (da_nil)) ) (d_cal c_length_in (takes_of rfl rfl rfl rfl) hr (by rfl) (da_cons (d_ix (d_var 1) (d_int)) (da_nil)) ) (nomark _)) (dss_one (ds_dead)) (dss_nil))))
theorem ok_need_rings {P : Program} {w : World} {K : PySem.W.Frag} {mg : Str → Option Value} {base : Heap} {fa : Addr} {fd : FuncData} (F0 : Fun K "need_rings" "need_rings" s_need_rings fa fd) (gf : mg "need_rings" = some (.ref fa)) (c_need_ring : CalOk P w K mg base .m 4 "need_ring" ["value"] F_need_ring) (c_length_in : CalOk P w K mg base .m 1 "length_in" ["course"] F_length_in) : CalOk P w K mg base .m 5 "need_rings" ["one", "other"] F_need_rings :=
  CalOk.mk' (fn_sound F0 sc_need_rings (fun cdv A outer s H E hr => ds_need_rings c_need_ring c_length_in hr) rfl) gf F0.kp (F0.binds (ps := ["one", "other"]) fun _ _ _ _ _ _ us hl => match us, hl with | [_, _], _ => rfl)
abbrev s_like_rings : Stmt := topS 25
theorem sc_like_rings : FnScope ["one", "other"] ["one", "other"] (defScope s_like_rings) := ⟨rfl, rfl, rfl, by decide +kernel, rfl, by decide +kernel, by decide +kernel⟩
def b_like_rings : DenS := xSeq (xExpr (xCall 2 (F_need_rings) (xCons (xV 0) (xCons (xV 1) (xNil))))) (xRet (xBin (eqPV false) (xCall 1 (F_joints_in) (xCons (xV 0) (xNil))) (xCall 1 (F_joints_in) (xCons (xV 1) (xNil)))))
def F_like_rings : FDen := fnDen .m 2 b_like_rings
theorem ds_like_rings {P : Program} {w : World} {K : PySem.W.Frag} {mg : Str → Option Value} {base : Heap}  (c_need_rings : CalOk P w K mg base .m 5 "need_rings" ["one", "other"] F_need_rings) (c_joints_in : CalOk P w K mg base .m 2 "joints_in" ["ring"] F_joints_in) {fa : Addr} {cdv : Value} {A : Around} {outer : List PySem.Env} {s : Shared} {H : Hp} {E : XK} (hr : Room 5 (A.deeper (envOfC "like_rings" (defScope s_like_rings) s.heap.objs.size fa cdv))) :
    DSs (cxOf (L2.CX P w) P w K mg base ["one", "other"] "like_rings" (defScope s_like_rings) fa cdv A outer s H E) (fun cls d _ H => E cls d H) .m (defBody s_like_rings) (b_like_rings) :=
  dss_cons (ds_expr (d_cal c_need_rings (takes_of rfl rfl rfl rfl) hr (by rfl) (da_cons (d_var 0) (da_cons (d_var 1) (da_nil))) )) (dss_one (ds_retC (d_cmp op_eqP (ok_eq hr.units) (d_cal c_joints_in (takes_of rfl rfl rfl rfl) hr (by rfl) (da_cons (d_var 0) (da_nil)) ) (d_cal c_joints_in (takes_of rfl rfl rfl rfl) hr (by rfl) (da_cons (d_var 1) (da_nil)) ) (nomark _))))
theorem ok_like_rings {P : Program} {w : World} {K : PySem.W.Frag} {mg : Str → Option Value} {base : Heap} {fa : Addr} {fd : FuncData} (F0 : Fun K "like_rings" "like_rings" s_like_rings fa fd) (gf : mg "like_rings" = some (.ref fa)) (c_need_rings : CalOk P w K mg base .m 5 "need_rings" ["one", "other"] F_need_rings) (c_joints_in : CalOk P w K mg base .m 2 "joints_in" ["ring"] F_joints_in) : CalOk P w K mg base .m 6 "like_rings" ["one", "other"] F_like_rings :=
  CalOk.mk' (fn_sound F0 sc_like_rings (fun cdv A outer s H E hr => ds_like_rings c_need_rings c_joints_in hr) rfl) gf F0.kp (F0.binds (ps := ["one", "other"]) fun _ _ _ _ _ _ us hl => match us, hl with | [_, _], _ => rfl)
abbrev s__law_round_lap : Stmt := topS 38
theorem sc__law_round_lap : FnScope ["one", "other", "size", "second", "far", "at"] ["one", "other"] (defScope s__law_round_lap) := ⟨rfl, rfl, rfl, by decide +kernel, rfl, by decide +kernel, by decide +kernel⟩
def b__law_round_lap : DenS := xSeq (xAsg (xTup (xCons (xCall 1 (F__law_size) (xCons (xBin idxPV (xV 0) (xC (.int 0))) (xNil))) (xCons (xCall 1 (F__law_around) (xCons (xV 1) (xNil))) (xNil)))) (gTupE 2 (gConsE (gSlot 2) (gConsE (gSlot 3) (gNilE))))) (xSeq (xFor (xRng1 (xV 2)) (gSlot 4) (xIfS (xTB (xBin (eqPV true) (xLc [5] (gSlot 5) (xOrT (xTB (xBin (inPV false) (xBin modPV (xBin plusPV (xV 5) (xV 4)) (xV 2)) (xV 3))) (xTB (xBin (inPV false) (xBin modPV (xBin minusPV (xV 5) (xV 4)) (xV 2)) (xV 3)))) (xV 5) (xItems (xCall 1 (F__law_around) (xCons (xV 0) (xNil))))) (xLst (xNil)))) (xRet (xV 4)) (xSkip))) (xRet (xV 2)))
def F__law_round_lap : FDen := fnDen .m 6 b__law_round_lap
theorem ds__law_round_lap {P : Program} {w : World} {K : PySem.W.Frag} {mg : Str → Option Value} {base : Heap}  (c__law_around : CalOk P w K mg base .m 2 "_law_around" ["ring"] F__law_around) (c__law_size : CalOk P w K mg base .m 1 "_law_size" ["course"] F__law_size) (m_range : mg "range" = none) {fa : Addr} {cdv : Value} {A : Around} {outer : List PySem.Env} {s : Shared} {H : Hp} {E : XK} (hr : Room 2 (A.deeper (envOfC "_law_round_lap" (defScope s__law_round_lap) s.heap.objs.size fa cdv))) :
    DSs (cxOf (L2.CX P w) P w K mg base ["one", "other", "size", "second", "far", "at"] "_law_round_lap" (defScope s__law_round_lap) fa cdv A outer s H E) (fun cls d _ H => E cls d H) .m (defBody s__law_round_lap) (b__law_round_lap) :=
  dss_cons (ds_asg (d_tup (da_cons (d_cal c__law_size (takes_of rfl rfl rfl rfl) hr (by rfl) (da_cons (d_ix (d_var 0) (d_int)) (da_nil)) ) (da_cons (d_cal c__law_around (takes_of rfl rfl rfl rfl) hr (by rfl) (da_cons (d_var 1) (da_nil)) ) (da_nil)))) (dg_tup rfl (dgs_cons (dg_name 2 sc__law_round_lap.nd) (dgs_cons (dg_name 3 sc__law_round_lap.nd) (dgs_nil) (gSlot_ow 3)) (gSlot_ow 2)))) (dss_cons (ds_for (passes_of rfl) rfl (di_rng1 (by rfl) m_range (d_var 2)) (dg_name 4 sc__law_round_lap.nd) (dss_one (ds_if (dt_cmp op_neP (ok_eq hr.units) ((d_lc [5] rfl sc__law_round_lap.nd (di_seq (d_cal c__law_around (takes_of rfl rfl rfl rfl) hr (by rfl) (da_cons (d_var 0) (da_nil)) )) (blkOk_by (N := ["one", "other", "size", "second", "far", "at"]) (sc := defScope s__law_round_lap) (own := [("at", 5)]) (by decide +kernel)) (fun s_ H_ C_ cl_ fp_ => dg_name 5 sc__law_round_lap.nd) (fun s_ H_ C_ cl_ fp_ => dts_one (dw_pt (dw_or (dt_cmp op_inP (ok_in hr.units) (d_bin op_mod ok_mod (d_bin op_plus ok_plusC (d_var 5) (d_var 4)) (d_var 2)) (d_var 3) (by rfl)) (dw_or1 (dt_cmp op_inP (ok_in hr.units) (d_bin op_mod ok_mod (d_bin op_sub ok_minus (d_var 5) (d_var 4)) (d_var 2)) (d_var 3) (by rfl)))))) (fun s_ H_ C_ cl_ fp_ => d_var 5)).fc) ((d_lst (da_nil)).fc) (nomark _)) (dss_one (ds_retC (d_var 4))) (dss_nil)))) (dss_one (ds_retC (d_var 2))))
theorem ok__law_round_lap {P : Program} {w : World} {K : PySem.W.Frag} {mg : Str → Option Value} {base : Heap} {fa : Addr} {fd : FuncData} (F0 : Fun K "_law_round_lap" "_law_round_lap" s__law_round_lap fa fd) (gf : mg "_law_round_lap" = some (.ref fa)) (c__law_around : CalOk P w K mg base .m 2 "_law_around" ["ring"] F__law_around) (c__law_size : CalOk P w K mg base .m 1 "_law_size" ["course"] F__law_size) (m_range : mg "range" = none) : CalOk P w K mg base .m 3 "_law_round_lap" ["one", "other"] F__law_round_lap :=
  CalOk.mk' (fn_sound F0 sc__law_round_lap (fun cdv A outer s H E hr => ds__law_round_lap c__law_around c__law_size m_range hr) rfl) gf F0.kp (F0.binds (ps := ["one", "other"]) fun _ _ _ _ _ _ us hl => match us, hl with | [_, _], _ => rfl)
abbrev s__law_right : Stmt := topS 39
theorem sc__law_right : FnScope ["cup", "course", "size", "lap", "step", "high", "rings", "at", "ring", "good", "own", "again", "told"] ["cup"] (defScope s__law_right) := ⟨rfl, rfl, rfl, by decide +kernel, rfl, by decide +kernel, by decide +kernel⟩
def b__law_right : DenS := xSeq (xAsg (xCall 2 (F__law_row) (xCons (xV 0) (xCons (xBin plusPV (xC (.int 1)) (xCall 2 (F__law_roll) (xCons (xV 0) (xCons (xC (.int 20)) (xNil))))) (xNil)))) (gSlot 1)) (xSeq (xAsg (xTup (xCons (xCall 1 (F__law_size) (xCons (xV 1) (xNil))) (xCons (xBin plusPV (xC (.int 1)) (xCall 2 (F__law_roll) (xCons (xV 0) (xCons (xC (.int 4)) (xNil))))) (xNil)))) (gTupE 2 (gConsE (gSlot 2) (gConsE (gSlot 3) (gNilE))))) (xSeq (xPar [(4, false), (5, false)] (xCons (xCall 2 (F__law_roll) (xCons (xV 0) (xCons (xV 2) (xNil)))) (xCons (xBin plusPV (xC (.int 1)) (xCall 2 (F__law_roll) (xCons (xV 0) (xCons (xC (.int 24)) (xNil))))) (xNil)))) (xSeq (xPar [(6, true), (7, false)] (xCons (xLst (xNil)) (xCons (xC (.int 0)) (xNil)))) (xSeq (xFor (xRng1 (xV 5)) (gSlot 8) (xSeq (xApp 6 (xTup (xCons (xV 1) (xCons (xV 7) (xNil))))) (xAsg (xIf (xTB (xBin ltPV (xBin plusPV (xV 7) (xV 4)) (xV 2))) (xBin plusPV (xV 7) (xV 4)) (xBin minusPV (xBin plusPV (xV 7) (xV 4)) (xV 2))) (gSlot 7)))) (xSeq (xIfS (xNotT (xTru (xCall 2 (F__law_same 4) (xCons (xCall 3 (F_spiral_turret) (xCons (xV 1) (xCons (xV 4) (xCons (xV 5) (xNil))))) (xCons (xUn tuplePV (xO 6)) (xNil)))))) (xRet (xC (.bl false))) (xSkip)) (xSeq (xAsg (xUn tuplePV (xLc [10] (gSlot 10) (xTB (xBin gePV (xCall 2 (F__law_round_lap) (xCons (xTup (xCons (xV 1) (xCons (xC (.int 0)) (xNil)))) (xCons (xTup (xCons (xV 1) (xCons (xV 10) (xNil)))) (xNil)))) (xV 3))) (xV 10) (xRng1 (xV 2)))) (gSlot 9)) (xSeq (xIfS (xNotT (xTru (xCall 2 (F__law_same 4) (xCons (xCall 2 (F_spiral_steps) (xCons (xV 1) (xCons (xV 3) (xNil)))) (xCons (xV 9) (xNil)))))) (xRet (xC (.bl false))) (xSkip)) (xSeq (xIfS (xAndT (xTB (xBin (inPV false) (xV 4) (xV 9))) (xTB (xBin (isBlPV true) (xCall 2 (F_is_bonded_round) (xCons (xUn tuplePV (xO 6)) (xCons (xV 3) (xNil)))) (xC (.bl true))))) (xRet (xC (.bl false))) (xSkip)) (xSeq (xPar [(11, false), (7, false)] (xCons (xC (.int 1)) (xCons (xV 4) (xNil)))) (xSeq (whileL (xTB (xBin (eqPV true) (xCall 1 (F__law_around) (xCons (xTup (xCons (xV 1) (xCons (xV 7) (xNil)))) (xNil))) (xCall 1 (F__law_around) (xCons (xTup (xCons (xV 1) (xCons (xC (.int 0)) (xNil)))) (xNil))))) (xPar [(11, false), (7, false)] (xCons (xBin plusPV (xV 11) (xC (.int 1))) (xCons (xBin modPV (xBin plusPV (xV 7) (xV 4)) (xV 2)) (xNil)))) 64) (xSeq (xAsg (xCall 2 (F_spiral_again) (xCons (xV 1) (xCons (xV 4) (xNil)))) (gSlot 12)) (xRet (xAnd (xCall 2 (F__law_same 4) (xCons (xV 12) (xCons (xV 11) (xNil)))) (xBin (isBlPV false) (xCall 2 (F_like_rings) (xCons (xTup (xCons (xV 1) (xCons (xC (.int 0)) (xNil)))) (xCons (xTup (xCons (xV 1) (xCons (xBin modPV (xBin mulPV (xV 11) (xV 4)) (xV 2)) (xNil)))) (xNil)))) (xC (.bl true))))))))))))))))
def F__law_right : FDen := fnDen .m 13 b__law_right
theorem ds__law_right {P : Program} {w : World} {K : PySem.W.Frag} {mg : Str → Option Value} {base : Heap}  (c__law_roll : CalOk P w K mg base .m 1 "_law_roll" ["cup", "many"] F__law_roll) (c__law_row : CalOk P w K mg base .m 3 "_law_row" ["cup", "length"] F__law_row) (c__law_size : CalOk P w K mg base .m 1 "_law_size" ["course"] F__law_size) (m_range : mg "range" = none) (m_tuple : mg "tuple" = none) (c_spiral_turret : CalOk P w K mg base .m 3 "spiral_turret" ["course", "step", "high"] F_spiral_turret) (c__law_same : CalOk P w K mg base .m 4 "_law_same" ["told", "due"] (F__law_same 4)) (c__law_round_lap : CalOk P w K mg base .m 3 "_law_round_lap" ["one", "other"] F__law_round_lap) (c_spiral_steps : CalOk P w K mg base .m 4 "spiral_steps" ["course", "lap"] F_spiral_steps) (c_is_bonded_round : CalOk P w K mg base .m 6 "is_bonded_round" ["turret", "lap"] F_is_bonded_round) (c__law_around : CalOk P w K mg base .m 2 "_law_around" ["ring"] F__law_around) (c_spiral_again : CalOk P w K mg base .m 3 "spiral_again" ["course", "step"] F_spiral_again) (c_like_rings : CalOk P w K mg base .m 6 "like_rings" ["one", "other"] F_like_rings) {fa : Addr} {cdv : Value} {A : Around} {outer : List PySem.Env} {s : Shared} {H : Hp} {E : XK} (hr : Room 6 (A.deeper (envOfC "_law_right" (defScope s__law_right) s.heap.objs.size fa cdv))) :
    DSs (cxOf (L2.CX P w) P w K mg base ["cup", "course", "size", "lap", "step", "high", "rings", "at", "ring", "good", "own", "again", "told"] "_law_right" (defScope s__law_right) fa cdv A outer s H E) (fun cls d _ H => E cls d H) .m (defBody s__law_right) (b__law_right) :=
  dss_cons (ds_set 1 sc__law_right.nd (d_cal c__law_row (takes_of rfl rfl rfl rfl) hr (by rfl) (da_cons (d_var 0) (da_cons (d_bin op_plus ok_plusC (d_int) (d_cal c__law_roll (takes_of rfl rfl rfl rfl) hr (by rfl) (da_cons (d_var 0) (da_cons (d_int) (da_nil))) )) (da_nil))) )) (dss_cons (ds_asg (d_tup (da_cons (d_cal c__law_size (takes_of rfl rfl rfl rfl) hr (by rfl) (da_cons (d_var 1) (da_nil)) ) (da_cons (d_bin op_plus ok_plusC (d_int) (d_cal c__law_roll (takes_of rfl rfl rfl rfl) hr (by rfl) (da_cons (d_var 0) (da_cons (d_int) (da_nil))) )) (da_nil)))) (dg_tup rfl (dgs_cons (dg_name 2 sc__law_right.nd) (dgs_cons (dg_name 3 sc__law_right.nd) (dgs_nil) (gSlot_ow 3)) (gSlot_ow 2)))) (dss_cons (ds_par2 4 5 false false rfl sc__law_right.nd (dao_pl (d_cal c__law_roll (takes_of rfl rfl rfl rfl) hr (by rfl) (da_cons (d_var 0) (da_cons (d_var 2) (da_nil))) ) (dao_pl (d_bin op_plus ok_plusC (d_int) (d_cal c__law_roll (takes_of rfl rfl rfl rfl) hr (by rfl) (da_cons (d_var 0) (da_cons (d_int) (da_nil))) )) (dao_nil)))) (dss_cons (ds_par2 6 7 true false rfl sc__law_right.nd (dao_ow (d_lst (da_nil)) (dao_pl (d_int) (dao_nil)))) (dss_cons (ds_for (passes_of rfl) rfl (di_rng1 (by rfl) m_range (d_var 5)) (dg_name 8 sc__law_right.nd) (dss_cons (ds_app 6 (d_tup (da_cons (d_var 1) (da_cons (d_var 7) (da_nil))))) (dss_one (ds_set 7 sc__law_right.nd (d_ifExp (dt_cmp op_lt ok_cmp (d_bin op_plus ok_plusC (d_var 7) (d_var 4)) (d_var 2) (nomark _)) (d_bin op_plus ok_plusC (d_var 7) (d_var 4)) (d_bin op_sub ok_minus (d_bin op_plus ok_plusC (d_var 7) (d_var 4)) (d_var 2))))))) (dss_cons (ds_if (dt_not (dt_tru (d_cal c__law_same (takes_of rfl rfl rfl rfl) hr (by rfl) (da_cons (d_cal c_spiral_turret (takes_of rfl rfl rfl rfl) hr (by rfl) (da_cons (d_var 1) (da_cons (d_var 4) (da_cons (d_var 5) (da_nil)))) ) (da_cons (d_callT call_tuple_of ok_tuple (by rfl) m_tuple rfl (d_own 6)) (da_nil))) ))) (dss_one (ds_retC (d_bl))) (dss_nil)) (dss_cons (ds_set 9 sc__law_right.nd (d_callT call_tuple_of ok_tuple (by rfl) m_tuple rfl ((d_lc [10] rfl sc__law_right.nd (di_rng1 (by rfl) m_range (d_var 2)) (blkOk_by (N := ["cup", "course", "size", "lap", "step", "high", "rings", "at", "ring", "good", "own", "again", "told"]) (sc := defScope s__law_right) (own := [("own", 10)]) (by decide +kernel)) (fun s_ H_ C_ cl_ fp_ => dg_name 10 sc__law_right.nd) (fun s_ H_ C_ cl_ fp_ => dts_one (dt_cmp op_ge ok_cmp (d_cal c__law_round_lap takes0 hr (by rfl) (da_cons (d_tup (da_cons (d_var 1) (da_cons (d_int) (da_nil)))) (da_cons (d_tup (da_cons (d_var 1) (da_cons (d_var 10) (da_nil)))) (da_nil))) ) (d_var 3) (nomark _))) (fun s_ H_ C_ cl_ fp_ => d_var 10)).fc))) (dss_cons (ds_if (dt_not (dt_tru (d_cal c__law_same (takes_of rfl rfl rfl rfl) hr (by rfl) (da_cons (d_cal c_spiral_steps (takes_of rfl rfl rfl rfl) hr (by rfl) (da_cons (d_var 1) (da_cons (d_var 3) (da_nil))) ) (da_cons (d_var 9) (da_nil))) ))) (dss_one (ds_retC (d_bl))) (dss_nil)) (dss_cons (ds_if (dw_pt (dw_and (dt_cmp op_inP (ok_in hr.units) (d_var 4) (d_var 9) (by rfl)) (dw_and1 (dt_cmp op_notBl ok_isNotB (d_cal c_is_bonded_round (takes_of rfl rfl rfl rfl) hr (by rfl) (da_cons (d_callT call_tuple_of ok_tuple (by rfl) m_tuple rfl (d_own 6)) (da_cons (d_var 3) (da_nil))) ) (d_bl) (nomark _))))) (dss_one (ds_retC (d_bl))) (dss_nil)) (dss_cons (ds_par2 11 7 false false rfl sc__law_right.nd (dao_pl (d_int) (dao_pl (d_var 4) (dao_nil)))) (dss_cons (ds_while 64 (passes_of rfl) (dt_cmp op_neP (ok_eq hr.units) (d_cal c__law_around (takes_of rfl rfl rfl rfl) hr (by rfl) (da_cons (d_tup (da_cons (d_var 1) (da_cons (d_var 7) (da_nil)))) (da_nil)) ) (d_cal c__law_around (takes_of rfl rfl rfl rfl) hr (by rfl) (da_cons (d_tup (da_cons (d_var 1) (da_cons (d_int) (da_nil)))) (da_nil)) ) (nomark _)) (dss_one (ds_par2 11 7 false false rfl sc__law_right.nd (dao_pl (d_bin op_plus ok_plusC (d_var 11) (d_int)) (dao_pl (d_bin op_mod ok_mod (d_bin op_plus ok_plusC (d_var 7) (d_var 4)) (d_var 2)) (dao_nil)))))) (dss_cons (ds_set 12 sc__law_right.nd (d_cal c_spiral_again (takes_of rfl rfl rfl rfl) hr (by rfl) (da_cons (d_var 1) (da_cons (d_var 4) (da_nil))) )) (dss_one (ds_retC (d_and (d_cal c__law_same (takes_of rfl rfl rfl rfl) hr (by rfl) (da_cons (d_var 12) (da_cons (d_var 11) (da_nil))) ) (d_one (d_cmp op_isBl ok_isB (d_cal c_like_rings (takes_of rfl rfl rfl rfl) hr (by rfl) (da_cons (d_tup (da_cons (d_var 1) (da_cons (d_int) (da_nil)))) (da_cons (d_tup (da_cons (d_var 1) (da_cons (d_bin op_mod ok_mod (d_bin op_mulA ok_mulC (d_var 11) (d_var 4)) (d_var 2)) (da_nil)))) (da_nil))) ) (d_bl) (nomark _)))))))))))))))))
theorem ok__law_right {P : Program} {w : World} {K : PySem.W.Frag} {mg : Str → Option Value} {base : Heap} {fa : Addr} {fd : FuncData} (F0 : Fun K "_law_right" "_law_right" s__law_right fa fd) (gf : mg "_law_right" = some (.ref fa)) (c__law_roll : CalOk P w K mg base .m 1 "_law_roll" ["cup", "many"] F__law_roll) (c__law_row : CalOk P w K mg base .m 3 "_law_row" ["cup", "length"] F__law_row) (c__law_size : CalOk P w K mg base .m 1 "_law_size" ["course"] F__law_size) (m_range : mg "range" = none) (m_tuple : mg "tuple" = none) (c_spiral_turret : CalOk P w K mg base .m 3 "spiral_turret" ["course", "step", "high"] F_spiral_turret) (c__law_same : CalOk P w K mg base .m 4 "_law_same" ["told", "due"] (F__law_same 4)) (c__law_round_lap : CalOk P w K mg base .m 3 "_law_round_lap" ["one", "other"] F__law_round_lap) (c_spiral_steps : CalOk P w K mg base .m 4 "spiral_steps" ["course", "lap"] F_spiral_steps) (c_is_bonded_round : CalOk P w K mg base .m 6 "is_bonded_round" ["turret", "lap"] F_is_bonded_round) (c__law_around : CalOk P w K mg base .m 2 "_law_around" ["ring"] F__law_around) (c_spiral_again : CalOk P w K mg base .m 3 "spiral_again" ["course", "step"] F_spiral_again) (c_like_rings : CalOk P w K mg base .m 6 "like_rings" ["one", "other"] F_like_rings) : CalOk P w K mg base .m 7 "_law_right" ["cup"] F__law_right :=
  CalOk.mk' (fn_sound F0 sc__law_right (fun cdv A outer s H E hr => ds__law_right c__law_roll c__law_row c__law_size m_range m_tuple c_spiral_turret c__law_same c__law_round_lap c_spiral_steps c_is_bonded_round c__law_around c_spiral_again c_like_rings hr) rfl) gf F0.kp (F0.binds (ps := ["cup"]) fun _ _ _ _ _ _ us hl => match us, hl with | [_], _ => rfl)
abbrev s_law : Stmt := topS 40
theorem sc_law : FnScope ["script", "cup", "turn", "many", "step", "told", "due", "own"] ["script"] (defScope s_law) := ⟨rfl, rfl, rfl, by decide +kernel, rfl, by decide +kernel, by decide +kernel⟩
def b_law : DenS := xSeq (xFor (xRng1 (xC (.int 6))) (gSlot 2) (xIfS (xNotT (xTru (xCall 1 (F__law_right) (xCons (xV 1) (xNil))))) (xRet (xC (.bl false))) (xSkip))) (xSeq (xPar [(3, false), (4, false)] (xCons (xBin plusPV (xC (.int 1)) (xCall 2 (F__law_roll) (xCons (xV 1) (xCons (xC (.int 15)) (xNil))))) (xCons (xCall 2 (F__law_roll) (xCons (xV 1) (xCons (xC (.int 4)) (xNil)))) (xNil)))) (xSeq (xAsg (xTup (xCons (xCall 2 (F_spiral_again) (xCons (xBin mulPV (xC (.str [113])) (xV 3)) (xCons (xBin modPV (xV 4) (xV 3)) (xNil)))) (xCons (xCall 2 (F_spiral_steps) (xCons (xBin mulPV (xC (.str [113])) (xV 3)) (xCons (xC (.int 1)) (xNil)))) (xCons (xCall 2 (F_spiral_again) (xCons (xBin mulPV (xC (.str [115])) (xV 3)) (xCons (xV 4) (xNil)))) (xCons (xCall 2 (F_spiral_steps) (xCons (xBin mulPV (xC (.str [115])) (xV 3)) (xCons (xC (.int 2)) (xNil)))) (xNil)))))) (gSlot 5)) (xSeq (xAsg (xTup (xCons (xC (.int 1)) (xCons (xTup (xNil)) (xCons (xBin idxPV (xLst (xCons (xC (.int 1)) (xCons (xC (.int 4)) (xCons (xC (.int 2)) (xCons (xC (.int 4)) (xNil)))))) (xV 4)) (xCons (xUn tuplePV (xLc [7] (gSlot 7) (xTB (xBin (eqPV false) (xBin modPV (xV 7) (xC (.int 4))) (xC (.int 2)))) (xV 7) (xRng1 (xBin mulPV (xC (.int 4)) (xV 3))))) (xNil)))))) (gSlot 6)) (xRet (xCall 2 (F__law_same 4) (xCons (xV 5) (xCons (xV 6) (xNil))))))))
def F_law : FDen := fnDen .m 8 b_law
theorem ds_law {P : Program} {w : World} {K : PySem.W.Frag} {mg : Str → Option Value} {base : Heap}  (m_range : mg "range" = none) (c__law_right : CalOk P w K mg base .m 7 "_law_right" ["cup"] F__law_right) (c__law_roll : CalOk P w K mg base .m 1 "_law_roll" ["cup", "many"] F__law_roll) (c_spiral_steps : CalOk P w K mg base .m 4 "spiral_steps" ["course", "lap"] F_spiral_steps) (c_spiral_again : CalOk P w K mg base .m 3 "spiral_again" ["course", "step"] F_spiral_again) (m_tuple : mg "tuple" = none) (c__law_same : CalOk P w K mg base .m 4 "_law_same" ["told", "due"] (F__law_same 4)) {fa : Addr} {cdv : Value} {A : Around} {outer : List PySem.Env} {s : Shared} {H : Hp} {E : XK} (hr : Room 7 (A.deeper (envOfC "law" (defScope s_law) s.heap.objs.size fa cdv))) :
    DSs (cxOf (L2.CX P w) P w K mg base ["script", "cup", "turn", "many", "step", "told", "due", "own"] "law" (defScope s_law) fa cdv A outer s H E) (fun cls d _ H => E cls d H) .m ((defBody s_law).tail) (b_law) :=
  dss_cons (ds_for (passes_of rfl) rfl (di_rng1 (by rfl) m_range (d_int)) (dg_name 2 sc_law.nd) (dss_one (ds_if (dt_not (dt_tru (d_cal c__law_right (takes_of rfl rfl rfl rfl) hr (by rfl) (da_cons (d_var 1) (da_nil)) ))) (dss_one (ds_retC (d_bl))) (dss_nil)))) (dss_cons (ds_par2 3 4 false false rfl sc_law.nd (dao_pl (d_bin op_plus ok_plusC (d_int) (d_cal c__law_roll (takes_of rfl rfl rfl rfl) hr (by rfl) (da_cons (d_var 1) (da_cons (d_int) (da_nil))) )) (dao_pl (d_cal c__law_roll (takes_of rfl rfl rfl rfl) hr (by rfl) (da_cons (d_var 1) (da_cons (d_int) (da_nil))) ) (dao_nil)))) (dss_cons (ds_set 5 sc_law.nd (d_tup (da_cons (d_cal c_spiral_again (takes_of rfl rfl rfl rfl) hr (by rfl) (da_cons (d_bin op_mulA ok_mulC (d_str [113]) (d_var 3)) (da_cons (d_bin op_mod ok_mod (d_var 4) (d_var 3)) (da_nil))) ) (da_cons (d_cal c_spiral_steps (takes_of rfl rfl rfl rfl) hr (by rfl) (da_cons (d_bin op_mulA ok_mulC (d_str [113]) (d_var 3)) (da_cons (d_int) (da_nil))) ) (da_cons (d_cal c_spiral_again (takes_of rfl rfl rfl rfl) hr (by rfl) (da_cons (d_bin op_mulA ok_mulC (d_str [115]) (d_var 3)) (da_cons (d_var 4) (da_nil))) ) (da_cons (d_cal c_spiral_steps (takes_of rfl rfl rfl rfl) hr (by rfl) (da_cons (d_bin op_mulA ok_mulC (d_str [115]) (d_var 3)) (da_cons (d_int) (da_nil))) ) (da_nil))))))) (dss_cons (ds_set 6 sc_law.nd (d_tup (da_cons (d_int) (da_cons (d_tup (da_nil)) (da_cons (d_ix ((d_lst (da_cons (d_int) (da_cons (d_int) (da_cons (d_int) (da_cons (d_int) (da_nil)))))).fc) (d_var 4)) (da_cons (d_callT call_tuple_of ok_tuple (by rfl) m_tuple rfl ((d_lc [7] rfl sc_law.nd (di_rng1 (by rfl) m_range (d_bin op_mulA ok_mulC (d_int) (d_var 3))) (blkOk_by (N := ["script", "cup", "turn", "many", "step", "told", "due", "own"]) (sc := defScope s_law) (own := [("own", 7)]) (by decide +kernel)) (fun s_ H_ C_ cl_ fp_ => dg_name 7 sc_law.nd) (fun s_ H_ C_ cl_ fp_ => dts_one (dt_cmp op_eqP (ok_eq hr.units) (d_bin op_mod ok_mod (d_var 7) (d_int)) (d_int) (nomark _))) (fun s_ H_ C_ cl_ fp_ => d_var 7)).fc)) (da_nil))))))) (dss_one (ds_retC (d_cal c__law_same (takes_of rfl rfl rfl rfl) hr (by rfl) (da_cons (d_var 5) (da_cons (d_var 6) (da_nil))) ))))))
theorem ok_law {P : Program} {w : World} {K : PySem.W.Frag} {mg : Str → Option Value} {base : Heap} {fa fc : Addr} {fd fdc : FuncData} (F0 : Fun K "law" "law" s_law fa fd) (FC : Fun K "_law_cup" "_law_cup" s__law_cup fc fdc) (gc : mg "_law_cup" = some (.ref fc)) (m_abs : mg "abs" = none) (m_list : mg "list" = none) (m_int : mg "int" = none) (m_range : mg "range" = none) (c__law_right : CalOk P w K mg base .m 7 "_law_right" ["cup"] F__law_right) (c__law_roll : CalOk P w K mg base .m 1 "_law_roll" ["cup", "many"] F__law_roll) (c_spiral_steps : CalOk P w K mg base .m 4 "spiral_steps" ["course", "lap"] F_spiral_steps) (c_spiral_again : CalOk P w K mg base .m 3 "spiral_again" ["course", "step"] F_spiral_again) (m_tuple : mg "tuple" = none) (c__law_same : CalOk P w K mg base .m 4 "_law_same" ["told", "due"] (F__law_same 4))
    (hden : ∀ ns : List Int, ∃ st', b_law (env1 8) [SO.lst [.int (cup1 163 ns), .int (cup2 419 4027 2077502087 281 ns)]] = .rt (.bl true) st') : FnOk P w K mg base (L2.CX P w) 8 fa fd ["script"] (spLawV K) := by
  have C := ok__law_cup (P := P) (w := w) (base := base) FC m_abs m_list m_int
  have bc : Binds K fdc ["script"] [] := FC.binds (ps := ["script"]) fun _ _ _ _ _ _ us hl => match us, hl with | [_], _ => rfl
  exact law_entry (N := ["script", "cup", "turn", "many", "step", "told", "due", "own"]) F0 sc_law (by decide) C gc FC.kp bc (by decide : 1 ≤ 7) rfl (fun cdv A outer s H E hr => ps_set (i := 1) sc_law.nd rfl (by first | exact Or.inl rfl | exact Or.inr rfl) (pe_callS C (hr.mono (by decide : 1 ≤ 7)) (by rfl) gc FC.kp bc (passAt (takes_of rfl rfl rfl rfl)) (pa_cons (pv 0) pa_nil))) (fun cdv A outer s H E hr => ds_law m_range c__law_right c__law_roll c_spiral_steps c_spiral_again m_tuple c__law_same hr) hden

end Vl

set_option linter.all false
set_option maxRecDepth 100000
set_option maxHeartbeats 1000000
namespace Vl
open PySem L2
theorem size_ok {s : List Nat} {st : Sto} (h : Sg s) (hz : s.length ≤ 16777216) : F__law_size [.str s] st = .ok (.int (szL s)) st := by
  have e := compL_map (g := gSlot 1) (dt := xYes) (de := (xBin dgetPV (xC (.dct false (mergePV [(.str [115], .int 4), (.str [116], .int 3), (.str [104], .int 2), (.str [113], .int 1)]))) (xV 1))) (env := [.pl (.str s), .no]) (st := st) (fun c => PV.str [c]) (fun _ => true) (fun c => PV.int (szc c)) s
    (fun c hc => ⟨[.pl (.str s), .pl (.str [c])], rfl, rfl, fun _ => by
      rcases szc_cases (h c hc) with ⟨rfl, e⟩ | ⟨rfl, e⟩ | ⟨rfl, e⟩ | ⟨rfl, e⟩ <;> rw [e] <;> kernel_rfl⟩)
  have hb : notOwB [Slot.pl (.str s), .no] [1] = true := rfl
  simp [F__law_size, fnDen, b__law_size, xRet, xUn, xLc, xItems, xV, startE, Res.bind, itemsOf, opt, Res.thenS, hb, hz, wipeE, e, sumPV, intsOf_mapf, szL, filter_all]
/-- the dice -/
def CupOk (st : Sto) : Prop := ∃ a b : Int, st = [.lst [.int a, .int b]] ∧ 0 ≤ b ∧ b < 4294967296
theorem at0 {a b : PV} : atI [a, b] 0 = some a := atI_nat (j := 0) rfl
theorem at1 {a b : PV} : atI [a, b] 1 = some b := atI_nat (j := 1) rfl
theorem ix0 : ixN 2 0 = some 0 := by decide
theorem ix1 : ixN 2 1 = some 1 := by decide
theorem roll_ok {m : Int} {st : Sto} (h : CupOk st) (h1 : 1 ≤ m) (h2 : m < 1073741824) : ∃ r st', F__law_roll [.obj 0, .int m] st = .ok (.int r) st' ∧ 0 ≤ r ∧ r < m ∧ CupOk st' := by
  obtain ⟨a, b, rfl, hb1, hb2⟩ := h
  have hm : 0 < m := by omega
  by_cases ha : 0 < a
  · refine ⟨a % m, [.lst [.int (a / m), .int b]], ?_, Int.emod_nonneg _ (by omega), Int.emod_lt_of_pos _ hm, _, _, rfl, hb1, hb2⟩
    simp [F__law_roll, fnDen, b__law_roll, xSeq, xIfS, xTB, tbR, xBin, gtPV, cmpPV, xIxS, ixS, getS, at0, at1, startE, xV, xC, Res.bind, opt, Res.thenS, ha, xAsg, xUn, intPV, modPV, hm, gSlot, optS, SRes.andThen, xPutS, fdivPV, h2, xRet, ix0]
  · have y0 : 0 ≤ (b * 30859 + 7907) % 2147482951 := Int.emod_nonneg _ (by decide)
    have y1 : (b * 30859 + 7907) % 2147482951 < 2147482951 := Int.emod_lt_of_pos _ (by decide)
    have hc1 : -18446744073709551616 < (b * 30859 + 7907) % 2147482951 := by omega
    have hc2 : (b * 30859 + 7907) % 2147482951 < 18446744073709551616 := by omega
    refine ⟨(b * 30859 + 7907) % 2147482951 * ((b * 30859 + 7907) % 2147482951 + 311) % 2147483059 / 929 % m, [.lst [.int a, .int ((b * 30859 + 7907) % 2147482951)]], ?_, Int.emod_nonneg _ (by omega), Int.emod_lt_of_pos _ hm, _, _, rfl, y0, by omega⟩
    simp [F__law_roll, fnDen, b__law_roll, xSeq, xIfS, xTB, tbR, xBin, gtPV, cmpPV, xIxS, ixS, getS, at0, at1, startE, xV, xC, Res.bind, opt, Res.thenS, ha, xAsg, xUn, intPV, modPV, hm, gSlot, optS, SRes.andThen, xPutS, fdivPV, h2, xRet, ix0, ix1, xSkip, mulPV, plusPV, hc1, hc2]
/-- one of a list -/
theorem some_ok {xs : List PV} {st : Sto} (h : CupOk st) (h1 : xs ≠ []) (h2 : xs.length < 1073741824) : ∃ p st', F__law_some [.obj 0, .lst xs] st = .ok p st' ∧ p ∈ xs ∧ CupOk st' := by
  have l1 : 1 ≤ xs.length := by cases xs with | nil => exact absurd rfl h1 | cons x r => simp
  obtain ⟨r, st', e, r0, r1, hc⟩ := roll_ok (m := xs.length) h (by omega) (by omega)
  obtain ⟨k, rfl⟩ : ∃ k : Nat, r = k := ⟨r.toNat, by omega⟩
  have hk : k < xs.length := by omega
  refine ⟨xs[k], st', ?_, List.getElem_mem hk, hc⟩
  have ea : atI xs (k : Int) = some xs[k] := atI_nat (List.getElem?_eq_getElem hk)
  simp [F__law_some, fnDen, b__law_some, xRet, xBin, xV, startE, Res.bind, xCall, xCons, xUn, lenPV, opt, xNil, e, idxPV, ea, Res.thenS]
theorem someS_ok {l : List Nat} {st : Sto} (h : CupOk st) (h1 : l ≠ []) (h2 : l.length < 1073741824) : ∃ c st', F__law_some [.obj 0, .str l] st = .ok (.str [c]) st' ∧ c ∈ l ∧ CupOk st' := by
  have l1 : 1 ≤ l.length := by cases l with | nil => exact absurd rfl h1 | cons x r => simp
  obtain ⟨r, st', e, r0, r1, hc⟩ := roll_ok (m := l.length) h (by omega) (by omega)
  obtain ⟨k, rfl⟩ : ∃ k : Nat, r = k := ⟨r.toNat, by omega⟩
  have hk : k < l.length := by omega
  refine ⟨l[k], st', ?_, List.getElem_mem hk, hc⟩
  have ea : atI l (k : Int) = some l[k] := atI_nat (List.getElem?_eq_getElem hk)
  simp [F__law_some, fnDen, b__law_some, xRet, xBin, xV, startE, Res.bind, xCall, xCons, xUn, lenPV, opt, xNil, e, idxPV, ea, Res.thenS]
mutual
/-- what _law_same can look at, of nesting n -/
def okv : Nat → PV → Bool
  | _, .non => true
  | _, .bl _ => true
  | _, .int _ => true
  | _, .str _ => true
  | n + 1, .tup ps => okvs n ps && decide (ps.length ≤ 1000000)
  | _, _ => false
def okvs : Nat → List PV → Bool
  | _, [] => true
  | n, p :: r => okv n p && okvs n r
end
theorem okvs_mem {n : Nat} : ∀ {ps : List PV}, okvs n ps = true → ∀ p ∈ ps, okv n p = true
  | [], _, p, h => absurd h (by simp)
  | q :: r, h, p, hp => by
    simp only [okvs, Bool.and_eq_true] at h
    rcases List.mem_cons.mp hp with rfl | hp
    · exact h.1
    · exact okvs_mem h.2 p hp
theorem ity_tup (p : PV) (h : ∀ ps, p ≠ .tup ps) (h2 : tyPV p ≠ none) : isiPV "tuple" p = some (.bl false) := by
  cases p <;> first | rfl | exact absurd rfl (h _) | exact absurd rfl h2
theorem same_refl : ∀ (n : Nat) (p : PV) (st : Sto), okv n p = true → F__law_same (n + 1) [p, p] st = .ok (.bl true) st := by
  intro n
  induction n with
  | zero =>
    intro p st h
    cases p with
    | non => kernel_rfl
    | bl b => cases b <;> kernel_rfl
    | int i => 
      simp [F__law_same, fnDen, b__law_same, startE, xSeq, xIfS, xTru, xUn, xV, Res.bind, isiPV, tyPV, isTy, opt, truPV, Res.thenS, xSkip, SRes.andThen, xTB, tbR, isNonPV, xRet, xAnd, notPV, xBin, intPV, eqPV]
    | str l => 
      simp [F__law_same, fnDen, b__law_same, startE, xSeq, xIfS, xTru, xUn, xV, Res.bind, isiPV, tyPV, isTy, opt, truPV, Res.thenS, xSkip, SRes.andThen, xTB, tbR, isNonPV, xRet, xAnd, notPV, xBin, strPV, eqPV]
    | _ => cases h
  | succ n ih =>
    intro p st h
    cases p with
    | non => kernel_rfl
    | bl b => cases b <;> kernel_rfl
    | int i => 
      simp [F__law_same, fnDen, b__law_same, startE, xSeq, xIfS, xTru, xUn, xV, Res.bind, isiPV, tyPV, isTy, opt, truPV, Res.thenS, xSkip, SRes.andThen, xTB, tbR, isNonPV, xRet, xAnd, notPV, xBin, intPV, eqPV]
    | str l => 
      simp [F__law_same, fnDen, b__law_same, startE, xSeq, xIfS, xTru, xUn, xV, Res.bind, isiPV, tyPV, isTy, opt, truPV, Res.thenS, xSkip, SRes.andThen, xTB, tbR, isNonPV, xRet, xAnd, notPV, xBin, strPV, eqPV]
    | tup ps =>
      simp only [okv, Bool.and_eq_true, decide_eq_true_eq] at h
      obtain ⟨h1, h2⟩ := h
      have e1 : xRng1 (xUn lenPV (xV 1)) [.pl (.tup ps), .pl (.tup ps), .no] st = .ok _ st := rng1_nat (n := ps.length) rfl (by omega)
      have e2 := compL_map (g := gSlot 2) (dt := xYes) (de := (xCall 2 (F__law_same (n + 1)) (xCons (xBin idxPV (xV 0) (xV 2)) (xCons (xBin idxPV (xV 1) (xV 2)) (xNil))))) (env := [.pl (.tup ps), .pl (.tup ps), .no]) (st := st) (fun i : Nat => PV.int (i : Int)) (fun _ => true) (fun i => PV.bl true) (List.range ps.length)
        (fun i hi => by
          have hi : i < ps.length := List.mem_range.mp hi
          have ea : idxPV (.tup ps) (.int (i : Int)) = some ps[i] := atI_nat (List.getElem?_eq_getElem hi)
          exact ⟨[.pl (.tup ps), .pl (.tup ps), .pl (.int i)], rfl, rfl, fun _ => call_eq (cons_eq (bin_eq rfl rfl ea) (cons_eq (bin_eq rfl rfl ea) rfl)) rfl (ih _ st (okvs_mem h1 _ (List.getElem_mem hi)))⟩)
      have e3 := xLc_eq (vs := [2]) (env := [.pl (.tup ps), .pl (.tup ps), .no]) e1 rfl (by rw [List.length_map, List.length_range]; omega) e2
      have e4 : xUn allPV (xLc [2] (gSlot 2) (xYes) (xCall 2 (F__law_same (n + 1)) (xCons (xBin idxPV (xV 0) (xV 2)) (xCons (xBin idxPV (xV 1) (xV 2)) (xNil)))) (xRng1 (xUn lenPV (xV 1)))) [.pl (.tup ps), .pl (.tup ps), .no] st = .ok (.bl true) st := by
        refine un_eq e3 ?_
        show (blsOf _).map _ = _
        rw [blsOf_mapf]
        simp
      have q : eqPV true (.int (ps.length : Int)) (.int (ps.length : Int)) = some (.bl false) := by simp [eqPV]
      have e5 : xOrT (xNotT (xTru (xUn (isiPV "tuple") (xV 0)))) (xTB (xBin (eqPV true) (xUn lenPV (xV 0)) (xUn lenPV (xV 1)))) [.pl (.tup ps), .pl (.tup ps), .no] st = .ok false st := by
        have t := tb_eq (env := [.pl (.tup ps), .pl (.tup ps), .no]) (st := st) (bin_eq (da := xUn lenPV (xV 0)) (db := xUn lenPV (xV 1)) rfl rfl q)
        have u : xNotT (xTru (xUn (isiPV "tuple") (xV 0))) [.pl (.tup ps), .pl (.tup ps), .no] st = .ok false st := by kernel_rfl
        unfold xOrT
        rw [u]
        exact t
      refine fn_rt (seq_rt ?_)
      refine (ifS_eq (k := true) rfl).trans ?_
      rw [if_pos rfl]
      refine (seq_nx ?_).trans (ret_eq e4)
      refine (ifS_eq e5).trans ?_
      rfl
    | _ => cases h

/-! ### the program's own checks -/
theorem tab_sz {c : Nat} (h : isSg c = true) : tabPV tab_SIZES (.str [c]) = some (.int (szc c)) := by
  rcases szc_cases h with ⟨rfl, e⟩ | ⟨rfl, e⟩ | ⟨rfl, e⟩ | ⟨rfl, e⟩ <;> rw [e] <;> rfl
theorem tab_in {c : Nat} (h : isSg c = true) : inTab tab_SIZES (.str [c]) = some (.bl true) := by
  rcases szc_cases h with ⟨rfl, _⟩ | ⟨rfl, _⟩ | ⟨rfl, _⟩ | ⟨rfl, _⟩ <;> rfl
theorem whole_ok {v lo hi : Int} {st : Sto} (h1 : lo ≤ v) (h2 : v ≤ hi) : F_fits_whole [.int v, .int lo, .int hi] st = .ok (.bl true) st := by
  have e1 : F_is_whole [.int v] st = .ok (.bl true) st := by kernel_rfl
  exact fn_rt (ret_eq (and_t (call_eq (cons_eq rfl nil_eq) rfl e1) (chain_tt (p1 := .int lo) (p2 := .int v) (p3 := .int hi) rfl rfl (le_tt h1) rfl (le_tt h2))))
theorem length_in_ok {s : List Nat} {st : Sto} (h : Sg s) (hz : s.length ≤ 100000) : F_length_in [.str s] st = .ok (.int (szL s)) st := by
  have e := compL_map (g := gSlot 1) (dt := xYes) (de := (xUn (tabPV tab_SIZES) (xV 1))) (env := [.pl (.str s), .no]) (st := st) (fun c => PV.str [c]) (fun _ => true) (fun c => PV.int (szc c)) s
    (fun c hc => ⟨[.pl (.str s), .pl (.str [c])], rfl, rfl, fun _ => un_eq rfl (tab_sz (h c hc))⟩)
  rw [filter_all] at e
  exact fn_rt (ret_eq (un_eq (xLc_eq (vs := [1]) (di := xItems (xV 0)) (env := [.pl (.str s), .no]) rfl rfl (by rw [List.length_map]; omega) e) (sum_szc s)))
def Crs (s : List Nat) : Prop := Sg s ∧ 1 ≤ s.length ∧ s.length ≤ 24 ∧ szL s ≤ 60
theorem course_ok {s : List Nat} {st : Sto} (h : Crs s) : F_fits_course [.str s] st = .ok (.bl true) st := by
  obtain ⟨hs, h1, h2, h3⟩ := h
  have e1 := compL_map (g := gSlot 1) (dt := xYes) (de := (xUn (tabPV tab_SIZES) (xV 1))) (env := [.pl (.str s), .no]) (st := st) (fun c => PV.str [c]) (fun _ => true) (fun c => PV.int (szc c)) s
    (fun c hc => ⟨[.pl (.str s), .pl (.str [c])], rfl, rfl, fun _ => un_eq rfl (tab_sz (hs c hc))⟩)
  have e2 := compL_map (g := gSlot 1) (dt := xYes) (de := (xUn (inTab tab_SIZES) (xV 1))) (env := [.pl (.str s), .no]) (st := st) (fun c => PV.str [c]) (fun _ => true) (fun c => PV.bl true) s
    (fun c hc => ⟨[.pl (.str s), .pl (.str [c])], rfl, rfl, fun _ => un_eq rfl (tab_in (hs c hc))⟩)
  rw [filter_all] at e1 e2
  have l1 := xLc_eq (vs := [1]) (di := xItems (xV 0)) (env := [.pl (.str s), .no]) rfl rfl (by rw [List.length_map]; omega) e1
  have l2 := xLc_eq (vs := [1]) (di := xItems (xV 0)) (env := [.pl (.str s), .no]) rfl rfl (by rw [List.length_map]; omega) e2
  have a1 := un_eq l2 (all_true s)
  have b1 : xNotT (xTru (xUn (isiPV "str") (xV 0))) [.pl (.str s), .no] st = .ok false st := by kernel_rfl
  have b2 : xNotT (xTB (xChain lePV lePV (xC (.int 1)) (xUn lenPV (xV 0)) (xC (.int 24)))) [.pl (.str s), .no] st = .ok false st :=
    not_t (tb_eq (chain_tt (p1 := .int 1) (p2 := .int s.length) (p3 := .int 24) rfl rfl (le_tt (by omega)) rfl (le_tt (by omega))))
  refine fn_rt ((seq_nx ((ifS_eq (orT_f b1 (orT_f b2 (not_t (tru_t a1))))).trans rfl)).trans (ret_eq (bin_eq (un_eq l1 (sum_szc s)) rfl (le_tt h3))))
theorem need_course_ok {s : List Nat} {st : Sto} (h : Crs s) : F_need_course [.str s] st = .ok .non st := fn_nx (need_eq (call_eq (cons_eq rfl nil_eq) rfl (course_ok h)))
theorem need_lap_ok {v : Int} {st : Sto} (h : 1 ≤ v ∧ v ≤ 4) : F_need_lap [.int v] st = .ok .non st := fn_nx (need_eq (call_eq (cons_eq rfl (cons_eq rfl (cons_eq rfl nil_eq))) rfl (whole_ok h.1 h.2)))
/-- a ring -/
abbrev rgV (s : List Nat) (a : Int) : PV := .tup [.str s, .int a]
theorem ring_ok {s : List Nat} {a : Int} {st : Sto} (h : Crs s) (ha : 0 ≤ a ∧ a < szL s) : F_fits_ring [rgV s a] st = .ok (.bl true) st := by
  have e1 : F_is_tuple_of [rgV s a, .int 2, .int 2] st = .ok (.bl true) st := by kernel_rfl
  have i0 : idxPV (rgV s a) (.int 0) = some (.str s) := atI_nat (j := 0) rfl
  have i1 : idxPV (rgV s a) (.int 1) = some (.int a) := atI_nat (j := 1) rfl
  have c0 : xBin idxPV (xV 0) (xC (.int 0)) [.pl (rgV s a)] st = .ok (.str s) st := bin_eq rfl rfl i0
  have c1 : xBin idxPV (xV 0) (xC (.int 1)) [.pl (rgV s a)] st = .ok (.int a) st := bin_eq rfl rfl i1
  have hl := len_le_sz h.1
  refine fn_rt (ret_eq (and_t (call_eq (cons_eq rfl (cons_eq rfl (cons_eq rfl nil_eq))) rfl e1) (and_t (call_eq (cons_eq c0 nil_eq) rfl (course_ok h)) ?_)))
  exact call_eq (cons_eq c1 (cons_eq rfl (cons_eq (bin_eq (call_eq (cons_eq c0 nil_eq) rfl (length_in_ok h.1 (by have := h.2.2.1; omega))) rfl rfl) nil_eq))) rfl (whole_ok ha.1 (by omega))
theorem need_ring_ok {s : List Nat} {a : Int} {st : Sto} (h : Crs s) (ha : 0 ≤ a ∧ a < szL s) : F_need_ring [rgV s a] st = .ok .non st := fn_nx (need_eq (call_eq (cons_eq rfl nil_eq) rfl (ring_ok h ha)))
/-! ### joints -/
def bodyJ : DenS := xSeq (xApp 4 (xBin modPV (xV 2) (xV 3))) (xAsg (xBin plusPV (xV 2) (xUn (tabPV tab_SIZES) (xV 5))) (gSlot 2))
theorem joints_loop {n : Int} (hn : 0 < n) {R S : Slot} {st : Sto} : ∀ (r : List Nat) (acc : List Int) (a : Int) (x5 : Slot), Sg r → acc.length + r.length ≤ 1000 →
    ∃ (b : Int) (y5 : Slot), forL (gSlot 5) bodyJ (r.map fun c => .str [c]) [R, S, .pl (.int a), .pl (.int n), .ow (.lst (acc.map .int)), x5] st = .nx [R, S, .pl (.int b), .pl (.int n), .ow (.lst ((acc ++ offs n r a).map .int)), y5] st
  | [], acc, a, x5, _, _ => ⟨a, x5, by simp [forL, offs]⟩
  | c :: r, acc, a, x5, hs, hz => by
    rw [List.length_cons] at hz
    have e1 : xApp 4 (xBin modPV (xV 2) (xV 3)) [R, S, .pl (.int a), .pl (.int n), .ow (.lst (acc.map .int)), .pl (.str [c])] st = .nx [R, S, .pl (.int a), .pl (.int n), .ow (.lst ((acc ++ [a % n]).map .int)), .pl (.str [c])] st := by
      refine (app_eq (ps := acc.map .int) rfl (bin_eq rfl rfl (mod_int hn)) (by rw [List.length_map]; omega)).trans ?_
      rw [List.map_append]
      rfl
    have e2 : bodyJ [R, S, .pl (.int a), .pl (.int n), .ow (.lst (acc.map .int)), .pl (.str [c])] st = .nx [R, S, .pl (.int (a + szc c)), .pl (.int n), .ow (.lst ((acc ++ [a % n]).map .int)), .pl (.str [c])] st :=
      (seq_nx e1).trans (asg_eq (bin_eq rfl (un_eq rfl (tab_sz (hs c List.mem_cons_self))) rfl))
    obtain ⟨b, y5, e3⟩ := joints_loop hn (R := R) (S := S) (st := st) r (acc ++ [a % n]) (a + szc c) (.pl (.str [c])) (fun x hx => hs x (List.mem_cons_of_mem _ hx)) (by rw [List.length_append]; simp; omega)
    refine ⟨b, y5, ?_⟩
    show (match bodyJ [R, S, .pl (.int a), .pl (.int n), .ow (.lst (acc.map .int)), .pl (.str [c])] st with
      | .nx e s => forL (gSlot 5) bodyJ (r.map fun c => .str [c]) e s
      | .ct e s => forL (gSlot 5) bodyJ (r.map fun c => .str [c]) e s
      | .bk e s => .nx e s
      | r => r) = _
    rw [e2]
    rw [List.append_assoc] at e3
    exact e3
theorem joints_ok {s : List Nat} {a : Int} {st : Sto} (h : Crs s) : F_joints_in [rgV s a] st = .ok (.lst ((JP s a).map .int)) st := by
  obtain ⟨hs, h1, h2, h3⟩ := h
  have hl := len_le_sz hs
  obtain ⟨b, y5, e1⟩ := joints_loop (n := szL s) (by omega) (R := .pl (rgV s a)) (S := .pl (.str s)) (st := st) s [] a .no hs (by simp; omega)
  have s1 : xAsg (xV 0) (gTupE 2 (gConsE (gSlot 1) (gConsE (gSlot 2) (gNilE)))) (startE 6 [rgV s a]) st = .nx [.pl (rgV s a), .pl (.str s), .pl (.int a), .no, .no, .no] st := rfl
  have p1 : xCons (xCall 1 (F_length_in) (xCons (xV 1) (xNil))) (xCons (xLst (xNil)) (xNil)) [.pl (rgV s a), .pl (.str s), .pl (.int a), .no, .no, .no] st = .ok [.int (szL s), .lst []] st := cons_eq (call_eq (cons_eq rfl nil_eq) rfl (length_in_ok hs (by omega))) rfl
  have s2 : xPar [(3, false), (4, true)] (xCons (xCall 1 (F_length_in) (xCons (xV 1) (xNil))) (xCons (xLst (xNil)) (xNil))) [.pl (rgV s a), .pl (.str s), .pl (.int a), .no, .no, .no] st = .nx [.pl (rgV s a), .pl (.str s), .pl (.int a), .pl (.int (szL s)), .ow (.lst []), .no] st := by
    unfold xPar
    rw [p1]
    rfl
  have s3 : xFor (xItems (xV 1)) (gSlot 5) bodyJ [.pl (rgV s a), .pl (.str s), .pl (.int a), .pl (.int (szL s)), .ow (.lst []), .no] st = .nx [.pl (rgV s a), .pl (.str s), .pl (.int b), .pl (.int (szL s)), .ow (.lst ((offs (szL s) s a).map .int)), y5] st := e1
  exact fn_rt ((seq_nx s1).trans ((seq_nx s2).trans ((seq_nx s3).trans (ret_eq (un_eq rfl (sorted_ints _))))))
end Vl

set_option linter.all false
set_option maxRecDepth 100000
set_option maxHeartbeats 1000000
namespace Vl
open PySem L2
/-! ### the law's joints -/
def bodyR : DenS := xSeq (xDput 4 (xV 2) (xC (.bl true))) (xSeq (xAsg (xBin plusPV (xV 2) (xCall 1 (F__law_size) (xCons (xV 5) (xNil)))) (gSlot 2)) (xAsg (xIf (xTB (xBin gePV (xV 2) (xV 3))) (xBin minusPV (xV 2) (xV 3)) (xV 2)) (gSlot 2)))
theorem sz_one (c : Nat) : szL [c] = szc c := by rw [szL_cons]; show szc c + 0 = _; omega
def keyD (ks : List Int) : PV := .dct false (ks.map fun x => (PV.int x, PV.bl true))
theorem around_loop {n : Int} {R S : Slot} {st : Sto} : ∀ (r : List Nat) (ks : List Int) (a : Int) (x5 : Slot), Sg r → szL r ≤ n → 0 ≤ a → a < n → (∀ x ∈ offs n r a, x ∉ ks) → ks.length + r.length ≤ 1000 →
    ∃ (b : Int) (y5 : Slot), forL (gSlot 5) bodyR (r.map fun c => .str [c]) [R, S, .pl (.int a), .pl (.int n), .ow (keyD ks), x5] st = .nx [R, S, .pl (.int b), .pl (.int n), .ow (keyD (ks ++ offs n r a)), y5] st
  | [], ks, a, x5, _, _, _, _, _, _ => ⟨a, x5, by simp [forL, offs]⟩
  | c :: r, ks, a, x5, hs, hz, h0, h1, hd, hl => by
    rw [List.length_cons] at hl
    rw [szL_cons] at hz
    have hc := szc_pos (hs c List.mem_cons_self)
    have hs2 : Sg r := fun x hx => hs x (List.mem_cons_of_mem _ hx)
    have hr := szL_nn hs2
    have ea : a % n = a := Int.emod_eq_of_lt h0 h1
    have hka : a ∉ ks := by
      have := hd (a % n) List.mem_cons_self
      rw [ea] at this
      exact this
    have e1 : xDput 4 (xV 2) (xC (.bl true)) [R, S, .pl (.int a), .pl (.int n), .ow (keyD ks), .pl (.str [c])] st = .nx [R, S, .pl (.int a), .pl (.int n), .ow (keyD (ks ++ [a])), .pl (.str [c])] st := by
      refine (dput_eq (kvs := ks.map fun x => (PV.int x, PV.bl true)) (q := .bl true) (k := .int a) rfl rfl rfl rfl (by rw [List.length_map]; omega)).trans ?_
      rw [putPV_new hka]
      rfl
    have e2 : xAsg (xBin plusPV (xV 2) (xCall 1 (F__law_size) (xCons (xV 5) (xNil)))) (gSlot 2) [R, S, .pl (.int a), .pl (.int n), .ow (keyD (ks ++ [a])), .pl (.str [c])] st = .nx [R, S, .pl (.int (a + szc c)), .pl (.int n), .ow (keyD (ks ++ [a])), .pl (.str [c])] st := by
      have sg : Sg [c] := fun x hx => by rw [List.mem_singleton.mp hx]; exact hs c List.mem_cons_self
      have q := size_ok (st := st) sg (show 1 ≤ 16777216 by decide)
      rw [sz_one] at q
      exact asg_eq (bin_eq rfl (call_eq (cons_eq rfl nil_eq) rfl q) rfl)
    let a2 : Int := if n ≤ a + szc c then a + szc c - n else a + szc c
    have ha2 : 0 ≤ a2 ∧ a2 < n ∧ a2 % n = (a + szc c) % n := by
      show 0 ≤ (if n ≤ a + szc c then a + szc c - n else a + szc c) ∧ _
      by_cases k : n ≤ a + szc c
      · have e : a2 = a + szc c - n := if_pos k
        rw [if_pos k]
        refine ⟨by omega, by rw [e]; omega, ?_⟩
        rw [e]
        exact Int.sub_emod_right (a + szc c) n
      · have e : a2 = a + szc c := if_neg k
        rw [if_neg k]
        exact ⟨by omega, by rw [e]; omega, by rw [e]⟩
    have e3 : xAsg (xIf (xTB (xBin gePV (xV 2) (xV 3))) (xBin minusPV (xV 2) (xV 3)) (xV 2)) (gSlot 2) [R, S, .pl (.int (a + szc c)), .pl (.int n), .ow (keyD (ks ++ [a])), .pl (.str [c])] st = .nx [R, S, .pl (.int a2), .pl (.int n), .ow (keyD (ks ++ [a])), .pl (.str [c])] st := by
      refine asg_eq (if_eq (k := decide (n ≤ a + szc c)) (tb_eq (bin_eq rfl rfl rfl)) ?_)
      by_cases k : n ≤ a + szc c
      · rw [decide_eq_true k, if_pos rfl]
        have e : a2 = a + szc c - n := if_pos k
        rw [e]
        exact bin_eq rfl rfl rfl
      · rw [decide_eq_false k, if_neg Bool.false_ne_true]
        have e : a2 = a + szc c := if_neg k
        rw [e]
        rfl
    have e4 : bodyR [R, S, .pl (.int a), .pl (.int n), .ow (keyD ks), .pl (.str [c])] st = .nx [R, S, .pl (.int a2), .pl (.int n), .ow (keyD (ks ++ [a])), .pl (.str [c])] st := (seq_nx e1).trans ((seq_nx e2).trans e3)
    have eo : offs n r a2 = offs n r (a + szc c) := offs_mod r _ _ ha2.2.2
    obtain ⟨b, y5, e5⟩ := around_loop (n := n) (R := R) (S := S) (st := st) r (ks ++ [a]) a2 (.pl (.str [c])) hs2 (by omega) ha2.1 ha2.2.1 (fun x hx hk => by
      rw [eo] at hx
      rcases List.mem_append.mp hk with hk | hk
      · exact hd x (List.mem_cons_of_mem _ hx) hk
      · rw [List.mem_singleton.mp hk] at hx
        obtain ⟨q, q1, q2, e⟩ := offs_mem hs2 hx
        rw [Int.add_assoc] at e
        exact mod_ne (a := a) (d := szc c + q) (n := n) (by omega) (by omega) (by rw [ea]; exact e.symm)) (by rw [List.length_append]; simp; omega)
    refine ⟨b, y5, ?_⟩
    show (match bodyR [R, S, .pl (.int a), .pl (.int n), .ow (keyD ks), .pl (.str [c])] st with
      | .nx e s => forL (gSlot 5) bodyR (r.map fun c => .str [c]) e s
      | .ct e s => forL (gSlot 5) bodyR (r.map fun c => .str [c]) e s
      | .bk e s => .nx e s
      | r => r) = _
    rw [e4]
    rw [eo, List.append_assoc] at e5
    show _ = SRes.nx [R, S, .pl (.int b), .pl (.int n), .ow (keyD (ks ++ (a % n :: offs n r (a + szc c)))), y5] st
    rw [ea]
    exact e5
theorem around_ok {s : List Nat} {a : Int} {st : Sto} (h : Crs s) (ha : 0 ≤ a ∧ a < szL s) : F__law_around [rgV s a] st = .ok (.lst ((JP s a).map .int)) st := by
  obtain ⟨hs, h1, h2, h3⟩ := h
  have hl := len_le_sz hs
  obtain ⟨b, y5, e1⟩ := around_loop (n := szL s) (R := .pl (rgV s a)) (S := .pl (.str s)) (st := st) s [] a .no hs (Int.le_refl _) ha.1 ha.2 (fun x _ h => absurd h (by simp)) (by simp; omega)
  have s1 : xAsg (xV 0) (gTupE 2 (gConsE (gSlot 1) (gConsE (gSlot 2) (gNilE)))) (startE 6 [rgV s a]) st = .nx [.pl (rgV s a), .pl (.str s), .pl (.int a), .no, .no, .no] st := rfl
  have p1 : xCons (xCall 1 (F__law_size) (xCons (xV 1) (xNil))) (xCons (xC (.dct false [])) (xNil)) [.pl (rgV s a), .pl (.str s), .pl (.int a), .no, .no, .no] st = .ok [.int (szL s), .dct false []] st := cons_eq (call_eq (cons_eq rfl nil_eq) rfl (size_ok hs (by omega))) rfl
  have s2 : xPar [(3, false), (4, true)] (xCons (xCall 1 (F__law_size) (xCons (xV 1) (xNil))) (xCons (xC (.dct false [])) (xNil))) [.pl (rgV s a), .pl (.str s), .pl (.int a), .no, .no, .no] st = .nx [.pl (rgV s a), .pl (.str s), .pl (.int a), .pl (.int (szL s)), .ow (.dct false []), .no] st := by
    unfold xPar
    rw [p1]
    rfl
  have s3 : xFor (xItems (xV 1)) (gSlot 5) bodyR [.pl (rgV s a), .pl (.str s), .pl (.int a), .pl (.int (szL s)), .ow (.dct false []), .no] st = .nx [.pl (rgV s a), .pl (.str s), .pl (.int b), .pl (.int (szL s)), .ow (keyD (offs (szL s) s a)), y5] st := e1
  have ln := offs_len (szL s) s a
  exact fn_rt ((seq_nx s1).trans ((seq_nx s2).trans ((seq_nx s3).trans (ret_eq (un_eq rfl (sorted_keys _ (by rw [ln]; omega)))))))
/-! ### laps -/
theorem jp_len (s : List Nat) (a : Int) : (JP s a).length = s.length := by
  unfold JP
  rw [isort_perm.length_eq, offs_len]
theorem jp_mem {s : List Nat} {a x : Int} : x ∈ JP s a ↔ x ∈ offs (szL s) s a := isort_perm.mem_iff
theorem jp_ne {s : List Nat} {a : Int} (h : 1 ≤ s.length) : JP s a ≠ [] := fun e => by
  have := jp_len s a
  rw [e] at this
  simp at this
  omega
theorem gaps_ne {n : Int} {J1 J2 : List Int} (h1 : J1 ≠ []) (h2 : J2 ≠ []) : gapsP n J1 J2 ≠ [] := by
  cases J1 with
  | nil => exact absurd rfl h1
  | cons x r =>
    cases J2 with
    | nil => exact absurd rfl h2
    | cons y t => simp [gapsP]
theorem gaps_len (n : Int) : ∀ (J1 J2 : List Int), (gapsP n J1 J2).length = J1.length * J2.length
  | [], J2 => by simp [gapsP]
  | x :: r, J2 => by
    have ih := gaps_len n r J2
    show ((J2.map fun t => (x - t) % n) ++ gapsP n r J2).length = _
    rw [List.length_append, ih, List.length_map, List.length_cons, Nat.add_mul, Nat.one_mul, Nat.add_comm]
theorem lap_in_ok {s s2 : List Nat} {a b : Int} {st : Sto} (h : Crs s) (h2 : Crs s2) : F_lap_in [rgV s a, rgV s2 b] st = .ok (.int (LP (szL s) (JP s a) (JP s2 b))) st := by
  have hn : 0 < szL s := by have := len_le_sz h.1; have := h.2.1; omega
  have i0 : idxPV (rgV s a) (.int 0) = some (.str s) := atI_nat (j := 0) rfl
  have s1 : xAsg (xCall 1 (F_length_in) (xCons (xBin idxPV (xV 0) (xC (.int 0))) (xNil))) (gSlot 2) (startE 7 [rgV s a, rgV s2 b]) st = .nx [.pl (rgV s a), .pl (rgV s2 b), .pl (.int (szL s)), .no, .no, .no, .no] st := asg_eq (call_eq (cons_eq (bin_eq rfl rfl i0) nil_eq) rfl (length_in_ok h.1 (by have := h.2.2.1; omega)))
  let E : Env := [.pl (rgV s a), .pl (rgV s2 b), .pl (.int (szL s)), .no, .no, .no, .no]
  have c2 := compL2_map (vs1 := [5]) (g := gSlot 4) (g1 := gSlot 5) (dt := xYes) (dt1 := xYes) (di1 := (xItems (xCall 1 (F_joints_in) (xCons (xV 1) (xNil))))) (de := (xBin modPV (xBin minusPV (xV 4) (xV 5)) (xV 2))) (env := E) (st := st) (fun x : Int => PV.int x) (fun x : Int => PV.int x) (JP s2 b) (fun x y => PV.int ((x - y) % szL s)) (JP s a)
    (fun x hx => by
      refine ⟨[.pl (rgV s a), .pl (rgV s2 b), .pl (.int (szL s)), .no, .pl (.int x), .no, .no], rfl, rfl, ?_, rfl, fun y hy => ⟨[.pl (rgV s a), .pl (rgV s2 b), .pl (.int (szL s)), .no, .pl (.int x), .pl (.int y), .no], rfl, rfl, bin_eq (bin_eq rfl rfl rfl) rfl (mod_int hn)⟩⟩
      have q : xCall 1 (F_joints_in) (xCons (xV 1) (xNil)) [.pl (rgV s a), .pl (rgV s2 b), .pl (.int (szL s)), .no, .pl (.int x), .no, .no] st = .ok (.lst ((JP s2 b).map .int)) st := call_eq (cons_eq rfl nil_eq) rfl (joints_ok h2)
      unfold xItems
      rw [q]
      rfl)
  have ij : xItems (xCall 1 (F_joints_in) (xCons (xV 0) (xNil))) E st = .ok ((JP s a).map .int) st := by
    have q : xCall 1 (F_joints_in) (xCons (xV 0) (xNil)) E st = .ok (.lst ((JP s a).map .int)) st := call_eq (cons_eq rfl nil_eq) rfl (joints_ok h)
    unfold xItems
    rw [q]
    rfl
  have eg : (JP s a).flatMap (fun x => (JP s2 b).map fun y => PV.int ((x - y) % szL s)) = (gapsP (szL s) (JP s a) (JP s2 b)).map .int := by
    unfold gapsP
    rw [List.map_flatMap]
    congr 1
    funext x
    rw [List.map_map]
    rfl
  rw [eg] at c2
  have gl : (gapsP (szL s) (JP s a) (JP s2 b)).length ≤ 576 := by
    rw [gaps_len, jp_len, jp_len]
    exact Nat.mul_le_mul h.2.2.1 h2.2.2.1
  have s2' := xLc2_eq (vs := [4, 5]) (env := E) ij rfl c2 (by rw [List.length_map]; omega)
  let E2 : Env := [.pl (rgV s a), .pl (rgV s2 b), .pl (.int (szL s)), .pl (.lst ((gapsP (szL s) (JP s a) (JP s2 b)).map .int)), .no, .no, .no]
  have c3 := compL_map (g := gSlot 6) (dt := xYes) (de := (xBin min2PV (xV 6) (xBin minusPV (xV 2) (xV 6)))) (env := E2) (st := st) (fun x : Int => PV.int x) (fun _ => true) (fun x => PV.int (foldG (szL s) x)) (gapsP (szL s) (JP s a) (JP s2 b))
    (fun x hx => ⟨[.pl (rgV s a), .pl (rgV s2 b), .pl (.int (szL s)), .pl (.lst ((gapsP (szL s) (JP s a) (JP s2 b)).map .int)), .no, .no, .pl (.int x)], rfl, rfl, fun _ => bin_eq rfl (bin_eq rfl rfl rfl) rfl⟩)
  rw [filter_all] at c3
  have l3 := xLc_eq (vs := [6]) (di := xItems (xV 3)) (env := E2) (st := st) (items := (gapsP (szL s) (JP s a) (JP s2 b)).map .int) rfl rfl (by rw [List.length_map]; omega) c3
  have em : ((gapsP (szL s) (JP s a) (JP s2 b)).map fun x => PV.int (foldG (szL s) x)) = ((gapsP (szL s) (JP s a) (JP s2 b)).map (foldG (szL s))).map .int := by
    rw [List.map_map]
    rfl
  rw [em] at l3
  obtain ⟨m, m1, m2, m3⟩ := minL_spec (l := (gapsP (szL s) (JP s a) (JP s2 b)).map (foldG (szL s))) (by
    intro z
    exact gaps_ne (n := szL s) (jp_ne (a := a) h.2.1) (jp_ne (a := b) h2.2.1) (List.map_eq_nil_iff.mp z))
  have em2 : minPV (.lst (((gapsP (szL s) (JP s a) (JP s2 b)).map (foldG (szL s))).map .int)) = some (.int (LP (szL s) (JP s a) (JP s2 b))) := by
    rw [min_ints]
    unfold LP
    rw [m1]
    rfl
  exact fn_rt ((seq_nx s1).trans ((seq_nx (asg_eq s2')).trans (ret_eq (un_eq l3 em2))))
theorem lp_spec {n : Int} {J1 J2 : List Int} (h1 : J1 ≠ []) (h2 : J2 ≠ []) : (∃ h ∈ J1, ∃ t ∈ J2, LP n J1 J2 = foldG n ((h - t) % n)) ∧ ∀ h ∈ J1, ∀ t ∈ J2, LP n J1 J2 ≤ foldG n ((h - t) % n) := by
  obtain ⟨m, m1, m2, m3⟩ := minL_spec (l := (gapsP n J1 J2).map (foldG n)) (fun z => gaps_ne (n := n) h1 h2 (List.map_eq_nil_iff.mp z))
  have e : LP n J1 J2 = m := by unfold LP; rw [m1]; rfl
  rw [e]
  refine ⟨?_, fun h hh t ht => m3 _ (List.mem_map.mpr ⟨_, ?_, rfl⟩)⟩
  · obtain ⟨g, hg, rfl⟩ := List.mem_map.mp m2
    unfold gapsP at hg
    obtain ⟨h, hh, hg⟩ := List.mem_flatMap.mp hg
    obtain ⟨t, ht, rfl⟩ := List.mem_map.mp hg
    exact ⟨h, hh, t, ht, rfl⟩
  · unfold gapsP
    exact List.mem_flatMap.mpr ⟨h, hh, List.mem_map.mpr ⟨t, ht, rfl⟩⟩
end Vl

set_option linter.all false
set_option maxRecDepth 100000
set_option maxHeartbeats 1000000
namespace Vl
open PySem L2
theorem filter_any {α : Type} (p : α → Bool) : ∀ l : List α, (!(l.filter p).isEmpty) = l.any p
  | [] => rfl
  | x :: r => by
    rw [List.filter_cons, List.any_cons]
    cases e : p x with
    | true => rfl
    | false => exact filter_any p r
theorem offs_rng {n : Int} (hn : 0 < n) : ∀ {r : List Nat} {b x : Int}, x ∈ offs n r b → 0 ≤ x ∧ x < n
  | [], _, _, h => absurd h (by simp [offs])
  | c :: r, b, x, h => by
    rcases List.mem_cons.mp h with rfl | h
    · exact ⟨Int.emod_nonneg _ (by omega), Int.emod_lt_of_pos _ hn⟩
    · exact offs_rng hn h
def hitP (n : Int) (J1 J2 : List Int) (far : Nat) : Bool := J1.any fun x => decide ((x + (far : Int)) % n ∈ J2) || decide ((x - (far : Int)) % n ∈ J2)
theorem fold_far {n x t far : Int} (hn : 0 < n) (hf : 0 ≤ far ∧ far < n) (h : (x + far) % n = t ∨ (x - far) % n = t) : foldG n ((x - t) % n) ≤ far := by
  unfold foldG
  rcases h with rfl | rfl
  · have e : (x - (x + far) % n) % n = (-far) % n := by
      rw [Int.sub_emod, Int.emod_emod, ← Int.sub_emod]
      congr 1
      omega
    rw [e]
    by_cases z : far = 0
    · subst z
      rw [Int.neg_zero, Int.zero_emod]
      split <;> omega
    · have e2 : (-far) % n = n - far := by
        rw [← Int.add_emod_right (-far) n]
        rw [show -far + n = n - far by omega]
        exact Int.emod_eq_of_lt (by omega) (by omega)
      rw [e2]
      split <;> omega
  · have e : (x - (x - far) % n) % n = far := by
      rw [Int.sub_emod, Int.emod_emod, ← Int.sub_emod]
      rw [show x - (x - far) = far by omega]
      exact Int.emod_eq_of_lt hf.1 hf.2
    rw [e]
    split <;> omega
theorem fold_hit {n h t : Int} (hn : 0 < n) (ht : 0 ≤ t ∧ t < n) : 0 ≤ foldG n ((h - t) % n) ∧ foldG n ((h - t) % n) < n ∧ ((h + foldG n ((h - t) % n)) % n = t ∨ (h - foldG n ((h - t) % n)) % n = t) := by
  have g0 : 0 ≤ (h - t) % n := Int.emod_nonneg _ (by omega)
  have g1 : (h - t) % n < n := Int.emod_lt_of_pos _ hn
  have key : (h - (h - t) % n) % n = t := by
    rw [Int.sub_emod, Int.emod_emod, ← Int.sub_emod]
    rw [show h - (h - t) = t by omega]
    exact Int.emod_eq_of_lt ht.1 ht.2
  unfold foldG
  split
  · rename_i c
    refine ⟨by omega, by omega, .inl ?_⟩
    rw [show h + (n - (h - t) % n) = h - (h - t) % n + n by omega, Int.add_emod_right]
    exact key
  · exact ⟨g0, g1, .inr key⟩
theorem lap_find {n : Int} {J1 J2 : List Int} (hn : 0 < n) (h1 : J1 ≠ []) (h2 : J2 ≠ []) (r2 : ∀ t ∈ J2, 0 ≤ t ∧ t < n) : (List.range n.toNat).find? (hitP n J1 J2) = some (LP n J1 J2).toNat ∧ 0 ≤ LP n J1 J2 ∧ LP n J1 J2 < n := by
  obtain ⟨⟨h, hh, t, ht, e⟩, low⟩ := lp_spec (n := n) h1 h2
  obtain ⟨f0, f1, f2⟩ := fold_hit (h := h) hn (r2 t ht)
  rw [← e] at f0 f1 f2
  refine ⟨?_, f0, f1⟩
  rw [List.find?_range_eq_some]
  have ec : ((LP n J1 J2).toNat : Int) = LP n J1 J2 := Int.toNat_of_nonneg f0
  refine ⟨?_, List.mem_range.mpr (by omega), fun j hj => ?_⟩
  · unfold hitP
    rw [List.any_eq_true]
    refine ⟨h, hh, ?_⟩
    rw [ec, Bool.or_eq_true, decide_eq_true_iff, decide_eq_true_iff]
    rcases f2 with f2 | f2
    · exact .inl (by rw [f2]; exact ht)
    · exact .inr (by rw [f2]; exact ht)
  · have : ¬ hitP n J1 J2 j = true := fun z => by
      unfold hitP at z
      rw [List.any_eq_true] at z
      obtain ⟨x, hx, z⟩ := z
      rw [Bool.or_eq_true, decide_eq_true_iff, decide_eq_true_iff] at z
      have hjn : (j : Int) < n := by omega
      rcases z with z | z
      · have a1 := low x hx _ z
        have a2 := fold_far (x := x) (far := (j : Int)) hn ⟨by omega, hjn⟩ (.inl rfl)
        omega
      · have a1 := low x hx _ z
        have a2 := fold_far (x := x) (far := (j : Int)) hn ⟨by omega, hjn⟩ (.inr rfl)
        omega
    cases q : hitP n J1 J2 j with
    | false => rfl
    | true => exact absurd q this
def bodyF : DenS := xIfS (xTB (xBin (eqPV true) (xLc [5] (gSlot 5) (xOrT (xTB (xBin (inPV false) (xBin modPV (xBin plusPV (xV 5) (xV 4)) (xV 2)) (xV 3))) (xTB (xBin (inPV false) (xBin modPV (xBin minusPV (xV 5) (xV 4)) (xV 2)) (xV 3)))) (xV 5) (xItems (xCall 1 (F__law_around) (xCons (xV 0) (xNil))))) (xLst (xNil)))) (xRet (xV 4)) (xSkip)
theorem orT_eq {d e : Den Bool} {env : Env} {st s s2 : Sto} {k k2 : Bool} (h : d env st = .ok k s) (h2 : e env s = .ok k2 s2) (hs : s2 = s) : xOrT d e env st = .ok (k || k2) s := by
  cases k with
  | true => exact orT_t h
  | false => rw [hs] at h2; exact orT_f h h2
theorem shA_eqv_nil (ns : List Int) : eqPV true (.lst (ns.map .int)) (.lst []) = some (.bl (!ns.isEmpty)) := by
  have c : (PV.sh (.lst []) 60 && PV.sh (.lst (ns.map .int)) 60) = true := by simp [PV.sh, shA_ints, shA]
  unfold eqPV
  refine (if_pos c).trans ?_
  cases ns <;> rfl
theorem bodyF_ok {s : List Nat} {a : Int} {R2 : Slot} {J2 : List Int} {far : Nat} {st : Sto} (h : Crs s) (ha : 0 ≤ a ∧ a < szL s) :
    bodyF [.pl (rgV s a), R2, .pl (.int (szL s)), .pl (.lst (J2.map .int)), .pl (.int (far : Int)), .no] st = if hitP (szL s) (JP s a) J2 far = true then .rt (.int (far : Int)) st else .nx [.pl (rgV s a), R2, .pl (.int (szL s)), .pl (.lst (J2.map .int)), .pl (.int (far : Int)), .no] st := by
  have hn : 0 < szL s := by omega
  let E : Env := [.pl (rgV s a), R2, .pl (.int (szL s)), .pl (.lst (J2.map .int)), .pl (.int (far : Int)), .no]
  have q : xCall 1 (F__law_around) (xCons (xV 0) (xNil)) E st = .ok (.lst ((JP s a).map .int)) st := call_eq (cons_eq rfl nil_eq) rfl (around_ok h ha)
  have qi : xItems (xCall 1 (F__law_around) (xCons (xV 0) (xNil))) E st = .ok ((JP s a).map .int) st := by
    unfold xItems
    rw [q]
    rfl
  have c := compL_map (g := gSlot 5) (dt := (xOrT (xTB (xBin (inPV false) (xBin modPV (xBin plusPV (xV 5) (xV 4)) (xV 2)) (xV 3))) (xTB (xBin (inPV false) (xBin modPV (xBin minusPV (xV 5) (xV 4)) (xV 2)) (xV 3))))) (de := xV 5) (env := E) (st := st) (fun x : Int => PV.int x) (fun x => decide ((x + (far : Int)) % szL s ∈ J2) || decide ((x - (far : Int)) % szL s ∈ J2)) (fun x => PV.int x) (JP s a)
    (fun x hx => ⟨[.pl (rgV s a), R2, .pl (.int (szL s)), .pl (.lst (J2.map .int)), .pl (.int (far : Int)), .pl (.int x)], rfl, orT_eq (tb_eq (bin_eq (bin_eq (bin_eq rfl rfl rfl) rfl (mod_int hn)) rfl (in_ints _ _))) (tb_eq (bin_eq (bin_eq (bin_eq rfl rfl rfl) rfl (mod_int hn)) rfl (in_ints _ _))) rfl, fun _ => rfl⟩)
  have jl := jp_len s a
  have l := xLc_eq (vs := [5]) (env := E) qi rfl (by rw [List.length_map, jl]; have := h.2.2.1; omega) c
  have em : (((JP s a).filter fun x => decide ((x + (far : Int)) % szL s ∈ J2) || decide ((x - (far : Int)) % szL s ∈ J2)).map fun x => PV.int x) = (((JP s a).filter fun x => decide ((x + (far : Int)) % szL s ∈ J2) || decide ((x - (far : Int)) % szL s ∈ J2))).map .int := rfl
  rw [em] at l
  have t := tb_eq (bin_eq l (db := xLst xNil) rfl (shA_eqv_nil _))
  have hb : (!((JP s a).filter fun x => decide ((x + (far : Int)) % szL s ∈ J2) || decide ((x - (far : Int)) % szL s ∈ J2)).isEmpty) = hitP (szL s) (JP s a) J2 far := by
    unfold hitP
    exact filter_any _ _
  rw [hb] at t
  exact (ifS_eq t).trans rfl
theorem round_loop {s : List Nat} {a : Int} {R2 : Slot} {J2 : List Int} {st : Sto} (h : Crs s) (ha : 0 ≤ a ∧ a < szL s) {m : Nat} : ∀ (l : List Nat) (x4 : Slot), l.find? (hitP (szL s) (JP s a) J2) = some m →
    forL (gSlot 4) bodyF (l.map fun i : Nat => PV.int (i : Int)) [.pl (rgV s a), R2, .pl (.int (szL s)), .pl (.lst (J2.map .int)), x4, .no] st = .rt (.int (m : Int)) st
  | [], _, e => by cases e
  | far :: r, x4, e => by
    have b := bodyF_ok (R2 := R2) (J2 := J2) (far := far) (st := st) h ha
    rw [List.find?_cons] at e
    show (match bodyF [.pl (rgV s a), R2, .pl (.int (szL s)), .pl (.lst (J2.map .int)), .pl (.int (far : Int)), .no] st with
      | .nx e s1 => forL (gSlot 4) bodyF (r.map fun i : Nat => PV.int (i : Int)) e s1
      | .ct e s1 => forL (gSlot 4) bodyF (r.map fun i : Nat => PV.int (i : Int)) e s1
      | .bk e s1 => .nx e s1
      | r => r) = _
    rw [b]
    cases c : hitP (szL s) (JP s a) J2 far with
    | true =>
      rw [c] at e
      cases e
      rfl
    | false =>
      rw [c] at e
      exact round_loop h ha r (.pl (.int (far : Int))) e
theorem round_ok {s : List Nat} {a b : Int} {st : Sto} (h : Crs s) (ha : 0 ≤ a ∧ a < szL s) (hb : 0 ≤ b ∧ b < szL s) : F__law_round_lap [rgV s a, rgV s b] st = .ok (.int (LP (szL s) (JP s a) (JP s b))) st := by
  have hn : 0 < szL s := by omega
  have i0 : idxPV (rgV s a) (.int 0) = some (.str s) := atI_nat (j := 0) rfl
  have p1 : xTup (xCons (xCall 1 (F__law_size) (xCons (xBin idxPV (xV 0) (xC (.int 0))) (xNil))) (xCons (xCall 1 (F__law_around) (xCons (xV 1) (xNil))) (xNil))) (startE 6 [rgV s a, rgV s b]) st = .ok (.tup [.int (szL s), .lst ((JP s b).map .int)]) st :=
    tup_eq (cons_eq (call_eq (cons_eq (bin_eq rfl rfl i0) nil_eq) rfl (size_ok h.1 (by have := h.2.2.1; omega))) (cons_eq (call_eq (cons_eq rfl nil_eq) rfl (around_ok h hb)) nil_eq)) (show 2 ≤ 16777216 by decide)
  have s1 : xAsg (xTup (xCons (xCall 1 (F__law_size) (xCons (xBin idxPV (xV 0) (xC (.int 0))) (xNil))) (xCons (xCall 1 (F__law_around) (xCons (xV 1) (xNil))) (xNil)))) (gTupE 2 (gConsE (gSlot 2) (gConsE (gSlot 3) (gNilE)))) (startE 6 [rgV s a, rgV s b]) st = .nx [.pl (rgV s a), .pl (rgV s b), .pl (.int (szL s)), .pl (.lst ((JP s b).map .int)), .no, .no] st := by
    unfold xAsg
    rw [p1]
    rfl
  obtain ⟨f, f0, f1⟩ := lap_find (n := szL s) (J1 := JP s a) (J2 := JP s b) hn (jp_ne h.2.1) (jp_ne h.2.1) (fun t ht => offs_rng hn (jp_mem.mp ht))
  have hz : szL s ≤ 60 := h.2.2.2
  have ec : ((szL s).toNat : Int) = szL s := Int.toNat_of_nonneg (by omega)
  have rg : xRng1 (xV 2) [.pl (rgV s a), .pl (rgV s b), .pl (.int (szL s)), .pl (.lst ((JP s b).map .int)), .no, .no] st = .ok ((List.range (szL s).toNat).map fun i : Nat => PV.int (i : Int)) st := rng1_nat (by rw [ec]; rfl) (by omega)
  have s2 : xFor (xRng1 (xV 2)) (gSlot 4) bodyF [.pl (rgV s a), .pl (rgV s b), .pl (.int (szL s)), .pl (.lst ((JP s b).map .int)), .no, .no] st = .rt (.int ((LP (szL s) (JP s a) (JP s b)).toNat : Int)) st := by
    unfold xFor
    rw [rg]
    exact round_loop h ha _ .no f
  rw [Int.toNat_of_nonneg f0] at s2
  exact fn_rt ((seq_nx s1).trans (seq_rt s2))
end Vl

set_option linter.all false
set_option maxRecDepth 100000
set_option maxHeartbeats 1000000
namespace Vl
open PySem L2
theorem eqvA_ints : ∀ (a b : List Int), eqvA (a.map .int) (b.map .int) = decide (a = b)
  | [], [] => rfl
  | [], _ :: _ => rfl
  | _ :: _, [] => rfl
  | x :: a, y :: b => by
    show (PV.eqv (.int x) (.int y) && eqvA (a.map .int) (b.map .int)) = _
    rw [eqvA_ints a b]
    show ((x == y) && _) = _
    rw [Bool.eq_iff_iff]
    simp
theorem eq_ints (neg : Bool) (a b : List Int) : eqPV neg (.lst (a.map .int)) (.lst (b.map .int)) = some (.bl (if neg then !decide (a = b) else decide (a = b))) := by
  have c : (PV.sh (.lst (b.map .int)) 60 && PV.sh (.lst (a.map .int)) 60) = true := by simp [PV.sh, shA_ints]
  unfold eqPV
  refine (if_pos c).trans ?_
  show some (PV.bl (if neg then !eqvA _ _ else eqvA _ _)) = _
  rw [eqvA_ints]
theorem crs_pos {s : List Nat} (h : Crs s) : 0 < szL s ∧ szL s ≤ 60 ∧ s.length ≤ 24 := by
  have := len_le_sz h.1
  have := h.2.1
  exact ⟨by omega, h.2.2.2, h.2.2.1⟩
/-! ### spirals -/
theorem turret_ok {s : List Nat} {step : Int} {high : Nat} {st : Sto} (h : Crs s) (hs : 0 ≤ step ∧ step < szL s) (hh : 1 ≤ high ∧ high ≤ 24) :
    F_spiral_turret [.str s, .int step, .int (high : Int)] st = .ok (.tup ((List.range high).map fun i : Nat => rgV s (step * (i : Int) % szL s))) st := by
  obtain ⟨hn, hz, hl⟩ := crs_pos h
  let E : Env := [.pl (.str s), .pl (.int step), .pl (.int (high : Int)), .pl (.int (szL s)), .no]
  have s1 : xExpr (xCall 1 (F_need_course) (xCons (xV 0) (xNil))) (startE 5 [.str s, .int step, .int (high : Int)]) st = .nx [.pl (.str s), .pl (.int step), .pl (.int (high : Int)), .no, .no] st := expr_eq (call_eq (cons_eq rfl nil_eq) rfl (need_course_ok h))
  have s2 : xAsg (xCall 1 (F_length_in) (xCons (xV 0) (xNil))) (gSlot 3) [.pl (.str s), .pl (.int step), .pl (.int (high : Int)), .no, .no] st = .nx E st := asg_eq (call_eq (cons_eq rfl nil_eq) rfl (length_in_ok h.1 (by omega)))
  have w1 : xNotT (xTru (xCall 3 (F_fits_whole) (xCons (xV 1) (xCons (xC (.int 0)) (xCons (xBin minusPV (xV 3) (xC (.int 1))) (xNil)))))) E st = .ok false st := not_t (tru_t (call_eq (cons_eq rfl (cons_eq rfl (cons_eq (bin_eq rfl rfl rfl) nil_eq))) rfl (whole_ok hs.1 (by omega))))
  have w2 : xNotT (xTru (xCall 3 (F_fits_whole) (xCons (xV 2) (xCons (xC (.int 1)) (xCons (xC (.int 24)) (xNil)))))) E st = .ok false st := not_t (tru_t (call_eq (cons_eq rfl (cons_eq rfl (cons_eq rfl nil_eq))) rfl (whole_ok (by omega) (by omega))))
  have c := compL_map (g := gSlot 4) (dt := xYes) (de := (xTup (xCons (xV 0) (xCons (xBin modPV (xBin mulPV (xV 1) (xV 4)) (xV 3)) (xNil))))) (env := E) (st := st) (fun i : Nat => PV.int (i : Int)) (fun _ => true) (fun i : Nat => rgV s (step * (i : Int) % szL s)) (List.range high)
    (fun i hi => ⟨[.pl (.str s), .pl (.int step), .pl (.int (high : Int)), .pl (.int (szL s)), .pl (.int (i : Int))], rfl, rfl, fun _ => tup_eq (cons_eq rfl (cons_eq (bin_eq (bin_eq rfl rfl (mul_int (by omega))) rfl (mod_int hn)) nil_eq)) (show 2 ≤ 16777216 by decide)⟩)
  rw [filter_all] at c
  have l := xLc_eq (vs := [4]) (env := E) (rng1_nat (d := xV 2) (n := high) (st' := st) rfl (by omega)) rfl (by rw [List.length_map, List.length_range]; omega) c
  exact fn_rt ((seq_nx s1).trans ((seq_nx s2).trans ((seq_nx ((ifS_eq (orT_f w1 w2)).trans rfl)).trans (ret_eq (un_eq l rfl)))))
def stepsL (s : List Nat) (lap : Int) : List PV := ((List.range (szL s).toNat).filter fun i : Nat => decide (lap ≤ LP (szL s) (JP s 0) (JP s (i : Int)))).map fun i : Nat => PV.int (i : Int)
theorem steps_ok {s : List Nat} {lap : Int} {st : Sto} (h : Crs s) (hp : 1 ≤ lap ∧ lap ≤ 4) : F_spiral_steps [.str s, .int lap] st = .ok (.tup (stepsL s lap)) st := by
  obtain ⟨hn, hz, hl⟩ := crs_pos h
  let E : Env := [.pl (.str s), .pl (.int lap), .no]
  have ec : ((szL s).toNat : Int) = szL s := Int.toNat_of_nonneg (by omega)
  have s1 : xExpr (xCall 1 (F_need_course) (xCons (xV 0) (xNil))) (startE 3 [.str s, .int lap]) st = .nx E st := expr_eq (call_eq (cons_eq rfl nil_eq) rfl (need_course_ok h))
  have s2 : xExpr (xCall 1 (F_need_lap) (xCons (xV 1) (xNil))) E st = .nx E st := expr_eq (call_eq (cons_eq rfl nil_eq) rfl (need_lap_ok hp))
  have q : xCall 1 (F_length_in) (xCons (xV 0) (xNil)) E st = .ok (.int ((szL s).toNat : Int)) st := by rw [ec]; exact call_eq (cons_eq rfl nil_eq) rfl (length_in_ok h.1 (by omega))
  have c := compL_map (g := gSlot 2) (dt := (xTB (xBin gePV (xCall 2 (F_lap_in) (xCons (xTup (xCons (xV 0) (xCons (xC (.int 0)) (xNil)))) (xCons (xTup (xCons (xV 0) (xCons (xV 2) (xNil)))) (xNil)))) (xV 1)))) (de := xV 2) (env := E) (st := st) (fun i : Nat => PV.int (i : Int)) (fun i : Nat => decide (lap ≤ LP (szL s) (JP s 0) (JP s (i : Int)))) (fun i : Nat => PV.int (i : Int)) (List.range (szL s).toNat)
    (fun i hi => ⟨[.pl (.str s), .pl (.int lap), .pl (.int (i : Int))], rfl, tb_eq (bin_eq (call_eq (cons_eq (tup_eq (cons_eq rfl (cons_eq rfl nil_eq)) (show 2 ≤ 16777216 by decide)) (cons_eq (tup_eq (cons_eq rfl (cons_eq rfl nil_eq)) (show 2 ≤ 16777216 by decide)) nil_eq)) rfl (lap_in_ok h h)) rfl rfl), fun _ => rfl⟩)
  have l := xLc_eq (vs := [2]) (env := E) (rng1_nat q (by omega)) rfl (by rw [List.length_map, List.length_range]; omega) c
  exact fn_rt ((seq_nx s1).trans ((seq_nx s2).trans (ret_eq (un_eq l rfl))))
def againP (s : List Nat) (step : Int) (i : Nat) : Bool := decide (JP s (step * (1 + (i : Int)) % szL s) = JP s 0)
theorem again_find {s : List Nat} {step : Int} (h : Crs s) : ∃ i, (List.range (szL s).toNat).find? (againP s step) = some i ∧ (i : Int) < szL s := by
  obtain ⟨hn, hz, hl⟩ := crs_pos h
  have hx : ∃ i ∈ List.range (szL s).toNat, againP s step i = true := by
    refine ⟨(szL s).toNat - 1, List.mem_range.mpr (by omega), ?_⟩
    unfold againP
    have : (1 + (((szL s).toNat - 1 : Nat) : Int)) = szL s := by omega
    rw [this, Int.mul_emod_left]
    exact decide_eq_true rfl
  obtain ⟨i, hi⟩ := Option.isSome_iff_exists.mp ((List.find?_isSome (p := againP s step) (xs := List.range (szL s).toNat)).mpr hx)
  exact ⟨i, hi, by have := List.mem_range.mp (List.mem_of_find?_eq_some hi); omega⟩
theorem again_ok {s : List Nat} {step : Int} {i : Nat} {st : Sto} (h : Crs s) (hs : 0 ≤ step ∧ step < szL s) (hi : (List.range (szL s).toNat).find? (againP s step) = some i) : F_spiral_again [.str s, .int step] st = .ok (.int (1 + (i : Int))) st := by
  obtain ⟨hn, hz, hl⟩ := crs_pos h
  let E0 : Env := [.pl (.str s), .pl (.int step), .pl (.int (szL s)), .no, .no]
  let E : Env := [.pl (.str s), .pl (.int step), .pl (.int (szL s)), .pl (.lst ((JP s 0).map .int)), .no]
  have ec : ((szL s).toNat : Int) = szL s := Int.toNat_of_nonneg (by omega)
  have s1 : xExpr (xCall 1 (F_need_course) (xCons (xV 0) (xNil))) (startE 5 [.str s, .int step]) st = .nx [.pl (.str s), .pl (.int step), .no, .no, .no] st := expr_eq (call_eq (cons_eq rfl nil_eq) rfl (need_course_ok h))
  have s2 : xAsg (xCall 1 (F_length_in) (xCons (xV 0) (xNil))) (gSlot 2) [.pl (.str s), .pl (.int step), .no, .no, .no] st = .nx E0 st := asg_eq (call_eq (cons_eq rfl nil_eq) rfl (length_in_ok h.1 (by omega)))
  have w1 : xCall 3 (F_fits_whole) (xCons (xV 1) (xCons (xC (.int 0)) (xCons (xBin minusPV (xV 2) (xC (.int 1))) (xNil)))) E0 st = .ok (.bl true) st := call_eq (cons_eq rfl (cons_eq rfl (cons_eq (bin_eq rfl rfl rfl) nil_eq))) rfl (whole_ok hs.1 (by omega))
  have s4 : xAsg (xCall 1 (F_joints_in) (xCons (xTup (xCons (xV 0) (xCons (xC (.int 0)) (xNil)))) (xNil))) (gSlot 3) E0 st = .nx E st := asg_eq (call_eq (cons_eq (tup_eq (cons_eq rfl (cons_eq rfl nil_eq)) (show 2 ≤ 16777216 by decide)) nil_eq) rfl (joints_ok h))
  have c := compL_map (g := gSlot 4) (dt := (xTB (xBin (eqPV false) (xCall 1 (F_joints_in) (xCons (xTup (xCons (xV 0) (xCons (xBin modPV (xBin mulPV (xV 1) (xV 4)) (xV 2)) (xNil)))) (xNil))) (xV 3)))) (de := xV 4) (env := E) (st := st) (fun i : Nat => PV.int (1 + (i : Int))) (againP s step) (fun i : Nat => PV.int (1 + (i : Int))) (List.range (szL s).toNat)
    (fun i hi => ⟨[.pl (.str s), .pl (.int step), .pl (.int (szL s)), .pl (.lst ((JP s 0).map .int)), .pl (.int (1 + (i : Int)))], rfl, tb_eq (bin_eq (call_eq (cons_eq (tup_eq (cons_eq rfl (cons_eq (bin_eq (bin_eq rfl rfl (mul_int (by omega))) rfl (mod_int hn)) nil_eq)) (show 2 ≤ 16777216 by decide)) nil_eq) rfl (joints_ok h)) rfl (eq_ints false _ _)), fun _ => rfl⟩)
  have q2 : xBin plusPV (xV 2) (xC (.int 1)) E st = .ok (.int (1 + ((szL s).toNat : Int))) st := by rw [ec, Int.add_comm]; exact bin_eq rfl rfl rfl
  have l := xLc_eq (vs := [4]) (env := E) (rng2_nat (d := xC (.int 1)) (lo := 1) (n := (szL s).toNat) (st' := st) rfl q2 (by decide) (by omega)) rfl (by rw [List.length_map, List.length_range]; omega) c
  have hd : ((List.range (szL s).toNat).filter (againP s step)).head? = some i := by rw [List.head?_filter]; exact hi
  have ix : idxPV (.lst (((List.range (szL s).toNat).filter (againP s step)).map fun i : Nat => PV.int (1 + (i : Int)))) (.int 0) = some (.int (1 + (i : Int))) := by
    cases e : (List.range (szL s).toNat).filter (againP s step) with
    | nil => rw [e] at hd; cases hd
    | cons x r =>
      rw [e] at hd
      cases hd
      exact atI_nat (j := 0) rfl
  exact fn_rt ((seq_nx s1).trans ((seq_nx s2).trans ((seq_nx (need_eq w1)).trans ((seq_nx s4).trans (ret_eq (bin_eq l rfl ix))))))
theorem like_ok {s : List Nat} {a b : Int} {st : Sto} (h : Crs s) (ha : 0 ≤ a ∧ a < szL s) (hb : 0 ≤ b ∧ b < szL s) (e : JP s a = JP s b) : F_like_rings [rgV s a, rgV s b] st = .ok (.bl true) st := by
  obtain ⟨hn, hz, hl⟩ := crs_pos h
  have i0 : ∀ x, idxPV (rgV s x) (.int 0) = some (.str s) := fun x => atI_nat (j := 0) rfl
  have li := length_in_ok (st := st) h.1 (by omega)
  have q : eqPV true (.int (szL s)) (.int (szL s)) = some (.bl false) := by simp [eqPV]
  have nr : F_need_rings [rgV s a, rgV s b] st = .ok .non st := by
    refine fn_nx (e := [.pl (rgV s a), .pl (rgV s b)]) ((seq_nx (expr_eq (call_eq (cons_eq rfl nil_eq) rfl (need_ring_ok h ha)))).trans ((seq_nx (expr_eq (call_eq (cons_eq rfl nil_eq) rfl (need_ring_ok h hb)))).trans ?_))
    exact (ifS_eq (tb_eq (bin_eq (call_eq (cons_eq (bin_eq rfl rfl (i0 a)) nil_eq) rfl li) (call_eq (cons_eq (bin_eq rfl rfl (i0 b)) nil_eq) rfl li) q))).trans rfl
  have w := eq_ints false (JP s a) (JP s b)
  rw [e] at w
  have w2 : eqPV false (.lst ((JP s b).map .int)) (.lst ((JP s b).map .int)) = some (.bl true) := by rw [w, decide_eq_true rfl]; rfl
  have j1 := joints_ok (a := a) (st := st) h
  rw [e] at j1
  exact fn_rt ((seq_nx (expr_eq (call_eq (cons_eq rfl (cons_eq rfl nil_eq)) rfl nr))).trans (ret_eq (bin_eq (call_eq (cons_eq rfl nil_eq) rfl j1) (call_eq (cons_eq rfl nil_eq) rfl (joints_ok h)) w2)))
end Vl

set_option linter.all false
set_option maxRecDepth 100000
set_option maxHeartbeats 1000000
namespace Vl
open PySem L2
/-! ### laps do not turn -/
theorem offs_mem' {n : Int} : ∀ {r : List Nat} {b q : Int}, (∃ x ∈ offs n r 0, x = q % n) → True := fun _ => trivial
theorem offs_shift {n : Int} (d : Int) : ∀ (r : List Nat) (a : Int), offs n r (a + d) = (offs n r a).map fun x => (x + d) % n
  | [], _ => rfl
  | c :: r, a => by
    show (a + d) % n :: offs n r (a + d + szc c) = (a % n + d) % n :: (offs n r (a + szc c)).map fun x => (x + d) % n
    rw [← offs_shift d r (a + szc c), show a + d + szc c = a + szc c + d by omega]
    congr 1
    rw [Int.add_emod (a % n) d, Int.emod_emod, ← Int.add_emod]
theorem jp_shift {s : List Nat} {a d x : Int} : x ∈ JP s (a + d) ↔ ∃ y ∈ JP s a, x = (y + d) % szL s := by
  rw [jp_mem, offs_shift]
  constructor
  · intro h
    obtain ⟨y, hy, rfl⟩ := List.mem_map.mp h
    exact ⟨y, jp_mem.mpr hy, rfl⟩
  · rintro ⟨y, hy, rfl⟩
    exact List.mem_map.mpr ⟨y, jp_mem.mp hy, rfl⟩
theorem shift_gap (x y d n : Int) : ((x + d) % n - (y + d) % n) % n = (x - y) % n := by
  rw [← Int.sub_emod]
  congr 1
  omega
theorem lp_shift {s : List Nat} {a b : Int} (h : Crs s) (d : Int) : LP (szL s) (JP s (a + d)) (JP s (b + d)) = LP (szL s) (JP s a) (JP s b) := by
  obtain ⟨⟨x, hx, y, hy, e1⟩, l1⟩ := lp_spec (n := szL s) (J1 := JP s (a + d)) (J2 := JP s (b + d)) (jp_ne h.2.1) (jp_ne h.2.1)
  obtain ⟨⟨u, hu, v, hv, e2⟩, l2⟩ := lp_spec (n := szL s) (J1 := JP s a) (J2 := JP s b) (jp_ne h.2.1) (jp_ne h.2.1)
  have k1 : LP (szL s) (JP s a) (JP s b) ≤ LP (szL s) (JP s (a + d)) (JP s (b + d)) := by
    obtain ⟨x', hx', rfl⟩ := jp_shift.mp hx
    obtain ⟨y', hy', rfl⟩ := jp_shift.mp hy
    rw [e1, shift_gap]
    exact l2 x' hx' y' hy'
  have k2 : LP (szL s) (JP s (a + d)) (JP s (b + d)) ≤ LP (szL s) (JP s a) (JP s b) := by
    have := l1 _ (jp_shift.mpr ⟨u, hu, rfl⟩) _ (jp_shift.mpr ⟨v, hv, rfl⟩)
    rw [shift_gap] at this
    rw [e2]
    exact this
  omega
theorem jp_mod {s : List Nat} {a b : Int} (h : a % szL s = b % szL s) : JP s a = JP s b := by
  unfold JP
  rw [offs_mod s a b h]
/-! ### the spiral as a turret -/
def ringsP (s : List Nat) (step : Int) (high : Nat) : List PV := (List.range high).map fun i : Nat => rgV s (step * (i : Int) % szL s)
theorem rng_mod {s : List Nat} (h : Crs s) (x : Int) : 0 ≤ x % szL s ∧ x % szL s < szL s := by
  obtain ⟨hn, _, _⟩ := crs_pos h
  exact ⟨Int.emod_nonneg _ (by omega), Int.emod_lt_of_pos _ hn⟩
theorem need_turret_ok {s : List Nat} {step : Int} {high : Nat} {st : Sto} (h : Crs s) (hh : 1 ≤ high ∧ high ≤ 24) : F_need_turret [.tup (ringsP s step high)] st = .ok .non st := by
  obtain ⟨hn, hz, hl⟩ := crs_pos h
  have ln : (ringsP s step high).length = high := by unfold ringsP; rw [List.length_map, List.length_range]
  let E : Env := [.pl (.tup (ringsP s step high)), .no]
  have t1 : F_is_tuple_of [.tup (ringsP s step high), .int 1, .int 24] st = .ok (.bl true) st := by
    refine fn_rt (ret_eq (and_t (p := .bl true) (s := st) (un_eq rfl rfl) (chain_tt (p1 := .int 1) (p2 := .int high) (p3 := .int 24) rfl (un_eq rfl ?_) (le_tt (by omega)) rfl (le_tt (by omega)))))
    show some (PV.int ((ringsP s step high).length : Nat)) = _
    rw [ln]
  have b1 : xNotT (xTru (xCall 3 (F_is_tuple_of) (xCons (xV 0) (xCons (xC (.int 1)) (xCons (xC (.int 24)) (xNil)))))) E st = .ok false st := not_t (tru_t (call_eq (cons_eq rfl (cons_eq rfl (cons_eq rfl nil_eq))) rfl t1))
  have c1 := compL_map (g := gSlot 1) (dt := xYes) (de := (xCall 1 (F_fits_ring) (xCons (xV 1) (xNil)))) (env := E) (st := st) (fun i : Nat => rgV s (step * (i : Int) % szL s)) (fun _ => true) (fun _ => PV.bl true) (List.range high)
    (fun i hi => ⟨[.pl (.tup (ringsP s step high)), .pl (rgV s (step * (i : Int) % szL s))], rfl, rfl, fun _ => call_eq (cons_eq rfl nil_eq) rfl (ring_ok h (rng_mod h _))⟩)
  rw [filter_all] at c1
  have l1 := xLc_eq (vs := [1]) (di := xItems (xV 0)) (env := E) (items := ringsP s step high) rfl rfl (by rw [ln]; omega) c1
  have b2 := not_t (tru_t (un_eq l1 (all_true _)))
  have i0 : ∀ x, idxPV (rgV s x) (.int 0) = some (.str s) := fun x => atI_nat (j := 0) rfl
  have hd : idxPV (.tup (ringsP s step high)) (.int 0) = some (rgV s (step * ((0 : Nat) : Int) % szL s)) := by
    refine atI_nat (j := 0) ?_
    unfold ringsP
    rw [List.getElem?_map, List.getElem?_range (by omega)]
    rfl
  have li := length_in_ok (st := st) h.1 (by omega)
  have q : eqPV false (.int (szL s)) (.int (szL s)) = some (.bl true) := by simp [eqPV]
  have c2 := compL_map (g := gSlot 1) (dt := xYes) (de := (xBin (eqPV false) (xCall 1 (F_length_in) (xCons (xBin idxPV (xV 1) (xC (.int 0))) (xNil))) (xCall 1 (F_length_in) (xCons (xBin idxPV (xBin idxPV (xV 0) (xC (.int 0))) (xC (.int 0))) (xNil))))) (env := E) (st := st) (fun i : Nat => rgV s (step * (i : Int) % szL s)) (fun _ => true) (fun _ => PV.bl true) (List.range high)
    (fun i hi => ⟨[.pl (.tup (ringsP s step high)), .pl (rgV s (step * (i : Int) % szL s))], rfl, rfl, fun _ => bin_eq (call_eq (cons_eq (bin_eq rfl rfl (i0 _)) nil_eq) rfl li) (call_eq (cons_eq (bin_eq (bin_eq rfl rfl hd) rfl (i0 _)) nil_eq) rfl li) q⟩)
  rw [filter_all] at c2
  have l2 := xLc_eq (vs := [1]) (di := xItems (xV 0)) (env := E) (items := ringsP s step high) rfl rfl (by rw [ln]; omega) c2
  have f : F_fits_turret [.tup (ringsP s step high)] st = .ok (.bl true) st := fn_rt ((seq_nx ((ifS_eq (orT_f b1 b2)).trans rfl)).trans (ret_eq (un_eq l2 (all_true _))))
  exact fn_nx (need_eq (call_eq (cons_eq rfl nil_eq) rfl f))
theorem zip_eq {da db : Den PV} {env : Env} {st s s2 : Sto} {p q : PV} {xs ys : List PV} (h : da env st = .ok p s) (h2 : db env s = .ok q s2) (hp : itemsOf p = some xs) (hq : itemsOf q = some ys) : xZip da db env st = .ok (zipL xs ys) s2 := by
  unfold xZip
  rw [h]
  show Res.bind (db env s) _ = _
  rw [h2]
  show (match itemsOf p, itemsOf q with
    | some xs, some ys => Res.ok (zipL xs ys) s2
    | _, _ => Res.no) = _
  rw [hp, hq]
theorem zipL_map {α : Type} (w : α → PV) : ∀ (l m : List α), zipL (l.map w) (m.map w) = (l.zip m).map fun p => PV.tup [w p.1, w p.2]
  | [], _ => by simp [zipL]
  | _ :: _, [] => by simp [zipL]
  | x :: l, y :: m => by
    show PV.tup [w x, w y] :: zipL (l.map w) (m.map w) = _
    rw [zipL_map w l m]
    rfl
theorem bonded_ok {s : List Nat} {step lap : Int} {high : Nat} {st : Sto} (h : Crs s) (hs : 0 ≤ step ∧ step < szL s) (hh : 1 ≤ high ∧ high ≤ 24) (hp : 1 ≤ lap ∧ lap ≤ 4) (hg : lap ≤ LP (szL s) (JP s 0) (JP s step)) :
    F_is_bonded_round [.tup (ringsP s step high), .int lap] st = .ok (.bl true) st := by
  obtain ⟨hn, hz, hl⟩ := crs_pos h
  let E : Env := [.pl (.tup (ringsP s step high)), .pl (.int lap), .no, .no]
  have ln : (ringsP s step high).length = high := by unfold ringsP; rw [List.length_map, List.length_range]
  have zi : xZip (xV 0) (xSlice (xV 0) (xPart (xC (.int 1))) (xNoPart)) E st = .ok (((List.range high).zip ((List.range high).drop 1)).map fun p : Nat × Nat => PV.tup [rgV s (step * (p.1 : Int) % szL s), rgV s (step * (p.2 : Int) % szL s)]) st := by
    have sl : xSlice (xV 0) (xPart (xC (.int 1))) (xNoPart) E st = .ok (.tup (((List.range high).drop 1).map fun i : Nat => rgV s (step * (i : Int) % szL s))) st := by
      have e : cutA (ringsP s step high) (some 1) none = ((List.range high).drop 1).map fun i : Nat => rgV s (step * (i : Int) % szL s) := by
        unfold cutA
        rw [show (some (1 : Int)) = some ((1 : Nat) : Int) from rfl, HT.sIx_nat, HT.sIx_none, ln, Nat.min_eq_left hh.1]
        unfold ringsP
        rw [← List.map_drop]
        refine List.take_of_length_le ?_
        simp
      show Res.ok (PV.tup (cutA (ringsP s step high) (some 1) none)) st = _
      rw [e]
    refine (zip_eq (xs := ringsP s step high) (s := st) rfl sl rfl rfl).trans ?_
    unfold ringsP
    rw [zipL_map]
  have c := compL_map (g := (gTupE 2 (gConsE (gSlot 2) (gConsE (gSlot 3) (gNilE))))) (dt := xYes) (de := (xBin gePV (xCall 2 (F_lap_in) (xCons (xV 2) (xCons (xV 3) (xNil)))) (xV 1))) (env := E) (st := st) (fun p : Nat × Nat => PV.tup [rgV s (step * (p.1 : Int) % szL s), rgV s (step * (p.2 : Int) % szL s)]) (fun _ => true) (fun _ => PV.bl true) ((List.range high).zip ((List.range high).drop 1))
    (fun p hp2 => by
      have hp3 : p.2 = p.1 + 1 := by
        obtain ⟨i, hi, e⟩ := List.getElem_of_mem hp2
        rw [List.getElem_zip] at e
        have e1 : p.1 = i := by rw [← e]; simp
        have e2 : p.2 = 1 + i := by rw [← e]; simp
        omega
      have el : LP (szL s) (JP s (step * (p.1 : Int) % szL s)) (JP s (step * (p.2 : Int) % szL s)) = LP (szL s) (JP s 0) (JP s step) := by
        have a1 : JP s (step * (p.1 : Int) % szL s) = JP s (0 + step * (p.1 : Int)) := jp_mod (by rw [Int.emod_emod, Int.zero_add])
        have a2 : JP s (step * (p.2 : Int) % szL s) = JP s (step + step * (p.1 : Int)) := jp_mod (by
          rw [Int.emod_emod, hp3]
          congr 1
          have : ((p.1 + 1 : Nat) : Int) = (p.1 : Int) + 1 := by omega
          rw [this, Int.mul_add, Int.mul_one, Int.add_comm])
        rw [a1, a2]
        exact lp_shift h _
      have ge : gePV (.int (LP (szL s) (JP s (step * (p.1 : Int) % szL s)) (JP s (step * (p.2 : Int) % szL s)))) (.int lap) = some (.bl true) := by
        rw [el]
        show some (PV.bl (decide (lap ≤ _))) = _
        rw [decide_eq_true hg]
      exact ⟨[.pl (.tup (ringsP s step high)), .pl (.int lap), .pl (rgV s (step * (p.1 : Int) % szL s)), .pl (rgV s (step * (p.2 : Int) % szL s))], rfl, rfl, fun _ => bin_eq (call_eq (cons_eq rfl (cons_eq rfl nil_eq)) rfl (lap_in_ok h h)) rfl ge⟩)
  rw [filter_all] at c
  have zl : ((List.range high).zip ((List.range high).drop 1)).length ≤ 24 := by
    rw [List.length_zip, List.length_range]
    omega
  have l := xLc_eq (vs := [2, 3]) (env := E) zi rfl (by rw [List.length_map]; omega) c
  exact fn_rt ((seq_nx (expr_eq (call_eq (cons_eq rfl nil_eq) rfl (need_turret_ok h hh)))).trans ((seq_nx (expr_eq (call_eq (cons_eq rfl nil_eq) rfl (need_lap_ok hp)))).trans (ret_eq (un_eq l (all_true _)))))
end Vl

set_option linter.all false
set_option maxRecDepth 100000
set_option maxHeartbeats 1000000
namespace Vl
open PySem L2
/-! ### a row by the dice -/
def testW : Den Bool := (xTB (xBin gtPV (xV 3) (xC (.int 0))))
def bodyW : DenS := (xSeq (xAsg (xCall 2 (F__law_some) (xCons (xV 0) (xCons (xLc [5] (gSlot 5) (xTB (xBin lePV (xCall 1 (F__law_size) (xCons (xV 5) (xNil))) (xV 3))) (xV 5) (xItems (xC (.str [115, 104, 116, 113])))) (xNil)))) (gSlot 4)) (xAsg (xTup (xCons (xBin plusPV (xV 2) (xV 4)) (xCons (xBin minusPV (xV 3) (xCall 1 (F__law_size) (xCons (xV 4) (xNil)))) (xNil)))) (gTupE 2 (gConsE (gSlot 2) (gConsE (gSlot 3) (gNilE))))))
theorem asgG_eq {d : Den PV} {g : PV → Env → Option Env} {env e : Env} {st s : Sto} {p : PV} (h : d env st = .ok p s) (hg : g p env = some e) : xAsg d g env st = .nx e s := by
  unfold xAsg
  rw [h]
  show optS (g p env) s = _
  rw [hg]
  rfl
theorem szL_app (a b : List Nat) : szL (a ++ b) = szL a + szL b := by
  unfold szL
  rw [List.map_append, List.sum_append]
theorem row_loop {len : Slot} : ∀ (fuel : Nat) (f : List Nat) (L : Int) (x4 : Slot) (st : Sto), CupOk st → 0 ≤ L → L < fuel → (f.length : Int) + L ≤ 1000 →
    ∃ (g : List Nat) (y4 : Slot) (st' : Sto), whileL testW bodyW fuel [.pl (.obj 0), len, .pl (.str f), .pl (.int L), x4, .no] st = .nx [.pl (.obj 0), len, .pl (.str (f ++ g)), .pl (.int 0), y4, .no] st' ∧ Sg g ∧ szL g = L ∧ CupOk st'
  | 0, f, L, x4, st, hc, h0, h1, h2 => by omega
  | n + 1, f, L, x4, st, hc, h0, h1, h2 => by
    have ht : testW [.pl (.obj 0), len, .pl (.str f), .pl (.int L), x4, .no] st = .ok (decide (0 < L)) st := tb_eq (bin_eq rfl rfl rfl)
    by_cases hL : 0 < L
    · have c := compL_map (g := gSlot 5) (dt := (xTB (xBin lePV (xCall 1 (F__law_size) (xCons (xV 5) (xNil))) (xV 3)))) (de := xV 5) (env := [.pl (.obj 0), len, .pl (.str f), .pl (.int L), x4, .no]) (st := st) (fun c : Nat => PV.str [c]) (fun c => decide (szL [c] ≤ L)) (fun c => PV.str [c]) [115, 104, 116, 113]
        (fun c hm => by
          have sg : Sg [c] := fun x hx => by
            rw [List.mem_singleton.mp hx]
            simp only [List.mem_cons, List.not_mem_nil, or_false] at hm
            rcases hm with rfl | rfl | rfl | rfl <;> rfl
          exact ⟨[.pl (.obj 0), len, .pl (.str f), .pl (.int L), x4, .pl (.str [c])], rfl, tb_eq (bin_eq (call_eq (cons_eq rfl nil_eq) rfl (size_ok sg (show 1 ≤ 16777216 by decide))) rfl rfl), fun _ => rfl⟩)
      have l := xLc_eq (vs := [5]) (di := xItems (xC (.str [115, 104, 116, 113]))) (env := [.pl (.obj 0), len, .pl (.str f), .pl (.int L), x4, .no]) (st := st) (items := [115, 104, 116, 113].map fun c => PV.str [c]) rfl rfl (by decide) c
      have hm : 113 ∈ ([115, 104, 116, 113].filter fun c => decide (szL [c] ≤ L)) := List.mem_filter.mpr ⟨by simp, decide_eq_true (by show szL [113] ≤ L; rw [show szL [113] = 1 from rfl]; omega)⟩
      obtain ⟨p, st1, e1, hp, hc1⟩ := some_ok (xs := ([115, 104, 116, 113].filter fun c => decide (szL [c] ≤ L)).map fun c => PV.str [c]) hc (by
        intro z
        have := List.map_eq_nil_iff.mp z
        rw [this] at hm
        exact absurd hm (by simp)) (by
        rw [List.length_map]
        have := List.length_filter_le (fun c => decide (szL [c] ≤ L)) [115, 104, 116, 113]
        have e : [115, 104, 116, 113].length = 4 := rfl
        omega)
      obtain ⟨c, hcm, rfl⟩ := List.mem_map.mp hp
      obtain ⟨hc4, hcL⟩ := List.mem_filter.mp hcm
      have hcL := of_decide_eq_true hcL
      have hsg : isSg c = true := by
        simp only [List.mem_cons, List.not_mem_nil, or_false] at hc4
        rcases hc4 with rfl | rfl | rfl | rfl <;> rfl
      have sg : Sg [c] := fun x hx => by rw [List.mem_singleton.mp hx]; exact hsg
      have hp1 := szc_pos hsg
      have e1c : szL [c] = szc c := sz_one c
      have s1 : xAsg (xCall 2 (F__law_some) (xCons (xV 0) (xCons (xLc [5] (gSlot 5) (xTB (xBin lePV (xCall 1 (F__law_size) (xCons (xV 5) (xNil))) (xV 3))) (xV 5) (xItems (xC (.str [115, 104, 116, 113])))) (xNil)))) (gSlot 4) [.pl (.obj 0), len, .pl (.str f), .pl (.int L), x4, .no] st = .nx [.pl (.obj 0), len, .pl (.str f), .pl (.int L), .pl (.str [c]), .no] st1 := asg_eq (call_eq (cons_eq rfl (cons_eq l nil_eq)) rfl e1)
      have t2 : xTup (xCons (xBin plusPV (xV 2) (xV 4)) (xCons (xBin minusPV (xV 3) (xCall 1 (F__law_size) (xCons (xV 4) (xNil)))) (xNil))) [.pl (.obj 0), len, .pl (.str f), .pl (.int L), .pl (.str [c]), .no] st1 = .ok (.tup [.str (f ++ [c]), .int (L - szL [c])]) st1 :=
        tup_eq (cons_eq (bin_eq rfl rfl (plus_str (by simp; omega))) (cons_eq (bin_eq rfl (call_eq (cons_eq rfl nil_eq) rfl (size_ok sg (show 1 ≤ 16777216 by decide))) rfl) nil_eq)) (show 2 ≤ 16777216 by decide)
      have s2 : bodyW [.pl (.obj 0), len, .pl (.str f), .pl (.int L), x4, .no] st = .nx [.pl (.obj 0), len, .pl (.str (f ++ [c])), .pl (.int (L - szL [c])), .pl (.str [c]), .no] st1 := (seq_nx s1).trans (asgG_eq t2 rfl)
      obtain ⟨g, y4, st2, e2, g1, g2, g3⟩ := row_loop n (f ++ [c]) (L - szL [c]) (.pl (.str [c])) st1 hc1 (by omega) (by omega) (by rw [List.length_append]; simp; omega)
      refine ⟨c :: g, y4, st2, ?_, fun x hx => (List.mem_cons.mp hx).elim (fun e => by rw [e]; exact hsg) (g1 x), by rw [szL_cons, g2, e1c]; omega, g3⟩
      unfold whileL
      rw [ht, decide_eq_true hL]
      show (match bodyW [.pl (.obj 0), len, .pl (.str f), .pl (.int L), x4, .no] st with
        | .nx e s' => whileL testW bodyW n e s'
        | .ct e s' => whileL testW bodyW n e s'
        | .bk e s' => .nx e s'
        | r => r) = _
      rw [s2]
      rw [List.append_assoc] at e2
      exact e2
    · have e : L = 0 := by omega
      subst e
      refine ⟨[], x4, st, ?_, fun x hx => absurd hx (by simp), rfl, hc⟩
      unfold whileL
      rw [ht, decide_eq_false hL, List.append_nil]
theorem row_ok {L : Int} {st : Sto} (hc : CupOk st) (h : 1 ≤ L ∧ L ≤ 20) : ∃ (g : List Nat) (st' : Sto), F__law_row [.obj 0, .int L] st = .ok (.str g) st' ∧ Crs g ∧ szL g = L ∧ CupOk st' := by
  obtain ⟨g, y4, st', e, g1, g2, g3⟩ := row_loop (len := .pl (.int L)) 64 [] L .no st hc (by omega) (by omega) (by simp; omega)
  have s1 : xAsg (xTup (xCons (xC (.str [])) (xCons (xV 1) (xNil)))) (gTupE 2 (gConsE (gSlot 2) (gConsE (gSlot 3) (gNilE)))) (startE 6 [.obj 0, .int L]) st = .nx [.pl (.obj 0), .pl (.int L), .pl (.str []), .pl (.int L), .no, .no] st := asgG_eq (tup_eq (cons_eq rfl (cons_eq rfl nil_eq)) (show 2 ≤ 16777216 by decide)) rfl
  have hl := len_le_sz g1
  have hn : 1 ≤ g.length := by
    cases g with
    | nil => rw [show szL [] = 0 from rfl] at g2; omega
    | cons c r => simp
  exact ⟨g, st', fn_rt ((seq_nx s1).trans ((seq_nx e).trans (ret_eq rfl))), ⟨g1, hn, by omega, by omega⟩, g2, g3⟩
/-! ### the rings that are told one by one -/
def bodyG : DenS := (xSeq (xApp 6 (xTup (xCons (xV 1) (xCons (xV 7) (xNil))))) (xAsg (xIf (xTB (xBin ltPV (xBin plusPV (xV 7) (xV 4)) (xV 2))) (xBin plusPV (xV 7) (xV 4)) (xBin minusPV (xBin plusPV (xV 7) (xV 4)) (xV 2))) (gSlot 7)))
abbrev envG (s : List Nat) (lap step high : Int) (rs : Slot) (a : Int) (x8 : Slot) : Env := [.pl (.obj 0), .pl (.str s), .pl (.int (szL s)), .pl (.int lap), .pl (.int step), .pl (.int high), rs, .pl (.int a), x8, .no, .no, .no, .no]
theorem rings_succ (s : List Nat) (step : Int) (k : Nat) : ringsP s step (k + 1) = ringsP s step k ++ [rgV s (step * (k : Int) % szL s)] := by
  unfold ringsP
  rw [List.range_succ, List.map_append]
  rfl
theorem rings_loop {s : List Nat} {lap step high : Int} {st : Sto} (h : Crs s) (hs : 0 ≤ step ∧ step < szL s) : ∀ (l : List PV) (k : Nat) (x8 : Slot), k + l.length ≤ 1000 →
    ∃ y8 : Slot, forL (gSlot 8) bodyG l (envG s lap step high (.ow (.lst (ringsP s step k))) (step * (k : Int) % szL s) x8) st = .nx (envG s lap step high (.ow (.lst (ringsP s step (k + l.length)))) (step * ((k + l.length : Nat) : Int) % szL s) y8) st
  | [], k, x8, _ => ⟨x8, rfl⟩
  | p :: l, k, x8, hz => by
    rw [List.length_cons] at hz
    obtain ⟨hn, _, _⟩ := crs_pos h
    have ln : (ringsP s step k).length = k := by unfold ringsP; rw [List.length_map, List.length_range]
    have hm := rng_mod h (step * (k : Int))
    let a := step * (k : Int) % szL s
    have e1 : xApp 6 (xTup (xCons (xV 1) (xCons (xV 7) (xNil)))) (envG s lap step high (.ow (.lst (ringsP s step k))) a (.pl p)) st = .nx (envG s lap step high (.ow (.lst (ringsP s step (k + 1)))) a (.pl p)) st := by
      refine (app_eq (ps := ringsP s step k) rfl (tup_eq (cons_eq rfl (cons_eq rfl nil_eq)) (show 2 ≤ 16777216 by decide)) (by rw [ln]; omega)).trans ?_
      rw [rings_succ]
      rfl
    have e2 : xAsg (xIf (xTB (xBin ltPV (xBin plusPV (xV 7) (xV 4)) (xV 2))) (xBin plusPV (xV 7) (xV 4)) (xBin minusPV (xBin plusPV (xV 7) (xV 4)) (xV 2))) (gSlot 7) (envG s lap step high (.ow (.lst (ringsP s step (k + 1)))) a (.pl p)) st = .nx (envG s lap step high (.ow (.lst (ringsP s step (k + 1)))) (step * ((k + 1 : Nat) : Int) % szL s) (.pl p)) st := by
      have ek : step * ((k + 1 : Nat) : Int) % szL s = (a + step) % szL s := by
        have : ((k + 1 : Nat) : Int) = (k : Int) + 1 := by omega
        rw [this, Int.mul_add, Int.mul_one]
        exact (Int.emod_add_emod (step * (k : Int)) (szL s) step).symm
      rw [ek]
      refine asg_eq (if_eq (k := decide (a + step < szL s)) (tb_eq (bin_eq (bin_eq rfl rfl rfl) rfl rfl)) ?_)
      by_cases c : a + step < szL s
      · rw [decide_eq_true c, if_pos rfl, Int.emod_eq_of_lt (by have := hm.1; show 0 ≤ step * (k : Int) % szL s + step; omega) c]
        exact bin_eq rfl rfl rfl
      · rw [decide_eq_false c, if_neg Bool.false_ne_true]
        have : (a + step) % szL s = a + step - szL s := by
          rw [← Int.sub_emod_right (a + step) (szL s)]
          have h2 := hm.2
          refine Int.emod_eq_of_lt (by omega) ?_
          show step * (k : Int) % szL s + step - szL s < szL s
          omega
        rw [this]
        exact bin_eq (bin_eq rfl rfl rfl) rfl rfl
    have e3 : bodyG (envG s lap step high (.ow (.lst (ringsP s step k))) a (.pl p)) st = .nx (envG s lap step high (.ow (.lst (ringsP s step (k + 1)))) (step * ((k + 1 : Nat) : Int) % szL s) (.pl p)) st := (seq_nx e1).trans e2
    obtain ⟨y8, e4⟩ := rings_loop h hs (lap := lap) (high := high) (st := st) l (k + 1) (.pl p) (by omega)
    refine ⟨y8, ?_⟩
    show (match bodyG (envG s lap step high (.ow (.lst (ringsP s step k))) a (.pl p)) st with
      | .nx e s1 => forL (gSlot 8) bodyG l e s1
      | .ct e s1 => forL (gSlot 8) bodyG l e s1
      | .bk e s1 => .nx e s1
      | r => r) = _
    rw [e3]
    have ee : k + 1 + l.length = k + (p :: l).length := by rw [List.length_cons]; omega
    rw [ee] at e4
    exact e4
end Vl

set_option linter.all false
set_option maxRecDepth 100000
set_option maxHeartbeats 1000000
namespace Vl
open PySem L2
theorem nat_ofW {r m : Int} (h0 : 0 ≤ r) (h1 : r < m) : ∃ k : Nat, r = k := ⟨r.toNat, by omega⟩
theorem in_tup_nats (l : List Nat) (k : Int) : inPV false (.int k) (.tup (l.map fun i : Nat => PV.int (i : Int))) = some (.bl (decide (∃ i ∈ l, (i : Int) = k))) := by
  have e : ((l.map fun i : Nat => PV.int (i : Int)).any fun z => PV.eqv z (.int k)) = decide (∃ i ∈ l, (i : Int) = k) := by
    rw [List.any_map, Bool.eq_iff_iff]
    simp [PV.eqv]
  unfold inPV
  have sh : shA (l.map fun i : Nat => PV.int (i : Int)) 60 = true := by
    have := shA_ints (l.map fun i : Nat => (i : Int)) 60
    rw [List.map_map] at this
    exact this
  have c : (shA (l.map fun i : Nat => PV.int (i : Int)) 60 && PV.sh (.int k) 60) = true := by rw [sh]; rfl
  refine (if_pos c).trans ?_
  rw [e]
  rfl
theorem okvs_of {n : Nat} : ∀ {ps : List PV}, (∀ p ∈ ps, okv n p = true) → okvs n ps = true
  | [], _ => by simp [okvs]
  | p :: r, h => by
    simp only [okvs, Bool.and_eq_true]
    exact ⟨h p List.mem_cons_self, okvs_of fun q hq => h q (List.mem_cons_of_mem _ hq)⟩
def testA : Den Bool := (xTB (xBin (eqPV true) (xCall 1 (F__law_around) (xCons (xTup (xCons (xV 1) (xCons (xV 7) (xNil)))) (xNil))) (xCall 1 (F__law_around) (xCons (xTup (xCons (xV 1) (xCons (xC (.int 0)) (xNil)))) (xNil)))))
def bodyA : DenS := (xPar [(11, false), (7, false)] (xCons (xBin plusPV (xV 11) (xC (.int 1))) (xCons (xBin modPV (xBin plusPV (xV 7) (xV 4)) (xV 2)) (xNil))))
abbrev envA (s : List Nat) (lap step high : Int) (rs x8 x9 : Slot) (ag a : Int) : Env := [.pl (.obj 0), .pl (.str s), .pl (.int (szL s)), .pl (.int lap), .pl (.int step), .pl (.int high), rs, .pl (.int a), x8, x9, .no, .pl (.int ag), .no]
theorem again_loop {s : List Nat} {lap step high : Int} {rs x8 x9 : Slot} {st : Sto} {i : Nat} (h : Crs s) (hi : (List.range (szL s).toNat).find? (againP s step) = some i) : ∀ (d j fuel : Nat), j + d = i → d < fuel →
    whileL testA bodyA fuel (envA s lap step high rs x8 x9 (1 + (j : Int)) (step * (1 + (j : Int)) % szL s)) st = .nx (envA s lap step high rs x8 x9 (1 + (i : Int)) (step * (1 + (i : Int)) % szL s)) st := by
  obtain ⟨hn, hz, hl⟩ := crs_pos h
  obtain ⟨p1, p2, p3⟩ := List.find?_range_eq_some.mp hi
  have tst : ∀ j : Nat, testA (envA s lap step high rs x8 x9 (1 + (j : Int)) (step * (1 + (j : Int)) % szL s)) st = .ok (!againP s step j) st := fun j => by
    refine tb_eq (bin_eq (call_eq (cons_eq (tup_eq (cons_eq rfl (cons_eq rfl nil_eq)) (show 2 ≤ 16777216 by decide)) nil_eq) rfl (around_ok h (rng_mod h _))) (call_eq (cons_eq (tup_eq (cons_eq rfl (cons_eq rfl nil_eq)) (show 2 ≤ 16777216 by decide)) nil_eq) rfl (around_ok h ⟨Int.le_refl 0, hn⟩)) ?_)
    rw [eq_ints]
    rfl
  intro d
  induction d with
  | zero =>
    intro j fuel e hf
    obtain ⟨f, rfl⟩ : ∃ f, fuel = f + 1 := ⟨fuel - 1, by omega⟩
    have : j = i := by omega
    subst this
    unfold whileL
    rw [tst, p1]
    rfl
  | succ d ih =>
    intro j fuel e hf
    obtain ⟨f, rfl⟩ : ∃ f, fuel = f + 1 := ⟨fuel - 1, by omega⟩
    have q := ih (j + 1) f (by omega) (by omega)
    have pj : againP s step j = false := by
      have := p3 j (by omega)
      simpa using this
    have ek : step * (1 + ((j + 1 : Nat) : Int)) % szL s = (step * (1 + (j : Int)) % szL s + step) % szL s := by
      have : (1 + ((j + 1 : Nat) : Int)) = (1 + (j : Int)) + 1 := by omega
      rw [this, Int.mul_add, Int.mul_one, Int.emod_add_emod]
    have en : (1 + ((j + 1 : Nat) : Int)) = 1 + (j : Int) + 1 := by omega
    have b : bodyA (envA s lap step high rs x8 x9 (1 + (j : Int)) (step * (1 + (j : Int)) % szL s)) st = .nx (envA s lap step high rs x8 x9 (1 + ((j + 1 : Nat) : Int)) (step * (1 + ((j + 1 : Nat) : Int)) % szL s)) st := by
      rw [ek, en]
      have c : (xCons (xBin plusPV (xV 11) (xC (.int 1))) (xCons (xBin modPV (xBin plusPV (xV 7) (xV 4)) (xV 2)) (xNil))) (envA s lap step high rs x8 x9 (1 + (j : Int)) (step * (1 + (j : Int)) % szL s)) st = .ok [.int (1 + (j : Int) + 1), .int ((step * (1 + (j : Int)) % szL s + step) % szL s)] st := cons_eq (bin_eq rfl rfl rfl) (cons_eq (bin_eq (bin_eq rfl rfl rfl) rfl (mod_int hn)) nil_eq)
      unfold bodyA xPar
      rw [c]
      rfl
    unfold whileL
    rw [tst, pj]
    show (match bodyA (envA s lap step high rs x8 x9 (1 + (j : Int)) (step * (1 + (j : Int)) % szL s)) st with
        | .nx e s' => whileL testA bodyA f e s'
        | .ct e s' => whileL testA bodyA f e s'
        | .bk e s' => .nx e s'
        | r => r) = _
    rw [b]
    exact q
theorem right_ok {st : Sto} (hc : CupOk st) : ∃ st', F__law_right [.obj 0] st = .ok (.bl true) st' ∧ CupOk st' := by
  obtain ⟨r1, st1, e1, a1, b1, h1⟩ := roll_ok (m := 20) hc (by decide) (by decide)
  obtain ⟨s, st2, e2, h, _, h2⟩ := row_ok (L := 1 + r1) h1 (by omega)
  obtain ⟨hn, hz, hl⟩ := crs_pos h
  obtain ⟨r3, st3, e3, a3, b3, h3⟩ := roll_ok (m := 4) h2 (by decide) (by decide)
  obtain ⟨step, st4, e4, a4, b4, h4⟩ := roll_ok (m := szL s) h3 (by omega) (by omega)
  obtain ⟨r5, st5, e5, a5, b5, h5⟩ := roll_ok (m := 24) h4 (by decide) (by decide)
  obtain ⟨k5, rfl⟩ := nat_ofW a5 b5
  have hh : 1 ≤ 1 + k5 ∧ 1 + k5 ≤ 24 := by omega
  have ch : 1 + (k5 : Int) = ((1 + k5 : Nat) : Int) := by omega
  have hs : 0 ≤ step ∧ step < szL s := ⟨a4, b4⟩
  have hp : 1 ≤ 1 + r3 ∧ 1 + r3 ≤ 4 := by omega
  have ec : ((szL s).toNat : Int) = szL s := Int.toNat_of_nonneg (by omega)
  obtain ⟨i, hi, hin⟩ := again_find (step := step) h
  refine ⟨st5, fn_rt ?_, h5⟩
  let lap := 1 + r3
  let high := 1 + k5
  have s1 : xAsg (xCall 2 (F__law_row) (xCons (xV 0) (xCons (xBin plusPV (xC (.int 1)) (xCall 2 (F__law_roll) (xCons (xV 0) (xCons (xC (.int 20)) (xNil))))) (xNil)))) (gSlot 1) (startE 13 [.obj 0]) st = .nx [.pl (.obj 0), .pl (.str s), .no, .no, .no, .no, .no, .no, .no, .no, .no, .no, .no] st2 :=
    asg_eq (call_eq (cons_eq rfl (cons_eq (bin_eq rfl (call_eq (cons_eq rfl (cons_eq rfl nil_eq)) rfl e1) rfl) nil_eq)) rfl e2)
  have s2 : xAsg (xTup (xCons (xCall 1 (F__law_size) (xCons (xV 1) (xNil))) (xCons (xBin plusPV (xC (.int 1)) (xCall 2 (F__law_roll) (xCons (xV 0) (xCons (xC (.int 4)) (xNil))))) (xNil)))) (gTupE 2 (gConsE (gSlot 2) (gConsE (gSlot 3) (gNilE)))) [.pl (.obj 0), .pl (.str s), .no, .no, .no, .no, .no, .no, .no, .no, .no, .no, .no] st2 = .nx [.pl (.obj 0), .pl (.str s), .pl (.int (szL s)), .pl (.int lap), .no, .no, .no, .no, .no, .no, .no, .no, .no] st3 :=
    asgG_eq (tup_eq (cons_eq (call_eq (cons_eq rfl nil_eq) rfl (size_ok h.1 (by omega))) (cons_eq (bin_eq rfl (call_eq (cons_eq rfl (cons_eq rfl nil_eq)) rfl e3) rfl) nil_eq)) (show 2 ≤ 16777216 by decide)) rfl
  have s3 : xPar [(4, false), (5, false)] (xCons (xCall 2 (F__law_roll) (xCons (xV 0) (xCons (xV 2) (xNil)))) (xCons (xBin plusPV (xC (.int 1)) (xCall 2 (F__law_roll) (xCons (xV 0) (xCons (xC (.int 24)) (xNil))))) (xNil))) [.pl (.obj 0), .pl (.str s), .pl (.int (szL s)), .pl (.int lap), .no, .no, .no, .no, .no, .no, .no, .no, .no] st3 = .nx [.pl (.obj 0), .pl (.str s), .pl (.int (szL s)), .pl (.int lap), .pl (.int step), .pl (.int (high : Nat)), .no, .no, .no, .no, .no, .no, .no] st5 := by
    have c : (xCons (xCall 2 (F__law_roll) (xCons (xV 0) (xCons (xV 2) (xNil)))) (xCons (xBin plusPV (xC (.int 1)) (xCall 2 (F__law_roll) (xCons (xV 0) (xCons (xC (.int 24)) (xNil))))) (xNil))) [.pl (.obj 0), .pl (.str s), .pl (.int (szL s)), .pl (.int lap), .no, .no, .no, .no, .no, .no, .no, .no, .no] st3 = .ok [.int step, .int (1 + (k5 : Int))] st5 := cons_eq (call_eq (cons_eq rfl (cons_eq rfl nil_eq)) rfl e4) (cons_eq (bin_eq rfl (call_eq (cons_eq rfl (cons_eq rfl nil_eq)) rfl e5) rfl) nil_eq)
    rw [ch] at c
    unfold xPar
    rw [c]
    rfl
  have z0 : step * ((0 : Nat) : Int) % szL s = 0 := by
    rw [show ((0 : Nat) : Int) = 0 from rfl, Int.mul_zero, Int.zero_emod]
  have s4 : xPar [(6, true), (7, false)] (xCons (xLst (xNil)) (xCons (xC (.int 0)) (xNil))) [.pl (.obj 0), .pl (.str s), .pl (.int (szL s)), .pl (.int lap), .pl (.int step), .pl (.int (high : Nat)), .no, .no, .no, .no, .no, .no, .no] st5 = .nx (envG s lap step (high : Nat) (.ow (.lst (ringsP s step 0))) (step * ((0 : Nat) : Int) % szL s) .no) st5 := by
    rw [z0]
    rfl
  obtain ⟨y8, e6⟩ := rings_loop (lap := lap) (high := ((high : Nat) : Int)) (st := st5) h hs ((List.range high).map fun i : Nat => PV.int (i : Int)) 0 .no (by rw [List.length_map, List.length_range]; show 0 + (1 + k5) ≤ 1000; omega)
  rw [List.length_map, List.length_range, Nat.zero_add] at e6
  let E6 : Env := envG s lap step (high : Nat) (.ow (.lst (ringsP s step high))) (step * ((high : Nat) : Int) % szL s) y8
  have s5 : xFor (xRng1 (xV 5)) (gSlot 8) bodyG (envG s lap step (high : Nat) (.ow (.lst (ringsP s step 0))) (step * ((0 : Nat) : Int) % szL s) .no) st5 = .nx E6 st5 := by
    unfold xFor
    rw [rng1_nat (d := xV 5) (n := high) (st' := st5) rfl (by show 1 + k5 ≤ _; omega)]
    exact e6
  have ln : (ringsP s step high).length = high := by unfold ringsP; rw [List.length_map, List.length_range]
  have ok1 : okv 3 (.tup (ringsP s step high)) = true := by
    simp only [okv, Bool.and_eq_true, decide_eq_true_eq]
    refine ⟨okvs_of fun p hp => ?_, by rw [ln]; show 1 + k5 ≤ _; omega⟩
    obtain ⟨i, _, rfl⟩ := List.mem_map.mp hp
    rfl
  have ot : xUn tuplePV (xO 6) E6 st5 = .ok (.tup (ringsP s step high)) st5 := un_eq (p := .lst (ringsP s step high)) rfl rfl
  have s6 : xIfS (xNotT (xTru (xCall 2 (F__law_same 4) (xCons (xCall 3 (F_spiral_turret) (xCons (xV 1) (xCons (xV 4) (xCons (xV 5) (xNil))))) (xCons (xUn tuplePV (xO 6)) (xNil)))))) (xRet (xC (.bl false))) (xSkip) E6 st5 = .nx E6 st5 :=
    need_eq (call_eq (cons_eq (call_eq (cons_eq rfl (cons_eq rfl (cons_eq rfl nil_eq))) rfl (turret_ok h hs hh)) (cons_eq ot nil_eq)) rfl (same_refl 3 _ st5 ok1))
  let E7 : Env := [.pl (.obj 0), .pl (.str s), .pl (.int (szL s)), .pl (.int lap), .pl (.int step), .pl (.int (high : Nat)), .ow (.lst (ringsP s step high)), .pl (.int (step * ((high : Nat) : Int) % szL s)), y8, .pl (.tup (stepsL s lap)), .no, .no, .no]
  have c := compL_map (g := gSlot 10) (dt := (xTB (xBin gePV (xCall 2 (F__law_round_lap) (xCons (xTup (xCons (xV 1) (xCons (xC (.int 0)) (xNil)))) (xCons (xTup (xCons (xV 1) (xCons (xV 10) (xNil)))) (xNil)))) (xV 3)))) (de := xV 10) (env := E6) (st := st5) (fun i : Nat => PV.int (i : Int)) (fun i : Nat => decide (lap ≤ LP (szL s) (JP s 0) (JP s (i : Int)))) (fun i : Nat => PV.int (i : Int)) (List.range (szL s).toNat)
    (fun i hi => ⟨[.pl (.obj 0), .pl (.str s), .pl (.int (szL s)), .pl (.int lap), .pl (.int step), .pl (.int (high : Nat)), .ow (.lst (ringsP s step high)), .pl (.int (step * ((high : Nat) : Int) % szL s)), y8, .no, .pl (.int (i : Int)), .no, .no], rfl, tb_eq (bin_eq (call_eq (cons_eq (tup_eq (cons_eq rfl (cons_eq rfl nil_eq)) (show 2 ≤ 16777216 by decide)) (cons_eq (tup_eq (cons_eq rfl (cons_eq rfl nil_eq)) (show 2 ≤ 16777216 by decide)) nil_eq)) rfl (round_ok h ⟨Int.le_refl 0, hn⟩ ⟨by omega, by have := List.mem_range.mp hi; omega⟩)) rfl rfl), fun _ => rfl⟩)
  have q : xV 2 E6 st5 = .ok (.int ((szL s).toNat : Int)) st5 := by rw [ec]; rfl
  have l := xLc_eq (vs := [10]) (env := E6) (rng1_nat q (by omega)) rfl (by rw [List.length_map, List.length_range]; omega) c
  have s7 : xAsg (xUn tuplePV (xLc [10] (gSlot 10) (xTB (xBin gePV (xCall 2 (F__law_round_lap) (xCons (xTup (xCons (xV 1) (xCons (xC (.int 0)) (xNil)))) (xCons (xTup (xCons (xV 1) (xCons (xV 10) (xNil)))) (xNil)))) (xV 3))) (xV 10) (xRng1 (xV 2)))) (gSlot 9) E6 st5 = .nx E7 st5 := asg_eq (un_eq l rfl)
  have ok2 : okv 3 (.tup (stepsL s lap)) = true := by
    simp only [okv, Bool.and_eq_true, decide_eq_true_eq]
    refine ⟨okvs_of fun p hp => ?_, ?_⟩
    · obtain ⟨i, _, rfl⟩ := List.mem_map.mp hp
      rfl
    · unfold stepsL
      rw [List.length_map]
      have := List.length_filter_le (fun i : Nat => decide (lap ≤ LP (szL s) (JP s 0) (JP s (i : Int)))) (List.range (szL s).toNat)
      rw [List.length_range] at this
      omega
  have s8 : xIfS (xNotT (xTru (xCall 2 (F__law_same 4) (xCons (xCall 2 (F_spiral_steps) (xCons (xV 1) (xCons (xV 3) (xNil)))) (xCons (xV 9) (xNil)))))) (xRet (xC (.bl false))) (xSkip) E7 st5 = .nx E7 st5 :=
    need_eq (call_eq (cons_eq (call_eq (cons_eq rfl (cons_eq rfl nil_eq)) rfl (steps_ok h hp)) (cons_eq rfl nil_eq)) rfl (same_refl 3 _ st5 ok2))
  have s9 : xIfS (xAndT (xTB (xBin (inPV false) (xV 4) (xV 9))) (xTB (xBin (isBlPV true) (xCall 2 (F_is_bonded_round) (xCons (xUn tuplePV (xO 6)) (xCons (xV 3) (xNil)))) (xC (.bl true))))) (xRet (xC (.bl false))) (xSkip) E7 st5 = .nx E7 st5 := by
    have t1 := tb_eq (bin_eq (da := xV 4) (db := xV 9) (env := E7) (st := st5) rfl rfl (in_tup_nats ((List.range (szL s).toNat).filter fun i : Nat => decide (lap ≤ LP (szL s) (JP s 0) (JP s (i : Int)))) step))
    by_cases k : ∃ i ∈ ((List.range (szL s).toNat).filter fun i : Nat => decide (lap ≤ LP (szL s) (JP s 0) (JP s (i : Int)))), (i : Int) = step
    · rw [decide_eq_true k] at t1
      obtain ⟨i2, hi2, e2⟩ := k
      have g := of_decide_eq_true (List.mem_filter.mp hi2).2
      rw [e2] at g
      have ot7 : xUn tuplePV (xO 6) E7 st5 = .ok (.tup (ringsP s step high)) st5 := un_eq (p := .lst (ringsP s step high)) rfl rfl
      have bb : xBin (isBlPV true) (xCall 2 (F_is_bonded_round) (xCons (xUn tuplePV (xO 6)) (xCons (xV 3) (xNil)))) (xC (.bl true)) E7 st5 = .ok (.bl false) st5 := bin_eq (call_eq (cons_eq ot7 (cons_eq rfl nil_eq)) rfl (bonded_ok h hs hh hp g)) rfl rfl
      exact (ifS_eq (andT_t t1 (tb_eq bb))).trans rfl
    · rw [decide_eq_false k] at t1
      exact (ifS_eq (andT_f t1)).trans rfl
  have w0 : step = step * (1 + ((0 : Nat) : Int)) % szL s := by
    rw [show (1 + ((0 : Nat) : Int)) = 1 from rfl, Int.mul_one, Int.emod_eq_of_lt hs.1 hs.2]
  have s10 : xPar [(11, false), (7, false)] (xCons (xC (.int 1)) (xCons (xV 4) (xNil))) E7 st5 = .nx (envA s lap step (high : Nat) (.ow (.lst (ringsP s step high))) y8 (.pl (.tup (stepsL s lap))) (1 + ((0 : Nat) : Int)) (step * (1 + ((0 : Nat) : Int)) % szL s)) st5 := by
    rw [← w0]
    rfl
  have s11 := again_loop (lap := lap) (high := ((high : Nat) : Int)) (rs := .ow (.lst (ringsP s step high))) (x8 := y8) (x9 := .pl (.tup (stepsL s lap))) (st := st5) h hi i 0 64 (by omega) (by omega)
  let E12 : Env := [.pl (.obj 0), .pl (.str s), .pl (.int (szL s)), .pl (.int lap), .pl (.int step), .pl (.int (high : Nat)), .ow (.lst (ringsP s step high)), .pl (.int (step * (1 + (i : Int)) % szL s)), y8, .pl (.tup (stepsL s lap)), .no, .pl (.int (1 + (i : Int))), .pl (.int (1 + (i : Int)))]
  have s12 : xAsg (xCall 2 (F_spiral_again) (xCons (xV 1) (xCons (xV 4) (xNil)))) (gSlot 12) (envA s lap step (high : Nat) (.ow (.lst (ringsP s step high))) y8 (.pl (.tup (stepsL s lap))) (1 + (i : Int)) (step * (1 + (i : Int)) % szL s)) st5 = .nx E12 st5 :=
    asg_eq (call_eq (cons_eq rfl (cons_eq rfl nil_eq)) rfl (again_ok h hs hi))
  have jj : JP s 0 = JP s ((1 + (i : Int)) * step % szL s) := by
    have := (List.find?_range_eq_some.mp hi).1
    rw [Int.mul_comm]
    exact (of_decide_eq_true this).symm
  have s13 : xAnd (xCall 2 (F__law_same 4) (xCons (xV 12) (xCons (xV 11) (xNil)))) (xBin (isBlPV false) (xCall 2 (F_like_rings) (xCons (xTup (xCons (xV 1) (xCons (xC (.int 0)) (xNil)))) (xCons (xTup (xCons (xV 1) (xCons (xBin modPV (xBin mulPV (xV 11) (xV 4)) (xV 2)) (xNil)))) (xNil)))) (xC (.bl true))) E12 st5 = .ok (.bl true) st5 :=
    and_t (call_eq (cons_eq rfl (cons_eq rfl nil_eq)) rfl (same_refl 3 _ st5 rfl)) (bin_eq (call_eq (cons_eq (tup_eq (cons_eq rfl (cons_eq rfl nil_eq)) (show 2 ≤ 16777216 by decide)) (cons_eq (tup_eq (cons_eq rfl (cons_eq (bin_eq (bin_eq rfl rfl (mul_int (by omega))) rfl (mod_int hn)) nil_eq)) (show 2 ≤ 16777216 by decide)) nil_eq)) rfl (like_ok h ⟨Int.le_refl 0, hn⟩ (rng_mod h _) jj)) rfl rfl)
  exact (seq_nx s1).trans ((seq_nx s2).trans ((seq_nx s3).trans ((seq_nx s4).trans ((seq_nx s5).trans ((seq_nx s6).trans ((seq_nx s7).trans ((seq_nx s8).trans ((seq_nx s9).trans ((seq_nx s10).trans ((seq_nx s11).trans ((seq_nx s12).trans (ret_eq s13))))))))))))
end Vl

set_option linter.all false
set_option maxRecDepth 1000000
set_option maxHeartbeats 4000000
namespace Vl
open PySem L2
def ansA : Nat → Nat
  | 0 => 0
  | 1 => 3
  | 2 => 1
  | _ => 3
def tabA (m t : Nat) : Bool := ((List.range (szL (List.replicate (1 + m) 113)).toNat).find? (againP (List.replicate (1 + m) 113) ((t : Int) % (1 + (m : Int)))) == some 0) && ((List.range (szL (List.replicate (1 + m) 115)).toNat).find? (againP (List.replicate (1 + m) 115) (t : Int)) == some (ansA t))
def filt (s : List Nat) (lap : Int) : List Nat := (List.range (szL s).toNat).filter fun i : Nat => decide (lap ≤ LP (szL s) (JP s 0) (JP s (i : Int)))
def tabB (m : Nat) : Bool := (filt (List.replicate (1 + m) 113) 1 == []) && (filt (List.replicate (1 + m) 115) 2 == (List.range (4 * (1 + m))).filter fun k => decide (k % 4 = 2))
theorem tab_a : (List.range 15).all (fun m => (List.range 4).all fun t => tabA m t) = true := by decide +kernel
theorem tab_b : (List.range 15).all (fun m => tabB m) = true := by decide +kernel
end Vl

set_option linter.all false
set_option maxRecDepth 100000
set_option maxHeartbeats 1000000
namespace Vl
open PySem L2
def turnB : DenS := (xIfS (xNotT (xTru (xCall 1 (F__law_right) (xCons (xV 1) (xNil))))) (xRet (xC (.bl false))) (xSkip))
theorem turns : ∀ (items : List PV) (x2 : Slot) (st : Sto), CupOk st → ∃ (y2 : Slot) (st' : Sto), forL (gSlot 2) turnB items [.no, .pl (.obj 0), x2, .no, .no, .no, .no, .no] st = .nx [.no, .pl (.obj 0), y2, .no, .no, .no, .no, .no] st' ∧ CupOk st'
  | [], x2, st, h => ⟨x2, st, rfl, h⟩
  | p :: r, x2, st, h => by
    obtain ⟨st1, e1, h1⟩ := right_ok h
    obtain ⟨y2, st2, e2, h2⟩ := turns r (.pl p) st1 h1
    refine ⟨y2, st2, ?_, h2⟩
    have q2 : turnB [.no, .pl (.obj 0), .pl p, .no, .no, .no, .no, .no] st = .nx [.no, .pl (.obj 0), .pl p, .no, .no, .no, .no, .no] st1 := need_eq (call_eq (cons_eq rfl nil_eq) rfl e1)
    show (match turnB [.no, .pl (.obj 0), .pl p, .no, .no, .no, .no, .no] st with
      | .nx e s => forL (gSlot 2) turnB r e s
      | .ct e s => forL (gSlot 2) turnB r e s
      | .bk e s => .nx e s
      | r => r) = _
    rw [q2]
    exact e2
theorem szL_rep (c : Nat) : ∀ n : Nat, szL (List.replicate n c) = szc c * n
  | 0 => by simp [szL]
  | n + 1 => by
    rw [List.replicate_succ, szL_cons, szL_rep c n]
    have : ((n + 1 : Nat) : Int) = (n : Int) + 1 := by omega
    rw [this, Int.mul_add, Int.mul_one]
    omega
theorem crs_rep {c m : Nat} (hc : isSg c = true) (h : szc c ≤ 4) (hm : m < 15) : Crs (List.replicate (1 + m) c) := by
  refine ⟨fun x hx => ?_, by rw [List.length_replicate]; omega, by rw [List.length_replicate]; omega, ?_⟩
  · rw [(List.mem_replicate.mp hx).2]
    exact hc
  · rw [szL_rep]
    have : szc c * ((1 + m : Nat) : Int) ≤ 4 * ((1 + m : Nat) : Int) := Int.mul_le_mul_of_nonneg_right h (by omega)
    omega
theorem law_ok (ns : List Int) : ∃ st', b_law (env1 8) [SO.lst [.int (cup1 163 ns), .int (cup2 419 4027 2077502087 281 ns)]] = .rt (.bl true) st' := by
  have h0 : CupOk [SO.lst [.int (cup1 163 ns), .int (cup2 419 4027 2077502087 281 ns)]] := by
    refine ⟨_, _, rfl, ?_, ?_⟩
    · have := Int.emod_nonneg (headA ns * 419 + 4027) (by decide : (2077502087 : Int) ≠ 0)
      unfold cup2
      omega
    · have := Int.emod_lt_of_pos (headA ns * 419 + 4027) (by decide : (0 : Int) < 2077502087)
      unfold cup2
      omega
  obtain ⟨y2, st1, e1, h1⟩ := turns ((List.range 6).map fun i : Nat => PV.int (i : Int)) .no _ h0
  have f1 : xFor (xRng1 (xC (.int 6))) (gSlot 2) turnB (env1 8) [SO.lst [.int (cup1 163 ns), .int (cup2 419 4027 2077502087 281 ns)]] = .nx [.no, .pl (.obj 0), y2, .no, .no, .no, .no, .no] st1 := by
    unfold xFor
    rw [rng1_nat (d := xC (.int 6)) (n := 6) (st' := [SO.lst [.int (cup1 163 ns), .int (cup2 419 4027 2077502087 281 ns)]]) rfl (by decide)]
    exact e1
  obtain ⟨r1, st2, q1, a1, b1, h2⟩ := roll_ok (m := 15) h1 (by decide) (by decide)
  obtain ⟨k, rfl⟩ := nat_ofW a1 b1
  obtain ⟨r2, st3, q2, a2, b2, h3⟩ := roll_ok (m := 4) h2 (by decide) (by decide)
  obtain ⟨l, rfl⟩ := nat_ofW a2 b2
  have hk : k < 15 := by omega
  have hl : l < 4 := by omega
  let E0 : Env := [.no, .pl (.obj 0), y2, .no, .no, .no, .no, .no]
  let E1 : Env := [.no, .pl (.obj 0), y2, .pl (.int (1 + (k : Int))), .pl (.int (l : Int)), .no, .no, .no]
  have f2 : xPar [(3, false), (4, false)] (xCons (xBin plusPV (xC (.int 1)) (xCall 2 (F__law_roll) (xCons (xV 1) (xCons (xC (.int 15)) (xNil))))) (xCons (xCall 2 (F__law_roll) (xCons (xV 1) (xCons (xC (.int 4)) (xNil)))) (xNil))) E0 st1 = .nx E1 st3 := by
    have p1 : (xCons (xBin plusPV (xC (.int 1)) (xCall 2 (F__law_roll) (xCons (xV 1) (xCons (xC (.int 15)) (xNil))))) (xCons (xCall 2 (F__law_roll) (xCons (xV 1) (xCons (xC (.int 4)) (xNil)))) (xNil))) E0 st1 = .ok [.int (1 + (k : Int)), .int (l : Int)] st3 :=
      cons_eq (bin_eq rfl (call_eq (cons_eq rfl (cons_eq rfl nil_eq)) rfl q1) rfl) (cons_eq (call_eq (cons_eq rfl (cons_eq rfl nil_eq)) rfl q2) nil_eq)
    unfold xPar
    rw [p1]
    rfl
  let sq := List.replicate (1 + k) 113
  let ss := List.replicate (1 + k) 115
  have cq : Crs sq := crs_rep rfl (by decide) hk
  have cs : Crs ss := crs_rep rfl (by decide) hk
  have nq : szL sq = 1 + (k : Int) := by show szL (List.replicate (1 + k) 113) = _; rw [szL_rep]; show 1 * ((1 + k : Nat) : Int) = _; omega
  have ns' : szL ss = 4 * (1 + (k : Int)) := by show szL (List.replicate (1 + k) 115) = _; rw [szL_rep]; show 4 * ((1 + k : Nat) : Int) = _; omega
  have TA := List.all_eq_true.mp (List.all_eq_true.mp tab_a k (List.mem_range.mpr hk)) l (List.mem_range.mpr hl)
  have TB := List.all_eq_true.mp tab_b k (List.mem_range.mpr hk)
  unfold tabA at TA
  unfold tabB at TB
  rw [Bool.and_eq_true] at TA TB
  have A1 : (List.range (szL sq).toNat).find? (againP sq ((l : Int) % (1 + (k : Int)))) = some 0 := eq_of_beq TA.1
  have A2 : (List.range (szL ss).toNat).find? (againP ss (l : Int)) = some (ansA l) := eq_of_beq TA.2
  have B1 : filt sq 1 = [] := eq_of_beq TB.1
  have B2 : filt ss 2 = (List.range (4 * (1 + k))).filter fun k => decide (k % 4 = 2) := eq_of_beq TB.2
  have C1 : stepsL sq 1 = [] := by
    show (filt sq 1).map _ = _
    rw [B1]
    rfl
  let res := ((List.range (4 * (1 + k))).filter fun k => decide (k % 4 = 2)).map fun i : Nat => PV.int (i : Int)
  have C2 : stepsL ss 2 = res := by
    show (filt ss 2).map _ = _
    rw [B2]
  have w1 := rep_str 113 (1 + k) (by omega)
  have w2 := rep_str 115 (1 + k) (by omega)
  have c1 : ((1 + k : Nat) : Int) = 1 + (k : Int) := by omega
  rw [c1] at w1 w2
  have m1 : xBin mulPV (xC (.str [113])) (xV 3) E1 st3 = .ok (.str sq) st3 := bin_eq rfl rfl w1
  have m2 : xBin mulPV (xC (.str [115])) (xV 3) E1 st3 = .ok (.str ss) st3 := bin_eq rfl rfl w2
  have o1 := again_ok (st := st3) cq ⟨Int.emod_nonneg _ (by omega), by rw [nq]; exact Int.emod_lt_of_pos _ (by omega)⟩ A1
  have o2 := steps_ok (lap := 1) (st := st3) cq (by decide)
  have o3 := again_ok (st := st3) cs ⟨by omega, by rw [ns']; omega⟩ A2
  have o4 := steps_ok (lap := 2) (st := st3) cs (by decide)
  rw [C1] at o2
  rw [C2] at o4
  let t : PV := .tup [.int 1, .tup [], .int (1 + (ansA l : Int)), .tup res]
  let E2 : Env := [.no, .pl (.obj 0), y2, .pl (.int (1 + (k : Int))), .pl (.int (l : Int)), .pl t, .no, .no]
  let E3 : Env := [.no, .pl (.obj 0), y2, .pl (.int (1 + (k : Int))), .pl (.int (l : Int)), .pl t, .pl t, .no]
  have f3 : xAsg (xTup (xCons (xCall 2 (F_spiral_again) (xCons (xBin mulPV (xC (.str [113])) (xV 3)) (xCons (xBin modPV (xV 4) (xV 3)) (xNil)))) (xCons (xCall 2 (F_spiral_steps) (xCons (xBin mulPV (xC (.str [113])) (xV 3)) (xCons (xC (.int 1)) (xNil)))) (xCons (xCall 2 (F_spiral_again) (xCons (xBin mulPV (xC (.str [115])) (xV 3)) (xCons (xV 4) (xNil)))) (xCons (xCall 2 (F_spiral_steps) (xCons (xBin mulPV (xC (.str [115])) (xV 3)) (xCons (xC (.int 2)) (xNil)))) (xNil)))))) (gSlot 5) E1 st3 = .nx E2 st3 :=
    asg_eq (tup_eq (cons_eq (call_eq (cons_eq m1 (cons_eq (bin_eq rfl rfl (mod_int (by omega))) nil_eq)) rfl o1) (cons_eq (call_eq (cons_eq m1 (cons_eq rfl nil_eq)) rfl o2) (cons_eq (call_eq (cons_eq m2 (cons_eq rfl nil_eq)) rfl o3) (cons_eq (call_eq (cons_eq m2 (cons_eq rfl nil_eq)) rfl o4) nil_eq)))) (show 4 ≤ 16777216 by decide))
  have ia : xBin idxPV (xLst (xCons (xC (.int 1)) (xCons (xC (.int 4)) (xCons (xC (.int 2)) (xCons (xC (.int 4)) (xNil)))))) (xV 4) E2 st3 = .ok (.int (1 + (ansA l : Int))) st3 := by
    refine bin_eq (p := .lst [.int 1, .int 4, .int 2, .int 4]) rfl rfl ?_
    refine atI_nat (j := l) ?_
    match l, hl with
    | 0, _ => rfl
    | 1, _ => rfl
    | 2, _ => rfl
    | 3, _ => rfl
    | l + 4, h => omega
  have cl := compL_map (g := gSlot 7) (dt := (xTB (xBin (eqPV false) (xBin modPV (xV 7) (xC (.int 4))) (xC (.int 2))))) (de := xV 7) (env := E2) (st := st3) (fun i : Nat => PV.int (i : Int)) (fun i : Nat => decide (i % 4 = 2)) (fun i : Nat => PV.int (i : Int)) (List.range (4 * (1 + k)))
    (fun i hi => ⟨[.no, .pl (.obj 0), y2, .pl (.int (1 + (k : Int))), .pl (.int (l : Int)), .pl t, .no, .pl (.int (i : Int))], rfl, tb_eq (bin_eq (bin_eq rfl rfl (mod_int (by decide))) rfl (by
      have e : ((i : Int) % 4 = 2) ↔ (i % 4 = 2) := by omega
      have : (((i : Int) % 4) == 2) = decide (i % 4 = 2) := by rw [Bool.eq_iff_iff]; simp [e]
      show some (PV.bl (((i : Int) % 4) == 2)) = _
      rw [this])), fun _ => rfl⟩)
  have q4 : xBin mulPV (xC (.int 4)) (xV 3) E2 st3 = .ok (.int ((4 * (1 + k) : Nat) : Int)) st3 := by
    have : ((4 * (1 + k) : Nat) : Int) = 4 * (1 + (k : Int)) := by omega
    rw [this]
    exact bin_eq rfl rfl (mul_int (by decide))
  have lc := xLc_eq (vs := [7]) (env := E2) (rng1_nat q4 (by omega)) rfl (by rw [List.length_map, List.length_range]; omega) cl
  have f4 : xAsg (xTup (xCons (xC (.int 1)) (xCons (xTup (xNil)) (xCons (xBin idxPV (xLst (xCons (xC (.int 1)) (xCons (xC (.int 4)) (xCons (xC (.int 2)) (xCons (xC (.int 4)) (xNil)))))) (xV 4)) (xCons (xUn tuplePV (xLc [7] (gSlot 7) (xTB (xBin (eqPV false) (xBin modPV (xV 7) (xC (.int 4))) (xC (.int 2)))) (xV 7) (xRng1 (xBin mulPV (xC (.int 4)) (xV 3))))) (xNil)))))) (gSlot 6) E2 st3 = .nx E3 st3 :=
    asg_eq (tup_eq (cons_eq rfl (cons_eq (tup_eq nil_eq (show 0 ≤ 16777216 by decide)) (cons_eq ia (cons_eq (un_eq lc rfl) nil_eq)))) (show 4 ≤ 16777216 by decide))
  have okr : okv 2 (.tup res) = true := by
    simp only [okv, Bool.and_eq_true, decide_eq_true_eq]
    refine ⟨okvs_of fun p hp => ?_, ?_⟩
    · obtain ⟨i, _, rfl⟩ := List.mem_map.mp hp
      rfl
    · show (List.map _ _).length ≤ _
      rw [List.length_map]
      have := List.length_filter_le (fun k : Nat => decide (k % 4 = 2)) (List.range (4 * (1 + k)))
      rw [List.length_range] at this
      omega
  have okt : okv 3 t = true := by
    show okv 3 (.tup [.int 1, .tup [], .int (1 + (ansA l : Int)), .tup res]) = true
    simp only [okv, okvs, Bool.and_eq_true, decide_eq_true_eq] at okr ⊢
    simp [okr]
  refine ⟨st3, ?_⟩
  exact (seq_nx f1).trans ((seq_nx f2).trans ((seq_nx f3).trans ((seq_nx f4).trans (ret_eq (call_eq (cons_eq rfl (cons_eq rfl nil_eq)) rfl (same_refl 3 t st3 okt))))))
end Vl

set_option Elab.async false
set_option linter.all false
set_option maxRecDepth 100000
set_option maxHeartbeats 4000000
namespace Vl
open PySem PySem.Spec PyProof.Rows L2
theorem all_mk {l : PySem.W.OpenLaw} {w : World} {K : PySem.W.Frag} {h : Heap} {mg : Str → Option Value} {fa : Addr} (X : K.In h) (G : h.Ns mainGlobals mg) (hfa : mg "law" = some (.ref fa))
    {f0 : Addr} {oc0 kV0 dc0 pm0 cd0 ct0 : Value} {od0 an0 : Option Addr} {sl0 : Array (Option Value)}
    {f1 : Addr} {oc1 kV1 dc1 pm1 cd1 ct1 : Value} {od1 an1 : Option Addr} {sl1 : Array (Option Value)}
    {f2 : Addr} {oc2 kV2 dc2 pm2 cd2 ct2 : Value} {od2 an2 : Option Addr} {sl2 : Array (Option Value)}
    {f3 : Addr} {oc3 kV3 dc3 pm3 cd3 ct3 : Value} {od3 an3 : Option Addr} {sl3 : Array (Option Value)}
    {f4 : Addr} {oc4 kV4 dc4 pm4 cd4 ct4 : Value} {od4 an4 : Option Addr} {sl4 : Array (Option Value)}
    {f5 : Addr} {oc5 kV5 dc5 pm5 cd5 ct5 : Value} {od5 an5 : Option Addr} {sl5 : Array (Option Value)}
    {f6 : Addr} {oc6 kV6 dc6 pm6 cd6 ct6 : Value} {od6 an6 : Option Addr} {sl6 : Array (Option Value)}
    {f7 : Addr} {oc7 kV7 dc7 pm7 cd7 ct7 : Value} {od7 an7 : Option Addr} {sl7 : Array (Option Value)}
    {f8 : Addr} {oc8 kV8 dc8 pm8 cd8 ct8 : Value} {od8 an8 : Option Addr} {sl8 : Array (Option Value)}
    {f9 : Addr} {oc9 kV9 dc9 pm9 cd9 ct9 : Value} {od9 an9 : Option Addr} {sl9 : Array (Option Value)}
    {f10 : Addr} {oc10 kV10 dc10 pm10 cd10 ct10 : Value} {od10 an10 : Option Addr} {sl10 : Array (Option Value)}
    {f11 : Addr} {oc11 kV11 dc11 pm11 cd11 ct11 : Value} {od11 an11 : Option Addr} {sl11 : Array (Option Value)}
    {f12 : Addr} {oc12 kV12 dc12 pm12 cd12 ct12 : Value} {od12 an12 : Option Addr} {sl12 : Array (Option Value)}
    {f13 : Addr} {oc13 kV13 dc13 pm13 cd13 ct13 : Value} {od13 an13 : Option Addr} {sl13 : Array (Option Value)}
    {f14 : Addr} {oc14 kV14 dc14 pm14 cd14 ct14 : Value} {od14 an14 : Option Addr} {sl14 : Array (Option Value)}
    {f15 : Addr} {oc15 kV15 dc15 pm15 cd15 ct15 : Value} {od15 an15 : Option Addr} {sl15 : Array (Option Value)}
    {f16 : Addr} {oc16 kV16 dc16 pm16 cd16 ct16 : Value} {od16 an16 : Option Addr} {sl16 : Array (Option Value)}
    {f17 : Addr} {oc17 kV17 dc17 pm17 cd17 ct17 : Value} {od17 an17 : Option Addr} {sl17 : Array (Option Value)}
    {f18 : Addr} {oc18 kV18 dc18 pm18 cd18 ct18 : Value} {od18 an18 : Option Addr} {sl18 : Array (Option Value)}
    {f19 : Addr} {oc19 kV19 dc19 pm19 cd19 ct19 : Value} {od19 an19 : Option Addr} {sl19 : Array (Option Value)}
    {f20 : Addr} {oc20 kV20 dc20 pm20 cd20 ct20 : Value} {od20 an20 : Option Addr} {sl20 : Array (Option Value)}
    {f21 : Addr} {oc21 kV21 dc21 pm21 cd21 ct21 : Value} {od21 an21 : Option Addr} {sl21 : Array (Option Value)}
    {f22 : Addr} {oc22 kV22 dc22 pm22 cd22 ct22 : Value} {od22 an22 : Option Addr} {sl22 : Array (Option Value)}
    {f23 : Addr} {oc23 kV23 dc23 pm23 cd23 ct23 : Value} {od23 an23 : Option Addr} {sl23 : Array (Option Value)}
    {f24 : Addr} {oc24 kV24 dc24 pm24 cd24 ct24 : Value} {od24 an24 : Option Addr} {sl24 : Array (Option Value)}
    {f25 : Addr} {oc25 kV25 dc25 pm25 cd25 ct25 : Value} {od25 an25 : Option Addr} {sl25 : Array (Option Value)}
    {f26 : Addr} {oc26 kV26 dc26 pm26 cd26 ct26 : Value} {od26 an26 : Option Addr} {sl26 : Array (Option Value)}
    {f27 : Addr} {oc27 kV27 dc27 pm27 cd27 ct27 : Value} {od27 an27 : Option Addr} {sl27 : Array (Option Value)}
    {f28 : Addr} {oc28 kV28 dc28 pm28 cd28 ct28 : Value} {od28 an28 : Option Addr} {sl28 : Array (Option Value)}
    {tk_MANY : Tok}
    {td_SIZES : Addr} {es_SIZES : Array DictEntry} {en_SIZES : Nat}
    {tk_LONG : Tok}
    {tk_HIGH : Tok}
    (a0 : PySem.W.nsIn K mainGlobals "_law_cup" = some (some (.ref f0)))
    (l0 : K.lookup f0 = some ⟨oc0, od0, .func (PySem.W.fnOf "_law_cup" "_law_cup" (defArgs s__law_cup) (defBody s__law_cup) (defScope s__law_cup) .none kV0 dc0 pm0 an0 cd0 ct0), sl0⟩)
    (c0 : PySem.W.codeIn K cd0 "_law_cup" = true)
    (k0 : PySem.W.keepIn K (.ref f0) = true)
    (a1 : PySem.W.nsIn K mainGlobals "_law_same" = some (some (.ref f1)))
    (l1 : K.lookup f1 = some ⟨oc1, od1, .func (PySem.W.fnOf "_law_same" "_law_same" (defArgs s__law_same) (defBody s__law_same) (defScope s__law_same) .none kV1 dc1 pm1 an1 cd1 ct1), sl1⟩)
    (c1 : PySem.W.codeIn K cd1 "_law_same" = true)
    (k1 : PySem.W.keepIn K (.ref f1) = true)
    (a2 : PySem.W.nsIn K mainGlobals "_law_roll" = some (some (.ref f2)))
    (l2 : K.lookup f2 = some ⟨oc2, od2, .func (PySem.W.fnOf "_law_roll" "_law_roll" (defArgs s__law_roll) (defBody s__law_roll) (defScope s__law_roll) .none kV2 dc2 pm2 an2 cd2 ct2), sl2⟩)
    (c2 : PySem.W.codeIn K cd2 "_law_roll" = true)
    (k2 : PySem.W.keepIn K (.ref f2) = true)
    (a3 : PySem.W.nsIn K mainGlobals "fits_course" = some (some (.ref f3)))
    (l3 : K.lookup f3 = some ⟨oc3, od3, .func (PySem.W.fnOf "fits_course" "fits_course" (defArgs s_fits_course) (defBody s_fits_course) (defScope s_fits_course) .none kV3 dc3 pm3 an3 cd3 ct3), sl3⟩)
    (c3 : PySem.W.codeIn K cd3 "fits_course" = true)
    (k3 : PySem.W.keepIn K (.ref f3) = true)
    (a4 : PySem.W.nsIn K mainGlobals "need_course" = some (some (.ref f4)))
    (l4 : K.lookup f4 = some ⟨oc4, od4, .func (PySem.W.fnOf "need_course" "need_course" (defArgs s_need_course) (defBody s_need_course) (defScope s_need_course) .none kV4 dc4 pm4 an4 cd4 ct4), sl4⟩)
    (c4 : PySem.W.codeIn K cd4 "need_course" = true)
    (k4 : PySem.W.keepIn K (.ref f4) = true)
    (a5 : PySem.W.nsIn K mainGlobals "length_in" = some (some (.ref f5)))
    (l5 : K.lookup f5 = some ⟨oc5, od5, .func (PySem.W.fnOf "length_in" "length_in" (defArgs s_length_in) (defBody s_length_in) (defScope s_length_in) .none kV5 dc5 pm5 an5 cd5 ct5), sl5⟩)
    (c5 : PySem.W.codeIn K cd5 "length_in" = true)
    (k5 : PySem.W.keepIn K (.ref f5) = true)
    (a6 : PySem.W.nsIn K mainGlobals "joints_in" = some (some (.ref f6)))
    (l6 : K.lookup f6 = some ⟨oc6, od6, .func (PySem.W.fnOf "joints_in" "joints_in" (defArgs s_joints_in) (defBody s_joints_in) (defScope s_joints_in) .none kV6 dc6 pm6 an6 cd6 ct6), sl6⟩)
    (c6 : PySem.W.codeIn K cd6 "joints_in" = true)
    (k6 : PySem.W.keepIn K (.ref f6) = true)
    (a7 : PySem.W.nsIn K mainGlobals "is_whole" = some (some (.ref f7)))
    (l7 : K.lookup f7 = some ⟨oc7, od7, .func (PySem.W.fnOf "is_whole" "is_whole" (defArgs s_is_whole) (defBody s_is_whole) (defScope s_is_whole) .none kV7 dc7 pm7 an7 cd7 ct7), sl7⟩)
    (c7 : PySem.W.codeIn K cd7 "is_whole" = true)
    (k7 : PySem.W.keepIn K (.ref f7) = true)
    (a8 : PySem.W.nsIn K mainGlobals "fits_whole" = some (some (.ref f8)))
    (l8 : K.lookup f8 = some ⟨oc8, od8, .func (PySem.W.fnOf "fits_whole" "fits_whole" (defArgs s_fits_whole) (defBody s_fits_whole) (defScope s_fits_whole) .none kV8 dc8 pm8 an8 cd8 ct8), sl8⟩)
    (c8 : PySem.W.codeIn K cd8 "fits_whole" = true)
    (k8 : PySem.W.keepIn K (.ref f8) = true)
    (a9 : PySem.W.nsIn K mainGlobals "spiral_again" = some (some (.ref f9)))
    (l9 : K.lookup f9 = some ⟨oc9, od9, .func (PySem.W.fnOf "spiral_again" "spiral_again" (defArgs s_spiral_again) (defBody s_spiral_again) (defScope s_spiral_again) .none kV9 dc9 pm9 an9 cd9 ct9), sl9⟩)
    (c9 : PySem.W.codeIn K cd9 "spiral_again" = true)
    (k9 : PySem.W.keepIn K (.ref f9) = true)
    (a10 : PySem.W.nsIn K mainGlobals "need_lap" = some (some (.ref f10)))
    (l10 : K.lookup f10 = some ⟨oc10, od10, .func (PySem.W.fnOf "need_lap" "need_lap" (defArgs s_need_lap) (defBody s_need_lap) (defScope s_need_lap) .none kV10 dc10 pm10 an10 cd10 ct10), sl10⟩)
    (c10 : PySem.W.codeIn K cd10 "need_lap" = true)
    (k10 : PySem.W.keepIn K (.ref f10) = true)
    (a11 : PySem.W.nsIn K mainGlobals "lap_in" = some (some (.ref f11)))
    (l11 : K.lookup f11 = some ⟨oc11, od11, .func (PySem.W.fnOf "lap_in" "lap_in" (defArgs s_lap_in) (defBody s_lap_in) (defScope s_lap_in) .none kV11 dc11 pm11 an11 cd11 ct11), sl11⟩)
    (c11 : PySem.W.codeIn K cd11 "lap_in" = true)
    (k11 : PySem.W.keepIn K (.ref f11) = true)
    (a12 : PySem.W.nsIn K mainGlobals "spiral_steps" = some (some (.ref f12)))
    (l12 : K.lookup f12 = some ⟨oc12, od12, .func (PySem.W.fnOf "spiral_steps" "spiral_steps" (defArgs s_spiral_steps) (defBody s_spiral_steps) (defScope s_spiral_steps) .none kV12 dc12 pm12 an12 cd12 ct12), sl12⟩)
    (c12 : PySem.W.codeIn K cd12 "spiral_steps" = true)
    (k12 : PySem.W.keepIn K (.ref f12) = true)
    (a13 : PySem.W.nsIn K mainGlobals "_law_some" = some (some (.ref f13)))
    (l13 : K.lookup f13 = some ⟨oc13, od13, .func (PySem.W.fnOf "_law_some" "_law_some" (defArgs s__law_some) (defBody s__law_some) (defScope s__law_some) .none kV13 dc13 pm13 an13 cd13 ct13), sl13⟩)
    (c13 : PySem.W.codeIn K cd13 "_law_some" = true)
    (k13 : PySem.W.keepIn K (.ref f13) = true)
    (a14 : PySem.W.nsIn K mainGlobals "_law_size" = some (some (.ref f14)))
    (l14 : K.lookup f14 = some ⟨oc14, od14, .func (PySem.W.fnOf "_law_size" "_law_size" (defArgs s__law_size) (defBody s__law_size) (defScope s__law_size) .none kV14 dc14 pm14 an14 cd14 ct14), sl14⟩)
    (c14 : PySem.W.codeIn K cd14 "_law_size" = true)
    (k14 : PySem.W.keepIn K (.ref f14) = true)
    (a15 : PySem.W.nsIn K mainGlobals "_law_row" = some (some (.ref f15)))
    (l15 : K.lookup f15 = some ⟨oc15, od15, .func (PySem.W.fnOf "_law_row" "_law_row" (defArgs s__law_row) (defBody s__law_row) (defScope s__law_row) .none kV15 dc15 pm15 an15 cd15 ct15), sl15⟩)
    (c15 : PySem.W.codeIn K cd15 "_law_row" = true)
    (k15 : PySem.W.keepIn K (.ref f15) = true)
    (a16 : PySem.W.nsIn K mainGlobals "_law_around" = some (some (.ref f16)))
    (l16 : K.lookup f16 = some ⟨oc16, od16, .func (PySem.W.fnOf "_law_around" "_law_around" (defArgs s__law_around) (defBody s__law_around) (defScope s__law_around) .none kV16 dc16 pm16 an16 cd16 ct16), sl16⟩)
    (c16 : PySem.W.codeIn K cd16 "_law_around" = true)
    (k16 : PySem.W.keepIn K (.ref f16) = true)
    (a17 : PySem.W.nsIn K mainGlobals "spiral_turret" = some (some (.ref f17)))
    (l17 : K.lookup f17 = some ⟨oc17, od17, .func (PySem.W.fnOf "spiral_turret" "spiral_turret" (defArgs s_spiral_turret) (defBody s_spiral_turret) (defScope s_spiral_turret) .none kV17 dc17 pm17 an17 cd17 ct17), sl17⟩)
    (c17 : PySem.W.codeIn K cd17 "spiral_turret" = true)
    (k17 : PySem.W.keepIn K (.ref f17) = true)
    (a18 : PySem.W.nsIn K mainGlobals "is_tuple_of" = some (some (.ref f18)))
    (l18 : K.lookup f18 = some ⟨oc18, od18, .func (PySem.W.fnOf "is_tuple_of" "is_tuple_of" (defArgs s_is_tuple_of) (defBody s_is_tuple_of) (defScope s_is_tuple_of) .none kV18 dc18 pm18 an18 cd18 ct18), sl18⟩)
    (c18 : PySem.W.codeIn K cd18 "is_tuple_of" = true)
    (k18 : PySem.W.keepIn K (.ref f18) = true)
    (a19 : PySem.W.nsIn K mainGlobals "fits_ring" = some (some (.ref f19)))
    (l19 : K.lookup f19 = some ⟨oc19, od19, .func (PySem.W.fnOf "fits_ring" "fits_ring" (defArgs s_fits_ring) (defBody s_fits_ring) (defScope s_fits_ring) .none kV19 dc19 pm19 an19 cd19 ct19), sl19⟩)
    (c19 : PySem.W.codeIn K cd19 "fits_ring" = true)
    (k19 : PySem.W.keepIn K (.ref f19) = true)
    (a20 : PySem.W.nsIn K mainGlobals "fits_turret" = some (some (.ref f20)))
    (l20 : K.lookup f20 = some ⟨oc20, od20, .func (PySem.W.fnOf "fits_turret" "fits_turret" (defArgs s_fits_turret) (defBody s_fits_turret) (defScope s_fits_turret) .none kV20 dc20 pm20 an20 cd20 ct20), sl20⟩)
    (c20 : PySem.W.codeIn K cd20 "fits_turret" = true)
    (k20 : PySem.W.keepIn K (.ref f20) = true)
    (a21 : PySem.W.nsIn K mainGlobals "need_turret" = some (some (.ref f21)))
    (l21 : K.lookup f21 = some ⟨oc21, od21, .func (PySem.W.fnOf "need_turret" "need_turret" (defArgs s_need_turret) (defBody s_need_turret) (defScope s_need_turret) .none kV21 dc21 pm21 an21 cd21 ct21), sl21⟩)
    (c21 : PySem.W.codeIn K cd21 "need_turret" = true)
    (k21 : PySem.W.keepIn K (.ref f21) = true)
    (a22 : PySem.W.nsIn K mainGlobals "is_bonded_round" = some (some (.ref f22)))
    (l22 : K.lookup f22 = some ⟨oc22, od22, .func (PySem.W.fnOf "is_bonded_round" "is_bonded_round" (defArgs s_is_bonded_round) (defBody s_is_bonded_round) (defScope s_is_bonded_round) .none kV22 dc22 pm22 an22 cd22 ct22), sl22⟩)
    (c22 : PySem.W.codeIn K cd22 "is_bonded_round" = true)
    (k22 : PySem.W.keepIn K (.ref f22) = true)
    (a23 : PySem.W.nsIn K mainGlobals "need_ring" = some (some (.ref f23)))
    (l23 : K.lookup f23 = some ⟨oc23, od23, .func (PySem.W.fnOf "need_ring" "need_ring" (defArgs s_need_ring) (defBody s_need_ring) (defScope s_need_ring) .none kV23 dc23 pm23 an23 cd23 ct23), sl23⟩)
    (c23 : PySem.W.codeIn K cd23 "need_ring" = true)
    (k23 : PySem.W.keepIn K (.ref f23) = true)
    (a24 : PySem.W.nsIn K mainGlobals "need_rings" = some (some (.ref f24)))
    (l24 : K.lookup f24 = some ⟨oc24, od24, .func (PySem.W.fnOf "need_rings" "need_rings" (defArgs s_need_rings) (defBody s_need_rings) (defScope s_need_rings) .none kV24 dc24 pm24 an24 cd24 ct24), sl24⟩)
    (c24 : PySem.W.codeIn K cd24 "need_rings" = true)
    (k24 : PySem.W.keepIn K (.ref f24) = true)
    (a25 : PySem.W.nsIn K mainGlobals "like_rings" = some (some (.ref f25)))
    (l25 : K.lookup f25 = some ⟨oc25, od25, .func (PySem.W.fnOf "like_rings" "like_rings" (defArgs s_like_rings) (defBody s_like_rings) (defScope s_like_rings) .none kV25 dc25 pm25 an25 cd25 ct25), sl25⟩)
    (c25 : PySem.W.codeIn K cd25 "like_rings" = true)
    (k25 : PySem.W.keepIn K (.ref f25) = true)
    (a26 : PySem.W.nsIn K mainGlobals "_law_round_lap" = some (some (.ref f26)))
    (l26 : K.lookup f26 = some ⟨oc26, od26, .func (PySem.W.fnOf "_law_round_lap" "_law_round_lap" (defArgs s__law_round_lap) (defBody s__law_round_lap) (defScope s__law_round_lap) .none kV26 dc26 pm26 an26 cd26 ct26), sl26⟩)
    (c26 : PySem.W.codeIn K cd26 "_law_round_lap" = true)
    (k26 : PySem.W.keepIn K (.ref f26) = true)
    (a27 : PySem.W.nsIn K mainGlobals "_law_right" = some (some (.ref f27)))
    (l27 : K.lookup f27 = some ⟨oc27, od27, .func (PySem.W.fnOf "_law_right" "_law_right" (defArgs s__law_right) (defBody s__law_right) (defScope s__law_right) .none kV27 dc27 pm27 an27 cd27 ct27), sl27⟩)
    (c27 : PySem.W.codeIn K cd27 "_law_right" = true)
    (k27 : PySem.W.keepIn K (.ref f27) = true)
    (a28 : PySem.W.nsIn K mainGlobals "law" = some (some (.ref f28)))
    (l28 : K.lookup f28 = some ⟨oc28, od28, .func (PySem.W.fnOf "law" "law" (defArgs s_law) (defBody s_law) (defScope s_law) .none kV28 dc28 pm28 an28 cd28 ct28), sl28⟩)
    (c28 : PySem.W.codeIn K cd28 "law" = true)
    (k28 : PySem.W.keepIn K (.ref f28) = true)
    (z_abs : PySem.W.nsIn K mainGlobals "abs" = some none)
    (z_list : PySem.W.nsIn K mainGlobals "list" = some none)
    (z_int : PySem.W.nsIn K mainGlobals "int" = some none)
    (z_isinstance : PySem.W.nsIn K mainGlobals "isinstance" = some none)
    (z_tuple : PySem.W.nsIn K mainGlobals "tuple" = some none)
    (z_len : PySem.W.nsIn K mainGlobals "len" = some none)
    (z_range : PySem.W.nsIn K mainGlobals "range" = some none)
    (z_all : PySem.W.nsIn K mainGlobals "all" = some none)
    (z_bool : PySem.W.nsIn K mainGlobals "bool" = some none)
    (z_str : PySem.W.nsIn K mainGlobals "str" = some none)
    (z_MANY : PySem.W.nsIn K mainGlobals "MANY" = some (some (.int 24 tk_MANY)))
    (z_SIZES : PySem.W.nsIn K mainGlobals "SIZES" = some (some (.ref td_SIZES)))
    (y_SIZES : K.lookup td_SIZES = some ⟨.type "dict", none, .dict es_SIZES en_SIZES, #[]⟩)
    (x_SIZES : PySem.W.KeysLit w.params es_SIZES.toList)
    (w_SIZES : (td_SIZES == sysModules) = false)
    (v_SIZES : TabE es_SIZES.toList tab_SIZES)
    (z_sum : PySem.W.nsIn K mainGlobals "sum" = some none)
    (z_LONG : PySem.W.nsIn K mainGlobals "LONG" = some (some (.int 60 tk_LONG)))
    (z_sorted : PySem.W.nsIn K mainGlobals "sorted" = some none)
    (z_min : PySem.W.nsIn K mainGlobals "min" = some none)
    (z_HIGH : PySem.W.nsIn K mainGlobals "HIGH" = some (some (.int 24 tk_HIGH)))
    (z_zip : PySem.W.nsIn K mainGlobals "zip" = some none) :
    ∃ fd : FuncData, (∀ (s : Shared) (v : Value), BindsTo s fd ⟨[v], []⟩ [("script", v)]) ∧ ∀ base : Heap, K.In base → base.Ns mainGlobals mg → FnOk l.prog w K mg base (L2.CX l.prog w) 8 fa fd ["script"] (spLawV K) := by
  cases hfa.symm.trans (PySem.W.mg_of X G a28)
  have m_abs := PySem.W.mg_none_of X G z_abs
  have m_list := PySem.W.mg_none_of X G z_list
  have m_int := PySem.W.mg_none_of X G z_int
  have m_isinstance := PySem.W.mg_none_of X G z_isinstance
  have m_tuple := PySem.W.mg_none_of X G z_tuple
  have m_len := PySem.W.mg_none_of X G z_len
  have m_range := PySem.W.mg_none_of X G z_range
  have m_all := PySem.W.mg_none_of X G z_all
  have m_bool := PySem.W.mg_none_of X G z_bool
  have m_str := PySem.W.mg_none_of X G z_str
  have g_MANY : ∃ t, mg "MANY" = some (.int 24 t) := ⟨_, PySem.W.mg_of X G z_MANY⟩
  have t_SIZES : GTab K w mg "SIZES" tab_SIZES := gtab_of (PySem.W.mg_of X G z_SIZES) y_SIZES x_SIZES w_SIZES v_SIZES
  have m_sum := PySem.W.mg_none_of X G z_sum
  have g_LONG : ∃ t, mg "LONG" = some (.int 60 t) := ⟨_, PySem.W.mg_of X G z_LONG⟩
  have m_sorted := PySem.W.mg_none_of X G z_sorted
  have m_min := PySem.W.mg_none_of X G z_min
  have g_HIGH : ∃ t, mg "HIGH" = some (.int 24 t) := ⟨_, PySem.W.mg_of X G z_HIGH⟩
  have m_zip := PySem.W.mg_none_of X G z_zip
  have F_0 := fun_mk (st := s__law_cup) l0 c0 k0
  have g_0 := PySem.W.mg_of X G a0
  have F_1 := fun_mk (st := s__law_same) l1 c1 k1
  have g_1 := PySem.W.mg_of X G a1
  have F_2 := fun_mk (st := s__law_roll) l2 c2 k2
  have g_2 := PySem.W.mg_of X G a2
  have F_3 := fun_mk (st := s_fits_course) l3 c3 k3
  have g_3 := PySem.W.mg_of X G a3
  have F_4 := fun_mk (st := s_need_course) l4 c4 k4
  have g_4 := PySem.W.mg_of X G a4
  have F_5 := fun_mk (st := s_length_in) l5 c5 k5
  have g_5 := PySem.W.mg_of X G a5
  have F_6 := fun_mk (st := s_joints_in) l6 c6 k6
  have g_6 := PySem.W.mg_of X G a6
  have F_7 := fun_mk (st := s_is_whole) l7 c7 k7
  have g_7 := PySem.W.mg_of X G a7
  have F_8 := fun_mk (st := s_fits_whole) l8 c8 k8
  have g_8 := PySem.W.mg_of X G a8
  have F_9 := fun_mk (st := s_spiral_again) l9 c9 k9
  have g_9 := PySem.W.mg_of X G a9
  have F_10 := fun_mk (st := s_need_lap) l10 c10 k10
  have g_10 := PySem.W.mg_of X G a10
  have F_11 := fun_mk (st := s_lap_in) l11 c11 k11
  have g_11 := PySem.W.mg_of X G a11
  have F_12 := fun_mk (st := s_spiral_steps) l12 c12 k12
  have g_12 := PySem.W.mg_of X G a12
  have F_13 := fun_mk (st := s__law_some) l13 c13 k13
  have g_13 := PySem.W.mg_of X G a13
  have F_14 := fun_mk (st := s__law_size) l14 c14 k14
  have g_14 := PySem.W.mg_of X G a14
  have F_15 := fun_mk (st := s__law_row) l15 c15 k15
  have g_15 := PySem.W.mg_of X G a15
  have F_16 := fun_mk (st := s__law_around) l16 c16 k16
  have g_16 := PySem.W.mg_of X G a16
  have F_17 := fun_mk (st := s_spiral_turret) l17 c17 k17
  have g_17 := PySem.W.mg_of X G a17
  have F_18 := fun_mk (st := s_is_tuple_of) l18 c18 k18
  have g_18 := PySem.W.mg_of X G a18
  have F_19 := fun_mk (st := s_fits_ring) l19 c19 k19
  have g_19 := PySem.W.mg_of X G a19
  have F_20 := fun_mk (st := s_fits_turret) l20 c20 k20
  have g_20 := PySem.W.mg_of X G a20
  have F_21 := fun_mk (st := s_need_turret) l21 c21 k21
  have g_21 := PySem.W.mg_of X G a21
  have F_22 := fun_mk (st := s_is_bonded_round) l22 c22 k22
  have g_22 := PySem.W.mg_of X G a22
  have F_23 := fun_mk (st := s_need_ring) l23 c23 k23
  have g_23 := PySem.W.mg_of X G a23
  have F_24 := fun_mk (st := s_need_rings) l24 c24 k24
  have g_24 := PySem.W.mg_of X G a24
  have F_25 := fun_mk (st := s_like_rings) l25 c25 k25
  have g_25 := PySem.W.mg_of X G a25
  have F_26 := fun_mk (st := s__law_round_lap) l26 c26 k26
  have g_26 := PySem.W.mg_of X G a26
  have F_27 := fun_mk (st := s__law_right) l27 c27 k27
  have g_27 := PySem.W.mg_of X G a27
  have F_28 := fun_mk (st := s_law) l28 c28 k28
  have g_28 := PySem.W.mg_of X G a28
  refine ⟨PySem.W.fnOf "law" "law" (defArgs s_law) (defBody s_law) (defScope s_law) .none kV28 dc28 pm28 an28 cd28 ct28, fun s v => .of_eq rfl, fun base _ _ => ?_⟩
  have c__law_same := ok__law_same (P := l.prog) (w := w) (base := base) F_1 g_1 m_isinstance m_tuple m_len m_range m_all m_bool m_int m_str 4
  have c__law_roll := ok__law_roll (P := l.prog) (w := w) (base := base) F_2 g_2 m_int
  have c_fits_course := ok_fits_course (P := l.prog) (w := w) (base := base) F_3 g_3 m_isinstance m_str m_len g_MANY t_SIZES m_all m_sum g_LONG
  have c_need_course := ok_need_course (P := l.prog) (w := w) (base := base) F_4 g_4 c_fits_course
  have c_length_in := ok_length_in (P := l.prog) (w := w) (base := base) F_5 g_5 t_SIZES m_sum
  have c_joints_in := ok_joints_in (P := l.prog) (w := w) (base := base) F_6 g_6 c_length_in t_SIZES m_sorted
  have c_is_whole := ok_is_whole (P := l.prog) (w := w) (base := base) F_7 g_7 m_isinstance m_int m_bool
  have c_fits_whole := ok_fits_whole (P := l.prog) (w := w) (base := base) F_8 g_8 c_is_whole
  have c_spiral_again := ok_spiral_again (P := l.prog) (w := w) (base := base) F_9 g_9 c_need_course c_length_in c_fits_whole c_joints_in m_range
  have c_need_lap := ok_need_lap (P := l.prog) (w := w) (base := base) F_10 g_10 c_fits_whole
  have c_lap_in := ok_lap_in (P := l.prog) (w := w) (base := base) F_11 g_11 c_length_in c_joints_in m_min
  have c_spiral_steps := ok_spiral_steps (P := l.prog) (w := w) (base := base) F_12 g_12 c_need_course c_need_lap c_length_in m_range c_lap_in m_tuple
  have c__law_some := ok__law_some (P := l.prog) (w := w) (base := base) F_13 g_13 m_len c__law_roll
  have c__law_size := ok__law_size (P := l.prog) (w := w) (base := base) F_14 g_14 m_sum
  have c__law_row := ok__law_row (P := l.prog) (w := w) (base := base) F_15 g_15 c__law_size c__law_some
  have c__law_around := ok__law_around (P := l.prog) (w := w) (base := base) F_16 g_16 c__law_size m_sorted
  have c_spiral_turret := ok_spiral_turret (P := l.prog) (w := w) (base := base) F_17 g_17 c_need_course c_length_in c_fits_whole g_HIGH m_range m_tuple
  have c_is_tuple_of := ok_is_tuple_of (P := l.prog) (w := w) (base := base) F_18 g_18 m_isinstance m_tuple m_len
  have c_fits_ring := ok_fits_ring (P := l.prog) (w := w) (base := base) F_19 g_19 c_is_tuple_of c_fits_course c_length_in c_fits_whole
  have c_fits_turret := ok_fits_turret (P := l.prog) (w := w) (base := base) F_20 g_20 g_HIGH c_is_tuple_of c_fits_ring m_all c_length_in
  have c_need_turret := ok_need_turret (P := l.prog) (w := w) (base := base) F_21 g_21 c_fits_turret
  have c_is_bonded_round := ok_is_bonded_round (P := l.prog) (w := w) (base := base) F_22 g_22 c_need_turret c_need_lap m_zip c_lap_in m_all
  have c_need_ring := ok_need_ring (P := l.prog) (w := w) (base := base) F_23 g_23 c_fits_ring
  have c_need_rings := ok_need_rings (P := l.prog) (w := w) (base := base) F_24 g_24 c_need_ring c_length_in
  have c_like_rings := ok_like_rings (P := l.prog) (w := w) (base := base) F_25 g_25 c_need_rings c_joints_in
  have c__law_round_lap := ok__law_round_lap (P := l.prog) (w := w) (base := base) F_26 g_26 c__law_around c__law_size m_range
  have c__law_right := ok__law_right (P := l.prog) (w := w) (base := base) F_27 g_27 c__law_roll c__law_row c__law_size m_range m_tuple c_spiral_turret c__law_same c__law_round_lap c_spiral_steps c_is_bonded_round c__law_around c_spiral_again c_like_rings
  exact ok_law F_28 F_0 g_0 m_abs m_list m_int m_range c__law_right c__law_roll c_spiral_steps c_spiral_again m_tuple c__law_same Vl.law_ok
end Vl
open PySem PySem.W PyProof.Rows
set_option maxHeartbeats 0 in
theorem PySem.Challenge.cw_brickbonds_k61_whole_spirals_holds : PySem.Challenge.rw_brickbonds_k61_whole_spirals.Holds := by
  w_on; o_law; k_head; (case hw => w_witness2)
  k_fill
  refine L2.walk_of (l := PySem.Challenge.rw_brickbonds_k61_whole_spirals) (n := 63) (k := 8) (x := "script") (CX := fun w => L2.CX PySem.Challenge.rw_brickbonds_k61_whole_spirals.prog w) (sp := fun w => Vl.spLawV _) rfl (by decide) rfl ⟨rfl, by decide, by decide⟩ (fun w h Y => PySem.W.kIn_of Y) ?F (fun _ _ a ns hl _ hS => ⟨a, ns, rfl, hS, hl, fun _ => rfl⟩) (fun _ _ _ _ _ h => Vl.cx_none h)
  case F =>
    intro w mg fa h KX G hmg
    refine' Vl.all_mk KX G hmg ?a0 ?l0 ?c0 ?k0 ?a1 ?l1 ?c1 ?k1 ?a2 ?l2 ?c2 ?k2 ?a3 ?l3 ?c3 ?k3 ?a4 ?l4 ?c4 ?k4 ?a5 ?l5 ?c5 ?k5 ?a6 ?l6 ?c6 ?k6 ?a7 ?l7 ?c7 ?k7 ?a8 ?l8 ?c8 ?k8 ?a9 ?l9 ?c9 ?k9 ?a10 ?l10 ?c10 ?k10 ?a11 ?l11 ?c11 ?k11 ?a12 ?l12 ?c12 ?k12 ?a13 ?l13 ?c13 ?k13 ?a14 ?l14 ?c14 ?k14 ?a15 ?l15 ?c15 ?k15 ?a16 ?l16 ?c16 ?k16 ?a17 ?l17 ?c17 ?k17 ?a18 ?l18 ?c18 ?k18 ?a19 ?l19 ?c19 ?k19 ?a20 ?l20 ?c20 ?k20 ?a21 ?l21 ?c21 ?k21 ?a22 ?l22 ?c22 ?k22 ?a23 ?l23 ?c23 ?k23 ?a24 ?l24 ?c24 ?k24 ?a25 ?l25 ?c25 ?k25 ?a26 ?l26 ?c26 ?k26 ?a27 ?l27 ?c27 ?k27 ?a28 ?l28 ?c28 ?k28 ?z_abs ?z_list ?z_int ?z_isinstance ?z_tuple ?z_len ?z_range ?z_all ?z_bool ?z_str ?z_MANY ?z_SIZES ?y_SIZES ?x_SIZES ?w_SIZES ?v_SIZES ?z_sum ?z_LONG ?z_sorted ?z_min ?z_HIGH ?z_zip
    case a0 => k_is
    case l0 => k_is
    case c0 => k_is
    case k0 => k_is
    case a1 => k_is
    case l1 => k_is
    case c1 => k_is
    case k1 => k_is
    case a2 => k_is
    case l2 => k_is
    case c2 => k_is
    case k2 => k_is
    case a3 => k_is
    case l3 => k_is
    case c3 => k_is
    case k3 => k_is
    case a4 => k_is
    case l4 => k_is
    case c4 => k_is
    case k4 => k_is
    case a5 => k_is
    case l5 => k_is
    case c5 => k_is
    case k5 => k_is
    case a6 => k_is
    case l6 => k_is
    case c6 => k_is
    case k6 => k_is
    case a7 => k_is
    case l7 => k_is
    case c7 => k_is
    case k7 => k_is
    case a8 => k_is
    case l8 => k_is
    case c8 => k_is
    case k8 => k_is
    case a9 => k_is
    case l9 => k_is
    case c9 => k_is
    case k9 => k_is
    case a10 => k_is
    case l10 => k_is
    case c10 => k_is
    case k10 => k_is
    case a11 => k_is
    case l11 => k_is
    case c11 => k_is
    case k11 => k_is
    case a12 => k_is
    case l12 => k_is
    case c12 => k_is
    case k12 => k_is
    case a13 => k_is
    case l13 => k_is
    case c13 => k_is
    case k13 => k_is
    case a14 => k_is
    case l14 => k_is
    case c14 => k_is
    case k14 => k_is
    case a15 => k_is
    case l15 => k_is
    case c15 => k_is
    case k15 => k_is
    case a16 => k_is
    case l16 => k_is
    case c16 => k_is
    case k16 => k_is
    case a17 => k_is
    case l17 => k_is
    case c17 => k_is
    case k17 => k_is
    case a18 => k_is
    case l18 => k_is
    case c18 => k_is
    case k18 => k_is
    case a19 => k_is
    case l19 => k_is
    case c19 => k_is
    case k19 => k_is
    case a20 => k_is
    case l20 => k_is
    case c20 => k_is
    case k20 => k_is
    case a21 => k_is
    case l21 => k_is
    case c21 => k_is
    case k21 => k_is
    case a22 => k_is
    case l22 => k_is
    case c22 => k_is
    case k22 => k_is
    case a23 => k_is
    case l23 => k_is
    case c23 => k_is
    case k23 => k_is
    case a24 => k_is
    case l24 => k_is
    case c24 => k_is
    case k24 => k_is
    case a25 => k_is
    case l25 => k_is
    case c25 => k_is
    case k25 => k_is
    case a26 => k_is
    case l26 => k_is
    case c26 => k_is
    case k26 => k_is
    case a27 => k_is
    case l27 => k_is
    case c27 => k_is
    case k27 => k_is
    case a28 => k_is
    case l28 => k_is
    case c28 => k_is
    case k28 => k_is
    case z_abs => k_is
    case z_list => k_is
    case z_int => k_is
    case z_isinstance => k_is
    case z_tuple => k_is
    case z_len => k_is
    case z_range => k_is
    case z_all => k_is
    case z_bool => k_is
    case z_str => k_is
    case z_MANY => k_is
    case z_SIZES => k_is
    case y_SIZES => k_is
    case x_SIZES => exact ⟨⟨_, _, rfl, rfl⟩, ⟨_, _, rfl, rfl⟩, ⟨_, _, rfl, rfl⟩, ⟨_, _, rfl, rfl⟩, trivial⟩
    case w_SIZES => rfl
    case v_SIZES => exact ⟨⟨_, rfl⟩, ⟨_, rfl⟩, ⟨_, rfl⟩, ⟨_, rfl⟩, ⟨_, rfl⟩, ⟨_, rfl⟩, ⟨_, rfl⟩, ⟨_, rfl⟩, trivial⟩
    case z_sum => k_is
    case z_LONG => k_is
    case z_sorted => k_is
    case z_min => k_is
    case z_HIGH => k_is
    case z_zip => k_is

