import PyProof.Rows.All
import Wide.All
import OpenK.AllK
import Wide.FinOn
import HandS.Base
import HandS.Call
import HandS.List
import HandS.Comp
import HandS.Iter
import HandS.Text
import HandS.Exc
import HandS.ExcOwn
import HandS.ExcCtx
import HandS.HotCalls
import HandS.TupAny
import HandS.TupMul
import HandS.Defaults
import HandS.HeadHook2
import HandS.HeadHook3
import HandS.TryOnly
import HandS.Words
import HandS.HeadHook1
import KE.DataEq
import KE.KDictKeyed
import HandS.Style
import HandS.Conv
import HandS.StrMore
import HandS.IsInst
import KE.DataIsa
import KE.DataFind
import KE.GoesNew
import KE.GoesMore
import PyProof.ExcBaseAll.ValueError
import HandS.Set
import HandS.SetFor
import KE.SortData
import PyProof.SetRoads
import HandS.More
import HandS.Dict
import HandS.ExcIs
import KE.KDictDisplayH
import KE.KDictCopyH
import HandS.DictTup
import HandS.Zip
import KE.GoesEnum
import KE.KStateDown
import HandS.Ends
import HandS.WordsExc
import HandS.Head0
import HandS.Head1
import HandS.Head2
import HandS.HeadEnd
import HandS.HeadHook4
import PySem.Challenge.RW_gapforms_k03_stands
set_option Elab.async false
set_option linter.all false
set_option maxRecDepth 100000
set_option maxHeartbeats 2000000
/-! DL1: the data layer's core: values that read as data; what an expression computes, as a Lean function of the slots. -/
namespace DL
open PySem PySem.Spec L2
open PyProof.Rows hiding St

abbrev D := PyData
/-- a guard that is not looked into (the kernel would count its numbers down) -/
noncomputable def gd (p : Prop) : Bool := @decide p (Classical.propDecidable p)
theorem gd_of {p : Prop} (h : p) : gd p = true := @decide_eq_true p (Classical.propDecidable p) h
theorem of_gd {p : Prop} (h : gd p = true) : p := @of_decide_eq_true p (Classical.propDecidable p) h

/-- what a local name holds: nothing known; data that stands still; a list, a dict of the def's own (to be changed); the law's counter list -/
inductive Slot where
  | un
  | d (x : D)
  | l (xs : List D)
  | m (kvs : List (D × D))
  | t (n : Nat)
  | s (ns : List Int)
  | x (nm : Str)
  | k (kvs : List (Str × D))
  | f (kvs : List (D × D))
/-- what a law's call fixes: where its counter list and its script lie, the script's ints -/
structure Cst where
  T : Option Addr
  E : Option (Addr × Str)
  w : World
def c0 (w : World) : Cst := ⟨none, none, w⟩
def Slot.mutb : Slot → Bool
  | .l _ | .m _ | .k _ | .t _ => true
  | _ => false
abbrev Env := List Slot

/-- an outcome: a value; an own exception, by its class's name; none that is told -/
inductive Res (α : Type) where
  | ok (a : α)
  | exc (c : Str)
  | bad
def Res.bind {α β : Type} : Res α → (α → Res β) → Res β
  | .ok a, k => k a
  | .exc c, _ => .exc c
  | .bad, _ => .bad
def Res.map {α β : Type} (f : α → β) (r : Res α) : Res β := r.bind fun a => .ok (f a)
/-- no exception may leave -/
def Res.nox {α : Type} : Res α → Res α
  | .ok a => .ok a
  | _ => .bad
def ofO {α : Type} : Option α → Res α
  | some a => .ok a
  | none => .bad
@[simp] theorem Res.bind_ok {α β : Type} (a : α) (k : α → Res β) : (Res.ok a).bind k = k a := rfl
@[simp] theorem Res.bind_exc {α β : Type} (c : Str) (k : α → Res β) : (Res.exc c : Res α).bind k = .exc c := rfl
@[simp] theorem Res.bind_bad {α β : Type} (k : α → Res β) : (Res.bad : Res α).bind k = .bad := rfl
@[simp] theorem Res.map_ok {α β : Type} (f : α → β) (a : α) : (Res.ok a).map f = .ok (f a) := rfl
@[simp] theorem Res.map_exc {α β : Type} (f : α → β) (c : Str) : (Res.exc c : Res α).map f = .exc c := rfl
@[simp] theorem Res.nox_ok {α : Type} (a : α) : (Res.ok a).nox = .ok a := rfl
@[simp] theorem ofO_some {α : Type} (a : α) : ofO (some a) = .ok a := rfl

abbrev M (α : Type) := Env → Res (α × Env)

/-! ### heaps -/
def le (F H : Hp) : Prop := ∀ a o, F a = some o → H a = some o
theorem le.refl {F : Hp} : le F F := fun _ _ h => h
theorem le.trans {F G H : Hp} (a : le F G) (b : le G H) : le F H := fun x o h => b x o (a x o h)
theorem le.updr {F H : Hp} {p : Addr} {o : HO} (a : le F H) (hn : H p = none) : le F (upd H p o) := fun x u h => by
  have := a x u h
  rw [upd_ne (ne_of_none this hn)]; exact this
theorem le.upd {F H : Hp} {p : Addr} {o : HO} (a : le F H) : le (L2.upd F p o) (L2.upd H p o) := fun x u h => by
  unfold L2.upd at h ⊢
  split
  · rename_i e; rw [if_pos e] at h; exact h
  · rename_i e; rw [if_neg e] at h; exact a x u h
theorem le.none {F H : Hp} {p : Addr} (a : le F H) (hn : H p = none) : F p = none := by
  cases e : F p with
  | none => rfl
  | some o => have := a p o e; rw [hn] at this; cases this

theorem SqL.le {K : PySem.W.Frag} {F F' : Hp} {a : Addr} {xs : List V} (h : SqL K F a xs) (l : le F F') : SqL K F' a xs := by
  rcases h with h | h
  · refine .inl ?_
    rcases h with h | ⟨o, h⟩
    · exact .inl (l _ _ h)
    · exact .inr ⟨o, l _ _ h⟩
  · exact .inr h
theorem SqT.le {K : PySem.W.Frag} {F F' : Hp} {a : Addr} {xs : List V} (h : SqT K F a xs) (l : le F F') : SqT K F' a xs := by
  rcases h with h | h
  · refine .inl ?_
    rcases h with h | ⟨o, h⟩
    · exact .inl (l _ _ h)
    · exact .inr ⟨o, l _ _ h⟩
  · exact .inr h
mutual
/-- a value that reads as data; its lists are tracked -/
inductive Dv (K : PySem.W.Frag) (H : Hp) : V → D → Prop
  | non : Dv K H .non .none
  | bl (b : Bool) : Dv K H (.bl b) (.bool b)
  | int (i : Int) : Dv K H (.int i) (.int i)
  | str (x : Str) : Dv K H (.str x) (.str x)
  | lst {a : Addr} {xs : List V} {ds : List D} : H a = some (.lst xs) → DvAll K H xs ds → Dv K H (.ref a) (.list ds)
  | tup {a : Addr} {xs : List V} {ds : List D} : SqT K H a xs → DvAll K H xs ds → Dv K H (.ref a) (.tuple ds)
inductive DvAll (K : PySem.W.Frag) (H : Hp) : List V → List D → Prop
  | nil : DvAll K H [] []
  | cons {v : V} {vs : List V} {d : D} {ds : List D} : Dv K H v d → DvAll K H vs ds → DvAll K H (v :: vs) (d :: ds)
end
mutual
theorem Dv.le {K : PySem.W.Frag} {F F' : Hp} (l : le F F') : ∀ {v : V} {d : D}, Dv K F v d → Dv K F' v d
  | _, _, .non => .non
  | _, _, .bl b => .bl b
  | _, _, .int i => .int i
  | _, _, .str x => .str x
  | _, _, .lst h a => .lst (l _ _ h) (DvAll.le l a)
  | _, _, .tup h a => .tup (SqT.le h l) (DvAll.le l a)
theorem DvAll.le {K : PySem.W.Frag} {F F' : Hp} (l : le F F') : ∀ {vs : List V} {ds : List D}, DvAll K F vs ds → DvAll K F' vs ds
  | _, _, .nil => .nil
  | _, _, .cons h t => .cons (Dv.le l h) (DvAll.le l t)
end
mutual
theorem Dv.dp {K : PySem.W.Frag} {F : Hp} : ∀ {v : V} {d : D}, Dv K F v d → Dp K F v d
  | _, _, .non => .non
  | _, _, .bl b => .bl b
  | _, _, .int i => .int i
  | _, _, .str x => .str x
  | _, _, .lst h a => .lst (SqL.of h) (DvAll.dp a)
  | _, _, .tup h a => .tup h (DvAll.dp a)
theorem DvAll.dp {K : PySem.W.Frag} {F : Hp} : ∀ {vs : List V} {ds : List D}, DvAll K F vs ds → DpAll K F vs ds
  | _, _, .nil => .nil
  | _, _, .cons h t => .cons (Dv.dp h) (DvAll.dp t)
end
section
variable {K : PySem.W.Frag} {F : Hp} {vs us : List V} {ds es : List D}
theorem DvAll.length : ∀ {vs : List V} {ds : List D}, DvAll K F vs ds → vs.length = ds.length
  | _, _, .nil => rfl
  | _, _, .cons _ t => by simp [DvAll.length t]
theorem DvAll.append : ∀ {vs us : List V} {ds es : List D}, DvAll K F vs ds → DvAll K F us es → DvAll K F (vs ++ us) (ds ++ es)
  | _, _, _, _, .nil, h => h
  | _, _, _, _, .cons h t, s => .cons h (DvAll.append t s)
theorem DvAll.get : ∀ {vs : List V} {ds : List D} {i : Nat} {v : V}, DvAll K F vs ds → vs[i]? = some v → ∃ d, ds[i]? = some d ∧ Dv K F v d
  | _, _, _, _, .nil, e => by simp at e
  | _, _, 0, v, .cons h _, e => by simp at e; subst e; exact ⟨_, rfl, h⟩
  | _, _, i + 1, v, .cons _ t, e => by
    obtain ⟨d, h1, h2⟩ := DvAll.get (i := i) (v := v) t (by simpa using e)
    exact ⟨d, by simpa using h1, h2⟩
theorem DvAll.get' : ∀ {vs : List V} {ds : List D} {i : Nat} {d : D}, DvAll K F vs ds → ds[i]? = some d → ∃ v, vs[i]? = some v ∧ Dv K F v d
  | _, _, _, _, .nil, e => by simp at e
  | _, _, 0, d, .cons h _, e => by simp at e; subst e; exact ⟨_, rfl, h⟩
  | _, _, i + 1, d, .cons _ t, e => by
    obtain ⟨v, h1, h2⟩ := DvAll.get' (i := i) (d := d) t (by simpa using e)
    exact ⟨v, by simpa using h1, h2⟩
theorem DvAll.take : ∀ {vs : List V} {ds : List D} (n : Nat), DvAll K F vs ds → DvAll K F (vs.take n) (ds.take n)
  | _, _, 0, _ => .nil
  | _, _, _ + 1, .nil => .nil
  | _, _, n + 1, .cons h t => .cons h (DvAll.take n t)
theorem DvAll.drop : ∀ {vs : List V} {ds : List D} (n : Nat), DvAll K F vs ds → DvAll K F (vs.drop n) (ds.drop n)
  | _, _, 0, h => h
  | _, _, _ + 1, .nil => .nil
  | _, _, n + 1, .cons _ t => DvAll.drop n t
theorem DvAll.reverse : ∀ {vs : List V} {ds : List D}, DvAll K F vs ds → DvAll K F vs.reverse ds.reverse
  | _, _, .nil => .nil
  | _, _, .cons h t => by rw [List.reverse_cons, List.reverse_cons]; exact DvAll.append (DvAll.reverse t) (.cons h .nil)
end
/-- new objects alone -/
structure Grow (F H F' H' : Hp) : Prop where
  hh : le H H'
  ff : le F F'
  fh : le F' H'
  nw : ∀ a o, F' a = some o → F a = some o ∨ H a = none
theorem Grow.refl {F H : Hp} (l : le F H) : Grow F H F H := ⟨le.refl, le.refl, l, fun _ _ h => .inl h⟩
theorem Grow.trans {F H F1 H1 F2 H2 : Hp} (a : Grow F H F1 H1) (b : Grow F1 H1 F2 H2) : Grow F H F2 H2 :=
  ⟨a.hh.trans b.hh, a.ff.trans b.ff, b.fh, fun x o h => by
    rcases b.nw x o h with h | h
    · exact a.nw x o h
    · exact .inr (a.hh.none h)⟩
/-- a new object, frozen at once -/
theorem Grow.lay {F H : Hp} {p : Addr} {o : HO} (l : le F H) (hn : H p = none) : Grow F H (upd F p o) (upd H p o) :=
  ⟨fun x u h => by rw [upd_ne (ne_of_none h hn)]; exact h, fun x u h => by rw [upd_ne (ne_of_none (l x u h) hn)]; exact h, l.upd, fun x u h => by
    by_cases e : x = p
    · subst e; exact .inr hn
    · rw [upd_ne e] at h; exact .inl h⟩
/-- a new object beside the frozen ones -/
theorem Grow.side {F H : Hp} {p : Addr} {o : HO} (l : le F H) (hn : H p = none) : Grow F H F (upd H p o) :=
  ⟨fun x u h => by rw [upd_ne (ne_of_none h hn)]; exact h, le.refl, l.updr hn, fun _ _ h => .inl h⟩

theorem Grow.out {F H F' H' : Hp} {a : Addr} {o : HO} (g : Grow F H F' H') (h : H a = some o) (f : F a = none) : F' a = none := by
  cases z : F' a with
  | none => rfl
  | some u =>
    rcases g.nw a u z with y | y
    · rw [f] at y; cases y
    · rw [h] at y; cases y

/-! ### the slots -/
/-! keys of dicts -/
mutual
def keyD : D → Option NestedKey
  | .none => some .none
  | .bool b => some (.num (if b = true then 1 else 0))
  | .int i => some (.num i)
  | .str x => some (.text x)
  | .tuple ds => (keyDs ds).map .tup
  | .list _ => none
  | .dict _ => none
def keyDs : List D → Option (List NestedKey)
  | [] => some []
  | d :: ds => (keyD d).bind fun k => (keyDs ds).map (k :: ·)
end
def entN (w : World) (x : NestedKey × Addr × Value) : DictEntry := ⟨x.1.hash w, .ref x.2.1, x.2.2⟩
/-- what the object of a dict with such keys is -/
def dictPhi (w : World) (a : Addr) (ep : Nat) (xs : List (NestedKey × Addr × Value)) : Heap → Prop := fun h => ∃ o es, h.get? a = some o ∧ o.ExactDict ∧ o.data = .dict es ep ∧ es.toList = xs.map (entN w)
def DKv (K : PySem.W.Frag) (F : Hp) (x : NestedKey × Addr × Value) (kv : D × D) : Prop := keyD kv.1 = some x.1 ∧ x.1.depth ≤ 8 ∧ Dv K F (.ref x.2.1) kv.1 ∧ ∃ v, RelV v x.2.2 ∧ Dv K F v kv.2
theorem DKv.le {K : PySem.W.Frag} {F F' : Hp} (l : DL.le F F') {x : NestedKey × Addr × Value} {kv : D × D} (h : DKv K F x kv) : DKv K F' x kv := by
  obtain ⟨h1, h2, h3, v, h4, h5⟩ := h
  exact ⟨h1, h2, Dv.le l h3, v, h4, Dv.le l h5⟩
/-- a dict whose keys are tuples -/
def MapAt (K : PySem.W.Frag) (c : Cst) (F H : Hp) (a : Addr) (kvs : List (D × D)) : Prop :=
  ∃ xs ep, H a = some (.ext (dictPhi c.w a ep xs)) ∧ (a == sysModules) = false ∧ (xs.map (·.1)).Nodup ∧ Paired (DKv K F) xs kvs
/-- a dict whose keys are texts -/
def TabAt (K : PySem.W.Frag) (F H : Hp) (a : Addr) (kvs : List (Str × D)) : Prop :=
  ∃ vs : List (Key × V), H a = some (.dK vs) ∧ Paired (fun (p : Key × V) (q : Str × D) => p.1 = .inr q.1 ∧ Dv K F p.2 q.2) vs kvs
theorem MapAt.le {K : PySem.W.Frag} {c : Cst} {F F' H H' : Hp} {a : Addr} {kvs : List (D × D)} (h : MapAt K c F H a kvs) (l : DL.le F F') (hh : ∀ o, H a = some o → H' a = some o) : MapAt K c F' H' a kvs := by
  obtain ⟨xs, ep, h1, h2, h3, h4⟩ := h
  exact ⟨xs, ep, hh _ h1, h2, h3, Paired.mapP h4 fun _ _ z => z.le l⟩
theorem TabAt.le {K : PySem.W.Frag} {F F' H H' : Hp} {a : Addr} {kvs : List (Str × D)} (h : TabAt K F H a kvs) (l : DL.le F F') (hh : ∀ o, H a = some o → H' a = some o) : TabAt K F' H' a kvs := by
  obtain ⟨vs, h1, h2⟩ := h
  exact ⟨vs, hh _ h1, Paired.mapP h2 fun _ _ z => ⟨z.1, Dv.le l z.2⟩⟩
theorem MapAt.at {K : PySem.W.Frag} {c : Cst} {F H : Hp} {a : Addr} {kvs : List (D × D)} (h : MapAt K c F H a kvs) : ∃ o, H a = some o := by
  obtain ⟨xs, ep, h1, _⟩ := h
  exact ⟨_, h1⟩
theorem TabAt.at {K : PySem.W.Frag} {F H : Hp} {a : Addr} {kvs : List (Str × D)} (h : TabAt K F H a kvs) : ∃ o, H a = some o := by
  obtain ⟨xs, h1, _⟩ := h
  exact ⟨_, h1⟩

def SlotOk (K : PySem.W.Frag) (c : Cst) (P F H : Hp) (v : Option V) : Slot → Prop
  | .un => True
  | .d x => ∃ u, v = some u ∧ Dv K F u x
  | .l xs => ∃ a vs, v = some (.ref a) ∧ H a = some (.lst vs) ∧ F a = none ∧ P a = none ∧ DvAll K F vs xs
  | .m kvs => ∃ a, v = some (.ref a) ∧ MapAt K c F H a kvs ∧ F a = none ∧ P a = none
  | .k kvs => ∃ a, v = some (.ref a) ∧ TabAt K F H a kvs ∧ F a = none ∧ P a = none
  | .x nm => ∃ a, c.E = some (a, nm) ∧ v = some (.ref a)
  | .f kvs => ∃ a, v = some (.ref a) ∧ MapAt K c F F a kvs
  | .s ns => ∃ a, v = some (.ref a) ∧ SqL K F a (ns.map .int)
  | .t n => ∃ a, (∀ T, c.T = some T → T = a) ∧ v = some (.ref a) ∧ H a = some (.lst (List.replicate n (.int 0))) ∧ F a = none ∧ P a = none

structure Good (K : PySem.W.Frag) (c : Cst) (P : Hp) (σ : St) (ρ : Env) (F H : Hp) : Prop where
  le : le F H
  pin : ∀ a o, P a = some o → H a = some o ∧ F a = none
  len : σ.length = ρ.length
  sl : ∀ (i : Nat) s, ρ[i]? = some s → SlotOk K c P F H ((σ[i]?).join) s
  ap : ∀ (i j : Nat) s s' a, i ≠ j → ρ[i]? = some s → ρ[j]? = some s' → s.mutb = true → s'.mutb = true → (σ[i]?).join = some (.ref a) → (σ[j]?).join = some (.ref a) → False

theorem SlotOk.grow {K : PySem.W.Frag} {c : Cst} {P F H F' H' : Hp} {v : Option V} (g : Grow F H F' H') : ∀ {s : Slot}, SlotOk K c P F H v s → SlotOk K c P F' H' v s
  | .un, _ => trivial
  | .d x, ⟨u, e, h⟩ => ⟨u, e, Dv.le g.ff h⟩
  | .l xs, ⟨a, vs, e, h, f, p, q⟩ => ⟨a, vs, e, g.hh _ _ h, g.out h f, p, DvAll.le g.ff q⟩
  | .m kvs, ⟨a, e, h, f, p⟩ => ⟨a, e, h.le g.ff fun o z => g.hh _ _ z, (by obtain ⟨o, z⟩ := h.at; exact g.out z f), p⟩
  | .k kvs, ⟨a, e, h, f, p⟩ => ⟨a, e, h.le g.ff fun o z => g.hh _ _ z, (by obtain ⟨o, z⟩ := h.at; exact g.out z f), p⟩
  | .x nm, ⟨a, e, h⟩ => ⟨a, e, h⟩
  | .f kvs, ⟨a, e, h⟩ => ⟨a, e, h.le g.ff fun o z => g.ff _ _ z⟩
  | .s ns, ⟨a, e, h⟩ => ⟨a, e, SqL.le h g.ff⟩
  | .t n, ⟨a, e1, e, h, f, p⟩ => ⟨a, e1, e, g.hh _ _ h, g.out h f, p⟩
theorem Good.grow {K : PySem.W.Frag} {c : Cst} {P : Hp} {σ : St} {ρ : Env} {F H F' H' : Hp} (G : Good K c P σ ρ F H) (g : Grow F H F' H') : Good K c P σ ρ F' H' where
  le := g.fh
  pin := fun a o h => ⟨g.hh _ _ (G.pin a o h).1, g.out (G.pin a o h).1 (G.pin a o h).2⟩
  len := G.len
  sl := fun i s h => (G.sl i s h).grow g
  ap := G.ap

/-! ### outcomes met -/
section
variable (K : PySem.W.Frag) (c : Cst) (W : XK) (P : Hp)
def Post {α : Type} (σ : St) (F : Hp) (r : Res (α × Env)) (R : α → Env → Hp → Hp → Prop) : Prop :=
  match r with
  | .ok (a, ρ') => ∀ F' H', Good K c P σ ρ' F' H' → le F F' → R a ρ' F' H'
  | .exc c => ∀ H', le F H' → le P H' → W (.ref (He.ga K c)) none H'
  | .bad => False
end
section
variable {K : PySem.W.Frag} {c : Cst} {W : XK} {P : Hp} {σ : St} {α β : Type}
theorem Post.bind {F : Hp} {r : Res (α × Env)} {k : α × Env → Res (β × Env)} {R : β → Env → Hp → Hp → Prop} (h : Post K c W P σ F (r.bind k) R) :
    Post K c W P σ F r fun a ρ' F' _ => Post K c W P σ F' (k (a, ρ')) R := by
  cases r with
  | bad => exact h
  | exc c => exact h
  | ok a =>
    obtain ⟨a, ρ'⟩ := a
    intro F' H' G l
    show Post K c W P σ F' (k (a, ρ')) R
    have h : Post K c W P σ F (k (a, ρ')) R := h
    revert h
    cases k (a, ρ') with
    | bad => exact fun h => h
    | exc c => exact fun h H'' l1 l2 => h H'' (l.trans l1) l2
    | ok b =>
      obtain ⟨b, ρ''⟩ := b
      exact fun h F'' H'' G' l' => h F'' H'' G' (l.trans l')
theorem Post.mono {F : Hp} {r : Res (α × Env)} {R R' : α → Env → Hp → Hp → Prop} (h : Post K c W P σ F r R) (m : ∀ a ρ' F' H', Good K c P σ ρ' F' H' → le F F' → R a ρ' F' H' → R' a ρ' F' H') :
    Post K c W P σ F r R' := by
  cases r with
  | bad => exact h
  | exc c => exact h
  | ok a =>
    obtain ⟨a, ρ'⟩ := a
    exact fun F' H' G l => m a ρ' F' H' G l (h F' H' G l)
theorem Post.ok {F H : Hp} {a : α} {ρ : Env} {R : α → Env → Hp → Hp → Prop} (h : Post K c W P σ F (.ok (a, ρ)) R) (G : Good K c P σ ρ F H) : R a ρ F H := h F H G le.refl
theorem Post.lift {F : Hp} {x : Option α} {ρ : Env} {R : α → Env → Hp → Hp → Prop} (h : Post K c W P σ F ((ofO x).map fun d => (d, ρ)) R) : ∃ d, x = some d ∧ Post K c W P σ F (.ok (d, ρ)) R := by
  cases x with
  | none => exact h.elim
  | some d => exact ⟨d, rfl, h⟩
end

/-! ### readings by functions -/
section
variable (K : PySem.W.Frag) (c : Cst) (W : XK)
def tD (f : M D) : TE := fun σ H Q => ∃ P ρ F, Good K c P σ ρ F H ∧ Post K c W P σ F (f ρ) fun d _ F' H' => ∀ v, Dv K F' v d → Q v H'
def tB' (f : M Bool) : TT := fun σ H Q => ∃ P ρ F, Good K c P σ ρ F H ∧ Post K c W P σ F (f ρ) fun b _ _ H' => Q b H'
def tDs (f : M (List D)) : TA := fun σ H Q => ∃ P ρ F, Good K c P σ ρ F H ∧ Post K c W P σ F (f ρ) fun ds _ F' H' => ∀ vs, DvAll K F' vs ds → Q vs H'
end
/-- how a body stands: where it runs, what an exception meets -/
structure Ok (X : Cx) (c : Cst) (W : XK) (k : Nat) : Prop where
  cw : c.w = X.w
  calm : X.calm = true
  nd : X.N.Nodup
  pass : Passes (L2N.CX X.prog X.w) X W
  own : PassesOwn (model X.prog X.w) X.A X.env X.xe
  room : Room k X.A
  tk : L2N.Takes X (fun cls d _ H => W cls d H)

section
variable {X : Cx} {c : Cst} {W : XK} {k : Nat} {e a b : Expr} {es : List Expr} {f g h : M D} {pos : Pos}
theorem PE.imp {t t' : TE} (h : PE X e t) (m : ∀ σ H Q, t' σ H Q → t σ H Q) : PE X e t' := ⟨fun pins s σ H Q I q => h.run pins s σ H Q I (m σ H Q q)⟩
theorem PT.imp {t t' : TT} (h : PT X e t) (m : ∀ σ H Q, t' σ H Q → t σ H Q) : PT X e t' := ⟨fun pins s σ H Q I q => h.run pins s σ H Q I (m σ H Q q)⟩
theorem PA.imp {t t' : TA} (h : PA X es t) (m : ∀ σ H Q, t' σ H Q → t σ H Q) : PA X es t' := ⟨fun pos pins s σ H Q I q => h.run pos pins s σ H Q I (m σ H Q q)⟩

abbrev DE (X : Cx) (c : Cst) (W : XK) (e : Expr) (f : M D) : Prop := PE X e (tD X.K c W f)
abbrev DT (X : Cx) (c : Cst) (W : XK) (e : Expr) (f : M Bool) : Prop := PT X e (tB' X.K c W f)
abbrev DA (X : Cx) (c : Cst) (W : XK) (es : List Expr) (f : M (List D)) : Prop := PA X es (tDs X.K c W f)

/-! ### the simplest -/
def mC (d : D) : M D := fun ρ => .ok (d, ρ)
theorem de_c {v : V} {d : D} (h : PE X e (tC v)) (hd : ∀ F, Dv X.K F v d) : DE X c W e (mC d) := PE.imp h fun σ H Q ⟨P, ρ, F, G, p⟩ => p.ok G v (hd F)
theorem de_int {i j pos} : DE X c W (.Constant (.int i) j pos) (mC (.int i)) := de_c pe_int fun _ => .int i
theorem de_bl {i j pos} : DE X c W (.Constant (.bool i) j pos) (mC (.bool i)) := de_c pe_bl fun _ => .bl i
theorem de_non {j pos} : DE X c W (.Constant .none j pos) (mC .none) := de_c pe_non fun _ => .non
theorem de_str {x j pos} : DE X c W (.Constant (.str x) j pos) (mC (.str x)) := de_c pe_str fun _ => .str x

/-- a name; a list of the def's own is frozen by it -/
def mV (i : Nat) : M D := fun ρ => match ρ[i]? with
  | some (.d x) => .ok (x, ρ)
  | some (.l xs) => .ok (.list xs, ρ.set i (.d (.list xs)))
  | _ => .bad
theorem Good.freeze {K : PySem.W.Frag} {P : Hp} {σ : St} {ρ : Env} {F H : Hp} {i : Nat} {xs : List D} (G : Good K c P σ ρ F H) (h : ρ[i]? = some (.l xs)) :
    ∃ a F', (σ[i]?).join = some (.ref a) ∧ Good K c P σ (ρ.set i (.d (.list xs))) F' H ∧ DL.le F F' ∧ Dv K F' (.ref a) (.list xs) := by
  obtain ⟨a, vs, e, hl, fn, pn, q⟩ := G.sl i _ h
  have hi : i < ρ.length := by rw [List.getElem?_eq_some_iff] at h; exact h.1
  have lF : DL.le F (upd F a (.lst vs)) := fun x o z => by rw [upd_ne (ne_of_none z fn)]; exact z
  have lH : DL.le (upd F a (.lst vs)) H := fun x o z => by
    by_cases hx : x = a
    · subst hx; rw [upd_same] at z; cases z; exact hl
    · rw [upd_ne hx] at z; exact G.le x o z
  have dp : Dv K (upd F a (.lst vs)) (.ref a) (.list xs) := .lst upd_same (DvAll.le lF q)
  have other : ∀ (j : Nat) s b, i ≠ j → ρ[j]? = some s → s.mutb = true → (σ[j]?).join = some (.ref b) → b ≠ a := fun j s b hij hj hm hb hba => by
    subst hba
    exact G.ap i j _ s b hij h hj rfl hm e hb
  refine ⟨a, upd F a (.lst vs), e, ⟨lH, fun x o z => ⟨(G.pin x o z).1, ?_⟩, by simp [G.len], fun j s hj => ?_, fun j j' s s' b hn hj hj' m m' r r' => ?_⟩, lF, dp⟩
  · rw [upd_ne (ne_of_none z pn)]; exact (G.pin x o z).2
  · by_cases hij : i = j
    · subst hij
      rw [List.getElem?_set_self hi] at hj
      cases hj
      exact ⟨_, e, dp⟩
    · rw [List.getElem?_set_ne hij] at hj
      have z := G.sl j s hj
      cases s with
      | un => trivial
      | d x => obtain ⟨u, e1, e2⟩ := z; exact ⟨u, e1, Dv.le lF e2⟩
      | m kvs =>
        obtain ⟨b, e1, e2, e3, e4⟩ := z
        exact ⟨b, e1, e2.le lF fun _ q => q, by rw [upd_ne (other j _ b hij hj rfl e1)]; exact e3, e4⟩
      | k kvs =>
        obtain ⟨b, e1, e2, e3, e4⟩ := z
        exact ⟨b, e1, e2.le lF fun _ q => q, by rw [upd_ne (other j _ b hij hj rfl e1)]; exact e3, e4⟩
      | x nm => obtain ⟨b, e1, e2⟩ := z; exact ⟨b, e1, e2⟩
      | f kvs => obtain ⟨b, e1, e2⟩ := z; exact ⟨b, e1, e2.le lF fun o q => lF _ _ q⟩
      | s ns => obtain ⟨b, e1, e2⟩ := z; exact ⟨b, e1, SqL.le e2 lF⟩
      | l ys =>
        obtain ⟨b, us, e1, e2, e3, e4, e5⟩ := z
        exact ⟨b, us, e1, e2, by rw [upd_ne (other j _ b hij hj rfl e1)]; exact e3, e4, DvAll.le lF e5⟩
      | t n =>
        obtain ⟨b, e0, e1, e2, e3, e4⟩ := z
        exact ⟨b, e0, e1, e2, by rw [upd_ne (other j _ b hij hj rfl e1)]; exact e3, e4⟩
  · by_cases hij : i = j
    · subst hij
      rw [List.getElem?_set_self hi] at hj
      cases hj; cases m
    · by_cases hij' : i = j'
      · subst hij'
        rw [List.getElem?_set_self hi] at hj'
        cases hj'; cases m'
      · rw [List.getElem?_set_ne hij] at hj
        rw [List.getElem?_set_ne hij'] at hj'
        exact G.ap j j' s s' b hn hj hj' m m' r r'
theorem join_some {σ : St} {i : Nat} {v : V} (h : (σ[i]?).join = some v) : σ[i]? = some (some v) := by
  cases e : σ[i]? with
  | none => rw [e] at h; cases h
  | some u => rw [e] at h; simpa using h
theorem de_v {i : Nat} (h : PE X e (tVar i)) : DE X c W e (mV i) := PE.imp h fun σ H Q ⟨P, ρ, F, G, p⟩ => by
  unfold mV at p
  split at p
  · rename_i x hx
    obtain ⟨u, e1, e2⟩ := G.sl i _ hx
    exact ⟨u, join_some e1, p.ok G u e2⟩
  · rename_i xs hx
    obtain ⟨a, F', e1, G', l, dp⟩ := G.freeze hx
    exact ⟨_, join_some e1, p F' H G' l _ dp⟩
  · exact p.elim

/-! ### a binary operation by data -/
/-- an operation's rule, by data -/
def RD (K : PySem.W.Frag) (r : R2) (op : D → D → Option D) : Prop := ∀ (F H : Hp) (x y : V) (d e z : D) (Q : VK), le F H → Dv K F x d → Dv K F y e → op d e = some z → (∀ w F' H', Grow F H F' H' → Dv K F' w z → Q w H') → r x y H Q
def m2 (op : D → D → Option D) (f g : M D) : M D := fun ρ => (f ρ).bind fun x => (g x.2).bind fun y => (ofO (op x.1 y.1)).map fun z => (z, y.2)
theorem m2_ok {r : R2} {op : D → D → Option D} (hr : RD X.K r op) {σ : St} {H : Hp} {Q : VK} (q : tD X.K c W (m2 op f g) σ H Q) : tOp r (tD X.K c W f) (tD X.K c W g) σ H Q := by
  obtain ⟨P, ρ, F, G, p⟩ := q
  refine ⟨P, ρ, F, G, p.bind.mono fun d ρ1 F1 H1 G1 l1 p1 v dv => ⟨P, ρ1, F1, G1, p1.bind.mono fun e ρ2 F2 H2 G2 l2 p2 u du => ?_⟩⟩
  obtain ⟨z, hz, p3⟩ := p2.lift
  exact hr F2 H2 v u d e z Q G2.le (Dv.le l2 dv) du hz fun w F' H' g' dw => p3 F' H' (G2.grow g') g'.ff w dw
theorem de_op {op : Operator} {r : R2} {o : D → D → Option D} (ho : OpR X (binaryOp op) r) (hr : RD X.K r o) (ha : DE X c W a f) (hb : DE X c W b g) : DE X c W (.BinOp a op b pos) (m2 o f g) :=
  PE.imp (pe_op ho ha hb) fun _ _ _ q => m2_ok hr q
theorem de_cmp {op : CmpOp} {r : R2} {o : D → D → Option D} (ho : OpR X (compareOp op) r) (hr : RD X.K r o) (ha : DE X c W a f) (hb : DE X c W b g) (hm : behindInMarks op b = false) : DE X c W (.Compare a [op] [b] pos) (m2 o f g) :=
  PE.imp (pe_cmpR ho ha hb hm) fun _ _ _ q => m2_ok hr q
theorem de_ix {r : R2} {o : D → D → Option D} (ho : IxR X r) (hr : RD X.K r o) (ha : DE X c W a f) (hb : DE X c W b g) (hs : PlainIx b) : DE X c W (.Subscript a b pos) (m2 o f g) :=
  PE.imp (pe_ix ho ha hb hs) fun _ _ _ q => m2_ok hr q
end
end DL

set_option maxHeartbeats 2000000
/-! DL2: expressions: tests, and / or / not, comparisons, arithmetic, subscripts, slices, displays, calls. -/
namespace DL
open PySem PySem.Spec L2
open PyProof.Rows hiding St

section
variable {X : Cx} {c : Cst} {W : XK} {k : Nat} {e a b : Expr} {es : List Expr} {f g h : M D} {fs : M (List D)} {pos : Pos}

/-! ### tests -/
def mBool (f : M D) : M Bool := fun ρ => (f ρ).bind fun x => match x.1 with
  | .bool b => .ok (b, x.2)
  | _ => .bad
theorem tB_of {K : PySem.W.Frag} {σ : St} {H : Hp} {Q : Bool → Hp → Prop} (q : tB' K c W (mBool f) σ H Q) : tD K c W f σ H fun x H' => ∃ b, x = .bl b ∧ Q b H' := by
  obtain ⟨P, ρ, F, G, p⟩ := q
  refine ⟨P, ρ, F, G, p.bind.mono fun d ρ1 F1 H1 G1 l1 p1 v dv => ?_⟩
  cases dv with
  | bl b => exact ⟨b, rfl, p1.ok G1⟩
  | _ => exact p1.elim
theorem dt_val (h : DE X c W e f) (he : ∀ whole, isTrue e X.env whole = (do let v ← whole; standAt e.pos; holding [v] (truthy v)) := by intro _; rfl) : DT X c W e (mBool f) :=
  PT.imp (pt_val h he) fun _ _ _ q => tB_of q
theorem dt_cmp {op : CmpOp} {r : R2} {o : D → D → Option D} (ho : OpR X (compareOp op) r) (hr : RD X.K r o) (ha : DE X c W a f) (hb : DE X c W b g) (hm : behindInMarks op b = false) : DT X c W (.Compare a [op] [b] pos) (mBool (m2 o f g)) :=
  PT.imp (pt_cmpR ho ha hb hm) fun _ _ _ q => m2_ok hr (tB_of q)
def mNotB (f : M Bool) : M Bool := fun ρ => (f ρ).bind fun x => .ok (!x.1, x.2)
theorem dt_not {f : M Bool} (h : DT X c W a f) : DT X c W (.UnaryOp .Not a pos) (mNotB f) := PT.imp (pt_not h) fun _ _ _ ⟨P, ρ, F, G, p⟩ =>
  ⟨P, ρ, F, G, p.bind.mono fun _ _ _ _ G1 _ p1 => p1.ok G1⟩
def mAndB (f g : M Bool) : M Bool := fun ρ => (f ρ).bind fun x => if x.1 = true then g x.2 else .ok (false, x.2)
def mOrB (f g : M Bool) : M Bool := fun ρ => (f ρ).bind fun x => if x.1 = true then .ok (true, x.2) else g x.2
theorem PW.imp {t t' : TT} (h : PW X e t) (m : ∀ σ H Q, t' σ H Q → t σ H Q) : PW X e t' := ⟨fun wh pins s σ H Q I q => h.run wh pins s σ H Q I (m σ H Q q)⟩
abbrev DW (X : Cx) (c : Cst) (W : XK) (e : Expr) (f : M Bool) : Prop := PW X e (tB' X.K c W f)
theorem dw_and1 {f : M Bool} (h : DT X c W a f) : DW X c W (.BoolOp .And [a] pos) f := pw_and1 h
theorem dw_or1 {f : M Bool} (h : DT X c W a f) : DW X c W (.BoolOp .Or [a] pos) f := pw_or1 h
theorem dw_and {f g : M Bool} {rest : List Expr} (ha : DT X c W a f) (hb : DW X c W (.BoolOp .And (b :: rest) pos) g) : DW X c W (.BoolOp .And (a :: b :: rest) pos) (mAndB f g) := PW.imp (pw_and ha hb) fun σ H Q ⟨P, ρ, F, G, p⟩ =>
  ⟨P, ρ, F, G, p.bind.mono fun x ρ1 F1 H1 G1 _ p1 => by
    cases x with
    | true => exact ⟨P, ρ1, F1, G1, p1⟩
    | false => exact p1.ok G1⟩
theorem dw_or {f g : M Bool} {rest : List Expr} (ha : DT X c W a f) (hb : DW X c W (.BoolOp .Or (b :: rest) pos) g) : DW X c W (.BoolOp .Or (a :: b :: rest) pos) (mOrB f g) := PW.imp (pw_or ha hb) fun σ H Q ⟨P, ρ, F, G, p⟩ =>
  ⟨P, ρ, F, G, p.bind.mono fun x ρ1 F1 H1 G1 _ p1 => by
    cases x with
    | true => exact p1.ok G1
    | false => exact ⟨P, ρ1, F1, G1, p1⟩⟩
theorem DW.pt {f : M Bool} (h : DW X c W e f) : DT X c W e f := PW.pt h

/-! ### and, or, not as values -/
def mAnd (f g : M D) : M D := fun ρ => (f ρ).bind fun x => match x.1 with
  | .bool true => g x.2
  | .bool false => .ok (.bool false, x.2)
  | _ => .bad
def mOr (f g : M D) : M D := fun ρ => (f ρ).bind fun x => match x.1 with
  | .bool true => .ok (.bool true, x.2)
  | .bool false => g x.2
  | _ => .bad
def mNot (f : M D) : M D := fun ρ => (f ρ).bind fun x => match x.1 with
  | .bool b => .ok (.bool (!b), x.2)
  | _ => .bad
theorem de_one {op : BoolOp} (h : DE X c W a f) : DE X c W (.BoolOp op [a] pos) f := pe_one h
theorem de_and {rest : List Expr} (ha : DE X c W a f) (hb : DE X c W (.BoolOp .And (b :: rest) pos) g) : DE X c W (.BoolOp .And (a :: b :: rest) pos) (mAnd f g) := PE.imp (pe_and ha hb) fun σ H Q ⟨P, ρ, F, G, p⟩ =>
  ⟨P, ρ, F, G, p.bind.mono fun d ρ1 F1 H1 G1 _ p1 v dv => by
    cases dv with
    | bl b =>
      cases b with
      | true => exact ⟨true, rfl, P, ρ1, F1, G1, p1⟩
      | false => exact ⟨false, rfl, p1.ok G1 _ (.bl false)⟩
    | _ => exact p1.elim⟩
theorem de_or {rest : List Expr} (ha : DE X c W a f) (hb : DE X c W (.BoolOp .Or (b :: rest) pos) g) : DE X c W (.BoolOp .Or (a :: b :: rest) pos) (mOr f g) := PE.imp (pe_or ha hb) fun σ H Q ⟨P, ρ, F, G, p⟩ =>
  ⟨P, ρ, F, G, p.bind.mono fun d ρ1 F1 H1 G1 _ p1 v dv => by
    cases dv with
    | bl b =>
      cases b with
      | false => exact ⟨false, rfl, P, ρ1, F1, G1, p1⟩
      | true => exact ⟨true, rfl, p1.ok G1 _ (.bl true)⟩
    | _ => exact p1.elim⟩
theorem de_not (ha : DE X c W a f) : DE X c W (.UnaryOp .Not a pos) (mNot f) := PE.imp (pe_not ha) fun σ H Q ⟨P, ρ, F, G, p⟩ =>
  ⟨P, ρ, F, G, p.bind.mono fun d ρ1 F1 H1 G1 _ p1 v dv => by
    cases dv with
    | bl b => exact ⟨b, rfl, p1.ok G1 _ (.bl _)⟩
    | _ => exact p1.elim⟩
def mIf (t : M Bool) (f g : M D) : M D := fun ρ => (t ρ).bind fun x => if x.1 = true then f x.2 else g x.2
theorem de_if {t : M Bool} (ht : DT X c W e t) (ha : DE X c W a f) (hb : DE X c W b g) : DE X c W (.IfExp e a b pos) (mIf t f g) := PE.imp (pe_ifExp ht ha hb) fun σ H Q ⟨P, ρ, F, G, p⟩ =>
  ⟨P, ρ, F, G, p.bind.mono fun x ρ1 F1 H1 G1 _ p1 => by
    cases x with
    | true => exact ⟨P, ρ1, F1, G1, p1⟩
    | false => exact ⟨P, ρ1, F1, G1, p1⟩⟩

/-! ### a chain of two comparisons -/
def mChain (o o' : D → D → Option D) (f g h : M D) : M D := fun ρ => (f ρ).bind fun x => (g x.2).bind fun y => (ofO (o x.1 y.1)).bind fun z => match z with
  | .bool true => (h y.2).bind fun u => (ofO (o' y.1 u.1)).map fun z => (z, u.2)
  | .bool false => .ok (.bool false, y.2)
  | _ => .bad
theorem ofO_inv {α : Type} {x : Option α} {k : α → Res (D × Env)} {P F : Hp} {σ : St} {K : PySem.W.Frag} {R : D → Env → Hp → Hp → Prop} (h : Post K c W P σ F ((ofO x).bind k) R) : ∃ a, x = some a ∧ Post K c W P σ F (k a) R := by
  cases x with
  | none => exact h.elim
  | some a => exact ⟨a, rfl, h⟩
theorem Post.at {K : PySem.W.Frag} {P F F' : Hp} {σ : St} {α : Type} {r : Res (α × Env)} {R : α → Env → Hp → Hp → Prop} (l : le F F') (h : Post K c W P σ F r R) : Post K c W P σ F' r R := by
  cases r with
  | bad => exact h
  | exc x => exact fun H' l1 l2 => h H' (l.trans l1) l2
  | ok a =>
    obtain ⟨a, ρ'⟩ := a
    exact fun F'' H'' G l' => h F'' H'' G (l.trans l')
theorem tChain_ok {r r' : R2} {o o' : D → D → Option D} (hr : RD X.K r o) (hr' : RD X.K r' o') {σ : St} {H : Hp} {Q : VK} (q : tD X.K c W (mChain o o' f g h) σ H Q) :
    tChain r r' (tD X.K c W f) (tD X.K c W g) (tD X.K c W h) σ H Q := by
  obtain ⟨P, ρ, F, G, p⟩ := q
  refine ⟨P, ρ, F, G, p.bind.mono fun d ρ1 F1 H1 G1 l1 p1 v dv => ⟨P, ρ1, F1, G1, p1.bind.mono fun e ρ2 F2 H2 G2 l2 p2 u du => ?_⟩⟩
  obtain ⟨z, hz, p3⟩ := ofO_inv p2
  refine hr F2 H2 v u d e z _ G2.le (Dv.le l2 dv) du hz fun w F' H' g' dw => ?_
  have G3 := G2.grow g'
  have p4 := p3.at g'.ff
  cases dw with
  | bl b =>
    refine ⟨b, rfl, ?_⟩
    cases b with
    | false =>
      rw [if_neg Bool.false_ne_true]
      exact p4.ok G3 _ (.bl _)
    | true =>
      rw [if_pos rfl]
      refine ⟨P, ρ2, F', G3, p4.bind.mono fun i ρ4 F4 H4 G4 l4 p5 w' dw' => ?_⟩
      obtain ⟨z2, hz2, p6⟩ := p5.lift
      exact hr' F4 H4 u w' e i z2 Q G4.le (Dv.le (g'.ff.trans l4) du) dw' hz2 fun w2 F5 H5 g5 dw2 => p6 F5 H5 (G4.grow g5) g5.ff w2 dw2
  | _ => exact p4.elim
theorem de_chain {op op' : CmpOp} {r r' : R2} {o o' : D → D → Option D} {x y z : Expr} (ho : OpR X (compareOp op) r) (hr : RD X.K r o) (ho' : OpR X (compareOp op') r') (hr' : RD X.K r' o') (ha : DE X c W x f) (hb : DE X c W y g) (hc : DE X c W z h)
    (hm : lastMarks [op, op'] [y, z] = false := by with_unfolding_all rfl) : DE X c W (.Compare x [op, op'] [y, z] pos) (mChain o o' f g h) := PE.imp (pe_chain ho ho' ha hb hc hm) fun _ _ _ q => tChain_ok hr hr' q
theorem dt_chain {op op' : CmpOp} {r r' : R2} {o o' : D → D → Option D} {x y z : Expr} (ho : OpR X (compareOp op) r) (hr : RD X.K r o) (ho' : OpR X (compareOp op') r') (hr' : RD X.K r' o') (ha : DE X c W x f) (hb : DE X c W y g) (hc : DE X c W z h)
    (hm : lastMarks [op, op'] [y, z] = false := by with_unfolding_all rfl) : DT X c W (.Compare x [op, op'] [y, z] pos) (mBool (mChain o o' f g h)) := PT.imp (pt_chain ho ho' ha hb hc hm) fun _ _ _ q => tChain_ok hr hr' (tB_of q)

theorem Post.ite {K : PySem.W.Frag} {P F : Hp} {σ : St} {α : Type} {q : Prop} [Decidable q] {r : Res (α × Env)} {R : α → Env → Hp → Hp → Prop} (h : Post K c W P σ F (if q then r else .bad) R) : q ∧ Post K c W P σ F r R := by
  by_cases hq : q
  · rw [if_pos hq] at h; exact ⟨hq, h⟩
  · rw [if_neg hq] at h; exact h.elim

/-! ### arguments, displays -/
def mNil : M (List D) := fun ρ => .ok ([], ρ)
def mCons (f : M D) (fs : M (List D)) : M (List D) := fun ρ => (f ρ).bind fun x => (fs x.2).bind fun xs => .ok (x.1 :: xs.1, xs.2)
theorem da_nil : DA X c W [] mNil := PA.imp pa_nil fun σ H Q ⟨P, ρ, F, G, p⟩ => p.ok G [] .nil
theorem da_cons (ha : DE X c W e f) (hr : DA X c W es fs) (hs : starEach (e :: es) X.env = (false, eval e X.env) :: starEach es X.env := by rfl) : DA X c W (e :: es) (mCons f fs) := PA.imp (pa_cons ha hr hs) fun σ H Q ⟨P, ρ, F, G, p⟩ =>
  ⟨P, ρ, F, G, p.bind.mono fun d ρ1 F1 H1 G1 l1 p1 v dv => ⟨P, ρ1, F1, G1, p1.bind.mono fun ds ρ2 F2 H2 G2 l2 p2 vs dvs => p2.ok G2 _ (.cons (Dv.le l2 dv) dvs)⟩⟩
/-- what a display's or a call's length is bounded by -/
def lim : Nat := 1000000
theorem lim_line {n : Nat} (h : n ≤ lim) : n ≤ sizeLine := Nat.le_trans h (by decide)
theorem lim_line' {n : Nat} (h : n < lim) : n < sizeLine := Nat.lt_of_lt_of_le h (by decide)
def mTup (fs : M (List D)) : M D := fun ρ => (fs ρ).bind fun x => if x.1.length ≤ lim then .ok (.tuple x.1, x.2) else .bad
theorem de_tup {x1 : Nat} (h : DA X c W es fs) : DE X c W (.Tuple es x1 pos) (mTup fs) := PE.imp (pe_tup h) fun σ H Q ⟨P, ρ, F, G, p⟩ =>
  ⟨P, ρ, F, G, p.bind.mono fun ds ρ1 F1 H1 G1 l1 p1 vs dvs => by
    obtain ⟨hl, p1⟩ := Post.ite p1
    refine ⟨lim_line (by rw [dvs.length]; exact hl), fun q hq => ?_⟩
    have gr : Grow F1 H1 (upd F1 q (.tup vs)) (upd H1 q (.tup vs)) := Grow.lay G1.le hq
    exact p1 _ _ (G1.grow gr) gr.ff _ (.tup (SqT.of upd_same) (DvAll.le gr.ff dvs))⟩

/-! ### lists that are new: fresh at their address, owned by nobody -/
def tFr (K : PySem.W.Frag) (c : Cst) (W : XK) (f : M (List D)) : TE := fun σ H Q => ∃ P ρ F, Good K c P σ ρ F H ∧ Post K c W P σ F (f ρ) fun xs ρ' F' H' => ∀ p vs H2, Good K c P σ ρ' F' H2 → P p = none → Good K c (upd P p (.lst vs)) σ ρ' F' H2 → DvAll K F' vs xs → Q (.ref p) H2
abbrev DF (X : Cx) (c : Cst) (W : XK) (e : Expr) (f : M (List D)) : Prop := PE X e (tFr X.K c W f)
theorem SlotOk.side {K : PySem.W.Frag} {P P' F F' H H' : Hp} {v : Option V} (lF : DL.le F F') {s : Slot} (h : SlotOk K c P F H v s) (hh : ∀ a o, s.mutb = true → v = some (.ref a) → H a = some o → H' a = some o)
    (hf : ∀ a, s.mutb = true → v = some (.ref a) → F a = none → F' a = none) (hp : ∀ a, s.mutb = true → v = some (.ref a) → P a = none → P' a = none) : SlotOk K c P' F' H' v s := by
  cases s with
  | un => trivial
  | d x => obtain ⟨u, e, q⟩ := h; exact ⟨u, e, Dv.le lF q⟩
  | l xs => obtain ⟨a, vs, e, q, f, p, r⟩ := h; exact ⟨a, vs, e, hh a _ rfl e q, hf a rfl e f, hp a rfl e p, DvAll.le lF r⟩
  | m kvs => obtain ⟨a, e, q, f, p⟩ := h; exact ⟨a, e, q.le lF fun o z => hh a _ rfl e z, hf a rfl e f, hp a rfl e p⟩
  | k kvs => obtain ⟨a, e, q, f, p⟩ := h; exact ⟨a, e, q.le lF fun o z => hh a _ rfl e z, hf a rfl e f, hp a rfl e p⟩
  | x nm => obtain ⟨a, e, q⟩ := h; exact ⟨a, e, q⟩
  | f kvs => obtain ⟨a, e, q⟩ := h; exact ⟨a, e, q.le lF fun o z => lF _ _ z⟩
  | s ns => obtain ⟨a, e, q⟩ := h; exact ⟨a, e, SqL.le q lF⟩
  | t n => obtain ⟨a, e1, e, q, f, p⟩ := h; exact ⟨a, e1, e, hh a _ rfl e q, hf a rfl e f, hp a rfl e p⟩
theorem SlotOk.has {K : PySem.W.Frag} {P F H : Hp} {v : Option V} {a : Addr} {s : Slot} (h : SlotOk K c P F H v s) (hm : s.mutb = true) (e' : v = some (.ref a)) : (∃ o, H a = some o) ∧ F a = none ∧ P a = none := by
  cases s with
  | un => cases hm
  | d x => cases hm
  | s ns => cases hm
  | l xs => obtain ⟨b, vs, e, q, f, p, r⟩ := h; rw [e] at e'; cases e'; exact ⟨⟨_, q⟩, f, p⟩
  | m kvs => obtain ⟨b, e, q, f, p⟩ := h; rw [e] at e'; cases e'; exact ⟨q.at, f, p⟩
  | k kvs => obtain ⟨b, e, q, f, p⟩ := h; rw [e] at e'; cases e'; exact ⟨q.at, f, p⟩
  | x nm => cases hm
  | f kvs => cases hm
  | t n => obtain ⟨b, e1, e, q, f, p⟩ := h; rw [e] at e'; cases e'; exact ⟨⟨_, q⟩, f, p⟩
/-- a new object, pinned -/
theorem Good.pinNew {K : PySem.W.Frag} {P : Hp} {σ : St} {ρ : Env} {F H : Hp} {p : Addr} {o : HO} (G : Good K c P σ ρ F H) (hn : H p = none) : Good K c (upd P p o) σ ρ F (upd H p o) ∧ Good K c P σ ρ F (upd H p o) ∧ P p = none := by
  have gr : Grow F H F (upd H p o) := Grow.side G.le hn
  have G' := G.grow gr
  have pp : P p = none := by
    cases z : P p with
    | none => rfl
    | some u => have := (G.pin p u z).1; rw [hn] at this; cases this
  refine ⟨⟨G'.le, fun x u z => ?_, G'.len, fun i s hi => ?_, G'.ap⟩, G', pp⟩
  · by_cases hx : x = p
    · subst hx; rw [upd_same] at z; cases z; exact ⟨upd_same, G.le.none hn⟩
    · rw [upd_ne hx] at z; exact G'.pin x u z
  · refine SlotOk.side le.refl (G'.sl i s hi) (fun _ _ _ _ h => h) (fun _ _ _ h => h) fun a hm e hp => ?_
    obtain ⟨⟨o', ho⟩, _, _⟩ := SlotOk.has (G.sl i s hi) hm e
    rw [upd_ne (ne_of_none ho hn)]; exact hp
/-- what is pinned is frozen -/
theorem Good.unpin {K : PySem.W.Frag} {P : Hp} {σ : St} {ρ : Env} {F H : Hp} {p : Addr} {vs : List V} {xs : List D} (G : Good K c (upd P p (.lst vs)) σ ρ F H) (hp : P p = none) (dv : DvAll K F vs xs) :
    Good K c P σ ρ (upd F p (.lst vs)) H ∧ DL.le F (upd F p (.lst vs)) ∧ Dv K (upd F p (.lst vs)) (.ref p) (.list xs) := by
  obtain ⟨h1, h2⟩ := G.pin p _ upd_same
  have lF : DL.le F (upd F p (.lst vs)) := fun x o z => by rw [upd_ne (ne_of_none z h2)]; exact z
  refine ⟨⟨fun x o z => ?_, fun x o z => ?_, G.len, fun i s hi => ?_, G.ap⟩, lF, .lst upd_same (DvAll.le lF dv)⟩
  · by_cases hx : x = p
    · subst hx; rw [upd_same] at z; cases z; exact h1
    · rw [upd_ne hx] at z; exact G.le x o z
  · have hx : x ≠ p := ne_of_none z hp
    have q := G.pin x o (by rw [upd_ne hx]; exact z)
    exact ⟨q.1, by rw [upd_ne hx]; exact q.2⟩
  · have z := G.sl i s hi
    have ne : ∀ a, s.mutb = true → (σ[i]?).join = some (.ref a) → a ≠ p := fun a hm e hap => by
      have := (SlotOk.has z hm e).2.2
      rw [hap, upd_same] at this; cases this
    exact SlotOk.side lF z (fun _ _ _ _ h => h) (fun a hm e f => by rw [upd_ne (ne a hm e)]; exact f) (fun a hm e q => by rw [upd_ne (ne a hm e)] at q; exact q)
def mFr (f : M (List D)) : M D := fun ρ => (f ρ).bind fun x => .ok (.list x.1, x.2)
theorem de_fr {f : M (List D)} (h : DF X c W e f) : DE X c W e (mFr f) := PE.imp h fun σ H Q ⟨P, ρ, F, G, p⟩ =>
  ⟨P, ρ, F, G, p.bind.mono fun xs ρ1 F1 H1 G1 l1 p1 q vs H2 G2 hp Gp dv => by
    obtain ⟨G3, l3, d3⟩ := Gp.unpin hp dv
    exact p1 _ _ G3 l3 _ d3⟩
def mLst (fs : M (List D)) : M (List D) := fun ρ => (fs ρ).bind fun x => if x.1.length ≤ lim then .ok x else .bad
theorem df_lst (h : DA X c W es fs) : DF X c W (.List es pos) (mLst fs) := PE.imp (pe_lst h) fun σ H Q ⟨P, ρ, F, G, p⟩ =>
  ⟨P, ρ, F, G, p.bind.mono fun ds ρ1 F1 H1 G1 l1 p1 vs dvs => by
    obtain ⟨hl, p1⟩ := Post.ite p1
    refine ⟨lim_line (by rw [dvs.length]; exact hl), fun q hq => ?_⟩
    obtain ⟨g1, g2, g3⟩ := G1.pinNew (o := .lst vs) hq
    exact p1.ok G1 q vs _ g2 g3 g1 dvs⟩

/-! ### calls -/
/-- what a call's rule says, by data -/
def RA (K : PySem.W.Frag) (r : List V → Hp → VK → Prop) (g : List D → Option D) : Prop := ∀ (F H : Hp) (vs : List V) (ds : List D) (z : D) (Q : VK), le F H → DvAll K F vs ds → g ds = some z → (∀ w F' H', Grow F H F' H' → Dv K F' w z → Q w H') → r vs H Q
def mCall (g : List D → Option D) (fs : M (List D)) : M D := fun ρ => (fs ρ).bind fun x => (ofO (g x.1)).map fun z => (z, x.2)
theorem mCall_ok {r : List V → Hp → VK → Prop} {o : List D → Option D} (hr : RA X.K r o) {σ : St} {H : Hp} {Q : VK} (q : tD X.K c W (mCall o fs) σ H Q) : tDs X.K c W fs σ H fun vs H' => r vs H' Q := by
  obtain ⟨P, ρ, F, G, p⟩ := q
  refine ⟨P, ρ, F, G, p.bind.mono fun ds ρ1 F1 H1 G1 l1 p1 vs dvs => ?_⟩
  obtain ⟨z, hz, p2⟩ := p1.lift
  exact hr F1 H1 vs ds z Q G1.le dvs hz fun w F' H' g' dw => p2 F' H' (G1.grow g') g'.ff w dw
theorem de_callB {r : List V → Hp → VK → Prop} {o : List D → Option D} {id : String} {x : Str} {p : Pos} (hc : CallR X (.builtin id) r) (hr : RA X.K r o) (hg : Gl X x) (hm : X.mg x = none) (hv : bootBuiltins x = some (.builtin id)) (ha : DA X c W (e :: es) fs)
    (hn : x ≠ "__name__" := by decide) (hdb : (x == ("__debug__" : Str)) = false := by decide) (he : starEach (e :: es) X.env = (false, eval e X.env) :: starEach es X.env := by rfl) (hpl : (backTo pos (starEach es X.env)).any (·.1) = false := by rfl) :
    DE X c W (.Call (.Name x p) (e :: es) [] pos) (mCall o fs) := PE.imp (pe_callB hc hg hm hv ha hn hdb he hpl) fun _ _ _ q => mCall_ok hr q
theorem de_callTy {r : List V → Hp → VK → Prop} {o : List D → Option D} {T : String} {x : Str} {p : Pos} (hc : CallR X (.type T) r) (hr : RA X.K r o) (hg : Gl X x) (hm : X.mg x = none) (hv : bootBuiltins x = some (.type T)) (ha : DA X c W (e :: es) fs)
    (hn : x ≠ "__name__" := by decide) (hdb : (x == ("__debug__" : Str)) = false := by decide) (he : starEach (e :: es) X.env = (false, eval e X.env) :: starEach es X.env := by rfl) (hpl : (backTo pos (starEach es X.env)).any (·.1) = false := by rfl) :
    DE X c W (.Call (.Name x p) (e :: es) [] pos) (mCall o fs) := PE.imp (pe_callTy hc hg hm hv ha hn hdb he hpl) fun _ _ _ q => mCall_ok hr q

/-- the promise of a def of data: g tells its end -/
def spD (K : PySem.W.Frag) (n : Nat) (g : List D → Res D) : Sp := fun vs H Q E => ∃ F ds, le F H ∧ DvAll K F vs ds ∧ ds.length = n ∧ match g ds with
  | .ok d => ∀ v F' H', Grow F H F' H' → Dv K F' v d → Q v H'
  | .exc x => ∀ H', le H H' → E (.ref (He.ga K x)) none H'
  | .bad => False
def mDef (n : Nat) (g : List D → Res D) (fs : M (List D)) : M D := fun ρ => (fs ρ).bind fun x => if x.1.length = n then (g x.1).map fun z => (z, x.2) else .bad
theorem mDef_ok {n : Nat} {o : List D → Res D} {σ : St} {H : Hp} {Q : VK} (q : tD X.K c W (mDef n o fs) σ H Q) : tDs X.K c W fs σ H fun vs H' => spD X.K n o vs H' Q W := by
  obtain ⟨P, ρ, F, G, p⟩ := q
  refine ⟨P, ρ, F, G, p.bind.mono fun ds ρ1 F1 H1 G1 l1 p1 vs dvs => ⟨F1, ds, G1.le, dvs, ?_⟩⟩
  obtain ⟨hn, p1⟩ := Post.ite p1
  refine ⟨hn, ?_⟩
  cases ho : o ds with
  | bad => rw [ho] at p1; exact p1.elim
  | ok d =>
    rw [ho] at p1
    exact fun v F' H' g' dv => p1 F' H' (G1.grow g') g'.ff v dv
  | exc x =>
    rw [ho] at p1
    exact fun H' l => p1 H' (G1.le.trans l) fun a o z => l a o (G1.pin a o z).1
/-- a def of the text is called -/
theorem de_call {n j : Nat} {o : List D → Res D} {fa : Addr} {fd : FuncData} {ps : List Str} {x : Str} {p : Pos} (O : Ok X c W k) (hF : FnOk X.prog X.w X.K X.mg X.base (L2N.CX X.prog X.w) j fa fd ps (spD X.K n o)) (hj : j ≤ k) (hg : Gl X x) (hm : X.mg x = some (.ref fa))
    (hk : PySem.W.keepIn X.K (.ref fa) = true) (hb : Binds X.K fd ps []) (ha : DA X c W (e :: es) fs) (hdb : (x == ("__debug__" : Str)) = false := by decide) (he : starEach (e :: es) X.env = (false, eval e X.env) :: starEach es X.env := by rfl)
    (hpl : (backTo pos (starEach es X.env)).any (·.1) = false := by rfl) : DE X c W (.Call (.Name x p) (e :: es) [] pos) (mDef n o fs) :=
  PE.imp (pe_call hF (O.room.mono hj) hg hm hk hb .nil O.pass ha hdb he hpl) fun σ H Q q => by
    obtain ⟨P, ρ, F, G, p⟩ := mDef_ok q
    exact ⟨P, ρ, F, G, p.mono fun ds ρ1 F1 H1 G1 l1 p1 vs dvs => by
      have z := p1 vs dvs
      show spD X.K n o (vs ++ []) H1 Q W
      rw [List.append_nil]
      exact z⟩
end
end DL

set_option maxHeartbeats 2000000
/-! DL3: operations by values: equality, order, arithmetic, subscripts, slices, lengths, kinds. -/
namespace DL
open PySem PySem.Spec L2
open PyProof.Rows hiding St

/-! ### data without dicts -/
section
variable {K : PySem.W.Frag} {H : Hp}
mutual
theorem Dv.plain : ∀ {v : V} {d : D}, Dv K H v d → d.plain = true
  | _, _, .non => rfl
  | _, _, .bl _ => rfl
  | _, _, .int _ => rfl
  | _, _, .str _ => rfl
  | _, _, .lst _ a => DvAll.plain a
  | _, _, .tup _ a => DvAll.plain a
theorem DvAll.plain : ∀ {vs : List V} {ds : List D}, DvAll K H vs ds → PyData.plainAll ds = true
  | _, _, .nil => rfl
  | _, _, .cons h t => by simp [PyData.plainAll, Dv.plain h, DvAll.plain t]
end
theorem Dv.bl_inv {v : V} {b : Bool} (h : Dv K H v (.bool b)) : v = .bl b := by cases h; rfl
theorem Dv.int_inv {v : V} {i : Int} (h : Dv K H v (.int i)) : v = .int i := by cases h; rfl
theorem Dv.str_inv {v : V} {x : Str} (h : Dv K H v (.str x)) : v = .str x := by cases h; rfl
theorem Dv.non_inv {v : V} (h : Dv K H v .none) : v = .non := by cases h; rfl
theorem Dv.lst_inv {v : V} {ds : List D} (h : Dv K H v (.list ds)) : ∃ a xs, v = .ref a ∧ H a = some (.lst xs) ∧ DvAll K H xs ds := by cases h with | lst h1 h2 => exact ⟨_, _, rfl, h1, h2⟩
theorem Dv.tup_inv {v : V} {ds : List D} (h : Dv K H v (.tuple ds)) : ∃ a xs, v = .ref a ∧ SqT K H a xs ∧ DvAll K H xs ds := by cases h with | tup h1 h2 => exact ⟨_, _, rfl, h1, h2⟩
theorem DvAll.one {vs : List V} {d : D} (h : DvAll K H vs [d]) : ∃ v, vs = [v] ∧ Dv K H v d := by
  cases h with
  | cons h1 h2 => cases h2; exact ⟨_, rfl, h1⟩
theorem DvAll.two {vs : List V} {d e : D} (h : DvAll K H vs [d, e]) : ∃ v u, vs = [v, u] ∧ Dv K H v d ∧ Dv K H u e := by
  cases h with
  | cons h1 h2 => obtain ⟨u, rfl, h3⟩ := DvAll.one h2; exact ⟨_, _, rfl, h1, h3⟩
theorem DvAll.bls : ∀ {vs : List V} {bs : List Bool}, DvAll K H vs (bs.map PyData.bool) → vs = bs.map V.bl
  | _, [], h => by cases h; rfl
  | _, b :: bs, h => by
    cases h with
    | cons h1 h2 => rw [Dv.bl_inv h1, DvAll.bls h2]; rfl
theorem DvAll.ints : ∀ {vs : List V} {ns : List Int}, DvAll K H vs (ns.map PyData.int) → vs = ns.map V.int
  | _, [], h => by cases h; rfl
  | _, b :: bs, h => by
    cases h with
    | cons h1 h2 => rw [Dv.int_inv h1, DvAll.ints h2]; rfl
theorem DvAll.strs : ∀ {vs : List V} {ns : List Str}, DvAll K H vs (ns.map PyData.str) → vs = ns.map V.str
  | _, [], h => by cases h; rfl
  | _, b :: bs, h => by
    cases h with
    | cons h1 h2 => rw [Dv.str_inv h1, DvAll.strs h2]; rfl
end
/-- as ints, truth values, texts, if all are -/
def asInts : List D → Option (List Int)
  | [] => some []
  | .int i :: r => (asInts r).map (i :: ·)
  | _ => none
theorem asInts_inv : ∀ {ds : List D} {ns : List Int}, asInts ds = some ns → ds = ns.map PyData.int
  | [], ns, h => by cases h; rfl
  | .int i :: r, ns, h => by
    cases e : asInts r with
    | none => simp [asInts, e] at h
    | some ms => simp [asInts, e] at h; subst h; rw [asInts_inv e]; rfl
  | .none :: r, ns, h => by cases h
  | .bool _ :: r, ns, h => by cases h
  | .str _ :: r, ns, h => by cases h
  | .list _ :: r, ns, h => by cases h
  | .tuple _ :: r, ns, h => by cases h
  | .dict _ :: r, ns, h => by cases h
@[simp] theorem asInts_map (ns : List Int) : asInts (ns.map PyData.int) = some ns := by
  induction ns with
  | nil => rfl
  | cons n r ih => simp [asInts, ih]
def asBls : List D → Option (List Bool)
  | [] => some []
  | .bool i :: r => (asBls r).map (i :: ·)
  | _ => none
theorem asBls_inv : ∀ {ds : List D} {ns : List Bool}, asBls ds = some ns → ds = ns.map PyData.bool
  | [], ns, h => by cases h; rfl
  | .bool i :: r, ns, h => by
    cases e : asBls r with
    | none => simp [asBls, e] at h
    | some ms => simp [asBls, e] at h; subst h; rw [asBls_inv e]; rfl
  | .none :: r, ns, h => by cases h
  | .int _ :: r, ns, h => by cases h
  | .str _ :: r, ns, h => by cases h
  | .list _ :: r, ns, h => by cases h
  | .tuple _ :: r, ns, h => by cases h
  | .dict _ :: r, ns, h => by cases h
@[simp] theorem asBls_map (ns : List Bool) : asBls (ns.map PyData.bool) = some ns := by
  induction ns with
  | nil => rfl
  | cons n r ih => simp [asBls, ih]
def asStrs : List D → Option (List Str)
  | [] => some []
  | .str i :: r => (asStrs r).map (i :: ·)
  | _ => none
theorem asStrs_inv : ∀ {ds : List D} {ns : List Str}, asStrs ds = some ns → ds = ns.map PyData.str
  | [], ns, h => by cases h; rfl
  | .str i :: r, ns, h => by
    cases e : asStrs r with
    | none => simp [asStrs, e] at h
    | some ms => simp [asStrs, e] at h; subst h; rw [asStrs_inv e]; rfl
  | .none :: r, ns, h => by cases h
  | .int _ :: r, ns, h => by cases h
  | .bool _ :: r, ns, h => by cases h
  | .list _ :: r, ns, h => by cases h
  | .tuple _ :: r, ns, h => by cases h
  | .dict _ :: r, ns, h => by cases h
@[simp] theorem asStrs_map (ns : List Str) : asStrs (ns.map PyData.str) = some ns := by
  induction ns with
  | nil => rfl
  | cons n r ih => simp [asStrs, ih]

section
variable {X : Cx} {c : Cst} {W : XK} {k : Nat}
theorem OpR.or {f : Value → Value → Sem Value} {r r' : R2} (h : OpR X f r) (h' : OpR X f r') : OpR X f fun x y H Q => r x y H Q ∨ r' x y H Q := by
  intro pins s σ H x y v u Q I rx ry q
  rcases q with q | q
  · exact h pins s σ H x y v u Q I rx ry q
  · exact h' pins s σ H x y v u Q I rx ry q
theorem CallR.or {f : Value} {r r' : List V → Hp → VK → Prop} (h : CallR X f r) (h' : CallR X f r') : CallR X f fun xs H Q => r xs H Q ∨ r' xs H Q := by
  intro pins s σ H xs us Q I rx q
  rcases q with q | q
  · exact h pins s σ H xs us Q I rx q
  · exact h' pins s σ H xs us Q I rx q

/-! ### == and != -/
def deep : Nat := 64
def rEqP (K : PySem.W.Frag) : R2 := fun x y H Q => ∃ d e, Dp K H x d ∧ Dp K H y e ∧ d.plain = true ∧ e.plain = true ∧ min d.depth e.depth ≤ deep ∧ Q (.bl (PyData.eqv d e)) H
def rNeP (K : PySem.W.Frag) : R2 := fun x y H Q => ∃ d e, Dp K H x d ∧ Dp K H y e ∧ d.plain = true ∧ e.plain = true ∧ min d.depth e.depth ≤ deep ∧ Q (.bl (!PyData.eqv d e)) H
theorem op_eqP (hu : X.A.units + 64 < cLine) : OpR X (compareOp .Eq) (rEqP X.K) := by
  intro pins s σ H x y v u Q I rx ry ⟨d, e, hd, he, pd, pe, hm, q⟩
  obtain ⟨as, r1⟩ := Dp.reads I d x v hd rx
  obtain ⟨bs, r2⟩ := Dp.reads I e y u he ry
  exact SeqAt.eq_plain r1 r2 pd pe (by unfold deep at hm; omega) ⟨.bl _, H, I, rfl, q⟩
theorem op_neP (hu : X.A.units + 64 < cLine) : OpR X (compareOp .NotEq) (rNeP X.K) := by
  intro pins s σ H x y v u Q I rx ry ⟨d, e, hd, he, pd, pe, hm, q⟩
  obtain ⟨as, r1⟩ := Dp.reads I d x v hd rx
  obtain ⟨bs, r2⟩ := Dp.reads I e y u he ry
  exact SeqAt.ne_plain r1 r2 pd pe (by unfold deep at hm; omega) ⟨.bl _, H, I, rfl, q⟩
theorem Dv.mono {K : PySem.W.Frag} {F H : Hp} {v : V} {d : D} (h : Dv K F v d) (l : DL.le F H) : Dp K H v d := Dv.dp (Dv.le l h)
def oEq (d e : D) : Option D := if min d.depth e.depth ≤ deep then some (.bool (PyData.eqv d e)) else none
def oNe (d e : D) : Option D := if min d.depth e.depth ≤ deep then some (.bool (!PyData.eqv d e)) else none
theorem rd_eq {K : PySem.W.Frag} : RD K (rEqP K) oEq := fun F H x y d e z Q l hx hy ho q => by
  unfold oEq at ho
  split at ho
  · cases ho
    exact ⟨d, e, hx.mono l, hy.mono l, hx.plain, hy.plain, by assumption, q _ _ _ (Grow.refl l) (.bl _)⟩
  · cases ho
theorem rd_ne {K : PySem.W.Frag} : RD K (rNeP K) oNe := fun F H x y d e z Q l hx hy ho q => by
  unfold oNe at ho
  split at ho
  · cases ho
    exact ⟨d, e, hx.mono l, hy.mono l, hx.plain, hy.plain, by assumption, q _ _ _ (Grow.refl l) (.bl _)⟩
  · cases ho

/-! ### is None, is not None -/
def oIs (d e : D) : Option D := match e with
  | .none => some (.bool (match d with | .none => true | _ => false))
  | _ => none
def oIsNot (d e : D) : Option D := match e with
  | .none => some (.bool (match d with | .none => false | _ => true))
  | _ => none
theorem rd_is {K : PySem.W.Frag} : RD K (fun x y H Q => y = .non ∧ Q (.bl (decide (x = .non))) H) oIs := fun F H x y d e z Q l hx hy ho q => by
  cases hy <;> cases ho
  refine ⟨rfl, ?_⟩
  cases hx <;> exact q _ _ _ (Grow.refl l) (by first | exact .bl true | exact .bl false)
theorem rd_isNot {K : PySem.W.Frag} : RD K (fun x y H Q => y = .non ∧ Q (.bl (!decide (x = .non))) H) oIsNot := fun F H x y d e z Q l hx hy ho q => by
  cases hy <;> cases ho
  refine ⟨rfl, ?_⟩
  cases hx <;> exact q _ _ _ (Grow.refl l) (by first | exact .bl true | exact .bl false)

/-! ### order of ints -/
def oCmpI (p : Int → Int → Bool) (d e : D) : Option D := match d, e with
  | .int i, .int j => some (.bool (p i j))
  | _, _ => none
theorem rd_cmpI {K : PySem.W.Frag} (p : Int → Int → Bool) : RD K (rI0 fun i j => .bl (p i j)) (oCmpI p) := fun F H x y d e z Q l hx hy ho q => by
  cases hx <;> cases hy <;> cases ho
  exact ⟨_, _, rfl, rfl, q _ _ _ (Grow.refl l) (.bl _)⟩

/-! ### + -/
def rAddD (K : PySem.W.Frag) : R2 := fun x y H Q => ((rI0 (fun i j => .int (i + j)) x y H Q ∨ (∃ i j, x = .str i ∧ y = .str j ∧ i.length + j.length ≤ sizeLine ∧ Q (.str (i ++ j)) H)) ∨ rCatA K x y H Q) ∨ rCat x y H Q
theorem op_addD : OpR X (binaryOp .Add) (rAddD X.K) := OpR.or (OpR.or (OpR.or op_add op_add_str) op_catA) op_cat
def oAdd (d e : D) : Option D := match d, e with
  | .int i, .int j => some (.int (i + j))
  | .str i, .str j => if i.length + j.length ≤ lim then some (.str (i ++ j)) else none
  | .tuple xs, .tuple ys => if xs.length + ys.length ≤ lim then some (.tuple (xs ++ ys)) else none
  | .list xs, .list ys => if xs.length + ys.length ≤ lim then some (.list (xs ++ ys)) else none
  | _, _ => none
theorem rd_add {K : PySem.W.Frag} : RD K (rAddD K) oAdd := fun F H x y d e z Q l hx hy ho q => by
  cases d <;> cases e <;> (try (cases ho; done))
  · cases ho
    rw [hx.int_inv, hy.int_inv]
    exact .inl (.inl (.inl ⟨_, _, rfl, rfl, q _ _ _ (Grow.refl l) (.int _)⟩))
  · rw [hx.str_inv, hy.str_inv]
    simp only [oAdd] at ho
    split at ho
    · cases ho
      exact .inl (.inl (.inr ⟨_, _, rfl, rfl, lim_line (by assumption), q _ _ _ (Grow.refl l) (.str _)⟩))
    · cases ho
  · obtain ⟨a, xs, rfl, h1, h2⟩ := hx.lst_inv
    obtain ⟨b, ys, rfl, h3, h4⟩ := hy.lst_inv
    simp only [oAdd] at ho
    split at ho
    · cases ho
      rename_i hl
      refine .inr ⟨a, b, xs, ys, rfl, rfl, l _ _ h1, l _ _ h3, by rw [h2.length, h4.length]; exact lim_line hl, fun p hp => ?_⟩
      have g := Grow.lay (o := .lst (xs ++ ys)) l hp
      exact q _ _ _ g (.lst upd_same (DvAll.append (DvAll.le g.ff h2) (DvAll.le g.ff h4)))
    · cases ho
  · obtain ⟨a, xs, rfl, h1, h2⟩ := hx.tup_inv
    obtain ⟨b, ys, rfl, h3, h4⟩ := hy.tup_inv
    simp only [oAdd] at ho
    split at ho
    · cases ho
      rename_i hl
      refine .inl (.inr ⟨a, b, xs, ys, rfl, rfl, SqT.le h1 l, SqT.le h3 l, by rw [h2.length, h4.length]; exact lim_line hl, fun e => ?_, fun _ e => ?_, fun _ _ p hp => ?_⟩)
      · subst e
        cases h2
        exact q _ _ _ (Grow.refl l) hy
      · subst e
        cases h4
        rw [List.append_nil] at q
        exact q _ _ _ (Grow.refl l) hx
      · have g := Grow.lay (o := .tup (xs ++ ys)) l hp
        exact q _ _ _ g (.tup (SqT.of upd_same) (DvAll.append (DvAll.le g.ff h2) (DvAll.le g.ff h4)))
    · cases ho

/-! ### -, *, %, ** of ints -/
def oSub (d e : D) : Option D := match d, e with
  | .int i, .int j => some (.int (i - j))
  | _, _ => none
theorem rd_sub {K : PySem.W.Frag} : RD K (rI0 fun i j => .int (i - j)) oSub := fun F H x y d e z Q l hx hy ho q => by
  cases hx <;> cases hy <;> cases ho
  exact ⟨_, _, rfl, rfl, q _ _ _ (Grow.refl l) (.int _)⟩
def oMod (d e : D) : Option D := match d, e with
  | .int i, .int j => if 0 < j then some (.int (i % j)) else none
  | _, _ => none
theorem rd_mod {K : PySem.W.Frag} : RD K (rI (fun _ j => 0 < j) fun i j => .int (i % j)) oMod := fun F H x y d e z Q l hx hy ho q => by
  cases hx <;> cases hy <;> (try (cases ho; done))
  simp only [oMod] at ho
  split at ho
  · cases ho
    exact ⟨_, _, rfl, rfl, by assumption, q _ _ _ (Grow.refl l) (.int _)⟩
  · cases ho
noncomputable def powOk (i j : Int) : Bool := gd (0 ≤ j ∧ j ≤ 1000000 ∧ i.natAbs < 2 ^ 64)
noncomputable def oPow (d e : D) : Option D := match d, e with
  | .int i, .int j => if powOk i j = true then some (.int (i ^ j.toNat)) else none
  | _, _ => none
theorem rd_pow {K : PySem.W.Frag} : RD K (rI CPow fun i j => .int (i ^ j.toNat)) oPow := fun F H x y d e z Q l hx hy ho q => by
  cases hx <;> cases hy <;> (try (cases ho; done))
  simp only [oPow] at ho
  split at ho
  · cases ho
    exact ⟨_, _, rfl, rfl, of_gd (by assumption), q _ _ _ (Grow.refl l) (.int _)⟩
  · cases ho
/-- a small factor: what a law draws -/
noncomputable def mulOk (i j : Int) : Bool := gd ((-(2 ^ 64) < i ∧ i < 2 ^ 64) ∨ (-(2 ^ 64) < j ∧ j < 2 ^ 64))
noncomputable def oMulI (d e : D) : Option D := match d, e with
  | .int i, .int j => if mulOk i j = true then some (.int (i * j)) else none
  | _, _ => none
theorem rd_mulI {K : PySem.W.Frag} : RD K (rI CMul fun i j => .int (i * j)) oMulI := fun F H x y d e z Q l hx hy ho q => by
  cases hx <;> cases hy <;> (try (cases ho; done))
  simp only [oMulI] at ho
  split at ho
  · cases ho
    exact ⟨_, _, rfl, rfl, of_gd (by assumption), q _ _ _ (Grow.refl l) (.int _)⟩
  · cases ho
noncomputable def oMulL (d e : D) : Option D := match d, e with
  | .list xs, .int k => if gd (-(2 ^ 63) ≤ k ∧ k < 2 ^ 63 ∧ xs.length * k.toNat ≤ lim) = true then some (.list (List.replicate k.toNat xs).flatten) else none
  | _, _ => none
theorem DvAll.rep {K : PySem.W.Frag} {F : Hp} {vs : List V} {ds : List D} (h : DvAll K F vs ds) (n : Nat) : DvAll K F (List.replicate n vs).flatten (List.replicate n ds).flatten := by
  induction n with
  | zero => exact .nil
  | succ n ih => rw [List.replicate_succ, List.replicate_succ, List.flatten_cons, List.flatten_cons]; exact DvAll.append h ih
theorem rd_mulL {K : PySem.W.Frag} : RD K rRep oMulL := fun F H x y d e z Q l hx hy ho q => by
  cases d <;> cases e <;> (try (cases ho; done))
  rename_i ds i
  obtain ⟨a, xs, rfl, h1, h2⟩ := hx.lst_inv
  rw [hy.int_inv]
  simp only [oMulL] at ho
  split at ho
  · cases ho
    rename_i hl
    have hl := of_gd hl
    refine ⟨a, _, xs, rfl, rfl, l _ _ h1, hl.1, hl.2.1, by rw [h2.length]; exact lim_line hl.2.2, fun p hp => ?_⟩
    have g := Grow.lay (o := .lst (List.replicate i.toNat xs).flatten) l hp
    exact q _ _ _ g (.lst upd_same (DvAll.rep (DvAll.le g.ff h2) _))
  · cases ho

/-! ### subscripts -/
def rIxD (K : PySem.W.Frag) : R2 := fun x y H Q => (rIxL K x y H Q ∨ rIxT K x y H Q) ∨ rIxS x y H Q
theorem ix_D : IxR X (rIxD X.K) := IxR.or (IxR.or ix_list ix_tup) ix_str
def oIx (d e : D) : Option D := match d, e with
  | .list xs, .int i => atI xs i
  | .tuple xs, .int i => atI xs i
  | .str z, .int i => if z.length ≤ lim then (atI z.cps.toList i).map fun c => .str ⟨#[c]⟩ else none
  | _, _ => none
theorem DvAll.atI {K : PySem.W.Frag} {F : Hp} {vs : List V} {ds : List D} {i : Int} {d : D} (h : DvAll K F vs ds) (e : atI ds i = some d) : ∃ v, L2.atI vs i = some v ∧ Dv K F v d := by
  unfold L2.atI at e ⊢
  rw [h.length]
  cases q : ixN ds.length i with
  | none => rw [q] at e; cases e
  | some j => rw [q] at e; exact DvAll.get' h e
theorem rd_ix {K : PySem.W.Frag} : RD K (rIxD K) oIx := fun F H x y d e z Q l hx hy ho q => by
  cases d <;> cases e <;> (try (cases ho; done))
  · rw [hx.str_inv, hy.int_inv]
    simp only [oIx] at ho
    split at ho
    · rename_i x i hl
      cases e : L2.atI x.cps.toList i with
      | none => rw [e] at ho; cases ho
      | some w => rw [e] at ho; cases ho; exact .inr ⟨_, _, _, rfl, rfl, lim_line hl, e, q _ _ _ (Grow.refl l) (.str _)⟩
    · cases ho
  · obtain ⟨a, xs, rfl, h1, h2⟩ := hx.lst_inv
    rw [hy.int_inv]
    obtain ⟨v, e1, e2⟩ := h2.atI ho
    exact .inl (.inl ⟨a, xs, _, v, rfl, rfl, SqL.of (l _ _ h1), e1, q _ _ _ (Grow.refl l) e2⟩)
  · obtain ⟨a, xs, rfl, h1, h2⟩ := hx.tup_inv
    rw [hy.int_inv]
    obtain ⟨v, e1, e2⟩ := h2.atI ho
    exact .inl (.inr ⟨a, xs, _, v, rfl, rfl, SqT.le h1 l, e1, q _ _ _ (Grow.refl l) e2⟩)

/-! ### len, list, tuple, int -/
def oLen : List D → Option D
  | [.list xs] => some (.int xs.length)
  | [.tuple xs] => some (.int xs.length)
  | [.str z] => if z.length ≤ lim then some (.int z.length) else none
  | _ => none
theorem ra_len {K : PySem.W.Frag} : RA K (fun xs H Q => ∃ x n, xs = [x] ∧ LenV K x H n ∧ Q (.int n) H) oLen := fun F H vs ds z Q l hv ho q => by
  unfold oLen at ho
  split at ho
  · cases ho
    obtain ⟨v, rfl, h⟩ := hv.one
    obtain ⟨a, xs, rfl, h1, h2⟩ := h.lst_inv
    exact ⟨_, _, rfl, .inl ⟨xs, SqL.of (l _ _ h1), rfl⟩, q _ _ _ (Grow.refl l) (by rw [h2.length]; exact .int _)⟩
  · cases ho
    obtain ⟨v, rfl, h⟩ := hv.one
    obtain ⟨a, xs, rfl, h1, h2⟩ := h.tup_inv
    exact ⟨_, _, rfl, .inr ⟨xs, SqT.le h1 l, rfl⟩, q _ _ _ (Grow.refl l) (by rw [h2.length]; exact .int _)⟩
  · split at ho
    · cases ho
      obtain ⟨v, rfl, h⟩ := hv.one
      rw [h.str_inv]
      exact ⟨_, _, rfl, ⟨lim_line (by assumption), rfl⟩, q _ _ _ (Grow.refl l) (.int _)⟩
    · cases ho
  · cases ho
def oTuple : List D → Option D
  | [.list xs] => some (.tuple xs)
  | [.tuple xs] => some (.tuple xs)
  | _ => none
theorem ra_tuple {K : PySem.W.Frag} : RA K (fun xs H Q => ∃ p ys, xs = [.ref p] ∧ ((SqL K H p ys ∧ ∀ l, H l = none → Q (.ref l) (upd H l (.tup ys))) ∨ (SqT K H p ys ∧ Q (.ref p) H))) oTuple := fun F H vs ds z Q l hv ho q => by
  unfold oTuple at ho
  split at ho
  · cases ho
    obtain ⟨v, rfl, h⟩ := hv.one
    obtain ⟨a, xs, rfl, h1, h2⟩ := h.lst_inv
    refine ⟨a, xs, rfl, .inl ⟨SqL.of (l _ _ h1), fun p hp => ?_⟩⟩
    have g := Grow.lay (o := .tup xs) l hp
    exact q _ _ _ g (.tup (SqT.of upd_same) (DvAll.le g.ff h2))
  · cases ho
    obtain ⟨v, rfl, h⟩ := hv.one
    obtain ⟨a, xs, rfl, h1, h2⟩ := id h.tup_inv
    exact ⟨a, xs, rfl, .inr ⟨SqT.le h1 l, q _ _ _ (Grow.refl l) h⟩⟩
  · cases ho
def oList : List D → Option D
  | [.list xs] => some (.list xs)
  | [.tuple xs] => some (.list xs)
  | _ => none
theorem ra_list {K : PySem.W.Frag} : RA K (fun xs H Q => ∃ p ys, xs = [.ref p] ∧ (SqL K H p ys ∨ SqT K H p ys) ∧ ∀ l, H l = none → Q (.ref l) (upd H l (.lst ys))) oList := fun F H vs ds z Q l hv ho q => by
  unfold oList at ho
  split at ho
  · cases ho
    obtain ⟨v, rfl, h⟩ := hv.one
    obtain ⟨a, xs, rfl, h1, h2⟩ := h.lst_inv
    refine ⟨a, xs, rfl, .inl (SqL.of (l _ _ h1)), fun p hp => ?_⟩
    have g := Grow.lay (o := .lst xs) l hp
    exact q _ _ _ g (.lst upd_same (DvAll.le g.ff h2))
  · cases ho
    obtain ⟨v, rfl, h⟩ := hv.one
    obtain ⟨a, xs, rfl, h1, h2⟩ := h.tup_inv
    refine ⟨a, xs, rfl, .inr (SqT.le h1 l), fun p hp => ?_⟩
    have g := Grow.lay (o := .lst xs) l hp
    exact q _ _ _ g (.lst upd_same (DvAll.le g.ff h2))
  · cases ho
def oInt : List D → Option D
  | [.int i] => some (.int i)
  | [.bool b] => some (.int (if b then 1 else 0))
  | _ => none
theorem ra_int {K : PySem.W.Frag} : RA K (fun xs H Q => (∃ i, xs = [.int i] ∧ Q (.int i) H) ∨ ∃ k, xs = [.bl k] ∧ Q (.int (if k then 1 else 0)) H) oInt := fun F H vs ds z Q l hv ho q => by
  unfold oInt at ho
  split at ho
  · cases ho
    obtain ⟨v, rfl, h⟩ := hv.one
    rw [h.int_inv]
    exact .inl ⟨_, rfl, q _ _ _ (Grow.refl l) (.int _)⟩
  · cases ho
    obtain ⟨v, rfl, h⟩ := hv.one
    rw [h.bl_inv]
    exact .inr ⟨_, rfl, q _ _ _ (Grow.refl l) (.int _)⟩
  · cases ho
def oAll : List D → Option D
  | [.list xs] => (asBls xs).map fun bs => .bool (bs.all id)
  | _ => none
theorem ra_all {K : PySem.W.Frag} : RA K (rAll K) oAll := fun F H vs ds z Q l hv ho q => by
  unfold oAll at ho
  split at ho
  · rename_i xs
    obtain ⟨v, rfl, h⟩ := hv.one
    obtain ⟨a, us, rfl, h1, h2⟩ := h.lst_inv
    cases e : asBls xs with
    | none => rw [e] at ho; cases ho
    | some bs =>
      rw [e] at ho; cases ho
      rw [asBls_inv e] at h2
      have e2 := h2.bls
      subst e2
      exact ⟨a, bs, rfl, SqL.of (l _ _ h1), q _ _ _ (Grow.refl l) (.bl _)⟩
  · cases ho
def oAny : List D → Option D
  | [.list xs] => (asBls xs).map fun bs => .bool (bs.any id)
  | _ => none
theorem ra_any {K : PySem.W.Frag} : RA K (rAny K) oAny := fun F H vs ds z Q l hv ho q => by
  unfold oAny at ho
  split at ho
  · rename_i xs
    obtain ⟨v, rfl, h⟩ := hv.one
    obtain ⟨a, us, rfl, h1, h2⟩ := h.lst_inv
    cases e : asBls xs with
    | none => rw [e] at ho; cases ho
    | some bs =>
      rw [e] at ho; cases ho
      rw [asBls_inv e] at h2
      have e2 := h2.bls
      subst e2
      exact ⟨a, bs, rfl, SqL.of (l _ _ h1), q _ _ _ (Grow.refl l) (.bl _)⟩
  · cases ho

/-! ### isinstance of data -/
def isiD : String → D → Option Bool
  | "int", d => some d.isInt
  | "bool", d => some d.isBool
  | "str", d => some d.isStr
  | "tuple", d => some d.isTuple
  | "list", d => some d.isList
  | _, _ => none
def mIsi (T : String) (f : M D) : M D := fun ρ => (f ρ).bind fun x => (ofO (isiD T x.1)).map fun b => (.bool b, x.2)
def rIsiD (K : PySem.W.Frag) (T : String) : List V → Hp → VK → Prop := fun xs H Q => ∃ v d b, xs = [v, .ty T] ∧ Dp K H v d ∧ isiD T d = some b ∧ Q (.bl b) H
theorem call_isiD {T : String} : CallR X (.builtin "isinstance") (rIsiD X.K T) := by
  intro pins s σ H xs us Q I r ⟨v, d, b, e, hd, hb, q⟩
  subst e
  cases r with
  | cons r1 r2 =>
    cases r2 with
    | cons r3 r4 =>
      cases r4
      cases r3
      obtain ⟨as, rd⟩ := Dp.reads I d v _ hd r1
      have fin : ∀ tk, s.toks ≤ tk → EP X pins σ Q (.bool b) { s with toks := tk } := fun tk _ => ⟨.bl b, H, I.tok tk, rfl, q⟩
      unfold isiD at hb
      split at hb <;> cases hb
      · exact PySem.W.isinstance_int_data rd fin
      · exact PySem.W.isinstance_bool_data rd fin
      · exact PySem.W.isinstance_str_data rd fin
      · exact PySem.W.isinstance_tuple_data rd fin
      · exact PySem.W.isinstance_list_data rd fin
theorem de_isi {T : String} {x : Str} {e t : Expr} {f : M D} {p pos : Pos} (hg : Gl X x) (hm : X.mg x = none) (hv : bootBuiltins x = some (.builtin "isinstance")) (ha : DE X c W e f) (ht : PE X t (tC (.ty T)))
    (hn : x ≠ "__name__" := by decide) (hdb : (x == ("__debug__" : Str)) = false := by decide) (hs : starEach [e, t] X.env = (false, eval e X.env) :: starEach [t] X.env := by rfl) (hs2 : starEach [t] X.env = (false, eval t X.env) :: starEach [] X.env := by rfl)
    (hpl : (backTo pos (starEach [t] X.env)).any (·.1) = false := by rfl) : DE X c W (.Call (.Name x p) [e, t] [] pos) (mIsi T f) :=
  PE.imp (pe_callB (call_isiD (T := T)) hg hm hv (pa_cons ha (pa_cons ht pa_nil hs2) hs) hn hdb hs hpl) fun σ H Q ⟨P, ρ, F, G, p⟩ => ⟨P, ρ, F, G, p.bind.mono fun d ρ1 F1 H1 G1 l1 p1 v dv => by
    obtain ⟨b, hb, p2⟩ := ofO_inv p1
    exact ⟨v, d, b, rfl, dv.mono G1.le, hb, p2.ok G1 _ (.bl b)⟩⟩
end
end DL

set_option maxHeartbeats 2000000
/-! DL4: statements: blocks, stores, returns, ifs, loops, own lists. -/
namespace DL
open PySem PySem.Spec L2
open PyProof.Rows hiding St

/-- how a statement ends -/
inductive Fl where
  | nx | bk | ct
  | rt (d : D)
abbrev S := Env → Res (Fl × Env)

section
variable (K : PySem.W.Frag) (c : Cst) (W : XK) (P : Hp)
def PostS (F : Hp) (r : Res (Fl × Env)) (R : Fl → St → Env → Hp → Hp → Prop) : Prop :=
  match r with
  | .ok (a, ρ') => ∀ σ' F' H', Good K c P σ' ρ' F' H' → le F F' → R a σ' ρ' F' H'
  | .exc c => ∀ H', le F H' → le P H' → W (.ref (He.ga K c)) none H'
  | .bad => False
end
/-- what is wanted behind a statement, by its end -/
def RS (K : PySem.W.Frag) (E : Ends) (fl : Fl) (σ' : St) (_ : Env) (F' H' : Hp) : Prop :=
  match fl with
  | .nx => E.nx σ' H'
  | .bk => E.bk σ' H'
  | .ct => E.ct σ' H'
  | .rt d => ∀ v, Dv K F' v d → E.rt v H'
def tS (K : PySem.W.Frag) (c : Cst) (W : XK) (g : S) : TS := fun E σ H => ∃ P ρ F, Good K c P σ ρ F H ∧ PostS K c W P F (g ρ) (RS K E)

section
variable {K : PySem.W.Frag} {c : Cst} {W : XK} {P : Hp}
theorem PostS.mono {F : Hp} {r : Res (Fl × Env)} {R R' : Fl → St → Env → Hp → Hp → Prop} (h : PostS K c W P F r R) (m : ∀ a σ' ρ' F' H', Good K c P σ' ρ' F' H' → le F F' → R a σ' ρ' F' H' → R' a σ' ρ' F' H') : PostS K c W P F r R' := by
  cases r with
  | bad => exact h
  | exc c => exact h
  | ok a =>
    obtain ⟨a, ρ'⟩ := a
    exact fun σ' F' H' G l => m a σ' ρ' F' H' G l (h σ' F' H' G l)
theorem PostS.ok {F H : Hp} {σ : St} {a : Fl} {ρ : Env} {R : Fl → St → Env → Hp → Hp → Prop} (h : PostS K c W P F (.ok (a, ρ)) R) (G : Good K c P σ ρ F H) : R a σ ρ F H := h σ F H G le.refl
theorem PostS.at {F F' : Hp} {r : Res (Fl × Env)} {R : Fl → St → Env → Hp → Hp → Prop} (l : le F F') (h : PostS K c W P F r R) : PostS K c W P F' r R := by
  cases r with
  | bad => exact h
  | exc x => exact fun H' l1 l2 => h H' (l.trans l1) l2
  | ok a =>
    obtain ⟨a, ρ'⟩ := a
    exact fun σ'' F'' H'' G l' => h σ'' F'' H'' G (l.trans l')
/-- a statement behind a statement -/
theorem PostS.bind {F : Hp} {r : Res (Fl × Env)} {k : Fl × Env → Res (Fl × Env)} {R : Fl → St → Env → Hp → Hp → Prop} (h : PostS K c W P F (r.bind k) R) :
    PostS K c W P F r fun a _ ρ' F' _ => PostS K c W P F' (k (a, ρ')) R := by
  cases r with
  | bad => exact h
  | exc c => exact h
  | ok a =>
    obtain ⟨a, ρ'⟩ := a
    exact fun σ' F' H' G l => PostS.at l (show PostS K c W P F (k (a, ρ')) R from h)
/-- a statement behind an expression -/
theorem PostS.ofE {α : Type} {σ : St} {F : Hp} {r : Res (α × Env)} {k : α × Env → Res (Fl × Env)} {R : Fl → St → Env → Hp → Hp → Prop} (h : PostS K c W P F (r.bind k) R) :
    Post K c W P σ F r fun a ρ' F' _ => PostS K c W P F' (k (a, ρ')) R := by
  cases r with
  | bad => exact h
  | exc c => exact h
  | ok a =>
    obtain ⟨a, ρ'⟩ := a
    exact fun F' H' G l => PostS.at l (show PostS K c W P F (k (a, ρ')) R from h)
theorem PostS.ite {F : Hp} {q : Prop} [Decidable q] {r : Res (Fl × Env)} {R : Fl → St → Env → Hp → Hp → Prop} (h : PostS K c W P F (if q then r else .bad) R) : q ∧ PostS K c W P F r R := by
  by_cases hq : q
  · rw [if_pos hq] at h; exact ⟨hq, h⟩
  · rw [if_neg hq] at h; exact h.elim
end

section
variable {X : Cx} {c : Cst} {W : XK} {k : Nat} {e a b : Expr} {es : List Expr} {f : M D} {pos : Pos} {st : Stmt} {rest body : List Stmt} {g g' : S}
theorem PS.imp {t t' : TS} (h : PS X st t) (m : ∀ E σ H, t' E σ H → t E σ H) : PS X st t' := ⟨fun pins s σ H E I q => h.run pins s σ H E I (m E σ H q)⟩
theorem PSs.imp {t t' : TS} (h : PSs X body t) (m : ∀ E σ H, t' E σ H → t E σ H) : PSs X body t' := ⟨fun pins s σ H E I q => h.run pins s σ H E I (m E σ H q)⟩
abbrev DS (X : Cx) (c : Cst) (W : XK) (st : Stmt) (g : S) : Prop := PS X st (tS X.K c W g)
abbrev DSs (X : Cx) (c : Cst) (W : XK) (st : List Stmt) (g : S) : Prop := PSs X st (tS X.K c W g)

def sNil : S := fun ρ => .ok (.nx, ρ)
def sSeq (g h : S) : S := fun ρ => (g ρ).bind fun r => match r.1 with
  | .nx => h r.2
  | fl => .ok (fl, r.2)
theorem dss_nil : DSs X c W [] sNil := PSs.imp pss_nil fun E σ H ⟨P, ρ, F, G, p⟩ => p.ok G
theorem ds_pass : DS X c W (.Pass pos) sNil := PS.imp ps_pass fun E σ H ⟨P, ρ, F, G, p⟩ => p.ok G
theorem dss_cons (h1 : DS X c W st g) (h2 : DSs X c W rest g') : DSs X c W (st :: rest) (sSeq g g') := PSs.imp (pss_cons h1 h2) fun E σ H ⟨P, ρ, F, G, p⟩ =>
  ⟨P, ρ, F, G, p.bind.mono fun fl σ1 ρ1 F1 H1 G1 l1 p1 => by
    cases fl with
    | nx => exact ⟨P, ρ1, F1, G1, p1⟩
    | bk => exact p1.ok G1
    | ct => exact p1.ok G1
    | rt d => exact p1.ok G1⟩
theorem dss_one (h1 : DS X c W st g) : DSs X c W [st] g := pss_one h1
def sBrk : S := fun ρ => .ok (.bk, ρ)
def sCont : S := fun ρ => .ok (.ct, ρ)
theorem ds_break : DS X c W (.Break pos) sBrk := PS.imp ps_break fun E σ H ⟨P, ρ, F, G, p⟩ => p.ok G
theorem ds_continue : DS X c W (.Continue pos) sCont := PS.imp ps_continue fun E σ H ⟨P, ρ, F, G, p⟩ => p.ok G
def sDrop (f : M D) : S := fun ρ => (f ρ).bind fun x => .ok (.nx, x.2)
theorem ds_expr (he : DE X c W e f) (hs : swapsWith e none pos.line X.env = pure false := by rfl) : DS X c W (.Expr e pos) (sDrop f) := PS.imp (ps_expr he hs) fun E σ H ⟨P, ρ, F, G, p⟩ =>
  ⟨P, ρ, F, G, p.ofE.mono fun d ρ1 F1 H1 G1 _ p1 v dv => p1.ok G1⟩
def sRet (f : M D) : S := fun ρ => (f ρ).bind fun x => .ok (.rt x.1, x.2)
theorem ds_ret (he : DE X c W e f) : DS X c W (.Return (some e) pos) (sRet f) := PS.imp (ps_ret he) fun E σ H ⟨P, ρ, F, G, p⟩ =>
  ⟨P, ρ, F, G, p.ofE.mono fun d ρ1 F1 H1 G1 _ p1 v dv => p1.ok G1 v dv⟩
def sRetN : S := fun ρ => .ok (.rt .none, ρ)
theorem ds_retN : DS X c W (.Return none pos) sRetN := PS.imp ps_retN fun E σ H ⟨P, ρ, F, G, p⟩ => p.ok G _ .non
def sIf (t : M Bool) (g h : S) : S := fun ρ => (t ρ).bind fun x => if x.1 = true then g x.2 else h x.2
theorem ds_if {t : M Bool} {b1 b2 : List Stmt} (ht : DT X c W e t) (h1 : DSs X c W b1 g) (h2 : DSs X c W b2 g') : DS X c W (.If e b1 b2 pos) (sIf t g g') := PS.imp (ps_if ht h1 h2) fun E σ H ⟨P, ρ, F, G, p⟩ =>
  ⟨P, ρ, F, G, p.ofE.mono fun x ρ1 F1 H1 G1 _ p1 => by
    cases x with
    | true => exact ⟨P, ρ1, F1, G1, p1⟩
    | false => exact ⟨P, ρ1, F1, G1, p1⟩⟩

/-! ### stores -/
theorem Good.set {K : PySem.W.Frag} {P : Hp} {σ : St} {ρ : Env} {F H : Hp} {i : Nat} {v : V} {s : Slot} (G : Good K c P σ ρ F H) (hs : SlotOk K c P F H (some v) s)
    (ap : ∀ (j : Nat) s' a, i ≠ j → ρ[j]? = some s' → s.mutb = true → s'.mutb = true → v = .ref a → (σ[j]?).join = some (.ref a) → False) : Good K c P (σ.set i (some v)) (ρ.set i s) F H := by
  refine ⟨G.le, G.pin, by simp [G.len], fun j s' hj => ?_, fun j j' s1 s2 a hn h1 h2 m1 m2 r1 r2 => ?_⟩
  · by_cases hij : i = j
    · subst hij
      have hi : i < ρ.length := by
        by_cases h : i < ρ.length
        · exact h
        · rw [List.getElem?_eq_none (by simpa using h)] at hj; cases hj
      rw [List.getElem?_set_self hi] at hj
      cases hj
      rw [List.getElem?_set_self (by rw [G.len]; exact hi)]
      exact hs
    · rw [List.getElem?_set_ne hij] at hj ⊢
      exact G.sl j s' hj
  · by_cases hij : i = j
    · subst hij
      have hi : i < ρ.length := by
        by_cases h : i < ρ.length
        · exact h
        · rw [List.getElem?_eq_none (by simpa using h)] at h1; cases h1
      rw [List.getElem?_set_self hi] at h1
      cases h1
      rw [List.getElem?_set_self (by rw [G.len]; exact hi)] at r1
      rw [List.getElem?_set_ne hn] at h2 r2
      exact ap j' s2 a hn h2 m1 m2 (by simpa using r1) r2
    · by_cases hij' : i = j'
      · subst hij'
        have hi : i < ρ.length := by
          by_cases h : i < ρ.length
          · exact h
          · rw [List.getElem?_eq_none (by simpa using h)] at h2; cases h2
        rw [List.getElem?_set_self hi] at h2
        cases h2
        rw [List.getElem?_set_self (by rw [G.len]; exact hi)] at r2
        rw [List.getElem?_set_ne hij] at h1 r1
        exact ap j s1 a hij h1 m2 m1 (by simpa using r2) r1
      · rw [List.getElem?_set_ne hij] at h1 r1
        rw [List.getElem?_set_ne hij'] at h2 r2
        exact G.ap j j' s1 s2 a hn h1 h2 m1 m2 r1 r2
theorem Good.setd {K : PySem.W.Frag} {P : Hp} {σ : St} {ρ : Env} {F H : Hp} {v : V} {d : D} (G : Good K c P σ ρ F H) (i : Nat) (dv : Dv K F v d) : Good K c P (σ.set i (some v)) (ρ.set i (.d d)) F H :=
  G.set (s := .d d) ⟨v, rfl, dv⟩ fun _ _ _ _ _ m => nomatch m
def sSet (i : Nat) (f : M D) : S := fun ρ => (f ρ).bind fun x => .ok (.nx, x.2.set i (.d x.1))
theorem tAsg_set {i : Nat} {E : Ends} {σ : St} {H : Hp} (q : tS X.K c W (sSet i f) E σ H) : tAsg (tD X.K c W f) (gName i) E σ H := by
  obtain ⟨P, ρ, F, G, p⟩ := q
  exact ⟨P, ρ, F, G, p.ofE.mono fun d ρ1 F1 H1 G1 _ p1 v dv => p1.ok (G1.setd i dv)⟩
theorem ds_set {i : Nat} (h : PS X st (tAsg (tD X.K c W f) (gName i))) : DS X c W st (sSet i f) := PS.imp h fun _ _ _ q => tAsg_set q
def sOwn (i : Nat) (f : M (List D)) : S := fun ρ => (f ρ).bind fun x => .ok (.nx, x.2.set i (.l x.1))
theorem Good.own {K : PySem.W.Frag} {P : Hp} {σ : St} {ρ : Env} {F H : Hp} {p : Addr} {vs : List V} {xs : List D} (G : Good K c P σ ρ F H) (Gp : Good K c (upd P p (.lst vs)) σ ρ F H) (hp : P p = none) (dv : DvAll K F vs xs) (i : Nat) :
    Good K c P (σ.set i (some (.ref p))) (ρ.set i (.l xs)) F H := by
  obtain ⟨h1, h2⟩ := Gp.pin p _ upd_same
  refine G.set (s := .l xs) ⟨p, vs, rfl, h1, h2, hp, dv⟩ fun j s' a _ hj _ m' e r => ?_
  cases e
  have := (SlotOk.has (Gp.sl j s' hj) m' r).2.2
  rw [upd_same] at this
  cases this
theorem tAsg_own {f : M (List D)} {i : Nat} {E : Ends} {σ : St} {H : Hp} (q : tS X.K c W (sOwn i f) E σ H) : tAsg (tFr X.K c W f) (gName i) E σ H := by
  obtain ⟨P, ρ, F, G, p⟩ := q
  exact ⟨P, ρ, F, G, p.ofE.mono fun xs ρ1 F1 H1 G1 _ p1 a vs H2 G2 hp Gp dv => p1.ok (G2.own Gp hp dv i)⟩
theorem ds_own {f : M (List D)} {i : Nat} (h : PS X st (tAsg (tFr X.K c W f) (gName i))) : DS X c W st (sOwn i f) := PS.imp h fun _ _ _ q => tAsg_own q

/-! ### targets -/
def Only (ix : List Nat) (σ σ' : St) : Prop := σ'.length = σ.length ∧ ∀ j, j ∉ ix → σ'[j]? = σ[j]?
theorem Only.refl {ix : List Nat} {σ : St} : Only ix σ σ := ⟨rfl, fun _ _ => rfl⟩
/-- a target stores a datum into slots -/
def DG (K : PySem.W.Frag) (c : Cst) (t : TG) (bd : D → Env → Option Env) (ix : List Nat) : Prop :=
  ∀ P v d σ ρ F H ρ' (Q : St → Hp → Prop), Good K c P σ ρ F H → Dv K F v d → bd d ρ = some ρ' → (∀ σ', Good K c P σ' ρ' F H → Only ix σ σ' → Q σ' H) → t v σ H Q
def bName (i : Nat) (d : D) (ρ : Env) : Option Env := some (ρ.set i (.d d))
theorem dg_name {K : PySem.W.Frag} {i : Nat} : DG K c (gName i) (bName i) [i] := fun P v d σ ρ F H ρ' Q G dv hb k => by
  cases hb
  exact k _ (G.setd i dv) ⟨by simp, fun j hj => by
    have : i ≠ j := fun e => hj (by simp [e])
    rw [List.getElem?_set_ne this]⟩
def DGs (K : PySem.W.Frag) (c : Cst) (t : TGs) (bd : List D → Env → Option Env) (ix : List Nat) : Prop :=
  ∀ P vs ds σ ρ F H ρ' (Q : St → Hp → Prop), Good K c P σ ρ F H → DvAll K F vs ds → bd ds ρ = some ρ' → (∀ σ', Good K c P σ' ρ' F H → Only ix σ σ' → Q σ' H) → t vs σ H Q
def bNil (ds : List D) (ρ : Env) : Option Env := match ds with
  | [] => some ρ
  | _ => none
def bCons (b1 : D → Env → Option Env) (b2 : List D → Env → Option Env) (ds : List D) (ρ : Env) : Option Env := match ds with
  | d :: r => (b1 d ρ).bind (b2 r)
  | [] => none
def bTup (n : Nat) (b1 : List D → Env → Option Env) (d : D) (ρ : Env) : Option Env := match d with
  | .tuple ds => if ds.length = n then b1 ds ρ else none
  | _ => none
theorem dgs_nil {K : PySem.W.Frag} : DGs K c gNil bNil [] := fun P vs ds σ ρ F H ρ' Q G dv hb k => by
  cases dv with
  | nil => cases hb; exact ⟨rfl, k σ G .refl⟩
  | cons _ _ => cases hb
theorem dgs_cons {K : PySem.W.Frag} {t : TG} {u : TGs} {b1 : D → Env → Option Env} {b2 : List D → Env → Option Env} {i1 i2 : List Nat} (q1 : DG K c t b1 i1) (q2 : DGs K c u b2 i2) : DGs K c (gCons t u) (bCons b1 b2) (i1 ++ i2) := fun P vs ds σ ρ F H ρ' Q G dv hb k => by
  cases dv with
  | nil => cases hb
  | cons d1 d2 =>
    refine ⟨_, _, rfl, ?_⟩
    have hb : (b1 _ ρ).bind (b2 _) = some ρ' := hb
    cases e1 : b1 _ ρ with
    | none => rw [e1] at hb; cases hb
    | some ρ1 =>
      rw [e1] at hb
      exact q1 P _ _ σ ρ F H ρ1 _ G d1 e1 fun σ1 G1 o1 => q2 P _ _ σ1 ρ1 F H ρ' _ G1 d2 hb fun σ2 G2 o2 => k σ2 G2 ⟨o2.1.trans o1.1, fun j hj => by
        rw [List.mem_append, not_or] at hj
        rw [o2.2 j hj.2, o1.2 j hj.1]⟩
theorem dg_tup {K : PySem.W.Frag} {t : TGs} {n : Nat} {bs : List D → Env → Option Env} {ix : List Nat} (q : DGs K c t bs ix) : DG K c (gTup K n t) (bTup n bs) ix := fun P v d σ ρ F H ρ' Q G dv hb kk => by
  cases d <;> (try (cases hb; done))
  rename_i ds
  obtain ⟨a, xs, rfl, h1, h2⟩ := dv.tup_inv
  have hb : (if ds.length = n then bs ds ρ else none) = some ρ' := hb
  split at hb
  · exact ⟨a, xs, rfl, SqT.le h1 G.le, by rw [h2.length]; assumption, q P xs ds σ ρ F H ρ' Q G h2 hb kk⟩
  · cases hb
/-- a, b = e -/
def sBind (bd : D → Env → Option Env) (f : M D) : S := fun ρ => (f ρ).bind fun x => (ofO (bd x.1 x.2)).bind fun ρ' => .ok (.nx, ρ')
theorem ds_bind {t : TG} {bd : D → Env → Option Env} {ix : List Nat} (q : DG X.K c t bd ix) (h : PS X st (tAsg (tD X.K c W f) t)) : DS X c W st (sBind bd f) := by
  refine PS.imp h fun E σ H ⟨P, ρ, F, G, p⟩ => ⟨P, ρ, F, G, p.ofE.mono fun d ρ1 F1 H1 G1 l1 p1 v dv => ?_⟩
  cases e : bd d ρ1 with
  | none => simp only [e] at p1; exact p1.elim
  | some ρ' =>
    simp only [e] at p1
    exact q P v d σ ρ1 F1 H1 ρ' _ G1 dv e fun σ' G' _ => p1.ok G'

/-! ### for -/
/-- an iterator over data that stands still -/
structure ItD (K : PySem.W.Frag) (J : It) (F : Hp) (ds : List D) : Prop where
  go : ∀ i H, le F H → i < ds.length → J.go i H
  stop : ∀ i H, le F H → i = ds.length → J.stop i H
  yld : ∀ i H x H', le F H → i < ds.length → J.yld i H x H' → ∃ d, ds[i]? = some d ∧ ∀ F1, le F F1 → le F1 H → ∃ F2, Grow F1 H F2 H' ∧ Dv K F2 x d
def tI (K : PySem.W.Frag) (c : Cst) (W : XK) (it : M (List D)) : TI := fun σ H R => ∃ P ρ F, Good K c P σ ρ F H ∧ Post K c W P σ F (it ρ) fun ds _ F' H' => ∀ J H2, ItD K J F' ds → H2 = H' → R J H2
abbrev DI (X : Cx) (c : Cst) (W : XK) (tg iter : Expr) (it : M (List D)) : Prop := PI X tg iter (tI X.K c W it)
def turnD (r : Fl × Env) (k : Env → Res (Fl × Env)) : Res (Fl × Env) := match r.1 with
  | .nx => k r.2
  | .ct => k r.2
  | .bk => .ok (.nx, r.2)
  | .rt d => .ok (.rt d, r.2)
def forD (bd : D → Env → Option Env) (g : S) : List D → Env → Res (Fl × Env)
  | [], ρ => .ok (.nx, ρ)
  | x :: xs, ρ => (ofO (bd x ρ)).bind fun ρ1 => (g ρ1).bind fun r => turnD r (forD bd g xs)
def sFor (it : M (List D)) (bd : D → Env → Option Env) (g : S) : S := fun ρ => (it ρ).bind fun x => forD bd g x.1 x.2
theorem ds_for {tg iter : Expr} {it : M (List D)} {t : TG} {bd : D → Env → Option Env} {ix : List Nat} (O : Ok X c W k) (hi : DI X c W tg iter it) (pg : PG X tg t) (q : DG X.K c t bd ix) (hb : DSs X c W body g) (hs : ∀ x, foldedSetIterable iter X.env x = pure x := by intro _; rfl) : DS X c W (.For tg iter body [] pos) (sFor it bd g) := by
  refine PS.imp (ps_for O.own O.calm hi pg hb hs) fun E σ H ⟨P, ρ, F, G, p⟩ => ⟨P, ρ, F, G, p.ofE.mono fun ds ρ1 F1 H1 G1 l1 p1 J H2 it eH => ?_⟩
  subst eH
  refine ⟨fun i m σ H => m = ds.length - i ∧ i ≤ ds.length ∧ ∃ ρ F, Good X.K c P σ ρ F H ∧ le F1 F ∧ PostS X.K c W P F (forD bd g (ds.drop i) ρ) (RS X.K E), ⟨_, rfl, Nat.zero_le _, ρ1, F1, G1, le.refl, p1⟩, ?_⟩
  rintro i m σ2 H3 ⟨rfl, hi, ρ2, F2, G2, l2, p2⟩
  by_cases hlt : i < ds.length
  · refine .inr ⟨it.go i H3 (l2.trans G2.le) hlt, fun σ' H' => ∃ ρ' F', Good X.K c P σ' ρ' F' H' ∧ le F1 F' ∧ PostS X.K c W P F' (forD bd g (ds.drop (i + 1)) ρ') (RS X.K E), fun σ' H' ⟨ρ', F', G', l', p'⟩ => ⟨ds.length - (i + 1), by omega, rfl, hlt, ρ', F', G', l', p'⟩, fun x H' y => ?_⟩
    obtain ⟨d, hd, z⟩ := it.yld i H3 x H' (l2.trans G2.le) hlt y
    obtain ⟨F3, gr, dv⟩ := z F2 l2 G2.le
    have ed : ds.drop i = d :: ds.drop (i + 1) := by
      obtain ⟨h1, h2⟩ := List.getElem?_eq_some_iff.mp hd
      rw [← h2]; exact List.drop_eq_getElem_cons h1
    rw [ed] at p2
    have G3 := G2.grow gr
    have p3 : PostS X.K c W P F3 (forD bd g (d :: ds.drop (i + 1)) ρ2) (RS X.K E) := PostS.at gr.ff p2
    unfold forD at p3
    cases e : bd d ρ2 with
    | none => simp only [e] at p3; exact p3.elim
    | some ρ' =>
      simp only [e] at p3
      refine q P x d σ2 ρ2 F3 H' ρ' _ G3 dv e fun σ' G' _ => ⟨P, ρ', F3, G', PostS.mono (PostS.bind p3) fun fl σ4 ρ4 F4 H4 G4 l4 p4 => ?_⟩
      cases fl with
      | nx => exact ⟨ρ4, F4, G4, (l2.trans gr.ff).trans l4, p4⟩
      | ct => exact ⟨ρ4, F4, G4, (l2.trans gr.ff).trans l4, p4⟩
      | bk => exact (show PostS X.K c W P F4 (.ok (.nx, ρ4)) (RS X.K E) from p4).ok G4
      | rt d => exact (show PostS X.K c W P F4 (.ok (.rt d, ρ4)) (RS X.K E) from p4).ok G4
  · have ei : i = ds.length := by omega
    subst ei
    rw [List.drop_length] at p2
    exact .inl ⟨it.stop _ _ (l2.trans G2.le) rfl, PostS.ok p2 G2⟩

/-! ### while -/
def whileD (t : M Bool) (g : S) : Nat → Env → Res (Fl × Env)
  | 0, _ => .bad
  | n + 1, ρ => (t ρ).bind fun x => if x.1 = true then (g x.2).bind fun r => turnD r (whileD t g n) else .ok (.nx, x.2)
def sWhile (n : Nat) (t : M Bool) (g : S) : S := whileD t g n
theorem ds_while {t : M Bool} (n : Nat) (O : Ok X c W k) (ht : DT X c W e t) (hb : DSs X c W body g) : DS X c W (.While e body [] pos) (sWhile n t g) :=
  PS.imp (ps_while O.own ht hb) fun E σ H ⟨P, ρ, F, G, p⟩ => by
    refine ⟨fun m σ H => ∃ ρ F, Good X.K c P σ ρ F H ∧ PostS X.K c W P F (whileD t g m ρ) (RS X.K E), ⟨n, ρ, F, G, p⟩, ?_⟩
    rintro m σ1 H1 ⟨ρ1, F1, G1, p1⟩
    cases m with
    | zero => exact p1.elim
    | succ m =>
      unfold whileD at p1
      refine ⟨P, ρ1, F1, G1, (PostS.ofE p1).mono fun b ρ2 F2 H2 G2 l2 p2 => ?_⟩
      cases b with
      | false => exact PostS.ok p2 G2
      | true =>
        refine ⟨fun σ' H' => ∃ ρ' F', Good X.K c P σ' ρ' F' H' ∧ PostS X.K c W P F' (whileD t g m ρ') (RS X.K E), fun σ' H' ⟨ρ', F', G', p'⟩ => ⟨m, Nat.lt_succ_self m, ρ', F', G', p'⟩, P, ρ2, F2, G2, PostS.mono (PostS.bind p2) fun fl σ4 ρ4 F4 H4 G4 l4 p4 => ?_⟩
        cases fl with
        | nx => exact ⟨ρ4, F4, G4, p4⟩
        | ct => exact ⟨ρ4, F4, G4, p4⟩
        | bk => exact (show PostS X.K c W P F4 (.ok (.nx, ρ4)) (RS X.K E) from p4).ok G4
        | rt d => exact (show PostS X.K c W P F4 (.ok (.rt d, ρ4)) (RS X.K E) from p4).ok G4

/-! ### a list of the def's own: append, extend, pop, len, == [] -/
/-- the list at slot i has turned -/
theorem Good.put {K : PySem.W.Frag} {P : Hp} {σ : St} {ρ : Env} {F H : Hp} {i : Nat} {xs ys : List D} {us : List V} {a : Addr} (G : Good K c P σ ρ F H) (h : ρ[i]? = some (.l xs)) (ha : (σ[i]?).join = some (.ref a)) (dv : DvAll K F us ys) :
    Good K c P σ (ρ.set i (.l ys)) F (upd H a (.lst us)) := by
  obtain ⟨a', vs, e, hl, fn, pn, q⟩ := G.sl i _ h
  rw [e] at ha; cases ha
  have hi : i < ρ.length := by rw [List.getElem?_eq_some_iff] at h; exact h.1
  refine ⟨fun x o z => ?_, fun x o z => ?_, by simp [G.len], fun j s hj => ?_, fun j j' s s' b hn hj hj' m m' r r' => ?_⟩
  · rw [upd_ne (ne_of_none z fn)]; exact G.le x o z
  · rw [upd_ne (ne_of_none z pn)]; exact G.pin x o z
  · by_cases hij : i = j
    · subst hij
      rw [List.getElem?_set_self hi] at hj
      cases hj
      exact ⟨a, us, e, upd_same, fn, pn, dv⟩
    · rw [List.getElem?_set_ne hij] at hj
      refine SlotOk.side le.refl (G.sl j s hj) (fun b o m r z => ?_) (fun _ _ _ z => z) fun _ _ _ z => z
      have : b ≠ a := fun eb => by subst eb; exact G.ap i j _ s b hij h hj rfl m e r
      rw [upd_ne this]; exact z
  · by_cases hij : i = j
    · subst hij
      rw [List.getElem?_set_self hi] at hj
      cases hj
      rw [List.getElem?_set_ne hn] at hj'
      exact G.ap i j' _ s' b hn h hj' rfl m' r r'
    · by_cases hij' : i = j'
      · subst hij'
        rw [List.getElem?_set_self hi] at hj'
        cases hj'
        rw [List.getElem?_set_ne hij] at hj
        exact G.ap j i s _ b hn hj h m rfl r r'
      · rw [List.getElem?_set_ne hij] at hj
        rw [List.getElem?_set_ne hij'] at hj'
        exact G.ap j j' s s' b hn hj hj' m m' r r'
theorem Good.putT {K : PySem.W.Frag} {P : Hp} {σ : St} {ρ : Env} {F H : Hp} {i : Nat} {n m : Nat} {a : Addr} (G : Good K c P σ ρ F H) (h : ρ[i]? = some (.t n)) (ha : (σ[i]?).join = some (.ref a)) :
    Good K c P σ (ρ.set i (.t m)) F (upd H a (.lst (List.replicate m (.int 0)))) := by
  obtain ⟨a', e1, e, hl, fn, pn⟩ := G.sl i _ h
  rw [e] at ha; cases ha
  have hi : i < ρ.length := by rw [List.getElem?_eq_some_iff] at h; exact h.1
  refine ⟨fun x o z => ?_, fun x o z => ?_, by simp [G.len], fun j s hj => ?_, fun j j' s s' b hn hj hj' m m' r r' => ?_⟩
  · rw [upd_ne (ne_of_none z fn)]; exact G.le x o z
  · rw [upd_ne (ne_of_none z pn)]; exact G.pin x o z
  · by_cases hij : i = j
    · subst hij
      rw [List.getElem?_set_self hi] at hj
      cases hj
      exact ⟨a, e1, e, upd_same, fn, pn⟩
    · rw [List.getElem?_set_ne hij] at hj
      refine SlotOk.side le.refl (G.sl j s hj) (fun b o m r z => ?_) (fun _ _ _ z => z) fun _ _ _ z => z
      have : b ≠ a := fun eb => by subst eb; exact G.ap i j _ s b hij h hj rfl m e r
      rw [upd_ne this]; exact z
  · by_cases hij : i = j
    · subst hij
      rw [List.getElem?_set_self hi] at hj
      cases hj
      rw [List.getElem?_set_ne hn] at hj'
      exact G.ap i j' _ s' b hn h hj' rfl m' r r'
    · by_cases hij' : i = j'
      · subst hij'
        rw [List.getElem?_set_self hi] at hj'
        cases hj'
        rw [List.getElem?_set_ne hij] at hj
        exact G.ap j i s _ b hn hj h m rfl r r'
      · rw [List.getElem?_set_ne hij] at hj
        rw [List.getElem?_set_ne hij'] at hj'
        exact G.ap j j' s s' b hn hj hj' m m' r r'
def isOwn : Option Slot → Bool
  | some (.l _) => true
  | some (.t _) => true
  | _ => false
def mAppend (i : Nat) (f : M D) : M D := fun ρ => if isOwn ρ[i]? = true then (f ρ).bind fun x => match x.2[i]? with
  | some (.l xs) => if xs.length < lim then .ok (.none, x.2.set i (.l (xs ++ [x.1]))) else .bad
  | _ => .bad else .bad
/-- the counter list grows by a nought -/
def mTick (i : Nat) : M D := fun ρ => match ρ[i]? with
  | some (.t n) => if n < lim then .ok (.none, ρ.set i (.t (n + 1))) else .bad
  | _ => .bad
theorem own_at {K : PySem.W.Frag} {P : Hp} {σ : St} {ρ : Env} {F H : Hp} {i : Nat} (G : Good K c P σ ρ F H) (h : isOwn ρ[i]? = true) : ∃ a xs, (σ[i]?).join = some (.ref a) ∧ H a = some (.lst xs) := by
  cases e : ρ[i]? with
  | none => rw [e] at h; cases h
  | some s =>
    rw [e] at h
    have q := G.sl i s e
    cases s with
    | l xs => obtain ⟨a, vs, e1, e2, _⟩ := q; exact ⟨a, vs, e1, e2⟩
    | t n => obtain ⟨a, _, e1, e2, _⟩ := q; exact ⟨a, _, e1, e2⟩
    | _ => cases h
theorem de_append {i : Nat} {o : Expr} {apos cpos : Pos} {e : Expr} (h : ∀ t, PA X [e] t → PE X (.Call (.Attribute o "append" apos) [e] [] cpos) (tBM X.K "list" rAppend (tVar i) t)) (ha : DE X c W e f)
    (hs : starEach [e] X.env = (false, eval e X.env) :: starEach [] X.env := by rfl) : DE X c W (.Call (.Attribute o "append" apos) [e] [] cpos) (mAppend i f) :=
  PE.imp (h _ (pa_cons ha pa_nil hs)) fun σ H Q ⟨P, ρ, F, G, p⟩ => by
    obtain ⟨hw, p⟩ := Post.ite p
    obtain ⟨a, xs, e1, e2⟩ := own_at G hw
    refine ⟨_, join_some e1, .inl ⟨rfl, xs, SqL.of e2⟩, P, ρ, F, G, p.bind.mono fun d ρ1 F1 H1 G1 l1 p1 v dv => ?_⟩
    show rAppend (.ref a) [v] H1 Q
    cases e : ρ1[i]? with
    | none => simp only [e] at p1; exact p1.elim
    | some s =>
      cases s with
      | l ys =>
        simp only [e] at p1
        obtain ⟨hl, p1⟩ := Post.ite p1
        obtain ⟨b, vs, e3, e4, e5, e6, e7⟩ := G1.sl i _ e
        rw [e1] at e3; cases e3
        exact ⟨a, vs, v, rfl, rfl, e4, by rw [e7.length]; exact lim_line' hl, p1 F1 _ (G1.put e e1 (DvAll.append e7 (.cons dv .nil))) le.refl _ .non⟩
      | _ => simp only [e] at p1; exact p1.elim
theorem de_tick {i j : Nat} {o : Expr} {apos cpos p0 : Pos} (h : ∀ t, PA X [.Constant (.int 0) j p0] t → PE X (.Call (.Attribute o "append" apos) [.Constant (.int 0) j p0] [] cpos) (tBM X.K "list" rAppend (tVar i) t)) : DE X c W (.Call (.Attribute o "append" apos) [.Constant (.int 0) j p0] [] cpos) (mTick i) :=
  PE.imp (h _ (pa_cons pe_int pa_nil)) fun σ H Q ⟨P, ρ, F, G, p⟩ => by
    unfold mTick at p
    cases e : ρ[i]? with
    | none => simp only [e] at p; exact p.elim
    | some s =>
      cases s with
      | t n =>
        simp only [e] at p
        obtain ⟨hl, p⟩ := Post.ite p
        obtain ⟨b, e0, e3, e4, e5, e6⟩ := G.sl i _ e
        refine ⟨_, join_some e3, .inl ⟨rfl, _, SqL.of e4⟩, b, _, _, rfl, rfl, e4, by rw [List.length_replicate]; exact lim_line' hl, ?_⟩
        rw [← List.replicate_succ']
        exact p F _ (G.putT e e3) le.refl _ .non
      | _ => simp only [e] at p; exact p.elim
def mExtend (i : Nat) (f : M D) : M D := fun ρ => if isOwn ρ[i]? = true then (f ρ).bind fun x => match x.2[i]?, x.1 with
  | some (.l xs), .list ys => if xs.length + ys.length ≤ lim then .ok (.none, x.2.set i (.l (xs ++ ys))) else .bad
  | _, _ => .bad else .bad
theorem de_extend {i : Nat} {o : Expr} {apos cpos : Pos} {e : Expr} (h : ∀ t, PA X [e] t → PE X (.Call (.Attribute o "extend" apos) [e] [] cpos) (tBM X.K "list" rExtend (tVar i) t)) (ha : DE X c W e f)
    (hs : starEach [e] X.env = (false, eval e X.env) :: starEach [] X.env := by rfl) : DE X c W (.Call (.Attribute o "extend" apos) [e] [] cpos) (mExtend i f) :=
  PE.imp (h _ (pa_cons ha pa_nil hs)) fun σ H Q ⟨P, ρ, F, G, p⟩ => by
    obtain ⟨hw, p⟩ := Post.ite p
    obtain ⟨a, xs, e1, e2⟩ := own_at G hw
    refine ⟨_, join_some e1, .inl ⟨rfl, xs, SqL.of e2⟩, P, ρ, F, G, p.bind.mono fun d ρ1 F1 H1 G1 l1 p1 v dv => ?_⟩
    show rExtend (.ref a) [v] H1 Q
    cases e : ρ1[i]? with
    | none => simp only [e] at p1; exact p1.elim
    | some s =>
      cases s with
      | l ys =>
        cases d <;> (try (simp only [e] at p1; exact p1.elim))
        simp only [e] at p1
        obtain ⟨hl, p1⟩ := Post.ite p1
        obtain ⟨b, vs, e3, e4, e5, e6, e7⟩ := G1.sl i _ e
        rw [e1] at e3; cases e3
        obtain ⟨b', us, rfl, k1, k2⟩ := dv.lst_inv
        exact ⟨a, b', vs, us, rfl, rfl, e4, G1.le _ _ k1, by rw [e7.length, k2.length]; exact lim_line hl, p1 F1 _ (G1.put e e1 (DvAll.append e7 k2)) le.refl _ .non⟩
      | _ => simp only [e] at p1; exact p1.elim
def mPop (i : Nat) : M D := fun ρ => match ρ[i]? with
  | some (.l xs) => match xs.getLast? with
    | some d => .ok (d, ρ.set i (.l xs.dropLast))
    | none => .bad
  | _ => .bad
theorem DvAll.dropLast {K : PySem.W.Frag} {F : Hp} {vs : List V} {ds : List D} (h : DvAll K F vs ds) : DvAll K F vs.dropLast ds.dropLast := by
  rw [List.dropLast_eq_take, List.dropLast_eq_take, h.length]
  exact DvAll.take _ h
theorem de_pop {i : Nat} {e : Expr} (h : PE X e (tBM0 X.K "list" rPop (tVar i))) : DE X c W e (mPop i) := PE.imp h fun σ H Q ⟨P, ρ, F, G, p⟩ => by
  unfold mPop at p
  cases e : ρ[i]? with
  | none => simp only [e] at p; exact p.elim
  | some s =>
    cases s with
    | l ys =>
      simp only [e] at p
      obtain ⟨a, vs, e3, e4, e5, e6, e7⟩ := G.sl i _ e
      cases z : ys.getLast? with
      | none => simp only [z] at p; exact p.elim
      | some d =>
        simp only [z] at p
        rw [List.getLast?_eq_getElem?] at z
        obtain ⟨v, h1, h2⟩ := e7.get' z
        exact ⟨_, join_some e3, .inl ⟨rfl, vs, SqL.of e4⟩, a, vs, v, rfl, rfl, e4, by rw [e7.length]; exact h1, p F _ (G.put e e3 e7.dropLast) le.refl v h2⟩
    | _ => simp only [e] at p; exact p.elim
/-- len(x), the list stays the def's own -/
def mLenS (i : Nat) : M D := fun ρ => match ρ[i]? with
  | some (.l xs) => .ok (.int xs.length, ρ)
  | some (.t n) => .ok (.int n, ρ)
  | some (.s ns) => .ok (.int ns.length, ρ)
  | _ => .bad
theorem de_lenS {i : Nat} {e : Expr} (h : PE X e (tCB (fun xs H Q => ∃ x n, xs = [x] ∧ LenV X.K x H n ∧ Q (.int n) H) (tCons (tVar i) tNil))) : DE X c W e (mLenS i) := PE.imp h fun σ H Q ⟨P, ρ, F, G, p⟩ => by
  unfold mLenS at p
  cases e : ρ[i]? with
  | none => simp only [e] at p; exact p.elim
  | some s =>
    cases s with
    | l ys =>
      simp only [e] at p
      obtain ⟨a, vs, e3, e4, e5, e6, e7⟩ := G.sl i _ e
      exact ⟨_, join_some e3, _, _, rfl, .inl ⟨vs, SqL.of e4, rfl⟩, by rw [e7.length]; exact p.ok G _ (.int _)⟩
    | t n =>
      simp only [e] at p
      obtain ⟨a, e0, e3, e4, e5, e6⟩ := G.sl i _ e
      exact ⟨_, join_some e3, _, _, rfl, .inl ⟨_, SqL.of e4, rfl⟩, by rw [List.length_replicate]; exact p.ok G _ (.int _)⟩
    | s ns =>
      simp only [e] at p
      obtain ⟨a, e3, e4⟩ := G.sl i _ e
      exact ⟨_, join_some e3, _, _, rfl, .inl ⟨_, SqL.le e4 G.le, rfl⟩, by rw [List.length_map]; exact p.ok G _ (.int _)⟩
    | _ => simp only [e] at p; exact p.elim
end
end DL

set_option maxHeartbeats 2000000
/-! DL5: what a for walks: lists and tuples alike, ranges, texts, enumerate, zip; comprehensions. -/
namespace DL
open PySem PySem.Spec L2
open PyProof.Rows hiding St

/-! ### a list (true) or a tuple (false) -/
def Sq (fl : Bool) (K : PySem.W.Frag) (H : Hp) (a : Addr) (xs : List V) : Prop := match fl with
  | true => SqL K H a xs
  | false => SqT K H a xs
def heldAt (fl : Bool) (h : Heap) (a : Addr) (its : Array Value) : Prop := match fl with
  | true => h.IsList a its
  | false => h.IsTuple a its
def iterAt (fl : Bool) (h : Heap) (it a : Addr) (i : Nat) : Prop := match fl with
  | true => h.IsListIter it a i
  | false => h.IsTupleIter it a i
def iterO (fl : Bool) (a : Addr) : Obj := match fl with
  | true => { cls := .type "list_iterator", data := .fields #[.ref a, .int 0 0] }
  | false => { cls := .type "tuple_iterator", data := .fields #[.ref a, .int 0 0] }
section
variable {fl : Bool} {K : PySem.W.Frag} {H F : Hp} {a it : Addr} {xs : List V} {h h' : Heap} {i : Nat} {its : Array Value}
theorem Sq.le (q : Sq fl K F a xs) (l : DL.le F H) : Sq fl K H a xs := by
  cases fl
  · exact SqT.le q l
  · exact SqL.le q l
theorem iterAt.at (x : iterAt fl h it a i) (k : ∀ o, h.get? it = some o → h'.get? it = some o) : iterAt fl h' it a i := by
  cases fl
  · exact Heap.IsTupleIter.at x k
  · exact Heap.IsListIter.at x k
theorem iterAt.ob (x : iterAt fl h it a i) : ∃ o, h.get? it = some o ∧ ∀ v, o.data ≠ .cell v := by
  cases fl
  · obtain ⟨o, e, c, d⟩ := x
    exact ⟨o, e, fun v z => by rw [d] at z; cases z⟩
  · obtain ⟨o, e, c, d⟩ := x
    exact ⟨o, e, fun v z => by rw [d] at z; cases z⟩
theorem iterAt.new (e : h.get? it = some (iterO fl a)) : iterAt fl h it a 0 := by
  cases fl
  · exact ⟨_, e, rfl, rfl⟩
  · exact ⟨_, e, rfl, rfl⟩
theorem iter_ne (x : iterAt fl h it a i) (y : heldAt fl h a its) : a ≠ it := by
  rintro rfl
  cases fl
  · obtain ⟨o, e, c, d⟩ := x
    obtain ⟨o', e', c', _⟩ := y
    rw [e] at e'; cases e'; rw [c] at c'; exact absurd c' (by decide)
  · obtain ⟨o, e, c, d⟩ := x
    obtain ⟨o', e', c', _⟩ := y
    rw [e] at e'; cases e'; rw [c] at c'; exact absurd c' (by decide)
theorem Draws.src {prog : Program} {w : World} {A : Around} (hh : A.handled = none) (hne : a ≠ it) : Draws prog w A it [it, a] its.size (fun i v => its[i]? = some v) (fun i h => iterAt fl h it a i ∧ heldAt fl h a its) := by
  cases fl
  · exact PySem.Draws.tuple hh it a hne its
  · exact PySem.Draws.list hh it a hne its
theorem begins_src : Begins (.ref a) (iterO fl a) fun h => heldAt fl h a its := by
  cases fl
  · exact begins_tuple a its
  · exact begins_list a its
theorem Inv.src {X : Cx} {pins : List (Addr × Obj)} {σ : L2.St} {s : Shared} (I : L2.Inv X pins σ H s) (q : Sq fl X.K H a xs) : ∃ us, Vals xs us ∧ heldAt fl s.heap a us.toArray := by
  cases fl
  · obtain ⟨us, r, p, _⟩ := I.tuple q
    exact ⟨us, r, p⟩
  · obtain ⟨us, r, p, _⟩ := I.list q
    exact ⟨us, r, p.isList⟩
theorem Inv.src_inj {X : Cx} {pins : List (Addr × Obj)} {σ : L2.St} {s : Shared} {ys : List V} (I : L2.Inv X pins σ H s) (q : Sq fl X.K H a xs) (q' : Sq fl X.K H a ys) : xs = ys := by
  cases fl
  · exact I.tuple_inj q q'
  · exact I.list_inj q q'
end

/-! ### a list or a tuple walked -/
def mItems (f : M D) : M (List D) := fun ρ => (f ρ).bind fun x => match x.1 with
  | .list xs => .ok (xs, x.2)
  | .tuple xs => .ok (xs, x.2)
  | _ => .bad
theorem itD_list {K : PySem.W.Frag} {F : Hp} {a : Addr} {vs : List V} {ds : List D} (h : F a = some (.lst vs)) (dv : DvAll K F vs ds) : ItD K (Itl K a) F ds where
  go := fun i H l hi => by
    have hv : i < vs.length := by rw [dv.length]; exact hi
    exact ⟨vs, vs[i], SqL.of (l _ _ h), by simp [hv]⟩
  stop := fun i H l hi => ⟨vs, SqL.of (l _ _ h), by rw [dv.length]; omega⟩
  yld := fun i H x H' l _ ⟨e, y⟩ => by
    subst e
    obtain ⟨d, h1, h2⟩ := dv.get (y vs (SqL.of (l _ _ h)))
    exact ⟨d, h1, fun F1 l1 l2 => ⟨F1, Grow.refl l2, Dv.le l1 h2⟩⟩
theorem itD_tup {K : PySem.W.Frag} {F : Hp} {a : Addr} {vs : List V} {ds : List D} (h : SqT K F a vs) (dv : DvAll K F vs ds) : ItD K (Itt K a) F ds where
  go := fun i H l hi => by
    have hv : i < vs.length := by rw [dv.length]; exact hi
    exact ⟨vs, vs[i], SqT.le h l, by simp [hv]⟩
  stop := fun i H l hi => ⟨vs, SqT.le h l, by rw [dv.length]; omega⟩
  yld := fun i H x H' l _ ⟨e, y⟩ => by
    subst e
    obtain ⟨d, h1, h2⟩ := dv.get (y vs (SqT.le h l))
    exact ⟨d, h1, fun F1 l1 l2 => ⟨F1, Grow.refl l2, Dv.le l1 h2⟩⟩
section
variable {X : Cx} {c : Cst} {W : XK} {k : Nat} {e a b : Expr} {es : List Expr} {f : M D} {pos p : Pos} {tg : Expr}
theorem di_seq (hl : DE X c W e f) : DI X c W tg e (mItems f) := by
  refine ⟨fun pins s σ H R I h => ?_⟩
  obtain ⟨P, ρ, F, G, p⟩ := h
  refine thn (hl.run pins s σ H (fun v H1 => ∃ d ρ1 F1, Good X.K c P σ ρ1 F1 H1 ∧ Dv X.K F1 v d ∧ Post X.K c W P σ F1 (match d with | .list xs => Res.ok (xs, ρ1) | .tuple xs => .ok (xs, ρ1) | _ => .bad) fun ds _ F' H' => ∀ J H2, ItD X.K J F' ds → H2 = H' → R J H2) I ⟨P, ρ, F, G, p.bind.mono fun d ρ1 F1 H1 G1 l1 p1 v dv => ⟨d, ρ1, F1, G1, dv, p1⟩⟩) fun v s1 ⟨x, H1, I1, r1, d, ρ1, F1, G1, dv, p1⟩ => ?_
  cases d <;> (try exact p1.elim)
  · rename_i ds
    obtain ⟨a, xs, rfl, h1, h2⟩ := dv.lst_inv
    have q := p1.ok G1 _ _ (itD_list h1 h2) rfl
    have hq : SqL X.K H1 a xs := SqL.of (G1.le _ _ h1)
    cases r1
    obtain ⟨its, rv, p, hz⟩ := I1.list hq
    refine wpAny_pyIter_list p.isList ?_
    refine ⟨s1.heap.objs.size, [s1.heap.objs.size], _, _, H1, rfl, I1.kept (t' := s1.toks) fun b o e => Heap.get?_push_of_some _ e, turn_list a _, ⟨_, Heap.get?_push_size _ rfl, rfl, rfl⟩, fun b hb => ?_, q⟩
    have e : b = s1.heap.objs.size := by simpa using hb
    subst e
    exact I1.fpOk (Nat.le_refl _) (I1.hok.fresh (Nat.le_refl _))
  · rename_i ds
    obtain ⟨a, xs, rfl, h1, h2⟩ := dv.tup_inv
    have q := p1.ok G1 _ _ (itD_tup h1 h2) rfl
    have hq : SqT X.K H1 a xs := SqT.le h1 G1.le
    cases r1
    obtain ⟨its, rv, p, hz⟩ := I1.tuple hq
    refine wpAny_pyIter_tuple (show s1.heap.IsTuple a its.toArray from p) ?_
    refine ⟨s1.heap.objs.size, [s1.heap.objs.size], _, _, H1, rfl, I1.kept (t' := s1.toks) fun b o e => Heap.get?_push_of_some _ e, turn_tuple a _, ⟨_, Heap.get?_push_size _ rfl, rfl, rfl⟩, fun b hb => ?_, q⟩
    have e : b = s1.heap.objs.size := by simpa using hb
    subst e
    exact I1.fpOk (Nat.le_refl _) (I1.hok.fresh (Nat.le_refl _))

theorem PI.imp {t t' : TI} (h : PI X tg e t) (m : ∀ σ H R, t' σ H R → t σ H R) : PI X tg e t' := ⟨fun pins s σ H R I q => h.run pins s σ H R I (m σ H R q)⟩
/-! ### ranges, texts -/
def rangeD (lo : Int) (n : Nat) : List D := (List.range n).map fun i => .int (lo + (i : Nat))
theorem rangeD_len (lo : Int) (n : Nat) : (rangeD lo n).length = n := by simp [rangeD]
theorem itD_range {K : PySem.W.Frag} {F : Hp} {lo : Int} {n : Nat} : ItD K (Itr lo n) F (rangeD lo n) where
  go := fun i H _ hi => by
    rw [rangeD_len] at hi
    exact hi
  stop := fun i H _ hi => by
    rw [rangeD_len] at hi
    exact Nat.le_of_eq hi.symm
  yld := fun i H x H' _ hi ⟨e, y⟩ => by
    subst e y
    rw [rangeD_len] at hi
    exact ⟨.int (lo + (i : Nat)), by simp [rangeD, hi], fun F1 _ l2 => ⟨F1, Grow.refl l2, .int _⟩⟩
noncomputable def rangeOk (j : Int) : Bool := gd (-(2 ^ 62) ≤ j ∧ j < 2 ^ 62)
noncomputable def mRange1 (f : M D) : M (List D) := fun ρ => (f ρ).bind fun x => match x.1 with
  | .int j => if rangeOk j = true then .ok (rangeD 0 j.toNat, x.2) else .bad
  | _ => .bad
theorem di_range1 (hg : Gl X "range") (hm : X.mg "range" = none) (ha : DE X c W a f) (hs : starEach [a] X.env = [(false, eval a X.env)] := by rfl) (hs2 : starEach [a] X.env = (false, eval a X.env) :: starEach [] X.env := by rfl) :
    DI X c W tg (.Call (.Name "range" p) [a] [] pos) (mRange1 f) := PI.imp (pi_range1 hg hm (pa_cons ha pa_nil hs2) hs) fun σ H R ⟨P, ρ, F, G, p⟩ => ⟨P, ρ, F, G, p.bind.mono fun d ρ1 F1 H1 G1 l1 p1 v dv => by
  cases d <;> (try exact p1.elim)
  obtain ⟨hl, p1⟩ := Post.ite p1
  have hl := of_gd hl
  rw [dv.int_inv]
  exact ⟨_, rfl, hl.1, hl.2, p1.ok G1 _ _ itD_range rfl⟩⟩
noncomputable def mRange2 (f g : M D) : M (List D) := fun ρ => (f ρ).bind fun x => (g x.2).bind fun y => match x.1, y.1 with
  | .int i, .int j => if (rangeOk i && rangeOk j) = true then .ok (rangeD i (j - i).toNat, y.2) else .bad
  | _, _ => .bad
theorem di_range2 {g : M D} (hg : Gl X "range") (hm : X.mg "range" = none) (ha : DE X c W a f) (hb : DE X c W b g) (hs : starEach [a, b] X.env = [(false, eval a X.env), (false, eval b X.env)] := by rfl) (hs2 : starEach [b] X.env = [(false, eval b X.env)] := by rfl)
    (hs3 : starEach [a, b] X.env = (false, eval a X.env) :: starEach [b] X.env := by rfl) (hs4 : starEach [b] X.env = (false, eval b X.env) :: starEach [] X.env := by rfl) :
    DI X c W tg (.Call (.Name "range" p) [a, b] [] pos) (mRange2 f g) := PI.imp (pi_range2 hg hm (pa_cons ha (pa_cons hb pa_nil hs4) hs3) hs hs2) fun σ H R ⟨P, ρ, F, G, p⟩ =>
  ⟨P, ρ, F, G, p.bind.mono fun d ρ1 F1 H1 G1 l1 p1 v dv => ⟨P, ρ1, F1, G1, p1.bind.mono fun e ρ2 F2 H2 G2 l2 p2 u du => by
    cases d <;> cases e <;> (try exact p2.elim)
    obtain ⟨hl, p2⟩ := Post.ite p2
    rw [Bool.and_eq_true] at hl
    have h1 := of_gd hl.1
    have h2 := of_gd hl.2
    rw [dv.int_inv, du.int_inv]
    exact ⟨_, _, rfl, ⟨h1.1, h1.2, h2.1, h2.2⟩, p2.ok G2 _ _ itD_range rfl⟩⟩⟩
def signsD (x : Str) : List D := x.cps.toList.map fun c => .str ⟨#[c]⟩
theorem itD_str {K : PySem.W.Frag} {F : Hp} {x : Str} : ItD K (Its x) F (signsD x) where
  go := fun i H _ hi => by
    have : i < x.cps.size := by simpa [signsD] using hi
    exact this
  stop := fun i H _ hi => by
    have : i = x.cps.size := by simpa [signsD] using hi
    exact Nat.le_of_eq this.symm
  yld := fun i H v H' _ hi ⟨e, c, y1, y2⟩ => by
    subst e y2
    exact ⟨.str ⟨#[c]⟩, by simp [signsD, y1], fun F1 _ l2 => ⟨F1, Grow.refl l2, .str _⟩⟩
def mSigns (f : M D) : M (List D) := fun ρ => (f ρ).bind fun x => match x.1 with
  | .str z => .ok (signsD z, x.2)
  | _ => .bad
theorem di_str (he : DE X c W e f) : DI X c W tg e (mSigns f) := PI.imp (pi_str he) fun σ H R ⟨P, ρ, F, G, p⟩ => ⟨P, ρ, F, G, p.bind.mono fun d ρ1 F1 H1 G1 l1 p1 v dv => by
  cases d <;> (try exact p1.elim)
  rw [dv.str_inv]
  exact ⟨_, rfl, p1.ok G1 _ _ itD_str rfl⟩⟩

/-! ### enumerate -/
/-- the pairs of number and item, new ones -/
def ItE (fl : Bool) (K : PySem.W.Frag) (a : Addr) (xs : List V) : It :=
  ⟨fun i H => i < xs.length ∧ Sq fl K H a xs, fun i H v H' => ∃ T x, v = .ref T ∧ H T = none ∧ H' = upd H T (.tup [.int (i : Nat), x]) ∧ xs[i]? = some x, fun i H => i = xs.length ∧ Sq fl K H a xs⟩
theorem turn_enumX {P : Program} {w : World} {K : PySem.W.Frag} {fl : Bool} {xs : List V} {elts : List Expr} {kk : Nat} {tpos : Pos} (a e it : Addr) :
    Turn P w K (.Tuple elts kk tpos) (ItE fl K a xs) [e, it] e (fun i h => (∃ old, IsEnum h e it (0 + (i : Int)) old) ∧ iterAt fl h it a i ∧ e ≠ it ∧ e ≠ a) where
  mem := by simp
  obj := fun i h st b hb => by
    obtain ⟨⟨old, he⟩, hi, _⟩ := st
    have e' : b = e ∨ b = it := by simpa using hb
    rcases e' with rfl | rfl
    · exact ⟨_, he, fun v q => nomatch q⟩
    · exact hi.ob
  keep := fun i h h' st k => let ⟨⟨old, he⟩, hi, hne⟩ := st; ⟨⟨old, k e (by simp) _ he⟩, hi.at fun o q => k it (by simp) o q, hne⟩
  item := by
    intro X hP hw hK hc i pins s σ H E I hf st hg
    subst hP hw hK
    obtain ⟨⟨old, he⟩, hit, hne, hea⟩ := st
    obtain ⟨hlt, hq⟩ := hg
    obtain ⟨us, rv, hh⟩ := Inv.src I hq
    have hel : e < s.heap.objs.size := Heap.lt_size he
    have hil : it < s.heap.objs.size := by obtain ⟨o, q, _⟩ := hit.ob; exact Heap.lt_size q
    have hn : i < us.toArray.size := by rw [List.size_toArray, ← rv.length]; exact hlt
    have hai : a ≠ it := iter_ne hit hh
    have GN := GoesN.enumFrom (prog := X.prog) (w := X.w) (A := X.A) (elts := elts) (x1 := kk) (pos := tpos) 0 (Draws.src (fl := fl) (its := us.toArray) (a := a) (it := it) (A := X.A.in1) (I.ok.hd hc) hai) e hne (by simp [hne, hea]) (by simp)
    refine GN.goes i s _ E hn ⟨⟨old, he⟩, hit, hh⟩ fun v h' tk hY st' hk htk => ?_
    obtain ⟨T, t, x, rfl, hT, hx, hTt⟩ := hY
    obtain ⟨⟨old', he'⟩, hit', _⟩ := st'
    have hx' : us[i]? = some x := by simpa using hx
    have hxs : ∃ y, xs[i]? = some y := ⟨xs[i], by simp [hlt]⟩
    obtain ⟨y, hy⟩ := hxs
    obtain ⟨u', hu', ry⟩ := rv.get hy
    rw [hx'] at hu'; cases hu'
    have new : ObjOk X.prog X.w (upd H T (.tup [.int (i : Nat), y])) h' T (.tup [.int (i : Nat), y]) :=
      ⟨by show 2 ≤ sizeLine; decide, [.int (0 + (i : Int)) t, x], .cons ⟨t, by rw [Int.zero_add]⟩ (.cons ry .nil), hTt⟩
    have I1 : L2.Inv X pins σ (upd H T (.tup [.int (i : Nat), y])) { s with heap := h', toks := tk } :=
      I.turnedNew (ch := [e, it]) (fun b ob hb q => hk b ob hb q) hf hT new
    refine ⟨.ref T, _, I1, rfl, ⟨T, y, rfl, I.hok.fresh hT, rfl, hy⟩, ⟨⟨old', he'⟩, hit', hne, hea⟩, fun b hb => ?_⟩
    have hb' : b < s.heap.objs.size := by
      have e' : b = e ∨ b = it := by simpa using hb
      rcases e' with rfl | rfl
      · exact hel
      · exact hil
    rw [upd_ne (Nat.ne_of_lt (Nat.lt_of_lt_of_le hb' hT))]
    exact (hf b hb).1
  done := by
    intro X hP hw hK hc i pins s σ H E I hf st hg
    subst hP hw hK
    obtain ⟨⟨old, he⟩, hit, hne, hea⟩ := st
    obtain ⟨hlt, hq⟩ := hg
    obtain ⟨us, rv, hh⟩ := Inv.src I hq
    have hn : i = us.toArray.size := by rw [List.size_toArray, ← rv.length]; exact hlt
    have hai : a ≠ it := iter_ne hit hh
    have GN := GoesN.enumFrom (prog := X.prog) (w := X.w) (A := X.A) (elts := elts) (x1 := kk) (pos := tpos) 0 (Draws.src (fl := fl) (its := us.toArray) (a := a) (it := it) (A := X.A.in1) (I.ok.hd hc) hai) e hne (by simp [hne, hea]) (by simp)
    subst hn
    exact GN.stops s (fun s1 => L2.Inv X pins σ H s1) E ⟨⟨old, he⟩, hit, hh⟩ fun h' tk hk htk => I.turnedL (ch := [e, it]) (fun b ob hb q => hk b ob hb q) hf
  self := fun A i s Q E st h => let ⟨⟨_, he⟩, _⟩ := st; wpAny_pyIter_enum he h
theorem meets_enumX {v : Value} {o : Obj} {Hh : Heap → Prop} (B : Begins v o Hh) :
    Meets (Builtin.«enumerate.__new__» ⟨[.type "enumerate", v], []⟩) (fun _ R s => Hh s.heap ∧
      R (.ok (.ret (.ref (s.heap.push o).objs.size))) { s with heap := (s.heap.push o).push { cls := .type "enumerate", data := .fields #[.none, .bool false, .ref s.heap.objs.size, rawInt 0, .none, .none] } }) :=
  .of_wp fun prog w A R s h => by
    obtain ⟨hp, g, d, tk, os⟩ := s; obtain ⟨h1, h⟩ := h
    have hsub := sub_enumerate
    have q1 : ∀ {A' : Around} {E : Value → Shared → Prop} {Q : Value → Shared → Prop}, Q (.ref hp.objs.size) ⟨hp.push o, g, d, tk, os⟩ → wpAny (model prog w) A' (pyIter v) Q E ⟨hp, g, d, tk, os⟩ :=
      fun q => B.iter prog w _ _ ⟨hp, g, d, tk, os⟩ _ h1 q
    wp_walk using q1
    refine wpAny_stack_any fun st => wpAny_pure ?_
    split
    · rename_i c _ _ _ _ _
      cases (c == Value.type "enumerate")
      · wp_walk using q1
        exact ⟨_, rfl, h⟩
      · wp_walk using q1
        exact ⟨_, rfl, h⟩
    · wp_walk using q1
      exact ⟨_, rfl, h⟩
theorem call_enumX {prog : Program} {w : World} {A : Around} {E : Value → Shared → Prop} {s : Shared} {v : Value} {o : Obj} {Hh : Heap → Prop} {Q : Value → Shared → Prop} (B : Begins v o Hh) (h1 : Hh s.heap)
    (h : ∀ h', IsEnum h' (s.heap.objs.size + 1) s.heap.objs.size 0 .none → h'.get? s.heap.objs.size = some o → (∀ b o, s.heap.get? b = some o → h'.get? b = some o) → Q (.ref (s.heap.objs.size + 1)) { s with heap := h' }) :
    wpAny (model prog w) A (call (.type "enumerate") [v]) Q E s := by
  refine callType_new F.called_enumerate (by decide) (F.typeCall_enumerate_1 _) (F.newCall_enumerate_1 _) (fun obj => F.args_object_init_2 obj _) F.entry_enumerate_new (meets_enumX B) ⟨h1, ?_⟩
  have hz : (s.heap.push o).objs.size = s.heap.objs.size + 1 := Heap.size_push ..
  show _ ∧ _
  rw [hz]
  have he : IsEnum ((s.heap.push o).push { cls := .type "enumerate", data := .fields #[.none, .bool false, .ref s.heap.objs.size, rawInt 0, .none, .none] }) (s.heap.objs.size + 1) s.heap.objs.size 0 .none := by
    have := Heap.get?_push_size (s.heap.push o) (o := { cls := .type "enumerate", data := .fields #[.none, .bool false, .ref s.heap.objs.size, rawInt 0, .none, .none] }) rfl
    rw [hz] at this; exact this
  exact ⟨⟨_, he, rfl⟩, h _ he (Heap.get?_push_of_some _ (Heap.get?_push_size _ B.free)) fun b o x => Heap.get?_push_of_some _ (Heap.get?_push_of_some _ x)⟩
def iEnumX (K : PySem.W.Frag) (ta : TA) : TI := fun σ H R => ta σ H fun vs H1 => ∃ fl a xs, vs = [.ref a] ∧ Sq fl K H1 a xs ∧ R (ItE fl K a xs) H1
theorem pi_enumX {ta : TA} {elts : List Expr} {kk : Nat} {tpos : Pos} (hg : Gl X "enumerate") (hm : X.mg "enumerate" = none) (ha : PA X [e] ta) (hs : starEach [e] X.env = [(false, eval e X.env)] := by rfl) :
    PI X (.Tuple elts kk tpos) (.Call (.Name "enumerate" p) [e] [] pos) (iEnumX X.K ta) := by
  refine ⟨fun pins s σ H R I h => ?_⟩
  refine Call_ (ld_blt I hg hm boot_enumerate (PyProof.Rows.callWith_type1 (thn (ha.run pos pins s σ H _ I h) fun us s1 ⟨vs, H1, I1, r1, q1⟩ => ?_) hs rfl))
  obtain ⟨fl, a, xs, rfl, hq, q⟩ := q1
  cases r1 with
  | cons r rr =>
    cases rr
    cases r
    obtain ⟨us, rv, hh⟩ := Inv.src I1 hq
    refine call_enumX (begins_src (fl := fl) (a := a) (its := us.toArray)) hh fun h' he ho hk => wpAny_pyIter_enum he ?_
    have I2 : L2.Inv X pins σ H1 { s1 with heap := h' } := I1.kept (t' := s1.toks) hk
    have hal : a < s1.heap.objs.size := by
      cases fl
      · obtain ⟨o, e, _⟩ := hh; exact Heap.lt_size e
      · obtain ⟨o, e, _⟩ := hh; exact Heap.lt_size e
    refine ⟨s1.heap.objs.size + 1, [s1.heap.objs.size + 1, s1.heap.objs.size], _, _, H1, rfl, I2, turn_enumX a (s1.heap.objs.size + 1) s1.heap.objs.size, ⟨⟨.none, he⟩, iterAt.new ho, Nat.succ_ne_self _, Nat.ne_of_gt (Nat.lt_succ_of_lt hal)⟩, fun b hb => ?_, q⟩
    have e' : b = s1.heap.objs.size + 1 ∨ b = s1.heap.objs.size := by simpa using hb
    have hle : s1.heap.objs.size ≤ b := by
      rcases e' with z | z
      · rw [z]; exact Nat.le_add_right _ _
      · rw [z]; exact Nat.le_refl _
    exact I1.fpOk hle (I1.hok.fresh hle)
/-- numbered from 0 -/
def enumD (i : Nat) : List D → List D
  | [] => []
  | d :: r => .tuple [.int (i : Nat), d] :: enumD (i + 1) r
theorem enumD_len : ∀ (ds : List D) (i : Nat), (enumD i ds).length = ds.length
  | [], _ => rfl
  | _ :: r, i => by simp [enumD, enumD_len r]
theorem enumD_get : ∀ (ds : List D) (i j : Nat) (d : D), ds[j]? = some d → (enumD i ds)[j]? = some (.tuple [.int ((i + j : Nat) : Int), d])
  | [], _, _, _, h => by simp at h
  | x :: r, i, 0, d, h => by simp at h; subst h; simp [enumD]
  | x :: r, i, j + 1, d, h => by
    have := enumD_get r (i + 1) j d (by simpa using h)
    simp only [enumD, List.getElem?_cons_succ, this]
    have e : i + 1 + j = i + (j + 1) := by omega
    rw [e]
theorem itD_enum {K : PySem.W.Frag} {F : Hp} {fl : Bool} {a : Addr} {vs : List V} {ds : List D} (h : Sq fl K F a vs) (dv : DvAll K F vs ds) : ItD K (ItE fl K a vs) F (enumD 0 ds) where
  go := fun i H l hi => ⟨by rw [dv.length]; rw [enumD_len] at hi; exact hi, h.le l⟩
  stop := fun i H l hi => ⟨by rw [dv.length]; rw [enumD_len] at hi; exact hi, h.le l⟩
  yld := fun i H x H' l _ ⟨T, y, e, hn, eH, hy⟩ => by
    subst e eH
    obtain ⟨d, h1, h2⟩ := dv.get hy
    refine ⟨_, enumD_get ds 0 i d h1, fun F1 l1 l2 => ⟨_, Grow.lay (o := .tup [.int (i : Nat), y]) l2 hn, ?_⟩⟩
    have g := Grow.lay (o := .tup [.int (i : Nat), y]) l2 hn
    rw [Nat.zero_add]
    exact .tup (SqT.of upd_same) (.cons (.int _) (.cons (Dv.le (l1.trans g.ff) h2) .nil))
def mEnum (f : M D) : M (List D) := fun ρ => (f ρ).bind fun x => match x.1 with
  | .list xs => .ok (enumD 0 xs, x.2)
  | .tuple xs => .ok (enumD 0 xs, x.2)
  | _ => .bad
theorem di_enum {elts : List Expr} {kk : Nat} {tpos : Pos} (hg : Gl X "enumerate") (hm : X.mg "enumerate" = none) (ha : DE X c W e f) (hs : starEach [e] X.env = [(false, eval e X.env)] := by rfl) (hs2 : starEach [e] X.env = (false, eval e X.env) :: starEach [] X.env := by rfl) :
    DI X c W (.Tuple elts kk tpos) (.Call (.Name "enumerate" p) [e] [] pos) (mEnum f) := PI.imp (pi_enumX hg hm (pa_cons ha pa_nil hs2) hs) fun σ H R ⟨P, ρ, F, G, p⟩ => ⟨P, ρ, F, G, p.bind.mono fun d ρ1 F1 H1 G1 l1 p1 v dv => by
  cases d <;> (try exact p1.elim)
  · obtain ⟨a, xs, rfl, h1, h2⟩ := dv.lst_inv
    exact ⟨true, a, xs, rfl, SqL.of (G1.le _ _ h1), p1.ok G1 _ _ (itD_enum (fl := true) (SqL.of h1) h2) rfl⟩
  · obtain ⟨a, xs, rfl, h1, h2⟩ := dv.tup_inv
    exact ⟨false, a, xs, rfl, SqT.le h1 G1.le, p1.ok G1 _ _ (itD_enum (fl := false) h1 h2) rfl⟩⟩

/-! ### comprehensions -/
/-- the names of the block forgotten; then as they were -/
def wipeE (ρ : Env) : List Nat → Env
  | [] => ρ
  | i :: r => (wipeE ρ r).set i .un
def backE (ρ0 ρ : Env) : List Nat → Env
  | [] => ρ
  | i :: r => (backE ρ0 ρ r).set i ((ρ0[i]?).getD .un)
/-- a name of the block may not be a list of the def's own -/
def plainAt (ρ : Env) (ix : List Nat) : Bool := ix.all fun i => match ρ[i]? with
  | some s => !s.mutb
  | none => false
def lcD (ix : List Nat) (bd : D → Env → Option Env) (t : M Bool) (f : M D) : List D → List D → Env → Res (List D × Env)
  | [], acc, ρ => .ok (acc, ρ)
  | x :: xs, acc, ρ => (ofO (bd x ρ)).bind fun ρ1 => (t ρ1).nox.bind fun b => if b.1 = true then (f b.2).nox.bind fun y => if acc.length < lim then lcD ix bd t f xs (acc ++ [y.1]) (wipeE y.2 ix) else .bad else lcD ix bd t f xs acc (wipeE b.2 ix)
def mLc (ix : List Nat) (it : M (List D)) (bd : D → Env → Option Env) (t : M Bool) (f : M D) : M (List D) := fun ρ => (it ρ).bind fun x => if plainAt x.2 ix = true then (lcD ix bd t f x.1 [] (wipeE x.2 ix)).bind fun y => .ok (y.1, backE x.2 y.2 ix) else .bad
theorem wipeE_len (ρ : Env) : ∀ ix : List Nat, (wipeE ρ ix).length = ρ.length
  | [] => rfl
  | i :: r => by simp [wipeE, wipeE_len ρ r]
theorem wipeE_get (ρ : Env) : ∀ (ix : List Nat) (j : Nat), (wipeE ρ ix)[j]? = if j ∈ ix then (ρ[j]?).map fun _ => .un else ρ[j]?
  | [], j => by simp [wipeE]
  | i :: r, j => by
    by_cases h : i = j
    · subst h
      by_cases hl : i < (wipeE ρ r).length
      · simp only [wipeE, List.getElem?_set_self hl, List.mem_cons, true_or, if_true]
        rw [wipeE_len] at hl
        simp [hl]
      · have : ρ[i]? = none := by rw [wipeE_len] at hl; simpa using hl
        simp only [wipeE]
        rw [List.getElem?_eq_none (by simp; rw [wipeE_len] at *; omega), this]
        simp
    · simp only [wipeE, List.getElem?_set_ne h, wipeE_get ρ r j, List.mem_cons]
      by_cases hj : j ∈ r
      · simp [hj]
      · simp [hj, Ne.symm h]
theorem wipe_get (σ : L2.St) : ∀ (ix : List Nat) (j : Nat), (wipe σ ix)[j]? = if j ∈ ix then (σ[j]?).map fun _ => none else σ[j]?
  | [], j => by simp [wipe]
  | i :: r, j => by
    by_cases h : i = j
    · subst h
      by_cases hl : i < (wipe σ r).length
      · simp only [wipe, List.getElem?_set_self hl, List.mem_cons, true_or, if_true]
        rw [wipe_length] at hl
        simp [hl]
      · have : σ[i]? = none := by rw [wipe_length] at hl; simpa using hl
        simp only [wipe]
        rw [List.getElem?_eq_none (by simp; rw [wipe_length] at *; omega), this]
        simp
    · simp only [wipe, List.getElem?_set_ne h, wipe_get σ r j, List.mem_cons]
      by_cases hj : j ∈ r
      · simp [hj]
      · simp [hj, Ne.symm h]
theorem wipe_only {ix : List Nat} {σ σ' : L2.St} (o : Only ix (wipe σ ix) σ') : wipe σ' ix = wipe σ ix := by
  apply List.ext_getElem?
  intro j
  rw [wipe_get, wipe_get]
  by_cases hj : j ∈ ix
  · simp only [hj, if_true]
    have e : σ'.length = σ.length := by rw [o.1, wipe_length]
    by_cases hl : j < σ.length
    · rw [List.getElem?_eq_getElem hl, List.getElem?_eq_getElem (by omega)]; rfl
    · rw [List.getElem?_eq_none (by omega), List.getElem?_eq_none (by omega)]
  · simp only [hj, if_false]
    rw [o.2 j hj, wipe_get]
    simp only [hj, if_false]
theorem Good.wipe {K : PySem.W.Frag} {P : Hp} {σ : L2.St} {ρ : Env} {F H : Hp} (G : Good K c P σ ρ F H) (ix : List Nat) : Good K c P (L2.wipe σ ix) (wipeE ρ ix) F H := by
  refine ⟨G.le, G.pin, by rw [wipe_length, wipeE_len]; exact G.len, fun i s hi => ?_, fun i j s s' a hn hi hj m m' r r' => ?_⟩
  · rw [wipeE_get] at hi
    by_cases h : i ∈ ix
    · simp only [h, if_true] at hi
      cases e : ρ[i]? with
      | none => rw [e] at hi; cases hi
      | some u => rw [e] at hi; cases hi; trivial
    · simp only [h, if_false] at hi
      rw [wipe_get]
      simp only [h, if_false]
      exact G.sl i s hi
  · rw [wipeE_get] at hi hj
    by_cases h : i ∈ ix
    · simp only [h, if_true] at hi
      cases e : ρ[i]? with
      | none => rw [e] at hi; cases hi
      | some u => rw [e] at hi; cases hi; cases m
    · by_cases h' : j ∈ ix
      · simp only [h', if_true] at hj
        cases e : ρ[j]? with
        | none => rw [e] at hj; cases hj
        | some u => rw [e] at hj; cases hj; cases m'
      · simp only [h, h', if_false] at hi hj
        rw [wipe_get] at r r'
        simp only [h, h', if_false] at r r'
        exact G.ap i j s s' a hn hi hj m m' r r'
theorem backE_len (ρ0 ρ : Env) : ∀ ix : List Nat, (backE ρ0 ρ ix).length = ρ.length
  | [] => rfl
  | i :: r => by simp [backE, backE_len ρ0 ρ r]
theorem backE_get (ρ0 ρ : Env) : ∀ (ix : List Nat) (j : Nat), j < ρ.length → (backE ρ0 ρ ix)[j]? = if j ∈ ix then some ((ρ0[j]?).getD .un) else ρ[j]?
  | [], j, _ => by simp [backE]
  | i :: r, j, hj => by
    by_cases h : i = j
    · subst h
      simp only [backE, List.getElem?_set_self (show i < (backE ρ0 ρ r).length by rw [backE_len]; exact hj), List.mem_cons, true_or, if_true]
    · simp only [backE, List.getElem?_set_ne h, backE_get ρ0 ρ r j hj, List.mem_cons]
      by_cases hr : j ∈ r
      · simp [hr]
      · simp [hr, Ne.symm h]
theorem plainAt_at {ρ : Env} {ix : List Nat} (h : plainAt ρ ix = true) {j : Nat} (hj : j ∈ ix) : ∃ s, ρ[j]? = some s ∧ s.mutb = false := by
  have := List.all_eq_true.mp h j hj
  cases e : ρ[j]? with
  | none => rw [e] at this; cases this
  | some s => rw [e] at this; exact ⟨s, rfl, by simpa using this⟩
/-- behind the block: the outer slots again -/
theorem Good.back {K : PySem.W.Frag} {P P1 : Hp} {σ σ' : L2.St} {ρ ρ' : Env} {F F' H H' : Hp} {ix : List Nat} (G : Good K c P σ ρ F H) (G' : Good K c P1 σ' ρ' F' H') (l : DL.le F F') (hp : plainAt ρ ix = true) (hw : L2.wipe σ' ix = L2.wipe σ ix) :
    Good K c P1 σ (backE ρ ρ' ix) F' H' := by
  have len' : σ'.length = σ.length := by have := congrArg List.length hw; rwa [wipe_length, wipe_length] at this
  have outj : ∀ j, j ∉ ix → σ'[j]? = σ[j]? := fun j hj => by
    have := congrArg (·[j]?) hw
    simp only [wipe_get, hj, if_false] at this
    exact this
  refine ⟨G'.le, G'.pin, by rw [backE_len, ← G'.len, len'], fun j s hj => ?_, fun i j s s' a hn hi hj m m' r r' => ?_⟩
  · have hl : j < ρ'.length := by
      have := (List.getElem?_eq_some_iff.mp hj).1
      rwa [backE_len] at this
    rw [backE_get _ _ _ _ hl] at hj
    by_cases h : j ∈ ix
    · simp only [h, if_true] at hj
      obtain ⟨u, e, hm⟩ := plainAt_at hp h
      rw [e] at hj
      cases hj
      have z := G.sl j _ e
      cases u with
      | un => trivial
      | d x => obtain ⟨w, e1, e2⟩ := z; exact ⟨w, e1, Dv.le l e2⟩
      | s ns => obtain ⟨a, e1, e2⟩ := z; exact ⟨a, e1, SqL.le e2 l⟩
      | x nm => obtain ⟨a, e1, e2⟩ := z; exact ⟨a, e1, e2⟩
      | f kvs => obtain ⟨a, e1, e2⟩ := z; exact ⟨a, e1, e2.le l fun o q => l _ _ q⟩
      | l _ => cases hm
      | m _ => cases hm
      | k _ => cases hm
      | t _ => cases hm
    · simp only [h, if_false] at hj
      rw [← outj j h]
      exact G'.sl j s hj
  · have hli : i < ρ'.length := by
      have := (List.getElem?_eq_some_iff.mp hi).1
      rwa [backE_len] at this
    have hlj : j < ρ'.length := by
      have := (List.getElem?_eq_some_iff.mp hj).1
      rwa [backE_len] at this
    rw [backE_get _ _ _ _ hli] at hi
    rw [backE_get _ _ _ _ hlj] at hj
    by_cases h : i ∈ ix
    · simp only [h, if_true] at hi
      obtain ⟨u, e, hm⟩ := plainAt_at hp h
      rw [e] at hi
      cases hi
      have : u.mutb = true := m
      rw [hm] at this; cases this
    · by_cases h' : j ∈ ix
      · simp only [h', if_true] at hj
        obtain ⟨u, e, hm⟩ := plainAt_at hp h'
        rw [e] at hj
        cases hj
        have : u.mutb = true := m'
        rw [hm] at this; cases this
      · simp only [h, h', if_false] at hi hj
        rw [← outj i h] at r
        rw [← outj j h'] at r'
        exact G'.ap i j s s' a hn hi hj m m' r r'
theorem Good.drop {K : PySem.W.Frag} {P : Hp} {σ : L2.St} {ρ : Env} {F H : Hp} {p : Addr} {o : HO} (G : Good K c (upd P p o) σ ρ F H) (hp : P p = none) : Good K c P σ ρ F H := by
  refine ⟨G.le, fun x u z => G.pin x u (by rw [upd_ne (ne_of_none z hp)]; exact z), G.len, fun i s hi => ?_, G.ap⟩
  refine SlotOk.side le.refl (G.sl i s hi) (fun _ _ _ _ h => h) (fun _ _ _ h => h) fun a hm e q => ?_
  have : a ≠ p := fun e => by rw [e, upd_same] at q; cases q
  rw [upd_ne this] at q; exact q
/-- the pinned list has turned -/
theorem Good.repin {K : PySem.W.Frag} {P : Hp} {σ : L2.St} {ρ : Env} {F H : Hp} {p : Addr} {o u : HO} (G : Good K c (upd P p o) σ ρ F H) (hp : P p = none) : Good K c (upd P p u) σ ρ F (upd H p u) := by
  obtain ⟨h1, h2⟩ := G.pin p o upd_same
  refine ⟨fun x z q => by rw [upd_ne (ne_of_none q h2)]; exact G.le x z q, fun x z q => ?_, G.len, fun i s hi => ?_, G.ap⟩
  · by_cases hx : x = p
    · subst hx; rw [upd_same] at q; cases q; exact ⟨upd_same, h2⟩
    · rw [upd_ne hx] at q
      have r := G.pin x z (by rw [upd_ne hx]; exact q)
      exact ⟨by rw [upd_ne hx]; exact r.1, r.2⟩
  · have ne : ∀ a, s.mutb = true → (σ[i]?).join = some (.ref a) → a ≠ p := fun a hm e hap => by
      have := (SlotOk.has (G.sl i s hi) hm e).2.2
      rw [hap, upd_same] at this; cases this
    exact SlotOk.side le.refl (G.sl i s hi) (fun a z hm e h => by rw [upd_ne (ne a hm e)]; exact h) (fun _ _ _ h => h) fun a hm e q => by rw [upd_ne (ne a hm e)] at q ⊢; exact q
theorem Post.nox {K : PySem.W.Frag} {W' : XK} {P P' : Hp} {σ σ' : L2.St} {α β : Type} {F F2 : Hp} {x : Res (α × Env)} {k : α × Env → Res (β × Env)} {R : β → Env → Hp → Hp → Prop} (h : Post K c W P σ F (x.nox.bind k) R) (l : DL.le F F2) :
    Post K c W' P' σ' F2 x fun a ρ' F' _ => Post K c W P σ F' (k (a, ρ')) R := by
  cases x with
  | bad => exact h.elim
  | exc c => exact h.elim
  | ok a =>
    obtain ⟨a, ρ'⟩ := a
    exact fun F' H' G l' => Post.at (l.trans l') (show Post K c W P σ F (k (a, ρ')) R from h)
theorem wipe_wipe (σ : L2.St) (ix : List Nat) : L2.wipe (L2.wipe σ ix) ix = L2.wipe σ ix := wipe_only .refl
theorem Only.mono {ix vs : List Nat} {σ σ' : L2.St} (o : Only ix σ σ') (h : ∀ j ∈ ix, j ∈ vs) : Only vs σ σ' := ⟨o.1, fun j hj => o.2 j fun z => hj (h j z)⟩
/-- the block's context -/
abbrev Blk (X : Cx) (scope : Scope) (s : Shared) (H : Hp) (C : Addr) (cl : List (Str × Addr)) (fp : List Addr) : Cx := X.blk s H scope (compEnvC scope cl C X.env) fp
theorem tLc_ok {K : PySem.W.Frag} {it : M (List D)} {t : TG} {bd : D → Env → Option Env} {ix vs : List Nat} {tst : M Bool} {f : M D} {σ : L2.St} {H : Hp} {Q : VK} (q : DG K c t bd ix) (hix : ∀ j ∈ ix, j ∈ vs)
    (h : tFr K c W (mLc vs it bd tst f) σ H Q) : tLc (tI K c W it) t (tB' K c E0 tst) (tD K c E0 f) vs σ H Q := by
  obtain ⟨P, ρ, F, G, p⟩ := h
  refine ⟨P, ρ, F, G, p.bind.mono fun ds ρ1 F1 H1 G1 l1 p1 J H2 itd eH Dd hD => ?_⟩
  subst eH
  obtain ⟨hp, p1⟩ := Post.ite p1
  obtain ⟨g1, _, g3⟩ := G1.pinNew (o := .lst []) hD
  refine ⟨fun i m H => m = ds.length - i ∧ i ≤ ds.length ∧ ∃ ρ' F' acc us, Good K c (upd P Dd (.lst us)) (L2.wipe σ vs) ρ' F' H ∧ DL.le F1 F' ∧ DvAll K F' us acc ∧ Post K c W P σ F' ((lcD vs bd tst f (ds.drop i) acc ρ').bind fun y => .ok (y.1, backE ρ1 y.2 vs)) _, ⟨_, rfl, Nat.zero_le _, _, F1, [], [], g1.wipe vs, le.refl, .nil, p1⟩, ?_⟩
  rintro i m H3 ⟨rfl, hi, ρ2, F2, acc, us, G2, l2, da, p2⟩
  by_cases hlt : i < ds.length
  · refine .inr ⟨itd.go i H3 (l2.trans G2.le) hlt, fun H' => ∃ ρ' F' acc us, Good K c (upd P Dd (.lst us)) (L2.wipe σ vs) ρ' F' H' ∧ DL.le F1 F' ∧ DvAll K F' us acc ∧ Post K c W P σ F' ((lcD vs bd tst f (ds.drop (i + 1)) acc ρ').bind fun y => .ok (y.1, backE ρ1 y.2 vs)) _, fun H' z => ⟨ds.length - (i + 1), by omega, rfl, hlt, z⟩, fun x H' y => ?_⟩
    obtain ⟨d, hd, z⟩ := itd.yld i H3 x H' (l2.trans G2.le) hlt y
    obtain ⟨F3, gr, dv⟩ := z F2 l2 G2.le
    have ed : ds.drop i = d :: ds.drop (i + 1) := by
      obtain ⟨h1, h2⟩ := List.getElem?_eq_some_iff.mp hd
      rw [← h2]; exact List.drop_eq_getElem_cons h1
    rw [ed] at p2
    have G3 := G2.grow gr
    have p3 := p2.at gr.ff
    unfold lcD at p3
    cases e : bd d ρ2 with
    | none => simp only [e] at p3; exact p3.elim
    | some ρ3 =>
      simp only [e, ofO_some, Res.bind_ok] at p3
      refine q _ x d _ ρ2 F3 H' ρ3 _ G3 dv e fun σ3 G4 o3 => ⟨wipe_only (o3.mono hix), _, ρ3, F3, G4, ?_⟩
      have ew : L2.wipe σ3 vs = L2.wipe σ vs := wipe_only (o3.mono hix)
      have asc : ∀ (r : Res (Bool × Env)) (k1 : Bool × Env → Res (List D × Env)) (k2 : List D × Env → Res (List D × Env)), (r.nox.bind k1).bind k2 = r.nox.bind fun b => (k1 b).bind k2 := fun r k1 k2 => by cases r <;> rfl
      rw [asc] at p3
      refine (Post.nox p3 le.refl).mono fun b ρ4 F4 H4 G5 l5 p4 => ?_
      cases b with
      | false =>
        rw [if_neg Bool.false_ne_true]
        have G6 := G5.wipe vs
        rw [ew] at G6
        exact ⟨_, F4, acc, us, G6, (l2.trans gr.ff).trans l5, DvAll.le (gr.ff.trans l5) da, p4⟩
      | true =>
        rw [if_pos rfl]
        have asd : ∀ (r : Res (D × Env)) (k1 : D × Env → Res (List D × Env)) (k2 : List D × Env → Res (List D × Env)), (r.nox.bind k1).bind k2 = r.nox.bind fun b => (k1 b).bind k2 := fun r k1 k2 => by cases r <;> rfl
        have p4 : Post K c W P σ F4 (((f ρ4).nox.bind fun y => if acc.length < lim then lcD vs bd tst f (ds.drop (i + 1)) (acc ++ [y.1]) (wipeE y.2 vs) else .bad).bind fun y => .ok (y.1, backE ρ1 y.2 vs)) _ := p4
        rw [asd] at p4
        refine ⟨_, ρ4, F4, G5, (Post.nox p4 le.refl).mono fun y ρ5 F5 H5 G6 l6 p5 v dy => ?_⟩
        have hpn : P Dd = none := g3
        obtain ⟨h1, h2⟩ := G6.pin Dd _ upd_same
        by_cases hl : acc.length < lim
        · have p5 : Post K c W P σ F5 ((if acc.length < lim then lcD vs bd tst f (ds.drop (i + 1)) (acc ++ [y]) (wipeE ρ5 vs) else .bad).bind fun y => .ok (y.1, backE ρ1 y.2 vs)) _ := p5
          rw [if_pos hl] at p5
          have le5 : DL.le F2 F5 := (gr.ff.trans l5).trans l6
          refine ⟨us, h1, by rw [da.length]; exact lim_line' hl, ?_⟩
          have G7 := (G6.repin (u := .lst (us ++ [v])) hpn).wipe vs
          rw [ew] at G7
          exact ⟨_, F5, _, _, G7, l2.trans le5, DvAll.append (DvAll.le le5 da) (.cons dy .nil), p5⟩
        · have p5 : Post K c W P σ F5 ((if acc.length < lim then lcD vs bd tst f (ds.drop (i + 1)) (acc ++ [y]) (wipeE ρ5 vs) else .bad).bind fun y => .ok (y.1, backE ρ1 y.2 vs)) _ := p5
          rw [if_neg hl] at p5
          exact p5.elim
  · have ei : i = ds.length := by omega
    subst ei
    rw [List.drop_length] at p2
    have hpn : P Dd = none := g3
    have G4 := Good.back G1 G2 l2 hp (wipe_wipe σ vs)
    have G5 := G4.drop hpn
    have p3 : Post K c W P σ F2 (.ok (acc, backE ρ1 ρ2 vs)) _ := p2
    exact .inl ⟨itd.stop _ _ (l2.trans G2.le) rfl, p3.ok G5 Dd us H3 G5 hpn G4 da⟩
theorem df_lc {it : M (List D)} {t : TG} {bd : D → Env → Option Env} {ix : List Nat} {tst : M Bool} {f : M D} {elt iter : Expr} {ifs : List Expr} {scope : Scope} {own : List (Str × Nat)} (O : Ok X c W k) (hi : DI X c W tg iter it) (ok : BlkOk X.N X.env.scope scope own)
    (pg : ∀ s H C cl fp, PG (Blk X scope s H C cl fp) tg t) (q : DG X.K c t bd ix) (ht : ∀ s H C cl fp, PTs (Blk X scope s H C cl fp) ifs (tB' X.K c E0 tst)) (he : ∀ s H C cl fp, DE (Blk X scope s H C cl fp) c E0 elt f)
    (hix : ∀ j ∈ ix, j ∈ own.map (·.2) := by decide) (hs : ∀ x, foldedSetIterable iter X.env x = pure x := by intro _; rfl) : DF X c W (.ListComp elt [⟨tg, iter, ifs, 0⟩] scope pos) (mLc (own.map (·.2)) it bd tst f) :=
  PE.imp (pe_lc O.calm O.nd hi ok pg ht he hs) fun _ _ _ h => tLc_ok q hix h
/-- x = [..] on one line: its reading -/
theorem asg_lc {it : M (List D)} {t : TG} {bd : D → Env → Option Env} {ix : List Nat} {tst : M Bool} {f : M D} {elt iter : Expr} {ifs : List Expr} {scope : Scope} {own : List (Str × Nat)} {i : Nat} {y : Str} {py spos : Pos} (O : Ok X c W k) (hi : DI X c W tg iter it) (ok : BlkOk X.N X.env.scope scope own)
    (pg : ∀ s H C cl fp, PG (Blk X scope s H C cl fp) tg t) (q : DG X.K c t bd ix) (ht : ∀ s H C cl fp, PTs (Blk X scope s H C cl fp) ifs (tB' X.K c E0 tst)) (he : ∀ s H C cl fp, DE (Blk X scope s H C cl fp) c E0 elt f)
    (hy : X.N[i]? = some y) (hyl : X.env.scope.names.lookup y = some .local) (hsw : swapsWith (.ListComp elt [⟨tg, iter, ifs, 0⟩] scope pos) (some (.Name y py)) spos.line X.env = pure true)
    (hix : ∀ j ∈ ix, j ∈ own.map (·.2) := by decide) (hs : ∀ x, foldedSetIterable iter X.env x = pure x := by intro _; rfl) :
    PS X (.Assign [.Name y py] (.ListComp elt [⟨tg, iter, ifs, 0⟩] scope pos) spos) (tAsg (tFr X.K c W (mLc (own.map (·.2)) it bd tst f)) (gName i)) :=
  PS.imp (ps_setLc O.calm O.nd hy hyl hsw hi ok pg ht he hs) fun E σ H h => tLc_ok q hix h
theorem tAsg_fr {f : M (List D)} {i : Nat} {E : Ends} {σ : L2.St} {H : Hp} (q : tAsg (tD X.K c W (mFr f)) (gName i) E σ H) : tAsg (tFr X.K c W f) (gName i) E σ H := by
  obtain ⟨P, ρ, F, G, p⟩ := q
  exact ⟨P, ρ, F, G, p.bind.mono fun xs ρ1 F1 H1 G1 l1 p1 q vs H2 G2 hp Gp dv => by
    obtain ⟨G3, l3, d3⟩ := Gp.unpin hp dv
    exact p1 _ _ G3 l3 _ d3⟩
/-- the tests of a block: none, one -/
def mYes : M Bool := fun ρ => .ok (true, ρ)
theorem dts_nil {K : PySem.W.Frag} {Y : Cx} : PTs Y [] (tB' K c W mYes) := ⟨fun pins s σ H Q I ⟨P, ρ, F, G, p⟩ => pts_nil.run pins s σ H Q I (p.ok G)⟩
theorem dts_one {t : M Bool} (h : DT X c W e t) : PTs X [e] (tB' X.K c W t) := pts_one h
/-- the block's facts -/
theorem passB {Y : Cx} : Passes (L2N.CX Y.prog Y.w) Y E0 := fun _ _ _ _ _ _ _ h => by
  obtain ⟨_, _, _, _, _, _, _, _, _, _, _, _, z⟩ := h
  exact z.elim
theorem Ok.blk (O : Ok X c W k) (scope : Scope) (s : Shared) (H : Hp) (C : Addr) (cl : List (Str × Addr)) (fp : List Addr) : Ok (Blk X scope s H C cl fp) c E0 k := ⟨O.cw, O.calm, O.nd, passB, PassesOwn.never, O.room, fun _ _ x => by
  obtain ⟨_, _, _, _, _, _, _, _, _, _, _, _, _, _, _, _, z⟩ := x
  exact z.elim⟩
end
end DL

set_option maxHeartbeats 2000000
/-! DL6: defs: of data alone, of the script, of the script and the counter list; calls; raise; looks into the script. -/
namespace DL
open PySem PySem.Spec L2
open PyProof.Rows hiding St

/-! ### a def that stands -/
structure Kept (P : Program) (w : World) (K : PySem.W.Frag) (mg : Str → Option Value) (base : Heap) (k : Nat) (x : Str) (ps : List Str) (sp : Sp) : Prop where
  ex : ∃ f fd, mg x = some (.ref f) ∧ PySem.W.keepIn K (.ref f) = true ∧ Binds K fd ps [] ∧ FnOk P w K mg base (L2N.CX P w) k f fd ps sp
theorem start_join (N : List Str) (vs : List V) (i : Nat) : ((L2.start N vs)[i]?).join = vs[i]? := by
  unfold L2.start
  by_cases h : i < vs.length
  · rw [List.getElem?_append_left (by simpa using h), List.getElem?_map]
    cases vs[i]? <;> rfl
  · rw [List.getElem?_append_right (by simpa using h), List.getElem?_replicate, List.getElem?_eq_none (by simpa using h)]
    split <;> rfl
theorem good_start {K : PySem.W.Frag} {c : Cst} {P F H : Hp} {N : List Str} {vs : List V} {ss : List Slot} (l : le F H) (pin : ∀ a o, P a = some o → H a = some o ∧ F a = none) (hl : ss.length = vs.length)
    (hsl : ∀ (i : Nat) s, ss[i]? = some s → SlotOk K c P F H (vs[i]?) s) (hap : ∀ (i j : Nat) s s', i ≠ j → ss[i]? = some s → ss[j]? = some s' → s.mutb = true → s'.mutb = true → False) :
    Good K c P (L2.start N vs) (ss ++ List.replicate (N.length - ss.length) .un) F H := by
  have key : ∀ (i : Nat) s, (ss ++ List.replicate (N.length - ss.length) Slot.un)[i]? = some s → ss[i]? = some s ∨ s = .un := fun i s h => by
    by_cases hi : i < ss.length
    · rw [List.getElem?_append_left hi] at h; exact .inl h
    · rw [List.getElem?_append_right (by omega), List.getElem?_replicate] at h
      split at h
      · cases h; exact .inr rfl
      · cases h
  refine ⟨l, pin, by simp [L2.start, hl], fun i s h => ?_, fun i j s s' a hn hi hj m m' _ _ => ?_⟩
  · rw [start_join]
    rcases key i s h with h | h
    · exact hsl i s h
    · subst h; trivial
  · rcases key i s hi with h1 | h1
    · rcases key j s' hj with h2 | h2
      · exact hap i j s s' hn h1 h2 m m'
      · subst h2; cases m'
    · subst h1; cases m
/-- all that stands beside the frozen part, the counter list left out -/
def pinAll (T : Option Addr) (F H : Hp) : Hp := fun a => if T = some a then none else match F a with
  | some _ => none
  | none => H a
theorem pinAll_some {T : Option Addr} {F H : Hp} {a : Addr} {o : HO} (h : pinAll T F H a = some o) : H a = some o ∧ F a = none ∧ T ≠ some a := by
  unfold pinAll at h
  split at h
  · cases h
  · rename_i hT
    cases e : F a with
    | none => rw [e] at h; exact ⟨h, rfl, hT⟩
    | some u => rw [e] at h; cases h
theorem pinAll_at {T : Option Addr} {F H : Hp} {a : Addr} {o : HO} (h : H a = some o) (f : F a = none) (t : T ≠ some a) : pinAll T F H a = some o := by
  unfold pinAll
  rw [if_neg t, f]
  exact h
/-- what stands, stands still -/
theorem pin_le {T : Option Addr} {F H H' : Hp} (l : DL.le F H) (l1 : DL.le F H') (l2 : DL.le (pinAll T F H) H') : ∀ a o, T ≠ some a → H a = some o → H' a = some o := fun a o t h => by
  cases e : F a with
  | none => exact l2 a o (pinAll_at h e t)
  | some u =>
    have := l a u e
    rw [h] at this; cases this
    exact l1 a o e

/-! ### runs of bodies -/
def runF (N : Nat) (g : S) (ss : List Slot) : Res (D × Env) := (g (ss ++ List.replicate (N - ss.length) .un)).bind fun r => match r.1 with
  | .rt d => .ok (d, r.2)
  | .nx => .ok (.none, r.2)
  | _ => .bad
def fnD (N : Nat) (g : S) (ds : List D) : Res D := (runF N g (ds.map .d)).bind fun r => .ok r.1
def fnS (N : Nat) (g : S) (ns : List Int) (ds : List D) : Res D := (runF N g (.s ns :: ds.map .d)).bind fun r => .ok r.1
def fnT (N : Nat) (g : S) (ns : List Int) (ds : List D) (t : Nat) : Res (D × Nat) := (runF N g (.s ns :: .t t :: ds.map .d)).bind fun (r : D × Env) => match (r.2[1]? : Option Slot) with
  | some (.t m) => .ok (r.1, m)
  | _ => .bad
theorem run_post {K : PySem.W.Frag} {c : Cst} {E : XK} {P F : Hp} {Q : VK} {r : Res (Fl × Env)} {k : D × Env → Prop} {kx : Str → Prop}
    (h : match (r.bind fun r => match r.1 with | .rt d => Res.ok (d, r.2) | .nx => .ok (.none, r.2) | _ => .bad : Res (D × Env)) with | .ok z => k z | .exc x => kx x | .bad => False)
    (hk : ∀ d ρ', k (d, ρ') → ∀ σ' F' H', Good K c P σ' ρ' F' H' → DL.le F F' → ∀ v, Dv K F' v d → Q v H') (hx : ∀ x, kx x → ∀ H', DL.le F H' → DL.le P H' → E (.ref (He.ga K x)) none H') :
    PostS K c E P F r (RS K { nx := fun _ H' => Q .non H', rt := Q }) := by
  cases r with
  | bad => exact h
  | exc x => exact hx x h
  | ok z =>
    obtain ⟨fl, ρ'⟩ := z
    cases fl with
    | nx => exact fun σ' F' H' G l => hk _ _ h σ' F' H' G l _ .non
    | bk => exact h.elim
    | ct => exact h.elim
    | rt d => exact fun σ' F' H' G l => hk _ _ h σ' F' H' G l

/-! ### promises -/
def spS (K : PySem.W.Frag) (n : Nat) (g : List Int → List D → Res D) : Sp := fun vs H Q E => ∃ F S ns xs ds, vs = .ref S :: xs ∧ DL.le F H ∧ SqL K F S (ns.map .int) ∧ DvAll K F xs ds ∧ ds.length = n ∧ match g ns ds with
  | .ok d => ∀ v F' H', Grow F H F' H' → Dv K F' v d → Q v H'
  | .exc x => ∀ H', DL.le H H' → E (.ref (He.ga K x)) none H'
  | .bad => False
structure GrowT (T : Addr) (m : Nat) (F H F' H' : Hp) : Prop where
  hh : ∀ a o, a ≠ T → H a = some o → H' a = some o
  ff : DL.le F F'
  fh : DL.le F' H'
  nw : ∀ a o, F' a = some o → F a = some o ∨ H a = none
  tH : H' T = some (.lst (List.replicate m (.int 0)))
  tF : F' T = none
def spT (K : PySem.W.Frag) (n : Nat) (g : List Int → List D → Nat → Res (D × Nat)) : Sp := fun vs H Q E => ∃ F S T ns t xs ds, vs = .ref S :: .ref T :: xs ∧ DL.le F H ∧ SqL K F S (ns.map .int) ∧ H T = some (.lst (List.replicate t (.int 0))) ∧ F T = none ∧ DvAll K F xs ds ∧ ds.length = n ∧ match g ns ds t with
  | .ok z => ∀ v F' H', GrowT T z.2 F H F' H' → Dv K F' v z.1 → Q v H'
  | .exc x => ∀ H', (∀ a o, a ≠ T → H a = some o → H' a = some o) → E (.ref (He.ga K x)) none H'
  | .bad => False

section
variable {P : Program} {w : World} {K : PySem.W.Frag} {mg : Str → Option Value} {base : Heap} {k : Nat} {x qual : Str} {params : Arguments} {body : List Stmt} {scope : Scope} {f : Addr} {fd : FuncData} {N ps : List Str} {g : S}
/-- the context of a def's body -/
abbrev CxB (P : Program) (w : World) (K : PySem.W.Frag) (mg : Str → Option Value) (base : Heap) (N : List Str) (qual : Str) (scope : Scope) (f : Addr) (cdv : Value) (A : Around) (outer : List PySem.Env) (s : Shared) (H : Hp) (E : XK) : Cx := cxOf (L2N.CX P w) P w K mg base N qual scope f cdv A outer s H E
theorem ok_body {cdv : Value} {A : Around} {outer : List PySem.Env} {s : Shared} {H : Hp} {E : XK} {c : Cst} (ec : c.w = w) (nd : N.Nodup) (hr : Room k (A.deeper (envOfC qual scope s.heap.objs.size f cdv))) : Ok (CxB P w K mg base N qual scope f cdv A outer s H E) c E k := by
  have tk : L2N.Takes (CxB P w K mg base N qual scope f cdv A outer s H E) (fun cls d _ H => E cls d H) := L2N.takes_of rfl rfl rfl rfl
  exact ⟨ec, rfl, nd, L2N.passes_call tk fun _ _ _ _ h => h, passes_of rfl, hr, tk⟩
theorem kept_mk {sp : Sp} (FD : FunD K x qual params body scope [] [] f fd) (hm : mg x = some (.ref f)) (Sc : FnScope N ps scope)
    (bnd : ∀ (kV doc pm : Value) (an : Option Addr) (cdv ct : Value) (us : List Value), us.length = ps.length → bindArgs (PySem.W.fnOf x qual params body scope .none kV doc pm an cdv ct) ⟨us, []⟩ = pure (ps.zip us))
    (len : ∀ vs H Q E, sp vs H Q E → vs.length = ps.length)
    (hb : ∀ (cdv : Value) (A : Around) (outer : List PySem.Env) (s : Shared) (H : Hp) (E : XK) (c : Cst), Ok (CxB P w K mg base N qual scope f cdv A outer s H E) c E k → DSs (CxB P w K mg base N qual scope f cdv A outer s H E) c E body g)
    (hs : ∀ vs H Q E, sp vs H Q E → ∃ c P ρ F, c.w = w ∧ Good K c P (L2.start N vs) ρ F H ∧ PostS K c E P F (g ρ) (RS K { nx := fun _ H' => Q .non H', rt := Q })) : Kept P w K mg base (k + 1) x ps sp :=
  ⟨f, fd, hm, FD.kp, FD.bindsN bnd, FD.ok Sc len fun cdv A outer s H vs Q E hr h => by
    obtain ⟨c, P', ρ, F, ec, G, p⟩ := hs vs H Q E h
    exact ⟨_, hb cdv A outer s H E c (ok_body ec Sc.nd hr), P', ρ, F, G, p⟩⟩
theorem slots_d {K : PySem.W.Frag} {c : Cst} {P F H : Hp} {vs : List V} {ds : List D} (h : DvAll K F vs ds) (i : Nat) (s : Slot) (e : (ds.map Slot.d)[i]? = some s) : SlotOk K c P F H (vs[i]?) s ∧ s.mutb = false := by
  rw [List.getElem?_map] at e
  cases q : ds[i]? with
  | none => rw [q] at e; cases e
  | some d =>
    rw [q] at e; cases e
    obtain ⟨v, h1, h2⟩ := h.get' q
    exact ⟨⟨v, h1, h2⟩, rfl⟩
theorem keptD (n : Nat) (FD : FunD K x qual params body scope [] [] f fd) (hm : mg x = some (.ref f)) (Sc : FnScope N ps scope) (hn : ps.length = n)
    (bnd : ∀ (kV doc pm : Value) (an : Option Addr) (cdv ct : Value) (us : List Value), us.length = ps.length → bindArgs (PySem.W.fnOf x qual params body scope .none kV doc pm an cdv ct) ⟨us, []⟩ = pure (ps.zip us))
    (hb : ∀ (cdv : Value) (A : Around) (outer : List PySem.Env) (s : Shared) (H : Hp) (E : XK) (c : Cst), Ok (CxB P w K mg base N qual scope f cdv A outer s H E) c E k → DSs (CxB P w K mg base N qual scope f cdv A outer s H E) c E body g) :
    Kept P w K mg base (k + 1) x ps (spD K n (fnD N.length g)) := by
  refine kept_mk FD hm Sc bnd (fun vs H Q E ⟨F, ds, _, h1, h2, _⟩ => by rw [h1.length, h2, hn]) hb fun vs H Q E ⟨F, ds, l, hd, hl, q⟩ => ?_
  refine ⟨c0 w, pinAll none F H, _, F, rfl, good_start (ss := ds.map .d) l (fun a o h => ⟨(pinAll_some h).1, (pinAll_some h).2.1⟩) (by rw [List.length_map, hd.length]) (fun i s h => (slots_d hd i s h).1) (fun i j s s' _ hi _ m _ => ?_), ?_⟩
  · rw [(slots_d (c := c0 w) (P := F) (H := F) hd i s hi).2] at m; cases m
  · refine run_post (k := fun z => ∀ v F' H', Grow F H F' H' → Dv K F' v z.1 → Q v H') (kx := fun x => ∀ H', DL.le H H' → E (.ref (He.ga K x)) none H') ?_ (fun d ρ' h σ' F' H' G lf v dv => h v F' H' ⟨fun a o z => pin_le (T := none) l (lf.trans G.le) (fun a o z => (G.pin a o z).1) a o (by simp) z, lf, G.le, fun a o z => ?_⟩ dv)
      fun x h H' l1 l2 => h H' fun a o z => pin_le (T := none) l l1 l2 a o (by simp) z
    · revert q
      unfold fnD runF
      cases g (ds.map Slot.d ++ List.replicate (N.length - (ds.map Slot.d).length) Slot.un) with
      | bad => exact fun q => q
      | exc x => exact fun q => q
      | ok r =>
        obtain ⟨fl, ρ'⟩ := r
        cases fl <;> exact fun q => q
    · cases e : F a with
      | some u =>
        have := lf a u e
        rw [z] at this; cases this; exact .inl rfl
      | none =>
        cases e' : H a with
        | none => exact .inr rfl
        | some u =>
          have := (G.pin a u (pinAll_at e' e (by simp))).2
          rw [z] at this; cases this
theorem keptS (n : Nat) (FD : FunD K x qual params body scope [] [] f fd) (hm : mg x = some (.ref f)) (Sc : FnScope N ps scope) (hn : ps.length = n + 1)
    (bnd : ∀ (kV doc pm : Value) (an : Option Addr) (cdv ct : Value) (us : List Value), us.length = ps.length → bindArgs (PySem.W.fnOf x qual params body scope .none kV doc pm an cdv ct) ⟨us, []⟩ = pure (ps.zip us))
    (hb : ∀ (cdv : Value) (A : Around) (outer : List PySem.Env) (s : Shared) (H : Hp) (E : XK) (c : Cst), Ok (CxB P w K mg base N qual scope f cdv A outer s H E) c E k → DSs (CxB P w K mg base N qual scope f cdv A outer s H E) c E body g) :
    Kept P w K mg base (k + 1) x ps (spS K n (fnS N.length g)) := by
  refine kept_mk FD hm Sc bnd (fun vs H Q E ⟨F, S, ns, xs, ds, h0, _, _, h1, h2, _⟩ => by rw [h0, List.length_cons, h1.length, h2, hn]) hb fun vs H Q E ⟨F, S, ns, xs, ds, h0, l, hS, hd, hl, q⟩ => ?_
  subst h0
  have slk : ∀ (i : Nat) s, (Slot.s ns :: ds.map .d)[i]? = some s → SlotOk K (c0 w) (pinAll none F H) F H ((V.ref S :: xs)[i]?) s ∧ s.mutb = false := fun i s h => by
    cases i with
    | zero => cases h; exact ⟨⟨S, rfl, hS⟩, rfl⟩
    | succ i => exact slots_d hd i s h
  refine ⟨c0 w, pinAll none F H, _, F, rfl, good_start (ss := .s ns :: ds.map .d) l (fun a o h => ⟨(pinAll_some h).1, (pinAll_some h).2.1⟩) (by simp [hd.length]) (fun i s h => (slk i s h).1) (fun i j s s' _ hi _ m _ => ?_), ?_⟩
  · rw [(slk i s hi).2] at m; cases m
  · refine run_post (k := fun z => ∀ v F' H', Grow F H F' H' → Dv K F' v z.1 → Q v H') (kx := fun x => ∀ H', DL.le H H' → E (.ref (He.ga K x)) none H') ?_ (fun d ρ' h σ' F' H' G lf v dv => h v F' H' ⟨fun a o z => pin_le (T := none) l (lf.trans G.le) (fun a o z => (G.pin a o z).1) a o (by simp) z, lf, G.le, fun a o z => ?_⟩ dv)
      fun x h H' l1 l2 => h H' fun a o z => pin_le (T := none) l l1 l2 a o (by simp) z
    · revert q
      unfold fnS runF
      cases g ((Slot.s ns :: ds.map Slot.d) ++ List.replicate (N.length - (Slot.s ns :: ds.map Slot.d).length) Slot.un) with
      | bad => exact fun q => q
      | exc x => exact fun q => q
      | ok r =>
        obtain ⟨fl, ρ'⟩ := r
        cases fl <;> exact fun q => q
    · cases e : F a with
      | some u =>
        have := lf a u e
        rw [z] at this; cases this; exact .inl rfl
      | none =>
        cases e' : H a with
        | none => exact .inr rfl
        | some u =>
          have := (G.pin a u (pinAll_at e' e (by simp))).2
          rw [z] at this; cases this
theorem keptT (n : Nat) (FD : FunD K x qual params body scope [] [] f fd) (hm : mg x = some (.ref f)) (Sc : FnScope N ps scope) (hn : ps.length = n + 2)
    (bnd : ∀ (kV doc pm : Value) (an : Option Addr) (cdv ct : Value) (us : List Value), us.length = ps.length → bindArgs (PySem.W.fnOf x qual params body scope .none kV doc pm an cdv ct) ⟨us, []⟩ = pure (ps.zip us))
    (hb : ∀ (cdv : Value) (A : Around) (outer : List PySem.Env) (s : Shared) (H : Hp) (E : XK) (c : Cst), Ok (CxB P w K mg base N qual scope f cdv A outer s H E) c E k → DSs (CxB P w K mg base N qual scope f cdv A outer s H E) c E body g) :
    Kept P w K mg base (k + 1) x ps (spT K n (fnT N.length g)) := by
  refine kept_mk FD hm Sc bnd (fun vs H Q E ⟨F, S, T, ns, t, xs, ds, h0, _, _, _, _, h1, h2, _⟩ => by rw [h0, List.length_cons, List.length_cons, h1.length, h2, hn]) hb fun vs H Q E ⟨F, S, T, ns, t, xs, ds, h0, l, hS, hT, fT, hd, hl, q⟩ => ?_
  subst h0
  have slk : ∀ (i : Nat) s, (Slot.s ns :: Slot.t t :: ds.map .d)[i]? = some s → SlotOk K ⟨some T, none, w⟩ (pinAll (some T) F H) F H ((V.ref S :: V.ref T :: xs)[i]?) s ∧ (s.mutb = true → i = 1) := fun i s h => by
    cases i with
    | zero => cases h; exact ⟨⟨S, rfl, hS⟩, fun z => nomatch z⟩
    | succ i =>
      cases i with
      | zero => cases h; exact ⟨⟨T, fun _ e => by cases e; rfl, rfl, hT, fT, by unfold pinAll; rw [if_pos rfl]⟩, fun _ => rfl⟩
      | succ i => exact ⟨(slots_d hd i s h).1, fun z => by rw [(slots_d (c := c0 w) (P := F) (H := F) hd i s h).2] at z; cases z⟩
  refine ⟨⟨some T, none, w⟩, pinAll (some T) F H, _, F, rfl, good_start (ss := .s ns :: .t t :: ds.map .d) l (fun a o h => ⟨(pinAll_some h).1, (pinAll_some h).2.1⟩) (by simp [hd.length]) (fun i s h => (slk i s h).1) (fun i j s s' hn hi hj m m' => ?_), ?_⟩
  · exact hn (((slk i s hi).2 m).trans ((slk j s' hj).2 m').symm)
  · refine run_post (k := fun z => ∃ m, z.2[1]? = some (.t m) ∧ ∀ v F' H', GrowT T m F H F' H' → Dv K F' v z.1 → Q v H') (kx := fun x => ∀ H', (∀ a o, a ≠ T → H a = some o → H' a = some o) → E (.ref (He.ga K x)) none H') ?_ (fun d ρ' ⟨m, hm, h⟩ σ' F' H' G lf v dv => ?_)
      fun x h H' l1 l2 => h H' fun a o ha z => pin_le (T := some T) l l1 l2 a o (fun e => ha (by cases e; rfl)) z
    · revert q
      unfold fnT runF
      cases g ((Slot.s ns :: Slot.t t :: ds.map Slot.d) ++ List.replicate (N.length - (Slot.s ns :: Slot.t t :: ds.map Slot.d).length) Slot.un) with
      | bad => exact fun q => q
      | exc x => exact fun q => q
      | ok r =>
        obtain ⟨fl, ρ'⟩ := r
        have key : ∀ d : D, (match (match ρ'[1]? with | some (.t m) => (Res.ok (d, m) : Res (D × Nat)) | _ => .bad) with | .ok z => ∀ v F' H', GrowT T z.2 F H F' H' → Dv K F' v z.1 → Q v H' | .exc x => ∀ H', (∀ a o, a ≠ T → H a = some o → H' a = some o) → E (.ref (He.ga K x)) none H' | .bad => False) →
            ∃ m, ρ'[1]? = some (.t m) ∧ ∀ v F' H', GrowT T m F H F' H' → Dv K F' v d → Q v H' := fun d h => by
          cases e : ρ'[1]? with
          | none => simp only [e] at h
          | some s =>
            cases s <;> simp only [e] at h
            exact ⟨_, rfl, h⟩
        cases fl with
        | rt d => exact fun q => key d q
        | nx => exact fun q => key .none q
        | bk => exact fun q => q
        | ct => exact fun q => q
    · obtain ⟨a, e1, _, hH, hF, _⟩ := G.sl 1 _ hm
      have ea : T = a := e1 T rfl
      subst ea
      refine h v F' H' ⟨fun b o hb z => pin_le (T := some T) l (lf.trans G.le) (fun a o z => (G.pin a o z).1) b o (fun e => hb (by cases e; rfl)) z, lf, G.le, fun b o z => ?_, hH, hF⟩ dv
      cases e : F b with
      | some u =>
        have := lf b u e
        rw [z] at this; cases this; exact .inl rfl
      | none =>
        cases e' : H b with
        | none => exact .inr rfl
        | some u =>
          by_cases hb : some T = some b
          · cases hb; rw [hF] at z; cases z
          · have := (G.pin b u (pinAll_at e' e hb)).2
            rw [z] at this; cases this
end

/-! ### calls -/
section
variable {X : Cx} {c : Cst} {W : XK} {k : Nat} {e a b : Expr} {es : List Expr} {f g : M D} {fs : M (List D)} {pos p p1 p2 : Pos} {x : Str} {ps : List Str} {n j : Nat}
theorem de_fn {o : List D → Res D} (O : Ok X c W k) (hF : Kept X.prog X.w X.K X.mg X.base j x ps (spD X.K n o)) (hj : j ≤ k) (hg : Gl X x) (ha : DA X c W (e :: es) fs) (hdb : (x == ("__debug__" : Str)) = false := by decide)
    (he : starEach (e :: es) X.env = (false, eval e X.env) :: starEach es X.env := by rfl) (hpl : (backTo pos (starEach es X.env)).any (·.1) = false := by rfl) : DE X c W (.Call (.Name x p) (e :: es) [] pos) (mDef n o fs) := by
  obtain ⟨fa, fd, hm, hk, hb, F⟩ := hF.ex
  exact de_call O F hj hg hm hk hb ha hdb he hpl
theorem Good.growT {K : PySem.W.Frag} {P : Hp} {σ : St} {ρ : Env} {F H F' H' : Hp} {i t m : Nat} {T : Addr} (G : Good K c P σ ρ F H) (h : ρ[i]? = some (.t t)) (hT : (σ[i]?).join = some (.ref T)) (g : GrowT T m F H F' H') : Good K c P σ (ρ.set i (.t m)) F' H' := by
  obtain ⟨a, e1, e, hl, fn, pn⟩ := G.sl i _ h
  rw [hT] at e; cases e
  have hi : i < ρ.length := by rw [List.getElem?_eq_some_iff] at h; exact h.1
  have out : ∀ b o, H b = some o → F b = none → F' b = none := fun b o hb hf => by
    cases z : F' b with
    | none => rfl
    | some u =>
      rcases g.nw b u z with y | y
      · rw [hf] at y; cases y
      · rw [hb] at y; cases y
  refine ⟨g.fh, fun b o z => ?_, by simp [G.len], fun j s hj => ?_, fun j j' s s' b hn hj hj' m1 m2 r r' => ?_⟩
  · obtain ⟨z1, z2⟩ := G.pin b o z
    exact ⟨g.hh b o (ne_of_none z pn) z1, out b o z1 z2⟩
  · by_cases hij : i = j
    · subst hij
      rw [List.getElem?_set_self hi] at hj
      cases hj
      exact ⟨T, e1, hT, g.tH, g.tF, pn⟩
    · rw [List.getElem?_set_ne hij] at hj
      have z := G.sl j s hj
      have ne : ∀ b, s.mutb = true → (σ[j]?).join = some (.ref b) → b ≠ T := fun b m1 r eb => by subst eb; exact G.ap i j _ s b hij h hj rfl m1 hT r
      exact SlotOk.side g.ff z (fun b o m1 r q => g.hh b o (ne b m1 r) q) (fun b m1 r q => by
        obtain ⟨⟨o, ho⟩, _, _⟩ := SlotOk.has z m1 r
        exact out b o ho q) fun _ _ _ q => q
  · by_cases hij : i = j
    · subst hij
      rw [List.getElem?_set_ne hn] at hj'
      exact G.ap i j' _ s' b hn h hj' rfl m2 r r'
    · by_cases hij' : i = j'
      · subst hij'
        rw [List.getElem?_set_ne hij] at hj
        exact G.ap j i s _ b hn hj h m1 rfl r r'
      · rw [List.getElem?_set_ne hij] at hj
        rw [List.getElem?_set_ne hij'] at hj'
        exact G.ap j j' s s' b hn hj hj' m1 m2 r r'
def isTk : Option Slot → Bool
  | some (.t _) => true
  | _ => false
def mTown (is it n : Nat) (g : List Int → List D → Nat → Res (D × Nat)) (fs : M (List D)) : M D := fun ρ => match ρ[is]? with
  | some (.s ns) => if isTk ρ[it]? = true then (fs ρ).bind fun x => match x.2[it]? with
    | some (.t t) => if x.1.length = n then (g ns x.1 t).bind fun z => .ok (z.1, x.2.set it (.t z.2)) else .bad
    | _ => .bad else .bad
  | _ => .bad
theorem de_town {is it : Nat} {e1 e2 : Expr} {o : List Int → List D → Nat → Res (D × Nat)} (O : Ok X c W k) (hF : Kept X.prog X.w X.K X.mg X.base j x ps (spT X.K n o)) (hj : j ≤ k) (hg : Gl X x) (h1 : PE X e1 (tVar is)) (h2 : PE X e2 (tVar it)) (ha : DA X c W es fs)
    (hdb : (x == ("__debug__" : Str)) = false := by decide) (he : starEach (e1 :: e2 :: es) X.env = (false, eval e1 X.env) :: starEach (e2 :: es) X.env := by rfl) (he2 : starEach (e2 :: es) X.env = (false, eval e2 X.env) :: starEach es X.env := by rfl)
    (hpl : (backTo pos (starEach (e2 :: es) X.env)).any (·.1) = false := by rfl) : DE X c W (.Call (.Name x p) (e1 :: e2 :: es) [] pos) (mTown is it n o fs) := by
  obtain ⟨fa, fd, hm, hk, hb, F⟩ := hF.ex
  refine PE.imp (pe_call F (O.room.mono hj) hg hm hk hb .nil O.pass (pa_cons h1 (pa_cons h2 ha he2) he) hdb he hpl) fun σ H Q ⟨P, ρ, F, G, p⟩ => ?_
  unfold mTown at p
  cases q1 : ρ[is]? with
  | none => simp only [q1] at p; exact p.elim
  | some s =>
    cases s <;> (try (simp only [q1] at p; exact p.elim))
    rename_i ns
    simp only [q1] at p
    obtain ⟨ht, p⟩ := Post.ite p
    obtain ⟨S, eS, hS⟩ := G.sl is _ q1
    cases q2 : ρ[it]? with
    | none => rw [q2] at ht; cases ht
    | some s =>
      cases s <;> (try (rw [q2] at ht; cases ht))
      rename_i t0
      obtain ⟨T, _, eT, _⟩ := G.sl it _ q2
      refine ⟨_, join_some eS, _, join_some eT, P, ρ, F, G, p.bind.mono fun ds ρ1 F1 H1 G1 l1 p1 xs dv => ?_⟩
      show spT X.K n o ([V.ref S, V.ref T] ++ xs ++ []) H1 Q W
      rw [List.append_nil]
      cases q3 : ρ1[it]? with
      | none => simp only [q3] at p1; exact p1.elim
      | some s =>
        cases s <;> (try (simp only [q3] at p1; exact p1.elim))
        rename_i t
        simp only [q3] at p1
        obtain ⟨hn, p1⟩ := Post.ite p1
        obtain ⟨T', _, eT', hH, hF', _⟩ := G1.sl it _ q3
        rw [eT] at eT'; cases eT'
        refine ⟨F1, S, T, ns, t, xs, ds, rfl, G1.le, SqL.le hS l1, hH, hF', dv, hn, ?_⟩
        cases ho : o ns ds t with
        | bad => rw [ho] at p1; exact p1.elim
        | exc y =>
          rw [ho] at p1
          exact fun H' l => p1 H' (fun a u z => l a u (fun e => by rw [e, hF'] at z; cases z) (G1.le a u z)) fun a u z => l a u (ne_of_none z (by obtain ⟨_, _, e9, _, _, pn⟩ := G1.sl it _ q3; rw [eT] at e9; cases e9; exact pn)) (G1.pin a u z).1
        | ok z =>
          rw [ho] at p1
          exact fun v F' H' g dv => p1 F' H' (G1.growT q3 eT g) g.ff v dv
def mScr (is n : Nat) (g : List Int → List D → Res D) (fs : M (List D)) : M D := fun ρ => match ρ[is]? with
  | some (.s ns) => (fs ρ).bind fun x => if x.1.length = n then (g ns x.1).bind fun z => .ok (z, x.2) else .bad
  | _ => .bad
theorem de_scr {is : Nat} {e1 : Expr} {o : List Int → List D → Res D} (O : Ok X c W k) (hF : Kept X.prog X.w X.K X.mg X.base j x ps (spS X.K n o)) (hj : j ≤ k) (hg : Gl X x) (h1 : PE X e1 (tVar is)) (ha : DA X c W es fs)
    (hdb : (x == ("__debug__" : Str)) = false := by decide) (he : starEach (e1 :: es) X.env = (false, eval e1 X.env) :: starEach es X.env := by rfl)
    (hpl : (backTo pos (starEach es X.env)).any (·.1) = false := by rfl) : DE X c W (.Call (.Name x p) (e1 :: es) [] pos) (mScr is n o fs) := by
  obtain ⟨fa, fd, hm, hk, hb, F⟩ := hF.ex
  refine PE.imp (pe_call F (O.room.mono hj) hg hm hk hb .nil O.pass (pa_cons h1 ha he) hdb he hpl) fun σ H Q ⟨P, ρ, F, G, p⟩ => ?_
  unfold mScr at p
  cases q1 : ρ[is]? with
  | none => simp only [q1] at p; exact p.elim
  | some s =>
    cases s <;> (try (simp only [q1] at p; exact p.elim))
    rename_i ns
    simp only [q1] at p
    obtain ⟨S, eS, hS⟩ := G.sl is _ q1
    refine ⟨_, join_some eS, P, ρ, F, G, p.bind.mono fun ds ρ1 F1 H1 G1 l1 p1 xs dv => ?_⟩
    show spS X.K n o ([V.ref S] ++ xs ++ []) H1 Q W
    rw [List.append_nil]
    obtain ⟨hn, p1⟩ := Post.ite p1
    refine ⟨F1, S, ns, xs, ds, rfl, G1.le, SqL.le hS l1, dv, hn, ?_⟩
    cases ho : o ns ds with
    | bad => rw [ho] at p1; exact p1.elim
    | exc y =>
      rw [ho] at p1
      exact fun H' l => p1 H' (G1.le.trans l) fun a u z => l a u (G1.pin a u z).1
    | ok z =>
      rw [ho] at p1
      exact fun v F' H' g dv => p1 F' H' (G1.grow g) g.ff v dv

/-! ### looks into the script -/
def mIxS (i : Nat) (f : M D) : M D := fun ρ => match ρ[i]? with
  | some (.s ns) => (f ρ).bind fun y => (ofO (oIx (.list (ns.map .int)) y.1)).map fun z => (z, y.2)
  | _ => .bad
theorem de_ixS {i : Nat} (ha : PE X a (tVar i)) (hb : DE X c W b f) (hs : PlainIx b) : DE X c W (.Subscript a b pos) (mIxS i f) :=
  PE.imp (pe_ix ix_list ha hb hs) fun σ H Q ⟨P, ρ, F, G, p⟩ => by
    unfold mIxS at p
    cases q1 : ρ[i]? with
    | none => simp only [q1] at p; exact p.elim
    | some s =>
      cases s <;> (try (simp only [q1] at p; exact p.elim))
      rename_i ns
      simp only [q1] at p
      obtain ⟨S, eS, hS⟩ := G.sl i _ q1
      refine ⟨_, join_some eS, P, ρ, F, G, p.bind.mono fun d ρ1 F1 H1 G1 l1 p1 v dv => ?_⟩
      obtain ⟨z, hz, p2⟩ := p1.lift
      cases d <;> (try (cases hz; done))
      rename_i j
      rw [dv.int_inv]
      have hz : atI (ns.map PyData.int) j = some z := hz
      unfold L2.atI at hz
      cases q : ixN (ns.map PyData.int).length j with
      | none => rw [q] at hz; cases hz
      | some jj =>
        rw [q] at hz
        have hz : (ns.map PyData.int)[jj]? = some z := hz
        rw [List.getElem?_map] at hz
        cases q2 : ns[jj]? with
        | none => rw [q2] at hz; cases hz
        | some m =>
          rw [q2] at hz; cases hz
          refine ⟨S, _, _, .int m, rfl, rfl, SqL.le hS (l1.trans G1.le), ?_, p2.ok G1 _ (.int m)⟩
          unfold L2.atI
          rw [List.length_map] at q
          rw [List.length_map, q]
          show (ns.map V.int)[jj]? = _
          rw [List.getElem?_map, q2]
          rfl
/-- script == [] -/
def mNilS (i : Nat) : M Bool := fun ρ => match ρ[i]? with
  | some (.s ns) => .ok (ns.isEmpty, ρ)
  | some (.l xs) => .ok (xs.isEmpty, ρ)
  | _ => .bad
theorem DpAll.ints {K : PySem.W.Frag} {F : Hp} : ∀ ns : List Int, DpAll K F (ns.map .int) (ns.map .int)
  | [] => .nil
  | n :: r => .cons (.int n) (DpAll.ints r)
theorem eqv_nil : ∀ xs : List D, PyData.eqv (.list xs) (.list []) = xs.isEmpty
  | [] => rfl
  | _ :: _ => rfl
theorem plain_ints : ∀ ns : List Int, PyData.plainAll (ns.map .int) = true
  | [] => rfl
  | n :: r => by simp [PyData.plainAll, PyData.plain, plain_ints r]
theorem dt_nilS {i : Nat} {p' : Pos} (hu : X.A.units + 64 < cLine) (ha : PE X a (tVar i)) (hm : behindInMarks .Eq (.List [] p') = false) : DT X c W (.Compare a [.Eq] [.List [] p'] pos) (mNilS i) :=
  PT.imp (pt_cmpR (op_eqP hu) ha (pe_lst pa_nil) hm) fun σ H Q ⟨P, ρ, F, G, p⟩ => by
    unfold mNilS at p
    cases q1 : ρ[i]? with
    | none => simp only [q1] at p; exact p.elim
    | some s =>
      have fin : ∀ (b : Bool) (H2 : Hp), le H H2 → Grow F H F H2 → Post X.K c W P σ F (.ok (b, ρ)) (fun b _ _ H' => Q b H') → Q b H2 := fun b H2 l g p => p.ok (G.grow g)
      cases s <;> (try (simp only [q1] at p; exact p.elim))
      · rename_i xs
        simp only [q1] at p
        obtain ⟨A, vs, eA, hA, fA, pA, dA⟩ := G.sl i _ q1
        refine ⟨_, join_some eA, by decide, fun q hq => ?_⟩
        have g := Grow.side (o := .lst []) G.le hq
        exact ⟨.list xs, .list [], .lst (SqL.of (g.hh _ _ hA)) (DvAll.dp (DvAll.le (g.ff.trans g.fh) dA)), .lst (SqL.of upd_same) .nil, DvAll.plain dA, rfl, by simp [PyData.depth, PyData.depthAll, deep], _, rfl, by rw [eqv_nil]; exact fin _ _ g.hh g p⟩
      · rename_i ns
        simp only [q1] at p
        obtain ⟨S, eS, hS⟩ := G.sl i _ q1
        refine ⟨_, join_some eS, by decide, fun q hq => ?_⟩
        have g := Grow.side (o := .lst []) G.le hq
        refine ⟨.list (ns.map .int), .list [], .lst (SqL.le hS (g.ff.trans g.fh)) (DpAll.ints ns), .lst (SqL.of upd_same) .nil, plain_ints ns, rfl, by simp [PyData.depth, PyData.depthAll, deep], _, rfl, ?_⟩
        rw [eqv_nil]
        have e : (ns.map PyData.int).isEmpty = ns.isEmpty := by cases ns <;> rfl
        rw [e]
        exact fin _ _ g.hh g p
theorem Ok.units (O : Ok X c W k) : X.A.units + 64 < cLine := by have := O.room.un; omega

/-! ### raise -/
structure ExcF (K : PySem.W.Frag) (mg : Str → Option Value) (x : Str) : Prop where
  gl : mg x = some (.ref (He.ga K x))
  ex : (He.Fa.exc x).ok K = true
def sRaise (x : Str) : S := fun _ => .exc x
theorem ds_raise {m : Str} {jj : Nat} (O : Ok X c W k) (hx : ExcF X.K X.mg x) (hg : Gl X x) (hdb : (x == ("__debug__" : Str)) = false := by decide) : DS X c W (.Raise (some (.Call (.Name x p) [.Constant (.str m) jj p1] [] p2)) none pos) (sRaise x) := by
  obtain ⟨q1, q2, q3, q4⟩ := He.exc_ok hx.ex
  refine PS.imp (L2N.ps_raise O.calm O.tk (L2N.pmk_own PySem.F.excBase_ValueError q1 hx.gl q2 (raises_own q3 q4) hg hdb)) fun E σ H ⟨P, ρ, F, G, p⟩ => ?_
  exact p H G.le fun a o z => (G.pin a o z).1
/-- a fresh counter list -/
def sTown (i : Nat) : S := fun ρ => .ok (.nx, ρ.set i (.t 0))
theorem ds_town {i : Nat} {st : Stmt} (hc : c.T = none) (h : PS X st (tAsg (tFr X.K c W (mLst mNil)) (gName i))) : DS X c W st (sTown i) := PS.imp h fun E σ H ⟨P, ρ, F, G, p⟩ =>
  ⟨P, ρ, F, G, by
    intro F1 H1 G1 l1 q vs H2 G2 hp Gp dv
    cases dv
    refine p _ _ _ ?_ l1
    obtain ⟨h1, h2⟩ := Gp.pin q _ upd_same
    refine G2.set (s := .t 0) ⟨q, (fun T e => by rw [hc] at e; cases e), rfl, h1, h2, hp⟩ fun j s' a _ hj _ m' e r => ?_
    cases e
    have := (SlotOk.has (Gp.sl j s' hj) m' r).2.2
    rw [upd_same] at this
    cases this⟩
end
end DL

set_option maxHeartbeats 2000000
/-! DLS: sets of scanned keys (texts, ints): made of a list or a tuple, sorted, counted. -/
namespace DL
open PySem PySem.Spec L2
open PyProof.Rows hiding St

/-- one more key, once -/
def addK {κ : Type} [DecidableEq κ] (ks : List κ) (k : κ) : List κ := if k ∈ ks then ks else ks ++ [k]
theorem addK_nodup {κ : Type} [DecidableEq κ] {ks : List κ} {k : κ} (h : ks.Nodup) : (addK ks k).Nodup := by
  unfold addK
  split
  · exact h
  · rename_i hn
    rw [List.nodup_append]
    exact ⟨h, by simp, fun a ha b hb => by rw [List.mem_singleton.mp hb]; exact fun e => hn (e ▸ ha)⟩
def uniq {κ : Type} [DecidableEq κ] (xs : List κ) : List κ := xs.foldl addK []
theorem addK_len {κ : Type} [DecidableEq κ] (ks : List κ) (k : κ) : (addK ks k).length ≤ ks.length + 1 := by
  unfold addK
  split <;> simp
theorem foldl_addK_len {κ : Type} [DecidableEq κ] : ∀ (xs ks : List κ), (xs.foldl addK ks).length ≤ ks.length + xs.length
  | [], ks => by simp
  | x :: xs, ks => by
    have h1 := foldl_addK_len xs (addK ks x)
    have h2 := addK_len ks x
    simp only [List.foldl_cons, List.length_cons]
    omega
theorem uniq_len {κ : Type} [DecidableEq κ] (xs : List κ) : (uniq xs).length ≤ xs.length := by
  have := foldl_addK_len xs []
  simpa [uniq] using this
theorem uniq_take {κ : Type} [DecidableEq κ] (xs : List κ) {i : Nat} {x : κ} (h : xs[i]? = some x) : uniq (xs.take (i + 1)) = addK (uniq (xs.take i)) x := by
  unfold uniq
  rw [List.take_add_one, h]
  simp [List.foldl_append]

section
variable {P : Program} {w : World} {κ : Type} [DecidableEq κ] [BEq κ] [LawfulBEq κ]
/-- how keys stand in values -/
structure KyOk (knd : KeyKind P w κ) (ky : Value → κ) : Prop where
  of : ∀ k v, knd.is k v = true → ky v = k
variable (knd : KeyKind P w κ) (ky : Value → κ)
def Gd (e : Int × Value) : Prop := knd.is (ky e.2) e.2 = true ∧ e.1 = knd.hash (ky e.2) ∧ e.2.scannable = true
/-- a set at a, its members' keys ks in some order -/
def SX (h : Heap) (a : Addr) (ks : List κ) : Prop := ∃ (o : Obj) (es : Array (Int × Value)) (ep : Nat) (t : SetTable), h.get? a = some o ∧ o.ExactSet ∧ o.data = .set es ep t ∧ (∀ e ∈ es.toList, Gd knd ky e) ∧
  (es.toList.map fun e => ky e.2).Perm ks ∧ ks.Nodup ∧ es.size < scanBound ∧ t.fits es.size = true ∧ Ris t.place.toList ∧ (w.params.followText "set-order" = true ∨ t.led = true)
variable {knd ky}
theorem SX.at {h h' : Heap} {a : Addr} {ks : List κ} (x : SX knd ky h a ks) (k : ∀ o, h.get? a = some o → h'.get? a = some o) : SX knd ky h' a ks := by
  obtain ⟨o, es, ep, t, ho, rest⟩ := x
  exact ⟨o, es, ep, t, k o ho, rest⟩
theorem gd_elems {l : List (Int × Value)} (g : ∀ e ∈ l, Gd knd ky e) : ElemsOf knd l := fun e he => by
  obtain ⟨g1, g2, g3⟩ := g e he
  exact ⟨⟨_, g1, g2⟩, g3⟩
theorem gd_is (K : KyOk knd ky) {e : Int × Value} (g : Gd knd ky e) (k : κ) : knd.is k e.2 = true ↔ ky e.2 = k :=
  ⟨fun z => K.of k _ z, fun z => by rw [← z]; exact g.1⟩
section
variable {A : Around} {E : Value → Shared → Prop} {s : Shared} {a : Addr} {ks : List κ}
theorem sx_tail {g : Bool → Sem Unit} (hg : ∀ (b : Bool) (s₁ : Shared) (Q' : Unit → Shared → Prop), Q' () s₁ → wpAny (model P w) A (g b) Q' E s₁)
    {o : Obj} {es : Array (Int × Value)} {ep : Nat} {t : SetTable} (ho : s.heap.get? a = some o) (hx : o.ExactSet) (hd : o.data = .set es ep t)
    {fs : Array (Int × Value)} {u : SetTable} {ls : List κ} (g1 : ∀ e ∈ fs.toList, Gd knd ky e) (pm1 : (fs.toList.map fun e => ky e.2).Perm ls) (nd : ls.Nodup) (hb : fs.size < scanBound) (hf : u.fits fs.size = true)
    (hr : Ris u.place.toList) (hl : w.params.followText "set-order" = true ∨ u.led = true) {wd : Bool} {R : Option Bool → Shared → Prop}
    (hR : ∀ h', Heap.SameBut a s.heap h' → SX knd ky h' a ls → R (some true) { s with heap := h' }) :
    wpAny (model P w) A (do
        storeSet a fs u
        if (!wd && u.tooFull) = true then do
            g (relayAll u fs (SetTable.grown fs.size)).2.2
            storeSet a (relayAll u fs (SetTable.grown fs.size)).1 (relayAll u fs (SetTable.grown fs.size)).2.1
            pure (some true)
          else pure (some true)) R E s := by
  have b1 := Heap.SameBut.update s.heap a (Obj.putSet fs u)
  have at1 := L2.store_at (es' := fs) (t' := u) ho hd
  refine wpAny_bind (wpAny_storeSet_of ho hd ?_ (fits_of_scanBound hb))
  split
  · have p2 := relayAll_perm u fs (SetTable.grown fs.size)
    have f2 := relayAll_fits u fs (SetTable.grown fs.size)
    have r2 := L2.relayAll_ris u fs (SetTable.grown fs.size)
    have l2 := L2.relayAll_led u fs (SetTable.grown fs.size)
    generalize relayAll u fs (SetTable.grown fs.size) = Y at p2 f2 r2 l2 ⊢
    obtain ⟨gs, v, gave⟩ := Y
    dsimp only at p2 f2 r2 l2 ⊢
    have z2 : gs.size = fs.size := by rw [← Array.length_toList, p2.length_eq, Array.length_toList]
    have hb2 : gs.size < scanBound := by rw [z2]; exact hb
    refine wpAny_bind (hg _ _ _ ?_)
    refine wpAny_bind (wpAny_storeSet_of at1 rfl ?_ (fits_of_scanBound hb2))
    have at2 := L2.store_at (es' := gs) (t' := v) at1 rfl
    exact wpAny_pure (hR _ (b1.trans (Heap.SameBut.update _ a _)) ⟨_, gs, _, v, at2, hx, rfl, fun e he => g1 e (p2.mem_iff.mp he), (p2.map _).trans pm1, nd, hb2, f2, r2, hl.imp id fun q => by rw [l2]; exact q⟩)
  · exact wpAny_pure (hR _ b1 ⟨_, fs, _, u, at1, hx, rfl, g1, pm1, nd, hb, hf, hr, hl⟩)
theorem sx_add (K : KyOk knd ky) {k : κ} {x : Value} (hx : knd.is k x = true) (hsc : x.scannable = true) {Q : Bool → Shared → Prop} (R : SX knd ky s.heap a ks) (room : ks.length + 1 < scanBound)
    (hQ : ∀ b h', Heap.SameBut a s.heap h' → SX knd ky h' a (addK ks k) → Q b { s with heap := h' }) : wpAny (model P w) A (setAddHashed a x (knd.hash k)) Q E s := by
  obtain ⟨o, es, ep, t, ho, hex, hd, g, pm, nd, hb, hf, hr, hl⟩ := R
  have el : ElemsOf knd es.toList := gd_elems g
  have hlen : es.size = ks.length := by rw [← pm.length_eq, List.length_map, Array.length_toList]
  unfold setAddHashed setAddHashedIn
  refine wpAny_holding (wpAny_bind (wpAny_setState_of ho hd hf ?_))
  dsimp only
  rw [byScan_of hsc hb el]
  simp only [↓reduceIte]
  unfold setAddByScan
  refine wpAny_bind (wpAny_bind (wpAny_rule (wpAny_bind (wpAny_setScan_of hx ho hd hf el ?_))))
  cases fi : List.findIdx? (fun e => knd.is k e.2) es.toList with
  | some j =>
    dsimp only
    obtain ⟨hj, pj, _⟩ := List.findIdx?_eq_some_iff_getElem.mp fi
    have hin : k ∈ ks := pm.mem_iff.mp (List.mem_map.mpr ⟨_, List.getElem_mem hj, (gd_is K (g _ (List.getElem_mem hj)) k).mp pj⟩)
    have ek : addK ks k = ks := by unfold addK; rw [if_pos hin]
    exact wpAny_pure (wpAny_pure (hQ _ s.heap (Heap.SameBut.refl a s.heap) (by rw [ek]; exact ⟨o, es, ep, t, ho, hex, hd, g, pm, nd, hb, hf, hr, hl⟩)))
  | none =>
    dsimp only
    have hout : k ∉ ks := fun z => by
      obtain ⟨e, he, q⟩ := List.mem_map.mp (pm.mem_iff.mpr z)
      have := List.findIdx?_eq_none_iff.mp fi e he
      rw [(gd_is K (g e he) k).mpr q] at this
      cases this
    have ek : addK ks k = ks ++ [k] := by unfold addK; rw [if_neg hout]
    have p1 := layNew_perm t es (knd.hash k) x
    have f1 := layNew_fits t es (knd.hash k) x
    have r1 := L2.layNew_ris t es (knd.hash k) x hr
    have l1 := L2.layNew_led t es (knd.hash k) x
    generalize layNew t es (knd.hash k) x = Z at p1 f1 r1 l1 ⊢
    obtain ⟨fs, u, wd, gave⟩ := Z
    dsimp only at p1 f1 r1 l1 ⊢
    rw [Array.toList_push] at p1
    have kx : ky x = k := K.of k x hx
    have g1 : ∀ e ∈ fs.toList, Gd knd ky e := fun e he => by
      rcases List.mem_append.mp (p1.mem_iff.mp he) with z | z
      · exact g e z
      · rw [List.mem_singleton.mp z]
        exact ⟨by show knd.is (ky x) x = true; rw [kx]; exact hx, by show knd.hash k = knd.hash (ky x); rw [kx], hsc⟩
    have pm1 : (fs.toList.map fun e => ky e.2).Perm (addK ks k) := by
      rw [ek]
      refine (p1.map _).trans ?_
      rw [List.map_append]
      show ((es.toList.map fun e => ky e.2) ++ [ky x]).Perm _
      rw [kx]
      exact pm.append_right _
    have z1 : fs.size = ks.length + 1 := by rw [← Array.length_toList, p1.length_eq, List.length_append, Array.length_toList, hlen]; rfl
    have hb1 : fs.size < scanBound := by rw [z1]; exact room
    have led1 : w.params.followText "set-order" = true ∨ u.led = true := hl.imp id fun q => by rw [l1]; exact q
    refine wpAny_bind ?_
    have way : ∀ (b : Bool) {s₁ : Shared} {Q' : Unit → Shared → Prop}, Q' () s₁ → wpAny (model P w) A (match b with | true => rule "set.scan.the-table-gave-way" | false => pure ()) Q' E s₁ := fun b s₁ Q' q => by
      cases b
      · exact wpAny_pure q
      · exact wpAny_rule q
    refine way _ ?_
    split
    · refine wpAny_bind ?_
      rw [hashByValue_scannable 8 hsc]
      refine wpAny_pure ?_
      refine sx_tail (fun b s₁ Q' q => way b q) ho hex hd g1 pm1 (addK_nodup nd) hb1 ?_ ?_ ?_ fun h' sb r => ?_
      · first | (split <;> first | exact f1 | exact SetTable.fits_plain_off f1) | exact f1
      · first | (split <;> exact r1) | exact r1
      · first | (split <;> exact led1) | exact led1
      · dsimp only
        exact wpAny_pure (hQ _ h' sb r)
    · refine wpAny_bind (wpAny_pure ?_)
      simp only [↓reduceIte]
      refine sx_tail (fun b s₁ Q' q => way b q) ho hex hd g1 pm1 (addK_nodup nd) hb1 f1 r1 led1 fun h' sb r => ?_
      dsimp only
      exact wpAny_pure (hQ _ h' sb r)
theorem sx_update (K : KyOk knd ky) {I : Addr} {fp wr : List Addr} {G : Array GenState → Array GenState → Prop} {Pv : Nat → Value → Prop} {St : Nat → Shared → Prop} {R : Result → Shared → Prop} (xs : List κ) (W : WalksS P w A.in1 I fp wr G xs.length Pv St) (B : Addr) (hB : B ∉ fp)
    (room : xs.length + 1 < scanBound) (vl : ∀ i v, Pv i v → ∃ k, xs[i]? = some k ∧ knd.is k v = true ∧ v.scannable = true) :
    ∀ (m i : Nat) (s : Shared), xs.length - i = m → i ≤ xs.length → St i s → SX knd ky s.heap B (uniq (xs.take i)) →
      (∀ s', Moved (B :: wr) G s s' → SX knd ky s'.heap B (uniq xs) → R (.ok (.ret .none)) s') → codeAny (model P w) A (.builtin "set.update.loop" ⟨[.ref B, .ref I], []⟩) R s := by
  have nw : B ∉ wr := fun h => hB (W.sub _ h)
  have up : ∀ b ∈ wr, b ∈ B :: wr := fun b hb => List.mem_cons_of_mem _ hb
  have nxt : ∀ {s : Shared} {Q : Option Value → Shared → Prop} {k : Option Value → Sem Fin}, True := fun {_ _ _} => trivial
  intro m
  induction m with
  | zero =>
    intro i s em hi hst hS hR
    have ei : i = xs.length := by omega
    subst ei
    rw [List.take_length] at hS
    refine codeAny_builtin F.entry_set_update_loop ?_
    rw [Around.under_plainId F.plain_set_update_loop _]
    show wpAny (model P w) A.in1 (pyNext (.ref I) >>= _) _ _ s
    exact wpAny_bind (W.done s _ _ hst fun s' hm => wpAny_pure (hR s' (hm.mono up) (hS.at fun o e => hm.heap B o nw e)))
  | succ m ih =>
    intro i s em hi hst hS hR
    have lt : i < xs.length := by omega
    refine codeAny_builtin F.entry_set_update_loop ?_
    rw [Around.under_plainId F.plain_set_update_loop _]
    show wpAny (model P w) A.in1 (pyNext (.ref I) >>= _) _ _ s
    refine wpAny_bind (W.item i s _ _ lt hst fun v s' hP hst' hm => ?_)
    obtain ⟨k, hk, hkv, hsc⟩ := vl i v hP
    have hS1 : SX knd ky s'.heap B (uniq (xs.take i)) := hS.at fun o e => hm.heap B o nw e
    show wpAny (model P w) A.in1 (holding [v] (setAdd B v) >>= _) _ _ s'
    refine wpAny_bind (wpAny_holding ?_)
    unfold setAdd
    refine wpAny_holding (wpAny_bind (knd.pyHash hkv ?_))
    have few : (uniq (xs.take i)).length + 1 < scanBound := by
      have h1 := uniq_len (xs.take i)
      rw [List.length_take] at h1
      omega
    refine sx_add K hkv hsc (s := { s' with toks := s'.toks + 1 }) hS1 few fun b h' sb hS2 => ?_
    rw [← uniq_take xs hk] at hS2
    refine wpAny_pure ⟨plainId_quiet F.plain_set_update_loop _, ih (i + 1) _ (by omega) lt (W.frame _ s' _ _ hst' (Nat.le_succ _) fun b hb o e => ?_) hS2 fun s'' hm2 hS3 => ?_⟩
    · rw [sb.2 b fun z : b = B => hB (z ▸ hb)]; exact e
    · refine hR s'' (Moved.trans W.gtrans ((hm.mono up).then_heap (Nat.le_succ _) fun b o hb e => ?_) hm2) hS3
      rw [sb.2 b fun z : b = B => hb (z ▸ List.mem_cons_self)]; exact e
/-- a new set -/
theorem sx_new {h : Heap} {a : Addr} (ho : h.get? a = some { cls := .type "set", dict := none, data := .set #[] 0 (.fresh 0 0 (!w.params.followText "set-order")) }) : SX knd ky h a [] :=
  ⟨_, #[], 0, _, ho, ⟨rfl, rfl, rfl⟩, rfl, (fun e he => by simp at he), .nil, .nil, (by decide), (by rfl), List.Pairwise.nil, by
    show _ ∨ (!w.params.followText "set-order") = true
    cases w.params.followText "set-order"
    · exact .inr rfl
    · exact .inl rfl⟩
/-- what set(list), set(tuple) ask -/
theorem walks_src {fl : Bool} {it l : Addr} {items : Array Value} (hh : A.handled = none) (hne : l ≠ it) : Walks P w A it [it, l] [it] items.size (fun i v => items[i]? = some v) (fun i h => iterAt fl h it l i ∧ heldAt fl h l items) := by
  cases fl
  · exact Walks.tuple hh _ _ hne _
  · exact Walks.list hh _ _ hne _
theorem code_setOf (x : Value) {Q₁ : Value → Shared → Prop}
    (h : Q₁ (.ref s.heap.objs.size) { s with heap := s.heap.push { cls := .type "set", dict := none, data := .set #[] 0 (.fresh 0 0 (!w.params.followText "set-order")) } }) : codeAny (model P w) A (.call (.builtin "set.__new__") ⟨[.type "set", x], []⟩) (wants Q₁ E) s :=
  L2.code_set_led1 x h
theorem call_setX (K : KyOk knd ky) {fl : Bool} {l : Addr} {items : Array Value} (xs : List κ) {Q : Value → Shared → Prop} (hh : A.handled = none) (hl : heldAt fl s.heap l items) (vl : ∀ (i : Nat) (v : Value), items[i]? = some v → ∃ k, xs[i]? = some k ∧ knd.is k v = true ∧ v.scannable = true) (hz : items.size = xs.length)
    (room : xs.length + 1 < scanBound) (h : ∀ (h' : Heap) (tk : Tok), SX knd ky h' s.heap.objs.size (uniq xs) → (∀ b o, s.heap.get? b = some o → h'.get? b = some o) → Q (.ref s.heap.objs.size) { s with heap := h', toks := tk }) :
    wpAny (model P w) A (call (.type "set") [.ref l]) Q E s := by
  obtain ⟨c, tl, hmro⟩ := F.called_set.mro
  have hmade := F.called_set.made
  have hsub := F.called_set.sub
  have h1 := F.called_set.notType
  have h2 := F.called_set.canCreate
  have hct := F.typeCall_set_1 (.ref l)
  have lS : l < s.heap.objs.size := by
    cases fl
    · obtain ⟨o, e, _⟩ := hl; exact Heap.lt_size e
    · obtain ⟨o, e, _⟩ := hl; exact Heap.lt_size e
  refine wpAny_call (codeAny_of_tree ?_)
  show wpAny _ _ (callAny (.type "set") _) _ _ _
  refine wpAny_pure ⟨Code.quiet_builtin _ (by decide +kernel), codeAny_builtin F.entry_type_call ?_⟩
  rw [Around.under_plain (weight_type_call_type "set" [.ref l] []) rfl]
  repeat (any_goals (first | assumption | wp_step))
  refine codeAny_mono (code_setOf (.ref l) (E := E) (Q₁ := fun obj s₁ => obj = .ref s.heap.objs.size ∧ s₁ = { s with heap := s.heap.push { cls := .type "set", dict := none, data := .set #[] 0 (.fresh 0 0 (!w.params.followText "set-order")) } }) ⟨rfl, rfl⟩) fun r s₁ hr => ?_
  cases r with
  | error e => exact hr
  | ok f1 =>
    cases f1 with
    | ret obj =>
      obtain ⟨rfl, rfl⟩ := hr
      generalize hob : ({ cls := .type "set", dict := none, data := .set #[] 0 (.fresh 0 0 (!w.params.followText "set-order")) } : Obj) = ob
      have hfr : ob.isFreed = false := by rw [← hob]; rfl
      have hS : (s.heap.push ob).get? s.heap.objs.size = some ob := Heap.get?_push_size _ hfr
      have hT : Shared.TypeIs { s with heap := s.heap.push ob } (.ref s.heap.objs.size) "set" := ⟨_, hS, by rw [← hob]⟩
      have hli := F.called_set.init.lookup
      have hbi := F.called_set.init.bind (.ref s.heap.objs.size)
      repeat (any_goals (first | assumption | wp_step))
      refine codeAny_mono (codeAny_call_builtin (R := wants (fun r s₂ => r = .none ∧ ∃ h' tk, s₂ = { s with heap := h', toks := tk } ∧ SX knd ky h' s.heap.objs.size (uniq xs) ∧ (∀ b o, s.heap.get? b = some o → h'.get? b = some o)) E) F.called_set.init.plain F.entry_set_init (check_set_init_1 hT ?_)) fun r₂ s₂ hr₂ => ?_
      · have hl1 : heldAt fl (s.heap.push ob) l items := by
          cases fl
          · exact Heap.IsTuple.push hl ob
          · exact Heap.IsList.push hl ob
        have szp : (s.heap.push ob).objs.size = s.heap.objs.size + 1 := Heap.size_push ..
        have fin : ∀ A' : Around, A'.handled = none → codeAny (model P w) A' (.builtin "set.update.loop" ⟨[.ref s.heap.objs.size, .ref (s.heap.push ob).objs.size], []⟩)
            (fun r s' => r = .ok (.ret .none) ∧ ∃ h' tk, s' = { s with heap := h', toks := tk } ∧ SX knd ky h' s.heap.objs.size (uniq xs) ∧ (∀ b o, s.heap.get? b = some o → h'.get? b = some o)) { s with heap := (s.heap.push ob).push (iterO fl l) } := by
          intro A' hA
          rw [szp]
          have fr : (iterO fl l).isFreed = false := by cases fl <;> rfl
          have ne1 : l ≠ s.heap.objs.size + 1 := Nat.ne_of_lt (Nat.lt_succ_of_lt lS)
          have W0 : Walks P w A'.in1 (s.heap.objs.size + 1) [s.heap.objs.size + 1, l] [s.heap.objs.size + 1] items.size (fun i v => items[i]? = some v) (fun i h => iterAt fl h (s.heap.objs.size + 1) l i ∧ heldAt fl h l items) := walks_src (by simpa using hA) ne1
          rw [hz] at W0
          have hnew : ((s.heap.push ob).push (iterO fl l)).get? (s.heap.objs.size + 1) = some (iterO fl l) := by
            have := Heap.get?_push_size (s.heap.push ob) fr
            rw [szp] at this; exact this
          have out : s.heap.objs.size ∉ [s.heap.objs.size + 1, l] := by
            simp only [List.mem_cons, List.not_mem_nil, or_false, not_or]
            exact ⟨Nat.ne_of_lt (Nat.lt_succ_self _), Nat.ne_of_gt lS⟩
          refine sx_update K xs W0.toS s.heap.objs.size out room vl (xs.length - 0) 0 _ rfl (Nat.zero_le _) ⟨iterAt.new hnew, ?_⟩ ?_ fun s' hm hS' => ⟨rfl, ?_⟩
          · cases fl
            · exact Heap.IsTuple.push hl1 _
            · exact Heap.IsList.push hl1 _
          · refine sx_new ?_
            rw [hob]
            exact Heap.get?_push_of_some _ hS
          · obtain ⟨h', g2, d', tk', os'⟩ := s'
            have eg : g2 = s.gens := hm.gens
            have ed : d' = s.drawn := hm.drawn
            have eo : os' = s.os := hm.os
            subst eg ed eo
            refine ⟨h', tk', rfl, hS', fun b o e => ?_⟩
            have hb := Heap.lt_size e
            refine hm.heap b o ?_ (Heap.get?_push_of_some _ (Heap.get?_push_of_some _ e))
            simp only [List.mem_cons, List.not_mem_nil, or_false, not_or]
            exact ⟨Nat.ne_of_lt hb, Nat.ne_of_lt (Nat.lt_succ_of_lt hb)⟩
        subst hob
        obtain ⟨T, ol, hol, hcl, q1, q2, q3⟩ : ∃ (T : String) (ol : Obj), (s.heap.push { cls := .type "set", dict := none, data := .set #[] 0 (.fresh 0 0 (!w.params.followText "set-order")) }).get? l = some ol ∧ ol.cls = .type T ∧
            isSubtype (.type T) (.type "set") = pure false ∧ isSubtype (.type T) (.type "frozenset") = pure false ∧ (Value.type T == Value.type "dict") = false := by
          cases fl
          · obtain ⟨ol, hol, hcl, _⟩ := id hl1
            exact ⟨"tuple", ol, hol, hcl, F.sub_tuple_set, F.sub_tuple_frozenset, by decide⟩
          · obtain ⟨ol, hol, hcl, _⟩ := id hl1
            exact ⟨"list", ol, hol, hcl, F.sub_list_set, F.sub_list_frozenset, by decide⟩
        obtain ⟨ocls, odict, odata, oslots⟩ := ol
        simp only at hcl
        subst hcl
        unfold Builtin.«set.__init__» noKeywords Builtin.Frozenset.updateFrom
        generalize hPI : pyIter = PI
        wp_walk
        subst hPI
        have late : ∀ oi, oi = iterO fl l → wpAny (model P w) A.in1.in1 (runValue (.builtin "set.update.loop" ⟨[.ref s.heap.objs.size, .ref (s.heap.push { cls := .type "set", dict := none, data := .set #[] 0 (.fresh 0 0 (!w.params.followText "set-order")) }).objs.size], []⟩))
            (fun r s' => ∃ h' tk, s' = { s with heap := h', toks := tk } ∧ SX knd ky h' s.heap.objs.size (uniq xs) ∧ (∀ b o, s.heap.get? b = some o → h'.get? b = some o)) E
            { s with heap := (s.heap.push { cls := .type "set", dict := none, data := .set #[] 0 (.fresh 0 0 (!w.params.followText "set-order")) }).push oi } := fun oi eo => by
          subst eo
          refine wpAny_runValue (codeAny_mono (fin _ (by simp [hh])) fun r s' hr => ?_)
          obtain ⟨rfl, hq⟩ := hr
          exact hq
        cases fl
        · refine wpAny_pyIter_tuple hl1 ?_
          refine wpAny_bind (wpAny_mono (late _ rfl) (fun r s' hq => ?_) fun _ _ z => z)
          exact wpAny_pure (show wpAny _ _ (ret Value.none) _ _ _ from wpAny_pure ⟨rfl, hq⟩)
        · refine wpAny_pyIter_list hl1 ?_
          refine wpAny_bind (wpAny_mono (late _ rfl) (fun r s' hq => ?_) fun _ _ z => z)
          exact wpAny_pure (show wpAny _ _ (ret Value.none) _ _ _ from wpAny_pure ⟨rfl, hq⟩)
      · cases r₂ with
        | error e => exact hr₂
        | ok f2 =>
          cases f2 with
          | ret r =>
            obtain ⟨rfl, h', tk, rfl, hS', hk'⟩ := hr₂
            repeat (any_goals (first | assumption | wp_step))
            exact h _ _ hS' hk'
          | _ => exact hr₂.elim
    | _ => exact hr.elim
end
end
end DL

set_option maxHeartbeats 2000000
/-! DL7: more values: slices, turned round, times, minus, methods of texts, count, index, in; constants of the module. -/
namespace DL
open PySem PySem.Spec L2
open PyProof.Rows hiding St

section
variable {X : Cx} {c : Cst} {W : XK} {k : Nat} {e a b : Expr} {es : List Expr} {f g h : M D} {fs : M (List D)} {pos p p1 p2 p3 : Pos} {x : Str}

/-! ### the module's constants -/
theorem de_gint {i : Int} (hg : Gl X x) (hm : ∃ t, X.mg x = some (.int i t)) (hd : (x == ("__debug__" : Str)) = false := by decide) : DE X c W (.Name x p) (mC (.int i)) := by
  obtain ⟨t, hm⟩ := hm
  exact de_c (pe_glob (v := .int i) hg hm ⟨t, rfl⟩ hd) fun _ => .int i
theorem de_gstr {z : Str} (hg : Gl X x) (hm : ∃ t, X.mg x = some (.str z t)) (hd : (x == ("__debug__" : Str)) = false := by decide) : DE X c W (.Name x p) (mC (.str z)) := by
  obtain ⟨t, hm⟩ := hm
  exact de_c (pe_glob (v := .str z) hg hm ⟨t, rfl⟩ hd) fun _ => .str z

/-! ### slices -/
abbrev tDO (K : PySem.W.Frag) (c : Cst) (W : XK) (f : M (Option Int)) : TO := fun σ H Q => ∃ P ρ F, Good K c P σ ρ F H ∧ Post K c W P σ F (f ρ) fun o _ _ H' => Q o H'
abbrev DO (X : Cx) (c : Cst) (W : XK) (e : Option Expr) (f : M (Option Int)) : Prop := ∀ (pins : List (Addr × Obj)) (s : Shared) (σ : L2.St) (H : Hp) (P : Hp) (ρ : Env) (F : Hp) (Q : Option Int → Env → Hp → Hp → Prop), Inv X pins σ H s → Good X.K c P σ ρ F H → Post X.K c W P σ F (f ρ) Q →
  wpAny (model X.prog X.w) X.A (evalPart e X.env) (fun u s' => ∃ o ρ' F' H', Inv X pins σ H' s' ∧ IsPart u o ∧ Good X.K c P σ ρ' F' H' ∧ DL.le F F' ∧ Q o ρ' F' H') X.xe s
def mNoP : M (Option Int) := fun ρ => .ok (none, ρ)
def mP (f : M D) : M (Option Int) := fun ρ => (f ρ).bind fun x => match x.1 with
  | .int i => .ok (some i, x.2)
  | _ => .bad
def cutD (xs : List D) (lo hi : Option Int) : List D := (xs.drop (HT.sIx xs.length 0 lo)).take (HT.sIx xs.length xs.length hi - HT.sIx xs.length 0 lo)
def oSlice (d : D) (lo hi : Option Int) : Option D := match d with
  | .list xs => some (.list (cutD xs lo hi))
  | .tuple xs => some (.tuple (cutD xs lo hi))
  | .str z => if z.length ≤ lim then some (.str (cutS z lo hi)) else none
  | _ => none
def mSlice (f : M D) (lo hi : M (Option Int)) : M D := fun ρ => (f ρ).bind fun x => (lo x.2).bind fun l => (hi l.2).bind fun u => (ofO (oSlice x.1 l.1 u.1)).map fun z => (z, u.2)
theorem DvAll.cut {K : PySem.W.Frag} {F : Hp} {vs : List V} {ds : List D} (q : DvAll K F vs ds) (lo hi : Option Int) : DvAll K F (cutV vs lo hi) (cutD ds lo hi) := by
  unfold cutV cutD
  rw [q.length]
  exact DvAll.take _ (DvAll.drop _ q)
def rSlD (K : PySem.W.Frag) : V → Option Int → Option Int → Hp → VK → Prop := fun v lo hi H Q => (rSlA K v lo hi H Q ∨ rSlL K v lo hi H Q) ∨ rSlS v lo hi H Q
theorem sl_D : SlR X (rSlD X.K) := SlR.or (SlR.or sl_tupA sl_list) sl_str
theorem rd_slice {K : PySem.W.Frag} {F H : Hp} {v : V} {d z : D} {lo hi : Option Int} {Q : VK} (l : DL.le F H) (dv : Dv K F v d) (ho : oSlice d lo hi = some z) (q : ∀ w F' H', Grow F H F' H' → Dv K F' w z → Q w H') : rSlD K v lo hi H Q := by
  cases d <;> (try (cases ho; done))
  · simp only [oSlice] at ho
    split at ho
    · rw [dv.str_inv]
      cases ho
      exact .inr ⟨_, rfl, lim_line (by assumption), q _ _ _ (Grow.refl l) (.str _)⟩
    · cases ho
  · obtain ⟨a, xs, rfl, h1, h2⟩ := dv.lst_inv
    cases ho
    refine .inl (.inr ⟨a, xs, rfl, SqL.of (l _ _ h1), fun p hp => ?_⟩)
    have g := Grow.lay (o := .lst (cutV xs lo hi)) l hp
    exact q _ _ _ g (.lst upd_same (DvAll.le g.ff (h2.cut lo hi)))
  · rename_i ds
    obtain ⟨a, xs, rfl, h1, h2⟩ := id dv.tup_inv
    cases ho
    refine .inl (.inl ⟨a, xs, rfl, SqT.le h1 l, fun w => ?_, fun _ p hp => ?_⟩)
    · refine q _ _ _ (Grow.refl l) ?_
      have e : cutD ds lo hi = ds := by
        unfold cutD
        rw [← h2.length, w.1, w.2, Nat.sub_zero, List.drop_zero, List.take_of_length_le (by rw [h2.length]; exact Nat.le_refl _)]
      rw [e]
      exact dv
    · have g := Grow.lay (o := .tup (cutV xs lo hi)) l hp
      exact q _ _ _ g (.tup (SqT.of upd_same) (DvAll.le g.ff (h2.cut lo hi)))
theorem do_none : DO X c W none mNoP := fun pins s σ H P ρ F Q I G p => by
  rw [evalPart_none]
  exact wpAny_pure ⟨none, ρ, F, H, I, .none, G, le.refl, p.ok G⟩
theorem do_some (he : DE X c W e f) : DO X c W (some e) (mP f) := fun pins s σ H P ρ F Q I G p => by
  refine wpAny_mono ((po_some he).run pins s σ H (fun o H' => ∃ ρ' F', Good X.K c P σ ρ' F' H' ∧ DL.le F F' ∧ Q o ρ' F' H') I ⟨P, ρ, F, G, p.bind.mono fun d ρ1 F1 H1 G1 l1 p1 v dv => ?_⟩) (fun u s' ⟨o, H', I', pu, ρ', F', G', l', q⟩ => ⟨o, ρ', F', H', I', pu, G', l', q⟩) fun _ _ z => z
  cases dv with
  | int i => exact ⟨i, rfl, ρ1, F1, G1, l1, p1.ok G1⟩
  | _ => exact p1.elim
theorem de_slice {lo hi : Option Expr} {g h : M (Option Int)} (he : DE X c W e f) (hl : DO X c W lo g) (hh : DO X c W hi h) : DE X c W (.Subscript e (.Slice lo hi none p2) pos) (mSlice f g h) := by
  refine ⟨fun pins s σ H Q I ⟨P, ρ, F, G, p⟩ => ?_⟩
  have L : PO X lo fun σ H Q => ∃ P ρ F R, Good X.K c P σ ρ F H ∧ Post X.K c W P σ F (g ρ) R ∧ ∀ o ρ' F' H', Good X.K c P σ ρ' F' H' → DL.le F F' → R o ρ' F' H' → Q o H' :=
    ⟨fun pins s σ H Q I ⟨P, ρ, F, R, G, p, k⟩ => wpAny_mono (hl pins s σ H P ρ F R I G p) (fun u s' ⟨o, ρ', F', H', I', pu, G', l', r⟩ => ⟨o, H', I', pu, k o ρ' F' H' G' l' r⟩) fun _ _ z => z⟩
  have U : PO X hi fun σ H Q => ∃ P ρ F R, Good X.K c P σ ρ F H ∧ Post X.K c W P σ F (h ρ) R ∧ ∀ o ρ' F' H', Good X.K c P σ ρ' F' H' → DL.le F F' → R o ρ' F' H' → Q o H' :=
    ⟨fun pins s σ H Q I ⟨P, ρ, F, R, G, p, k⟩ => wpAny_mono (hh pins s σ H P ρ F R I G p) (fun u s' ⟨o, ρ', F', H', I', pu, G', l', r⟩ => ⟨o, H', I', pu, k o ρ' F' H' G' l' r⟩) fun _ _ z => z⟩
  refine (pe_slice sl_D he L U).run pins s σ H Q I ⟨P, ρ, F, G, p.bind.mono fun d ρ1 F1 H1 G1 l1 p1 v dv => ⟨P, ρ1, F1, _, G1, p1.bind, fun o ρ2 F2 H2 G2 l2 p2 => ⟨P, ρ2, F2, _, G2, p2.bind, fun o' ρ3 F3 H3 G3 l3 p3 => ?_⟩⟩⟩
  obtain ⟨z, hz, p4⟩ := p3.lift
  exact rd_slice G3.le (Dv.le (l2.trans l3) dv) hz fun w F' H' g' dw => p4 F' H' (G3.grow g') g'.ff w dw

/-! ### minus; tuples times -/
def mNeg (f : M D) : M D := fun ρ => (f ρ).bind fun x => match x.1 with
  | .int i => .ok (.int (-i), x.2)
  | _ => .bad
theorem de_neg (ha : DE X c W a f) : DE X c W (.UnaryOp .USub a pos) (mNeg f) := PE.imp (pe_un un_neg ha) fun σ H Q ⟨P, ρ, F, G, p⟩ =>
  ⟨P, ρ, F, G, p.bind.mono fun d ρ1 F1 H1 G1 _ p1 v dv => by
    cases dv with
    | int i => exact ⟨i, rfl, p1.ok G1 _ (.int _)⟩
    | _ => exact p1.elim⟩
def oMulT (d e : D) : Option D := match d, e with
  | .tuple xs, .int k => if 2 ≤ k ∧ k ≤ 1000 ∧ xs.length ≤ 1000 ∧ xs ≠ [] then some (.tuple (List.replicate k.toNat xs).flatten) else none
  | _, _ => none
theorem rd_mulT {K : PySem.W.Frag} : RD K (rRepT K) oMulT := fun F H x y d e z Q l hx hy ho q => by
  cases d <;> cases e <;> (try (cases ho; done))
  rename_i ds kk
  obtain ⟨a, xs, rfl, h1, h2⟩ := hx.tup_inv
  rw [hy.int_inv]
  simp only [oMulT] at ho
  split at ho
  · cases ho
    rename_i hl
    refine ⟨a, _, xs, rfl, rfl, SqT.le h1 l, ?_, hl.1, hl.2.1, by rw [h2.length]; exact hl.2.2.1, fun p hp => ?_⟩
    · intro e
      subst e
      cases h2
      exact hl.2.2.2 rfl
    · have g := Grow.lay (o := .tup (List.replicate kk.toNat xs).flatten) l hp
      exact q _ _ _ g (.tup (SqT.of upd_same) (DvAll.rep (DvAll.le g.ff h2) _))
  · cases ho
/-- times of any kind -/
def rMulD (K : PySem.W.Frag) : R2 := fun x y H Q => (rI CMul (fun i j => .int (i * j)) x y H Q ∨ rRep x y H Q) ∨ rRepT K x y H Q
theorem op_mulD : OpR X (binaryOp .Mult) (rMulD X.K) := OpR.or (OpR.or op_mul op_rep) op_repT
noncomputable def oMul (d e : D) : Option D := match d with
  | .int _ => oMulI d e
  | .list _ => oMulL d e
  | .tuple _ => oMulT d e
  | _ => none
theorem rd_mul {K : PySem.W.Frag} : RD K (rMulD K) oMul := fun F H x y d e z Q l hx hy ho q => by
  cases d <;> (try (cases ho; done))
  · exact .inl (.inl (rd_mulI F H x y _ e z Q l hx hy ho q))
  · exact .inl (.inr (rd_mulL F H x y _ e z Q l hx hy ho q))
  · exact .inr (rd_mulT F H x y _ e z Q l hx hy ho q)

/-! ### in, not in -/
def oIn (d e : D) : Option D := match e with
  | .list xs => if min (PyData.depthAll xs) d.depth ≤ deep then some (.bool (xs.any fun y => PyData.eqv y d)) else none
  | .tuple xs => if min (PyData.depthAll xs) d.depth ≤ deep then some (.bool (xs.any fun y => PyData.eqv y d)) else none
  | _ => none
def oNotIn (d e : D) : Option D := match e with
  | .list xs => if min (PyData.depthAll xs) d.depth ≤ deep then some (.bool (!xs.any fun y => PyData.eqv y d)) else none
  | .tuple xs => if min (PyData.depthAll xs) d.depth ≤ deep then some (.bool (!xs.any fun y => PyData.eqv y d)) else none
  | _ => none
def rInP (K : PySem.W.Frag) (o : D → D → Option D) : R2 := fun x y H Q => ∃ d e b, Dp K H x d ∧ Dp K H y e ∧ d.plain = true ∧ e.plain = true ∧ o d e = some (.bool b) ∧ Q (.bl b) H
theorem op_inP (hu : X.A.units + 66 < cLine) : OpR X (compareOp .In) (rInP X.K oIn) := by
  intro pins s σ H x y v u Q I rx ry ⟨d, e, b, hd, he, pd, pe, ho, q⟩
  obtain ⟨as, r1⟩ := Dp.reads I d x v hd rx
  obtain ⟨bs, r2⟩ := Dp.reads I e y u he ry
  unfold oIn at ho
  split at ho
  · split at ho
    · cases ho
      exact SeqAt.in_list_data r2 r1 pe pd (by unfold deep at *; omega) ⟨.bl _, H, I, rfl, q⟩
    · cases ho
  · split at ho
    · cases ho
      exact SeqAt.in_tuple_data r2 r1 pe pd (by unfold deep at *; omega) ⟨.bl _, H, I, rfl, q⟩
    · cases ho
  · cases ho
theorem op_notInP (hu : X.A.units + 66 < cLine) : OpR X (compareOp .NotIn) (rInP X.K oNotIn) := by
  intro pins s σ H x y v u Q I rx ry ⟨d, e, b, hd, he, pd, pe, ho, q⟩
  obtain ⟨as, r1⟩ := Dp.reads I d x v hd rx
  obtain ⟨bs, r2⟩ := Dp.reads I e y u he ry
  unfold oNotIn at ho
  split at ho
  · split at ho
    · cases ho
      exact SeqAt.notIn_list_data r2 r1 pe pd (by unfold deep at *; omega) ⟨.bl _, H, I, rfl, q⟩
    · cases ho
  · split at ho
    · cases ho
      exact SeqAt.notIn_tuple_data r2 r1 pe pd (by unfold deep at *; omega) ⟨.bl _, H, I, rfl, q⟩
    · cases ho
  · cases ho
theorem rd_inP {K : PySem.W.Frag} {o : D → D → Option D} (hb : ∀ d e z, o d e = some z → ∃ b, z = .bool b) : RD K (rInP K o) o := fun F H x y d e z Q l hx hy ho q => by
  obtain ⟨b, rfl⟩ := hb d e z ho
  exact ⟨d, e, b, hx.mono l, hy.mono l, hx.plain, hy.plain, ho, q _ _ _ (Grow.refl l) (.bl b)⟩
theorem rd_in {K : PySem.W.Frag} : RD K (rInP K oIn) oIn := rd_inP fun d e z h => by
  unfold oIn at h
  split at h
  · split at h <;> cases h; exact ⟨_, rfl⟩
  · split at h <;> cases h; exact ⟨_, rfl⟩
  · cases h
theorem rd_notIn {K : PySem.W.Frag} : RD K (rInP K oNotIn) oNotIn := rd_inP fun d e z h => by
  unfold oNotIn at h
  split at h
  · split at h <;> cases h; exact ⟨_, rfl⟩
  · split at h <;> cases h; exact ⟨_, rfl⟩
  · cases h
theorem Ok.units2 (O : Ok X c W k) : X.A.units + 66 < cLine := by have := O.room.un; omega

/-! ### methods of texts and lists -/
structure RM (K : PySem.W.Frag) (T : String) (r : V → List V → Hp → VK → Prop) (ok : D → Bool) (op : D → List D → Option D) : Prop where
  ty : ∀ F H x d, DL.le F H → Dv K F x d → ok d = true → tyV K T x H
  go : ∀ F H x xs d ds z Q, DL.le F H → Dv K F x d → DvAll K F xs ds → ok d = true → op d ds = some z → (∀ w F' H', Grow F H F' H' → Dv K F' w z → Q w H') → r x xs H Q
def mMeth (ok : D → Bool) (op : D → List D → Option D) (f : M D) (fs : M (List D)) : M D := fun ρ => (f ρ).bind fun x => if ok x.1 = true then (fs x.2).bind fun y => (ofO (op x.1 y.1)).map fun z => (z, y.2) else .bad
theorem de_bm {T id : String} {r : V → List V → Hp → VK → Prop} {ok : D → Bool} {op : D → List D → Option D} {o : Expr} {name : Str} {apos cpos : Pos} (pa : PlainAttrs T) (slot : PySem.Slot T name id) (hty : typeOf (.builtin id) = pure (.type "method_descriptor")) (hm : MtR X id r) (R : RM X.K T r ok op)
    (ho : DE X c W o f) (ha : DA X c W (e :: es) fs) (hbase : attributeBase o name X.env (eval o X.env) = eval o X.env := by rfl)
    (hfew : ((backTo cpos (starEach (e :: es) X.env)).all (fun x => !x.1) && (backToKw cpos (keywordEach [] X.env)).all (fun x => x.1.isSome)
      && decide ((e :: es).length + ([] : List Keyword).length + (if ([] : List Keyword).isEmpty then 0 else 1) < 30)) = true := by rfl)
    (hline : (apos.endLine == cpos.line) = true := by rfl) (hs : starEach (e :: es) X.env = (false, eval e X.env) :: starEach es X.env := by rfl) (hplain : (backTo cpos (starEach es X.env)).any (·.1) = false := by rfl) :
    DE X c W (.Call (.Attribute o name apos) (e :: es) [] cpos) (mMeth ok op f fs) :=
  PE.imp (pe_bm pa slot hty hm ho ha hbase hfew hline hs hplain) fun σ H Q ⟨P, ρ, F, G, p⟩ => ⟨P, ρ, F, G, p.bind.mono fun d ρ1 F1 H1 G1 l1 p1 v dv => by
    obtain ⟨hk, p1⟩ := Post.ite p1
    refine ⟨R.ty F1 H1 v d G1.le dv hk, P, ρ1, F1, G1, p1.bind.mono fun ds ρ2 F2 H2 G2 l2 p2 vs dvs => ?_⟩
    obtain ⟨z, hz, p3⟩ := p2.lift
    exact R.go F2 H2 v vs d ds z Q G2.le (Dv.le l2 dv) dvs hk hz fun w F' H' g' dw => p3 F' H' (G2.grow g') g'.ff w dw⟩
def isS (d : D) : Bool := match d with
  | .str z => decide (z.length ≤ lim)
  | _ => false
def isL (d : D) : Bool := match d with
  | .list _ => true
  | _ => false
def oStrip (d : D) (ds : List D) : Option D := match d, ds with
  | .str a, [.str b] => some (.str (Txt.stripChars a b))
  | _, _ => none
theorem rm_strip {K : PySem.W.Frag} : RM K "str" (fun x xs H Q => ∃ a b, x = .str a ∧ xs = [.str b] ∧ a.length ≤ sizeLine ∧ Q (.str (Txt.stripChars a b)) H) isS oStrip where
  ty := fun F H x d l dv hk => by
    cases dv <;> (try (cases hk; done))
    rfl
  go := fun F H x xs d ds z Q l dv dvs hk ho q => by
    unfold oStrip at ho
    split at ho
    · cases ho
      obtain ⟨u, rfl, du⟩ := dvs.one
      rw [dv.str_inv, du.str_inv]
      exact ⟨_, _, rfl, rfl, lim_line (of_decide_eq_true hk), q _ _ _ (Grow.refl l) (.str _)⟩
    · cases ho
theorem de_strip {o : Expr} {apos cpos : Pos} (ho : DE X c W o f) (ha : DE X c W e g) (hbase : attributeBase o "strip" X.env (eval o X.env) = eval o X.env := by rfl)
    (hfew : ((backTo cpos (starEach [e] X.env)).all (fun x => !x.1) && (backToKw cpos (keywordEach [] X.env)).all (fun x => x.1.isSome)
      && decide ([e].length + ([] : List Keyword).length + (if ([] : List Keyword).isEmpty then 0 else 1) < 30)) = true := by rfl)
    (hline : (apos.endLine == cpos.line) = true := by rfl) (hs : starEach [e] X.env = (false, eval e X.env) :: starEach [] X.env := by rfl) (hplain : (backTo cpos (starEach [] X.env)).any (·.1) = false := by rfl) :
    DE X c W (.Call (.Attribute o "strip" apos) [e] [] cpos) (mMeth isS oStrip f (mCons g mNil)) :=
  de_bm PySem.F.plainAttrs_str PySem.F.slot_str_strip PySem.F.type_str_strip mt_stripChars rm_strip ho (da_cons ha da_nil hs) hbase hfew hline hs hplain
/-- list.count, list.index of data -/
def oCount (d : D) (ds : List D) : Option D := match d, ds with
  | .list xs, [y] => if min (PyData.depthAll xs) y.depth ≤ deep then some (.int (xs.countP fun z => PyData.eqv z y : Nat)) else none
  | _, _ => none
def rCountP (K : PySem.W.Frag) : V → List V → Hp → VK → Prop := fun x vs H Q => ∃ a xs ds y d, x = .ref a ∧ vs = [y] ∧ SqL K H a xs ∧ DpAll K H xs ds ∧ PyData.plainAll ds = true ∧ Dp K H y d ∧ d.plain = true ∧ min (PyData.depthAll ds) d.depth ≤ deep ∧ Q (.int (ds.countP fun z => PyData.eqv z d : Nat)) H
theorem mt_countP (hu : X.A.units + 66 < cLine) : MtR X "list.count" (rCountP X.K) := by
  intro pins s σ H x vs v us Q I rx rv ⟨a, xs, ds, y, d, ex, ev, hs, hd, pl, hy, py, hm, q⟩
  subst ex ev
  cases rx
  obtain ⟨u, rfl, ru⟩ := rv.one
  obtain ⟨its, r, p, _⟩ := I.list hs
  obtain ⟨as, r1⟩ := Dp.readsAll I ds _ its hd r
  obtain ⟨bs, r2⟩ := Dp.reads I d y u hy ru
  exact SeqAt.count_list_data (vs := its.toArray) p.isList (by simpa using r1) r2 pl py (by unfold deep at hm; omega) ⟨.int _, H, I.tok _, ⟨_, rfl⟩, q⟩
theorem rm_count {K : PySem.W.Frag} : RM K "list" (rCountP K) isL oCount where
  ty := fun F H x d l dv hk => by
    cases d <;> (try (cases hk; done))
    obtain ⟨a, xs, rfl, h1, h2⟩ := dv.lst_inv
    exact .inl ⟨rfl, xs, SqL.of (l _ _ h1)⟩
  go := fun F H x xs d ds z Q l dv dvs hk ho q => by
    unfold oCount at ho
    split at ho
    · split at ho
      · cases ho
        obtain ⟨u, rfl, du⟩ := dvs.one
        obtain ⟨a, ys, rfl, h1, h2⟩ := dv.lst_inv
        exact ⟨a, ys, _, u, _, rfl, rfl, SqL.of (l _ _ h1), DvAll.dp (DvAll.le l h2), DvAll.plain h2, du.mono l, du.plain, by assumption, q _ _ _ (Grow.refl l) (.int _)⟩
      · cases ho
    · cases ho
theorem de_count {o : Expr} {apos cpos : Pos} (hu : X.A.units + 66 < cLine) (ho : DE X c W o f) (ha : DE X c W e g) (hbase : attributeBase o "count" X.env (eval o X.env) = eval o X.env := by rfl)
    (hfew : ((backTo cpos (starEach [e] X.env)).all (fun x => !x.1) && (backToKw cpos (keywordEach [] X.env)).all (fun x => x.1.isSome)
      && decide ([e].length + ([] : List Keyword).length + (if ([] : List Keyword).isEmpty then 0 else 1) < 30)) = true := by rfl)
    (hline : (apos.endLine == cpos.line) = true := by rfl) (hs : starEach [e] X.env = (false, eval e X.env) :: starEach [] X.env := by rfl) (hplain : (backTo cpos (starEach [] X.env)).any (·.1) = false := by rfl) :
    DE X c W (.Call (.Attribute o "count" apos) [e] [] cpos) (mMeth isL oCount f (mCons g mNil)) :=
  de_bm PySem.F.plainAttrs_list PySem.F.slot_list_count PySem.F.type_list_count (mt_countP hu) rm_count ho (da_cons ha da_nil hs) hbase hfew hline hs hplain
def oIndex (d : D) (ds : List D) : Option D := match d, ds with
  | .list xs, [y] => if min (PyData.depthAll xs) y.depth ≤ deep ∧ xs.length ≤ lim then (SeqAt.dataPlace xs y).map fun j => .int (j : Nat) else none
  | _, _ => none
def rIndexP (K : PySem.W.Frag) : V → List V → Hp → VK → Prop := fun x vs H Q => ∃ a xs ds y d j, x = .ref a ∧ vs = [y] ∧ SqL K H a xs ∧ DpAll K H xs ds ∧ PyData.plainAll ds = true ∧ Dp K H y d ∧ d.plain = true ∧ min (PyData.depthAll ds) d.depth ≤ deep ∧ ds.length ≤ lim ∧
  SeqAt.dataPlace ds d = some j ∧ Q (.int (j : Nat)) H
theorem mt_indexP (hu : X.A.units + 66 < cLine) : MtR X "list.index" (rIndexP X.K) := by
  intro pins s σ H x vs v us Q I rx rv ⟨a, xs, ds, y, d, j, ex, ev, hs, hd, pl, hy, py, hm, hl, hj, q⟩
  subst ex ev
  cases rx
  obtain ⟨u, rfl, ru⟩ := rv.one
  obtain ⟨its, r, ⟨⟨cls, dd, data, sls⟩, n, ho, hc, _, hdt⟩, _⟩ := I.list hs
  simp only at hc hdt
  subst hc hdt
  obtain ⟨as, r1⟩ := Dp.readsAll I ds _ its hd r
  obtain ⟨bs, r2⟩ := Dp.reads I d y u hy ru
  have r3 : ReadsAll s.heap its.toArray.toList ds as := by simpa using r1
  obtain ⟨h1, h2, h3⟩ := SeqAt.hit_at r3 pl hj
  have hz := SeqAt.len_at r3
  refine call_meets PySem.F.slot_list_index ⟨_, ho, rfl⟩ PySem.F.entry_list_index (PySem.F.args_list_index_2 _ _) (SeqAt.list_indexAt a its.toArray n dd sls u _ j h1 ?_ h2 h3) ⟨ho, SeqAt.items_plain r3 r2 pl py (by unfold deep at hm; omega), ⟨.int _, H, I.tok _, ⟨_, rfl⟩, q⟩⟩
  unfold lim at hl
  omega
theorem rm_index {K : PySem.W.Frag} : RM K "list" (rIndexP K) isL oIndex where
  ty := rm_count.ty
  go := fun F H x xs d ds z Q l dv dvs hk ho q => by
    unfold oIndex at ho
    split at ho
    · split at ho
      · rename_i xs y hl
        cases e : SeqAt.dataPlace xs y with
        | none => rw [e] at ho; cases ho
        | some j =>
          rw [e] at ho; cases ho
          obtain ⟨u, rfl, du⟩ := dvs.one
          obtain ⟨a, ys, rfl, h1, h2⟩ := dv.lst_inv
          exact ⟨a, ys, _, u, _, j, rfl, rfl, SqL.of (l _ _ h1), DvAll.dp (DvAll.le l h2), DvAll.plain h2, du.mono l, du.plain, hl.1, hl.2, e, q _ _ _ (Grow.refl l) (.int _)⟩
      · cases ho
    · cases ho
theorem de_index {o : Expr} {apos cpos : Pos} (hu : X.A.units + 66 < cLine) (ho : DE X c W o f) (ha : DE X c W e g) (hbase : attributeBase o "index" X.env (eval o X.env) = eval o X.env := by rfl)
    (hfew : ((backTo cpos (starEach [e] X.env)).all (fun x => !x.1) && (backToKw cpos (keywordEach [] X.env)).all (fun x => x.1.isSome)
      && decide ([e].length + ([] : List Keyword).length + (if ([] : List Keyword).isEmpty then 0 else 1) < 30)) = true := by rfl)
    (hline : (apos.endLine == cpos.line) = true := by rfl) (hs : starEach [e] X.env = (false, eval e X.env) :: starEach [] X.env := by rfl) (hplain : (backTo cpos (starEach [] X.env)).any (·.1) = false := by rfl) :
    DE X c W (.Call (.Attribute o "index" apos) [e] [] cpos) (mMeth isL oIndex f (mCons g mNil)) :=
  de_bm PySem.F.plainAttrs_list PySem.F.slot_list_index PySem.F.type_list_index (mt_indexP hu) rm_index ho (da_cons ha da_nil hs) hbase hfew hline hs hplain
end
end DL

set_option maxHeartbeats 2000000
/-! DLT: sorted(set(..)), len(set(..)), sorted(list). -/
namespace DL
open PySem PySem.Spec L2
open PyProof.Rows hiding St
open PySem.W (EachIs dataLe dataLe_str alike AllAlike Sortable dataLt list_sort_data sorted_data)

section
variable {P : Program} {w : World} {κ : Type} [DecidableEq κ] [BEq κ] [LawfulBEq κ]
def SetH (knd : KeyKind P w κ) (ky : Value → κ) (a : Addr) (ks : List κ) : HO := .ext fun h => SX knd ky h a ks
theorem setH_new {knd : KeyKind P w κ} {ky : Value → κ} {H : Hp} {h : Heap} {a : Addr} {ks : List κ} (x : SX knd ky h a ks) : ObjOk P w H h a (SetH knd ky a ks) := by
  have ⟨o, _, _, _, ho, _⟩ := x
  exact ⟨x, ⟨o, ho⟩, fun h1 h2 p k => SX.at p k⟩
/-- keys as tracked values, as data -/
structure KyV (knd : KeyKind P w κ) (ky : Value → κ) (enc : κ → V) (encD : κ → D) : Prop extends KyOk knd ky where
  rel : ∀ k v, RelV (enc k) v → knd.is k v = true ∧ v.scannable = true
  back : ∀ k v, knd.is k v = true → RelV (enc k) v
  dv : ∀ K F k, Dv K F (enc k) (encD k)
  rd : ∀ h k v, knd.is k v = true → Reads h v (encD k) []
end
theorem kyS (P : Program) (w : World) : KyV (PySem.strKind P w) (fun v => match v with | .str x _ => x | _ => Str.empty) .str .str where
  of := fun k v h => by obtain ⟨t, rfl⟩ := Value.isStrOf_shape h; rfl
  rel := fun k v h => by obtain ⟨t, rfl⟩ := h; exact ⟨PySem.strKind_is P w k t, rfl⟩
  back := fun k v h => by obtain ⟨t, rfl⟩ := Value.isStrOf_shape h; exact ⟨t, rfl⟩
  dv := fun _ _ k => .str k
  rd := fun h k v q => by obtain ⟨t, rfl⟩ := Value.isStrOf_shape q; exact .str k t
theorem relV_at {vs : List V} {us : List Value} (r : Vals vs us) {i : Nat} {u : Value} (h : us[i]? = some u) : ∃ v, vs[i]? = some v ∧ RelV v u := by
  have hl : i < vs.length := by rw [r.length]; exact (List.getElem?_eq_some_iff.mp h).1
  obtain ⟨u', h1, h2⟩ := r.get (i := i) (x := vs[i]) (by simp [hl])
  rw [h] at h1; cases h1
  exact ⟨vs[i], by simp [hl], h2⟩

section
variable {X : Cx} {κ : Type} [DecidableEq κ] [BEq κ] [LawfulBEq κ] {knd : KeyKind X.prog X.w κ} {ky : Value → κ} {enc : κ → V} {encD : κ → D}
def rSetX (K : PySem.W.Frag) {P : Program} {w : World} (knd : KeyKind P w κ) (ky : Value → κ) (enc : κ → V) : List V → Hp → VK → Prop := fun xs H Q => ∃ fl a ks, xs = [.ref a] ∧ Sq fl K H a (ks.map enc) ∧ ks.length + 1 < scanBound ∧ ∀ p, H p = none → Q (.ref p) (upd H p (SetH knd ky p (uniq ks)))
theorem cr_setX (hc : X.calm = true) (Y : KyV knd ky enc encD) : CallR X (.type "set") (rSetX X.K knd ky enc) := by
  intro pins s σ H xs us Q I r ⟨fl, a, ks, ex, hq, room, q⟩
  subst ex
  rw [Vals.ref1 r]
  obtain ⟨its, rv, hh⟩ := Inv.src I hq
  have hz : its.toArray.size = ks.length := by
    have := rv.length
    rw [List.length_map] at this
    rw [List.size_toArray, ← this]
  refine call_setX Y.toKyOk ks (I.ok.hd hc) hh (fun i v hv => ?_) hz room fun h' tk hS hk => ⟨.ref _, _, I.laid (t' := tk) (a := s.heap.objs.size) (fun b u e => hk b u e) (Nat.le_refl _) (setH_new hS), rfl, q _ (I.hok.fresh (Nat.le_refl _))⟩
  obtain ⟨x, h1, h2⟩ := relV_at rv (i := i) (u := v) (by simpa using hv)
  rw [List.getElem?_map] at h1
  cases e : ks[i]? with
  | none => rw [e] at h1; cases h1
  | some k =>
    rw [e] at h1; cases h1
    obtain ⟨z1, z2⟩ := Y.rel k v h2
    exact ⟨k, rfl, z1, z2⟩
/-- len(set) -/
def rLenX {P : Program} {w : World} (knd : KeyKind P w κ) (ky : Value → κ) : List V → Hp → VK → Prop := fun xs H Q => ∃ a ks, xs = [.ref a] ∧ H a = some (SetH knd ky a ks) ∧ Q (.int (ks.length : Nat)) H
theorem cr_lenX : CallR X (.builtin "len") (rLenX knd ky) := by
  intro pins s σ H xs us Q I r ⟨a, ks, ex, ha, q⟩
  subst ex
  rw [Vals.ref1 r]
  obtain ⟨o, es, ep, t, ho, hex, hd, g, pm, nd, hb, hf, hr, hl⟩ : SX knd ky s.heap a ks := (I.hok a _ ha).1
  have e : es.size = ks.length := by rw [← pm.length_eq, List.length_map, Array.length_toList]
  have hb' : es.size < 4096 := hb
  exact call_len_set ho hex hd hf (by omega) ⟨.int (ks.length : Nat), H, I.tok _, ⟨_, by rw [e]⟩, q⟩
/-- the order of a list of keys alone matters not -/
def Still (encD : κ → D) (ks : List κ) : Prop := ∀ ls : List κ, ls.Perm ks → ls.mergeSort (dataLe false encD) = ks.mergeSort (dataLe false encD)
def rSortX {P : Program} {w : World} (knd : KeyKind P w κ) (ky : Value → κ) (enc : κ → V) (encD : κ → D) : List V → Hp → VK → Prop := fun xs H Q => ∃ a ks, xs = [.ref a] ∧ H a = some (SetH knd ky a ks) ∧ Still encD ks ∧ (∀ b b', alike (encD b) (encD b') = true) ∧ (∀ b, encD b ≠ .none ∧ ∀ xs, encD b ≠ .tuple xs) ∧
  (∀ b, (encD b).depth = 0) ∧ ∀ p, H p = none → Q (.ref p) (upd H p (.lst ((ks.mergeSort (dataLe false encD)).map enc)))
theorem each_vals {enc : κ → V} (Y : KyV knd ky enc encD) : ∀ {vs : List Value} {ks : List κ}, EachIs (fun v k => knd.is k v = true) vs ks → Vals (ks.map enc) vs
  | _, _, .nil => .nil
  | _, _, .cons h t => .cons (Y.back _ _ h) (each_vals Y t)
theorem each_of {R : Value → κ → Prop} (f : Value → κ) : ∀ {vs : List Value}, (∀ v ∈ vs, R v (f v)) → EachIs R vs (vs.map f)
  | [], _ => .nil
  | v :: vs, h => .cons (h v List.mem_cons_self) (each_of f fun u hu => h u (List.mem_cons_of_mem _ hu))
theorem cr_sortX (hc : X.calm = true) (hu : X.A.units + 66 < cLine) (Y : KyV knd ky enc encD) : CallR X (.builtin "sorted") (rSortX knd ky enc encD) := by
  intro pins s σ H xs us Q I r ⟨a, ks, ex, ha, st, al, no, dp, q⟩
  subst ex
  rw [Vals.ref1 r]
  obtain ⟨o, es, ep, t, ho, hex, hd, g, pm, nd, hb, hf, hr, hl⟩ : SX knd ky s.heap a ks := (I.hok a _ ha).1
  have hb' : es.size < 4096 := hb
  refine Calls.call_function_entry kind_sorted plain_sorted entry_sorted (args_sorted1 _) ?_
  unfold Builtin.«sorted»
  refine wpAny_bind (m := checkCount "sorted" 1 1 _) (wpAny_pure ?_)
  refine wpAny_bind (L2.collect_set (A := X.A.in1) (I.ok.hd hc) ⟨o, ho, hex.1, hd⟩ hf hb hr hl fun s1 vs k1 hz g1 o1 pv => ?_)
  have hvl : vs.length = es.size := by rw [pv.length_eq, List.length_map, Array.length_toList]
  have hv : ∀ v ∈ vs, knd.is (ky v) v = true := fun v h => by
    obtain ⟨e, he, q⟩ := List.mem_map.mp (pv.mem_iff.mp h)
    rw [← q]; exact (g e he).1
  have pk : (vs.map ky).Perm ks := by
    have := pv.map ky
    rw [List.map_map] at this
    exact this.trans pm
  have sz := sizeLine_eq
  refine wpAny_bind (wpAny_newList ?_ (by omega))
  have hoL : (s1.heap.push (seqObj "list" vs.toArray 0)).get? s1.heap.objs.size = some (seqObj "list" vs.toArray 0) := Heap.get?_push_size _ rfl
  have ea : EachIs (fun v k => knd.is k v = true) vs (vs.map ky) := each_of ky hv
  refine wpAny_bind (wpAny_holding ?_)
  refine list_sort_data (vs := vs) (enc := encD) (bs := vs.map ky) (R := fun v k => knd.is k v = true) hoL ea (ea.mono fun v k h => ⟨[], Y.rd _ k v h, by simp⟩) (.of al) (.others no) (by rw [List.length_map]; omega) (fun b _ => by rw [dp b]; show X.A.units + 1 + 1 + 0 < cLine; omega) fun out ho2 eo => ?_
  obtain ⟨c, hc2⟩ := sortedHeap_at (vs := vs) (out := out.toArray) hoL
  rw [st _ pk] at eo
  have ho3 : out.length = ((ks.mergeSort (dataLe false encD)).map enc).length := by rw [← (each_vals Y eo).length]
  have hlen : ((ks.mergeSort (dataLe false encD)).map enc).length ≤ sizeLine := by rw [← ho3, ho2, List.length_map]; omega
  have old : ∀ b u, s.heap.get? b = some u → (sortedHeap (s1.heap.push (seqObj "list" vs.toArray 0)) s1.heap.objs.size vs out.toArray).get? b = some u := fun b u e => by
    have q1 := k1 b u e
    have lt := Heap.lt_size q1
    rw [sortedHeap_old (Nat.ne_of_lt lt) (by rw [size_push']; exact Nat.lt_succ_of_lt lt)]
    exact Heap.get?_push_of_some _ q1
  have hn : H s1.heap.objs.size = none := I.hok.fresh hz
  have J : Inv X pins σ (upd H s1.heap.objs.size (.lst ((ks.mergeSort (dataLe false encD)).map enc))) { s with heap := sortedHeap (s1.heap.push (seqObj "list" vs.toArray 0)) s1.heap.objs.size vs out.toArray, gens := s1.gens, drawn := s1.drawn, toks := s1.toks } :=
    I.call (ch := []) (Un.laid old hz hn) (I.hok.laid old hz ⟨hlen, out, c, each_vals Y eo, hc2⟩) (by rw [g1]; exact I.bare) (fun _ z => nomatch z)
  refine wpAny_pure ⟨_, rfl, ?_⟩
  have e : ({ s1 with heap := sortedHeap (s1.heap.push (seqObj "list" vs.toArray 0)) s1.heap.objs.size vs out.toArray } : Shared) = { s with heap := sortedHeap (s1.heap.push (seqObj "list" vs.toArray 0)) s1.heap.objs.size vs out.toArray, gens := s1.gens, drawn := s1.drawn, toks := s1.toks } := by
    cases s1
    cases s
    cases o1
    rfl
  exact (show EP X pins σ Q (.ref s1.heap.objs.size) _ from e ▸ ⟨.ref _, _, J, rfl, q _ hn⟩)
end
/-- texts in their order -/
def strLe (a b : Str) : Bool := decide (a.cps.toList ≤ b.cps.toList)
theorem strLe_eq : dataLe false PyData.str = strLe := dataLe_str fun b => b
theorem strLe_trans (a b d : Str) (h1 : strLe a b = true) (h2 : strLe b d = true) : strLe a d = true := by
  simp only [strLe, decide_eq_true_eq] at *
  exact List.le_trans h1 h2
theorem strLe_total (a b : Str) : (strLe a b || strLe b a) = true := by
  simp only [strLe, Bool.or_eq_true, decide_eq_true_eq]
  exact List.le_total _ _
theorem strLe_anti {a b : Str} (h1 : strLe a b = true) (h2 : strLe b a = true) : a = b := by
  simp only [strLe, decide_eq_true_eq] at *
  have := List.le_antisymm h1 h2
  cases a; cases b
  simp only [Str.mk.injEq]
  exact Array.toList_inj.mp this
theorem still_str (ks : List Str) : Still PyData.str ks := fun ls pm => by
  rw [strLe_eq]
  have p1 : (ls.mergeSort strLe).Perm (ks.mergeSort strLe) := (List.mergeSort_perm ls strLe).trans (pm.trans (List.mergeSort_perm ks strLe).symm)
  exact p1.eq_of_pairwise (fun a b _ _ h1 h2 => strLe_anti h1 h2) (List.pairwise_mergeSort strLe_trans strLe_total ls) (List.pairwise_mergeSort strLe_trans strLe_total ks)
theorem kyI (P : Program) (w : World) : KyV (intKind P w) (fun v => match v with | .int x _ => x | _ => 0) .int .int where
  of := fun k v h => by
    cases v <;> (try (cases h; done))
    exact eq_of_beq (show (_ == k) = true from h)
  rel := fun k v h => by obtain ⟨t, rfl⟩ := h; exact ⟨intKind_is P w k t, rfl⟩
  back := fun k v h => by
    cases v <;> (try (cases h; done))
    rename_i i t
    exact ⟨t, by rw [eq_of_beq (show (i == k) = true from h)]⟩
  dv := fun _ _ k => .int k
  rd := fun h k v q => by
    cases v <;> (try (cases q; done))
    rename_i i t
    rw [← eq_of_beq (show (i == k) = true from q)]
    exact .int i t
def intLe (a b : Int) : Bool := decide (a ≤ b)
theorem intLe_eq : dataLe false PyData.int = intLe := PySem.W.dataLe_int fun b => b
theorem still_int (ks : List Int) : Still PyData.int ks := fun ls pm => by
  rw [intLe_eq]
  have tr : ∀ a b d : Int, intLe a b = true → intLe b d = true → intLe a d = true := fun a b d h1 h2 => by
    simp only [intLe, decide_eq_true_eq] at *
    omega
  have to : ∀ a b : Int, (intLe a b || intLe b a) = true := fun a b => by
    simp only [intLe, Bool.or_eq_true, decide_eq_true_eq]
    omega
  have p1 : (ls.mergeSort intLe).Perm (ks.mergeSort intLe) := (List.mergeSort_perm ls intLe).trans (pm.trans (List.mergeSort_perm ks intLe).symm)
  exact p1.eq_of_pairwise (fun a b _ _ h1 h2 => by simp only [intLe, decide_eq_true_eq] at *; omega) (List.pairwise_mergeSort tr to ls) (List.pairwise_mergeSort tr to ks)

/-! ### sorted(list) -/
def alikeB (xs : List D) : Bool := xs.all fun d => xs.all fun e => alike d e
def sortableB (xs : List D) : Bool := xs.all (fun d => match d with | .tuple (_ :: _) => true | _ => false) || xs.all (fun d => match d with | .none => false | .tuple _ => false | _ => true)
theorem alikeB_ok {xs : List D} (h : alikeB xs = true) : AllAlike xs := fun d hd d' hd' => List.all_eq_true.mp (List.all_eq_true.mp h d hd) d' hd'
theorem sortableB_ok {xs : List D} (h : sortableB xs = true) : Sortable xs := by
  unfold sortableB at h
  rw [Bool.or_eq_true] at h
  rcases h with h | h
  · refine .inl fun d hd => ?_
    have := List.all_eq_true.mp h d hd
    split at this
    · exact ⟨_, _, rfl⟩
    · cases this
  · refine .inr fun d hd => ?_
    have := List.all_eq_true.mp h d hd
    split at this
    · cases this
    · cases this
    · rename_i h1 h2
      exact ⟨h1, h2⟩
namespace Srt
open PySem.W
section
variable {prog : Program} {w : World} {A : Around} {s : Shared}
/-- one empty tuple can be sorted -/
theorem sortsAt_nil {vs : List Value} (e : EachIs (fun v d => ∃ as, Reads s.heap v d as) vs [.tuple []]) (hu : A.units + 2 < cLine) : SortsAt prog w A s (dataKind s.heap [.tuple []]) vs := by
  have hal : AllAlike [PyData.tuple []] := fun d hd d' hd' => by
    rw [List.mem_singleton.mp hd, List.mem_singleton.mp hd']; rfl
  refine ⟨fun v hv => ?_, ?_⟩
  · obtain ⟨d, hd, as, r⟩ := e.left v hv
    exact ⟨_, dataKind_some hal hd r⟩
  · refine ⟨tuples' true, ?_, fun h2 => ?_⟩
    · intro E x y a b Q ha hb hq
      obtain ⟨d, as, hd, ra, rfl⟩ := dataKind_inv ha
      obtain ⟨d', as', hd', rb, rfl⟩ := dataKind_inv hb
      have e1 := List.mem_singleton.mp hd
      have e2 := List.mem_singleton.mp hd'
      subst e1 e2
      have hq' : Q (dataLt (.tuple []) (.tuple [])) s := hq
      rw [dataLt_tuple] at hq'
      cases ra with
      | @tuple l o xs n _ _ h1 h2 h3 h4 =>
        cases rb with
        | @tuple l' o' xs' n' _ _ k1 k2 k3 k4 =>
          have n1 : xs.size = 0 := by simpa using SeqAt.ReadsAll.length _ _ _ h4
          have n2 : xs'.size = 0 := by simpa using SeqAt.ReadsAll.length _ _ _ k4
          refine kat_lt h1 h3 k1 k3 (katLex_alike [] [] 0 _ _ _ _ h4 k4 rfl (by simp [PyData.depthAll]; omega) (fun _ _ x r t ex => by cases ex) (by rw [n1, n2]; rfl) hq')
    · cases e with
      | cons _ t => cases t; simp at h2
end
end Srt
def nilT : List D → Bool
  | [.tuple []] => true
  | _ => false
theorem nilT_ok : ∀ {xs : List D}, nilT xs = true → xs = [.tuple []]
  | [.tuple []], _ => rfl
def sortD (xs : List D) : List D := xs.mergeSort (dataLe false fun d => d)
def oSorted : List D → Option D
  | [.list xs] => if (alikeB xs && (sortableB xs || nilT xs) && xs.all fun d => decide (d.depth ≤ deep)) = true ∧ xs.length ≤ lim then some (.list (sortD xs)) else none
  | _ => none
def rSortD (K : PySem.W.Frag) : List V → Hp → VK → Prop := fun xs H Q => ∃ F a vs ds, xs = [.ref a] ∧ DL.le F H ∧ SqL K H a vs ∧ DvAll K F vs ds ∧ AllAlike ds ∧ (Sortable ds ∨ ds = [.tuple []]) ∧ (∀ d ∈ ds, d.depth ≤ deep) ∧ ds.length ≤ lim ∧
  ∀ p us, H p = none → DvAll K F us (sortD ds) → Q (.ref p) (upd H p (.lst us))
theorem each_two {K : PySem.W.Frag} {F : Hp} : ∀ {out : List Value} {ds : List D}, EachIs (fun v d => ∃ x, RelV x v ∧ Dv K F x d) out ds → ∃ us, Vals us out ∧ DvAll K F us ds
  | _, _, .nil => ⟨[], .nil, .nil⟩
  | _, _, .cons h t => by
    obtain ⟨x, r, d⟩ := h
    obtain ⟨us, r2, d2⟩ := each_two t
    exact ⟨x :: us, .cons r r2, .cons d d2⟩
theorem two_each {K : PySem.W.Frag} {F : Hp} : ∀ {vs : List V} {us : List Value} {ds : List D}, Vals vs us → DvAll K F vs ds → EachIs (fun v d => ∃ x, RelV x v ∧ Dv K F x d) us ds
  | _, _, _, .nil, .nil => .nil
  | _, _, _, .cons r r2, .cons d d2 => .cons ⟨_, r, d⟩ (two_each r2 d2)
section
variable {X : Cx} {c : Cst} {W : XK} {k : Nat} {e a b : Expr} {es : List Expr} {f g h : M D} {fs : M (List D)} {pos p p1 p2 p3 : Pos} {x : Str}
theorem cr_sortD (hu : X.A.units + 67 < cLine) : CallR X (.builtin "sorted") (rSortD X.K) := by
  intro pins s σ H xs us Q I r ⟨F, a, vs, ds, ex, l, hs, dv, al, so, dp, hl, q⟩
  subst ex
  rw [Vals.ref1 r]
  obtain ⟨its, rv, hp, _⟩ := I.list hs
  have ea := two_each rv dv
  have sz := sizeLine_eq
  have fin : ∀ out : List Value, out.length = ds.length → EachIs (fun v d => ∃ x, RelV x v ∧ Dv X.K F x d) out (ds.mergeSort (dataLe false fun d => d)) → EP X pins σ Q (.ref (s.heap.objs.size + 1)) { s with heap := sortedAll s.heap its out.toArray } := fun out ho eo => by
    obtain ⟨us, r2, d2⟩ := each_two eo
    obtain ⟨n, hn⟩ := sortedAll_at s.heap its out.toArray
    have hz : us.length ≤ sizeLine := by rw [r2.length, ho]; unfold lim at hl; omega
    exact ⟨.ref _, upd H (s.heap.objs.size + 1) (.lst us), I.laid (t' := s.toks) (fun _ _ => sortedAll_old) (Nat.le_succ _) ⟨hz, out, n, r2, hn⟩, rfl, q _ us (I.hok.fresh (Nat.le_succ _)) d2⟩
  rcases so with so | so
  rotate_left
  · subst so
    have er : EachIs (fun v d => ∃ as, Reads s.heap v d as) its [PyData.tuple []] := ea.mono fun v d ⟨x, r, d1⟩ => (let ⟨as, q⟩ := Dp.reads I d x v (d1.mono l) r; ⟨as, q⟩)
    have er' : EachIs (fun v d => ∃ as, Reads (PySem.W.sortingHeap (PySem.W.copyHeap s.heap its) (s.heap.objs.size + 1) its) v d as) its [PyData.tuple []] := er.mono fun _ _ ⟨as, r⟩ => ⟨as, PyProof.Rows.Reads.keeps (fun _ _ => PySem.W.sorting_copy_old) r⟩
    have hil : its.length = 1 := by rw [ea.length]; rfl
    exact PySem.W.sorted_vals (κ := PySem.W.dataKind (PySem.W.sortingHeap (PySem.W.copyHeap s.heap its) (s.heap.objs.size + 1) its) [.tuple []]) hp.isList (Srt.sortsAt_nil (s := { s with heap := PySem.W.sortingHeap (PySem.W.copyHeap s.heap its) (s.heap.objs.size + 1) its }) er' (by show X.A.units + 1 + 1 + 2 < cLine; omega)) (by omega)
      (fin _ (by rw [PySem.W.sortVals_length false rfl]; exact ea.length) (PySem.W.sortVals_data (enc := fun d : D => d) (bs := [.tuple []]) false ea er' (by simpa using al)))
  exact sorted_data (vs := its) (bs := ds) (enc := fun d => d) (R := fun v d => ∃ x, RelV x v ∧ Dv X.K F x d) hp.isList ea (ea.mono fun v d ⟨x, r, d1⟩ => (let ⟨as, q⟩ := Dp.reads I d x v (d1.mono l) r; ⟨as, q⟩)) (by simpa using al) (by simpa using so) (by unfold lim at hl; omega) (fun d hd => by have := dp d hd; unfold deep at this; omega) fin
theorem ra_sorted {K : PySem.W.Frag} : RA K (rSortD K) oSorted := fun F H vs ds z Q l hv ho q => by
  unfold oSorted at ho
  split at ho
  · split at ho
    · rename_i hb
      cases ho
      obtain ⟨v, rfl, h⟩ := hv.one
      obtain ⟨a, xs, rfl, h1, h2⟩ := h.lst_inv
      obtain ⟨hb, hl⟩ := hb
      rw [Bool.and_eq_true, Bool.and_eq_true] at hb
      refine ⟨F, a, xs, _, rfl, l, SqL.of (l _ _ h1), h2, alikeB_ok hb.1.1, (by rcases Bool.or_eq_true _ _ ▸ hb.1.2 with q | q; exact .inl (sortableB_ok q); exact .inr (nilT_ok q)), fun d hd => of_decide_eq_true (List.all_eq_true.mp hb.2 d hd), hl, fun p us hp du => ?_⟩
      have g := Grow.lay (o := .lst us) l hp
      exact q _ _ _ g (.lst upd_same (DvAll.le g.ff du))
    · cases ho
  · cases ho
theorem Ok.units3 (O : Ok X c W k) : X.A.units + 67 < cLine := by have := O.room.un; omega

/-! ### sorted(set(..)), len(set(..)) of texts, of ints -/
def seqD : D → Option (List D)
  | .list xs => some xs
  | .tuple xs => some xs
  | _ => none
theorem seqD_inv {K : PySem.W.Frag} {F H : Hp} {v : V} {d : D} {xs : List D} (l : DL.le F H) (dv : Dv K F v d) (h : seqD d = some xs) : ∃ fl a vs, v = .ref a ∧ Sq fl K H a vs ∧ DvAll K F vs xs := by
  cases d <;> (try (cases h; done))
  · obtain ⟨a, vs, rfl, h1, h2⟩ := dv.lst_inv
    cases h
    exact ⟨true, a, vs, rfl, SqL.of (l _ _ h1), h2⟩
  · obtain ⟨a, vs, rfl, h1, h2⟩ := dv.tup_inv
    cases h
    exact ⟨false, a, vs, rfl, SqT.le h1 l, h2⟩
def keysD (xs : List D) : Option (List Str ⊕ List Int) := match asStrs xs with
  | some zs => if zs.length < 4000 then some (.inl zs) else none
  | none => match asInts xs with
    | some ns => if ns.length < 4000 then some (.inr ns) else none
    | none => none
def sortS (zs : List Str) : List Str := (uniq zs).mergeSort strLe
def sortI (zs : List Int) : List Int := (uniq zs).mergeSort intLe
def oSortSet (d : D) : Option D := (seqD d).bind fun xs => (keysD xs).map fun ks => match ks with
  | .inl zs => .list ((sortS zs).map .str)
  | .inr ns => .list ((sortI ns).map .int)
def oLenSet (d : D) : Option D := (seqD d).bind fun xs => (keysD xs).map fun ks => match ks with
  | .inl zs => .int ((uniq zs).length : Nat)
  | .inr ns => .int ((uniq ns).length : Nat)
def m1 (op : D → Option D) (f : M D) : M D := fun ρ => (f ρ).bind fun x => (ofO (op x.1)).map fun z => (z, x.2)
def rSets (X : Cx) : List V → Hp → VK → Prop := fun xs H Q => rSetX X.K (PySem.strKind X.prog X.w) (fun v => match v with | .str x _ => x | _ => Str.empty) V.str xs H Q ∨ rSetX X.K (intKind X.prog X.w) (fun v => match v with | .int x _ => x | _ => 0) V.int xs H Q
theorem cr_sets (O : Ok X c W k) : CallR X (.type "set") (rSets X) := CallR.or (cr_setX O.calm (kyS _ _)) (cr_setX O.calm (kyI _ _))
def rSorts (X : Cx) : List V → Hp → VK → Prop := fun xs H Q => rSortX (PySem.strKind X.prog X.w) (fun v => match v with | .str x _ => x | _ => Str.empty) V.str PyData.str xs H Q ∨ rSortX (intKind X.prog X.w) (fun v => match v with | .int x _ => x | _ => 0) V.int PyData.int xs H Q
theorem cr_sorts (O : Ok X c W k) : CallR X (.builtin "sorted") (rSorts X) := CallR.or (cr_sortX O.calm O.units2 (kyS _ _)) (cr_sortX O.calm O.units2 (kyI _ _))
def rLens (X : Cx) : List V → Hp → VK → Prop := fun xs H Q => rLenX (PySem.strKind X.prog X.w) (fun v => match v with | .str x _ => x | _ => Str.empty) xs H Q ∨ rLenX (intKind X.prog X.w) (fun v => match v with | .int x _ => x | _ => 0) xs H Q
theorem cr_lens : CallR X (.builtin "len") (rLens X) := CallR.or cr_lenX cr_lenX
theorem DvAll.strMap {K : PySem.W.Frag} {F : Hp} : ∀ zs : List Str, DvAll K F (zs.map .str) (zs.map .str)
  | [] => .nil
  | z :: r => .cons (.str z) (DvAll.strMap r)
theorem DvAll.intMap {K : PySem.W.Frag} {F : Hp} : ∀ zs : List Int, DvAll K F (zs.map .int) (zs.map .int)
  | [] => .nil
  | z :: r => .cons (.int z) (DvAll.intMap r)
theorem sortSet_ok {K : PySem.W.Frag} {F H : Hp} {v : V} {d z : D} {Q : VK} (hK : K = X.K) (l : DL.le F H) (dv : Dv K F v d) (ho : oSortSet d = some z) (q : ∀ w F' H', Grow F H F' H' → Dv K F' w z → Q w H') : rSets X [v] H fun u H1 => rSorts X [u] H1 Q := by
  subst hK
  unfold oSortSet at ho
  cases e : seqD d with
  | none => rw [e] at ho; cases ho
  | some xs =>
    rw [e] at ho
    obtain ⟨fl, a, vs, rfl, h1, h2⟩ := seqD_inv l dv e
    have ho : ((keysD xs).map fun ks => match ks with | .inl zs => PyData.list ((sortS zs).map .str) | .inr ns => .list ((sortI ns).map .int)) = some z := ho
    unfold keysD at ho
    cases e2 : asStrs xs with
    | some zs =>
      simp only [e2] at ho
      split at ho
      · rename_i hl
        cases ho
        rw [asStrs_inv e2] at h2
        rw [h2.strs] at h1
        refine .inl ⟨fl, a, zs, rfl, h1, by show zs.length + 1 < 4096; omega, fun p hp => .inl ⟨p, _, rfl, upd_same, still_str _, fun b b' => rfl, fun b => ⟨fun z => (nomatch z), fun xs z => (nomatch z)⟩, fun b => rfl, fun p2 hp2 => ?_⟩⟩
        have g1 := Grow.side (o := SetH (PySem.strKind X.prog X.w) (fun v => match v with | .str x _ => x | _ => Str.empty) p (uniq zs)) l hp
        have g2 := Grow.lay (o := .lst (((uniq zs).mergeSort (dataLe false PyData.str)).map V.str)) g1.fh hp2
        exact q _ _ _ (g1.trans g2) (.lst upd_same (by rw [strLe_eq]; exact DvAll.strMap _))
      · cases ho
    | none =>
      simp only [e2] at ho
      cases e3 : asInts xs with
      | none => simp only [e3] at ho; cases ho
      | some ns =>
        simp only [e3] at ho
        split at ho
        · rename_i hl
          cases ho
          rw [asInts_inv e3] at h2
          rw [h2.ints] at h1
          refine .inr ⟨fl, a, ns, rfl, h1, by show ns.length + 1 < 4096; omega, fun p hp => .inr ⟨p, _, rfl, upd_same, still_int _, fun b b' => rfl, fun b => ⟨fun z => (nomatch z), fun xs z => (nomatch z)⟩, fun b => rfl, fun p2 hp2 => ?_⟩⟩
          have g1 := Grow.side (o := SetH (intKind X.prog X.w) (fun v => match v with | .int x _ => x | _ => 0) p (uniq ns)) l hp
          have g2 := Grow.lay (o := .lst (((uniq ns).mergeSort (dataLe false PyData.int)).map V.int)) g1.fh hp2
          exact q _ _ _ (g1.trans g2) (.lst upd_same (by rw [intLe_eq]; exact DvAll.intMap _))
        · cases ho
theorem lenSet_ok {K : PySem.W.Frag} {F H : Hp} {v : V} {d z : D} {Q : VK} (hK : K = X.K) (l : DL.le F H) (dv : Dv K F v d) (ho : oLenSet d = some z) (q : ∀ w F' H', Grow F H F' H' → Dv K F' w z → Q w H') : rSets X [v] H fun u H1 => rLens X [u] H1 Q := by
  subst hK
  unfold oLenSet at ho
  cases e : seqD d with
  | none => rw [e] at ho; cases ho
  | some xs =>
    rw [e] at ho
    obtain ⟨fl, a, vs, rfl, h1, h2⟩ := seqD_inv l dv e
    have ho : ((keysD xs).map fun ks => match ks with | .inl zs => PyData.int ((uniq zs).length : Nat) | .inr ns => .int ((uniq ns).length : Nat)) = some z := ho
    unfold keysD at ho
    cases e2 : asStrs xs with
    | some zs =>
      simp only [e2] at ho
      split at ho
      · rename_i hl
        cases ho
        rw [asStrs_inv e2] at h2
        rw [h2.strs] at h1
        exact .inl ⟨fl, a, zs, rfl, h1, by show zs.length + 1 < 4096; omega, fun p hp => .inl ⟨p, _, rfl, upd_same, q _ _ _ (Grow.side l hp) (.int _)⟩⟩
      · cases ho
    | none =>
      simp only [e2] at ho
      cases e3 : asInts xs with
      | none => simp only [e3] at ho; cases ho
      | some ns =>
        simp only [e3] at ho
        split at ho
        · rename_i hl
          cases ho
          rw [asInts_inv e3] at h2
          rw [h2.ints] at h1
          exact .inr ⟨fl, a, ns, rfl, h1, by show ns.length + 1 < 4096; omega, fun p hp => .inr ⟨p, _, rfl, upd_same, q _ _ _ (Grow.side l hp) (.int _)⟩⟩
        · cases ho
theorem de_sortSet (O : Ok X c W k) (he : DE X c W e f) (hg : Gl X "sorted") (hm : X.mg "sorted" = none) (hg2 : Gl X "set") (hm2 : X.mg "set" = none) (h1 : starEach [e] X.env = (false, eval e X.env) :: starEach [] X.env := by rfl)
    (h2 : starEach [.Call (.Name "set" p) [e] [] pos] X.env = (false, eval (.Call (.Name "set" p) [e] [] pos) X.env) :: starEach [] X.env := by rfl) : DE X c W (.Call (.Name "sorted" p2) [.Call (.Name "set" p) [e] [] pos] [] p3) (m1 oSortSet f) :=
  PE.imp (pe_callB (cr_sorts O) hg hm (by with_unfolding_all rfl) (pa_cons (pe_callTy (cr_sets O) hg2 hm2 (by with_unfolding_all rfl) (pa_cons he pa_nil h1) (by decide) (by decide) h1) pa_nil h2) (by decide) (by decide) h2) fun σ H Q ⟨P, ρ, F, G, p⟩ => ⟨P, ρ, F, G, p.bind.mono fun d ρ1 F1 H1 G1 l1 p1 v dv => by
    obtain ⟨z, hz, p2⟩ := p1.lift
    exact sortSet_ok rfl G1.le dv hz fun w F' H' g dw => p2 F' H' (G1.grow g) g.ff w dw⟩
theorem de_lenSet (O : Ok X c W k) (he : DE X c W e f) (hg : Gl X "len") (hm : X.mg "len" = none) (hg2 : Gl X "set") (hm2 : X.mg "set" = none) (h1 : starEach [e] X.env = (false, eval e X.env) :: starEach [] X.env := by rfl)
    (h2 : starEach [.Call (.Name "set" p) [e] [] pos] X.env = (false, eval (.Call (.Name "set" p) [e] [] pos) X.env) :: starEach [] X.env := by rfl) : DE X c W (.Call (.Name "len" p2) [.Call (.Name "set" p) [e] [] pos] [] p3) (m1 oLenSet f) :=
  PE.imp (pe_callB cr_lens hg hm (by with_unfolding_all rfl) (pa_cons (pe_callTy (cr_sets O) hg2 hm2 (by with_unfolding_all rfl) (pa_cons he pa_nil h1) (by decide) (by decide) h1) pa_nil h2) (by decide) (by decide) h2) fun σ H Q ⟨P, ρ, F, G, p⟩ => ⟨P, ρ, F, G, p.bind.mono fun d ρ1 F1 H1 G1 l1 p1 v dv => by
    obtain ⟨z, hz, p2⟩ := p1.lift
    exact lenSet_ok rfl G1.le dv hz fun w F' H' g dw => p2 F' H' (G1.grow g) g.ff w dw⟩
end
end DL

set_option maxHeartbeats 2000000
/-! DL8: the module's table of ints by texts. -/
namespace DL
open PySem PySem.Spec L2
open PyProof.Rows hiding St

def tabE : List DictEntry → List (Str × Int) → Bool
  | [], [] => true
  | e :: es, (k, i) :: r => (match e.key, e.val with
    | .str z _, .int j _ => decide (z = k) && decide (j = i)
    | _, _ => false) && tabE es r
  | _, _ => false
def tabB (K : PySem.W.Frag) (d : Addr) (kvs : List (Str × Int)) : Bool := match K.lookup d with
  | some ⟨_, _, .dict es _, _⟩ => tabE es.toList kvs
  | _ => false
theorem tabE_find : ∀ {es : List DictEntry} {kvs : List (Str × Int)}, tabE es kvs = true → ∀ z : Str, (match es.find? (·.key.isStr z) with | some e => ∃ i t, kvs.lookup z = some i ∧ e.val = .int i t | none => kvs.lookup z = none) ∧ es.any (·.refKey) = false
  | [], [], _, z => ⟨rfl, rfl⟩
  | [], _ :: _, h, _ => by cases h
  | _ :: _, [], h, _ => by cases h
  | e :: es, (k, i) :: r, h, z => by
    obtain ⟨hk, tk, tv⟩ := e
    unfold tabE at h
    rw [Bool.and_eq_true] at h
    obtain ⟨h1, h2⟩ := h
    obtain ⟨q1, q2⟩ := tabE_find h2 z
    cases tk <;> (try (cases h1; done))
    rename_i a ta
    cases tv <;> (try (cases h1; done))
    rename_i j tj
    rw [Bool.and_eq_true] at h1
    have e1 : a = k := of_decide_eq_true h1.1
    have e2 : j = i := of_decide_eq_true h1.2
    subst e1 e2
    refine ⟨?_, by simp only [List.any_cons, DictEntry.refKey, Bool.false_or]; exact q2⟩
    by_cases hz : z = a
    · subst hz
      simp [List.find?, Value.isStr, List.lookup]
    · have h3 : (a == z) = false := by simpa using fun q : a = z => hz q.symm
      have h4 : (z == a) = false := by simpa using hz
      simp only [List.find?, Value.isStr, h3, List.lookup, h4]
      exact q1
structure TabI (K : PySem.W.Frag) (w : World) (d : Addr) (kvs : List (Str × Int)) : Prop where
  kd : ∃ es n, KDict K w d es n
  at_ : tabB K d kvs = true
theorem TabI.val {K : PySem.W.Frag} {w : World} {d : Addr} {kvs : List (Str × Int)} (T : TabI K w d kvs) (z : Str) : match kvs.lookup z with | some i => ∃ t, PySem.W.nsIn K d z = some (some (.int i t)) | none => PySem.W.nsIn K d z = some none := by
  obtain ⟨es, n, D⟩ := T.kd
  have h := T.at_
  unfold tabB at h
  rw [D.at_] at h
  obtain ⟨q1, q2⟩ := tabE_find (show tabE es.toList kvs = true from h) z
  unfold PySem.W.nsIn
  rw [D.at_]
  dsimp only
  cases e : es.toList.find? (·.key.isStr z) with
  | some y =>
    rw [e] at q1
    obtain ⟨i, t, h1, h2⟩ := q1
    rw [h1]
    exact ⟨t, by show some (some y.val) = _; rw [h2]⟩
  | none =>
    rw [e] at q1
    rw [show kvs.lookup z = none from q1]
    simp only [q2]
    rfl
section
variable {X : Cx} {c : Cst} {W : XK} {k : Nat} {e e2 : Expr} {f g : M D} {p apos cpos : Pos} {x : Str}
def mTabGet (kvs : List (Str × Int)) (f g : M D) : M D := fun ρ => (f ρ).bind fun a => (g a.2).bind fun b => match a.1 with
  | .str z => .ok ((match kvs.lookup z with | some i => .int i | none => b.1), b.2)
  | _ => .bad
theorem de_tabGet {d : Addr} {kvs : List (Str × Int)} (T : TabI X.K X.w d kvs) (hg : Gl X x) (hm : X.mg x = some (.ref d)) (he : DE X c W e f) (hf : DE X c W e2 g) (m : M2 X (.Name x p) "get" apos e e2 cpos) (hdb : (x == ("__debug__" : Str)) = false := by decide) :
    DE X c W (.Call (.Attribute (.Name x p) "get" apos) [e, e2] [] cpos) (mTabGet kvs f g) := by
  refine ⟨fun pins s σ H Q I ⟨P, ρ, F, G, pp⟩ => ?_⟩
  obtain ⟨es, n, D⟩ := T.kd
  refine wpAny_Call_method m.base m.few m.line PySem.F.plainAttrs_dict PySem.F.slot_dict_get PySem.F.type_dict_get (ld_glob I hg hm ⟨kd_type D I, fun a ea => ?_, ?_⟩ hdb)
  · cases ea
    exact ⟨_, I.kIn _ _ D.at_, rfl⟩
  rw [m.trees]
  refine Calls.callWith_builtin rfl (Calls.evalArgs_plain (Calls.spliced_cons (thn (he.run pins s σ H (fun v H1 => ∃ da ρ1 F1, Good X.K c P σ ρ1 F1 H1 ∧ Dv X.K F1 v da ∧ Post X.K c W P σ F1 ((g ρ1).bind fun b => match da with
    | .str z => Res.ok ((match kvs.lookup z with | some i => .int i | none => b.1), b.2)
    | _ => .bad) fun d _ F' H' => ∀ v, Dv X.K F' v d → Q v H') I ⟨P, ρ, F, G, pp.bind.mono fun d ρ1 F1 H1 G1 l1 p1 v dv => ⟨d, ρ1, F1, G1, dv, p1⟩⟩) fun u s1 ⟨v, H1, I1, ru, da, ρ1, F1, G1, dv, p1⟩ => ?_)))
  refine Calls.spliced_cons (thn (hf.run pins s1 σ H1 (fun v' H2 => ∃ z ρ2 F2 db, da = .str z ∧ Good X.K c P σ ρ2 F2 H2 ∧ Dv X.K F2 v' db ∧ ∀ v, Dv X.K F2 v (match kvs.lookup z with | some i => .int i | none => db) → Q v H2) I1 ⟨P, ρ1, F1, G1, p1.bind.mono fun db ρ2 F2 H2 G2 l2 p2 v' dv' => ?_⟩) fun u2 s2 ⟨v', H2, I2, ru2, z, ρ2, F2, db, ez, G2, dv', q⟩ => Calls.spliced_nil ?_)
  · cases da <;> (try exact p2.elim)
    exact ⟨_, ρ2, F2, db, rfl, G2, dv', p2.ok G2⟩
  · subst ez
    rw [dv.str_inv] at ru
    obtain ⟨t, rfl⟩ := ru
    have hv := T.val z
    refine call_meetsIn PySem.F.slot_dict_get (kd_type D I2) PySem.F.entry_dict_get (PySem.F.args_dict_get_3 _ _ _) (meets_dict_get_default (PySem.strKind X.prog X.w) d (PySem.strKind_is X.prog X.w z t) D.low u2) ⟨_, PySem.W.mapOf_K (prog := X.prog) I2.kIn D.at_ D.lit, ?_⟩
    cases hk : kvs.lookup z with
    | some i =>
      rw [hk] at hv q
      obtain ⟨t', hv⟩ := hv
      rw [PySem.W.find_K D.at_ hv]
      exact ⟨.int i, H2, I2.tok _, ⟨t', rfl⟩, q _ (.int i)⟩
    | none =>
      rw [hk] at hv q
      rw [PySem.W.find_K D.at_ hv]
      exact ⟨v', H2, I2.tok _, ru2, q _ dv'⟩
end
end DL

set_option maxHeartbeats 2000000
/-! DL9: words for the printed walks. -/
namespace DL
open PySem PySem.Spec L2
open PyProof.Rows hiding St
def oLt : D → D → Option D := oCmpI fun i j => decide (i < j)
def oLe : D → D → Option D := oCmpI fun i j => decide (i ≤ j)
def oGt : D → D → Option D := oCmpI fun i j => decide (j < i)
def oGe : D → D → Option D := oCmpI fun i j => decide (j ≤ i)
section
variable {K : PySem.W.Frag}
theorem rd_lt : RD K (rI0 fun i j => .bl (decide (i < j))) oLt := rd_cmpI _
theorem rd_le : RD K (rI0 fun i j => .bl (decide (i ≤ j))) oLe := rd_cmpI _
theorem rd_gt : RD K (rI0 fun i j => .bl (decide (j < i))) oGt := rd_cmpI _
theorem rd_ge : RD K (rI0 fun i j => .bl (decide (j ≤ i))) oGe := rd_cmpI _
end
section
variable {X : Cx} {c : Cst} {W : XK} {k : Nat} {e a b tg : Expr} {es : List Expr} {f g : M D} {pos : Pos}
theorem df_lcO {it : M (List D)} {t : TG} {bd : D → Env → Option Env} {ix vs : List Nat} {tst : M Bool} {f : M D} {elt iter : Expr} {ifs : List Expr} {scope : Scope} {own : List (Str × Nat)} (O : Ok X c W k) (ev : own.map (·.2) = vs) (hi : DI X c W tg iter it) (ok : BlkOk X.N X.env.scope scope own)
    (pg : ∀ s H C cl fp, Ok (Blk X scope s H C cl fp) c E0 k → PG (Blk X scope s H C cl fp) tg t) (q : DG X.K c t bd ix) (ht : ∀ s H C cl fp, Ok (Blk X scope s H C cl fp) c E0 k → PTs (Blk X scope s H C cl fp) ifs (tB' X.K c E0 tst)) (he : ∀ s H C cl fp, Ok (Blk X scope s H C cl fp) c E0 k → DE (Blk X scope s H C cl fp) c E0 elt f)
    (hix : ∀ j ∈ ix, j ∈ vs := by decide) (hs : ∀ x, foldedSetIterable iter X.env x = pure x := by intro _; rfl) : DF X c W (.ListComp elt [⟨tg, iter, ifs, 0⟩] scope pos) (mLc vs it bd tst f) := by
  subst ev
  exact df_lc O hi ok (fun s H C cl fp => pg s H C cl fp (O.blk scope s H C cl fp)) q (fun s H C cl fp => ht s H C cl fp (O.blk scope s H C cl fp)) (fun s H C cl fp => he s H C cl fp (O.blk scope s H C cl fp)) hix hs
theorem asg_lcO {it : M (List D)} {t : TG} {bd : D → Env → Option Env} {ix vs : List Nat} {tst : M Bool} {f : M D} {elt iter : Expr} {ifs : List Expr} {scope : Scope} {own : List (Str × Nat)} {i : Nat} {y : Str} {py spos : Pos} (O : Ok X c W k) (ev : own.map (·.2) = vs) (hi : DI X c W tg iter it) (ok : BlkOk X.N X.env.scope scope own)
    (pg : ∀ s H C cl fp, Ok (Blk X scope s H C cl fp) c E0 k → PG (Blk X scope s H C cl fp) tg t) (q : DG X.K c t bd ix) (ht : ∀ s H C cl fp, Ok (Blk X scope s H C cl fp) c E0 k → PTs (Blk X scope s H C cl fp) ifs (tB' X.K c E0 tst)) (he : ∀ s H C cl fp, Ok (Blk X scope s H C cl fp) c E0 k → DE (Blk X scope s H C cl fp) c E0 elt f)
    (hy : X.N[i]? = some y) (hyl : X.env.scope.names.lookup y = some .local) (hsw : swapsWith (.ListComp elt [⟨tg, iter, ifs, 0⟩] scope pos) (some (.Name y py)) spos.line X.env = pure true)
    (hix : ∀ j ∈ ix, j ∈ vs := by decide) (hs : ∀ x, foldedSetIterable iter X.env x = pure x := by intro _; rfl) :
    PS X (.Assign [.Name y py] (.ListComp elt [⟨tg, iter, ifs, 0⟩] scope pos) spos) (tAsg (tFr X.K c W (mLc vs it bd tst f)) (gName i)) := by
  subst ev
  exact asg_lc O hi ok (fun s H C cl fp => pg s H C cl fp (O.blk scope s H C cl fp)) q (fun s H C cl fp => ht s H C cl fp (O.blk scope s H C cl fp)) (fun s H C cl fp => he s H C cl fp (O.blk scope s H C cl fp)) hy hyl hsw hix hs
theorem ds_setF {f : M (List D)} {i : Nat} {st : Stmt} (h : PS X st (tAsg (tFr X.K c W f) (gName i))) : DS X c W st (sSet i (mFr f)) := PS.imp h fun _ _ _ q => tAsg_fr (tAsg_set q)
theorem pe_tyn {T : String} {x : Str} {p : Pos} (hg : Gl X x) (hm : X.mg x = none) (hv : bootBuiltins x = some (.type T)) (hn : x ≠ "__name__" := by decide) (hd : (x == ("__debug__" : Str)) = false := by decide) : PE X (.Name x p) (tC (.ty T)) :=
  ⟨fun pins s σ H Q I h => ld_blt I hg hm hv ⟨.ty T, H, I, rfl, h⟩ hn hd⟩
end
section
variable {P : Program} {w : World} {K : PySem.W.Frag} {mg : Str → Option Value} {base : Heap} {k : Nat} {x qual : Str} {params : Arguments} {body : List Stmt} {scope : Scope} {f : Addr} {fd : FuncData} {N ps : List Str} {g : S}
/-- the law's promise -/
def spL (K : PySem.W.Frag) (n : Nat) : Sp := fun vs H Q _ => ∃ (a : Addr) (ns : List Int), vs = [.ref a] ∧ ns.length ≤ n ∧ SqL K H a (ns.map .int) ∧ ∀ H', Q (.bl true) H'
/-- the law, whose mirror tells True at every script -/
theorem keptL (n : Nat) (FD : FunD K x qual params body scope [] [] f fd) (Sc : FnScope N ps scope) (hn : ps.length = 1) (ht : ∀ ns : List Int, ns.length ≤ n → fnS N.length g ns [] = .ok (.bool true))
    (hb : ∀ (cdv : Value) (A : Around) (outer : List PySem.Env) (s : Shared) (H : Hp) (E : XK), Ok (CxB P w K mg base N qual scope f cdv A outer s H E) (c0 w) E k → DSs (CxB P w K mg base N qual scope f cdv A outer s H E) (c0 w) E body g) :
    FnOk P w K mg base (L2N.CX P w) (k + 1) f fd ps (spL K n) :=
  FD.ok Sc (fun vs H Q E ⟨a, ns, h0, _⟩ => by rw [h0, hn]; rfl) fun cdv A outer s H vs Q E hr ⟨a, ns, h0, hl, hS, q⟩ => by
    subst h0
    refine ⟨_, hb cdv A outer s H E (ok_body rfl Sc.nd hr), pinAll none H H, _, H, good_start (ss := [.s ns]) le.refl (fun a o h => ⟨(pinAll_some h).1, (pinAll_some h).2.1⟩) rfl (fun i s h => ?_) (fun i j s s' hn hi hj m m' => ?_), ?_⟩
    · cases i with
      | zero => cases h; exact ⟨a, rfl, hS⟩
      | succ i => simp at h
    · cases i with
      | zero => cases hi; cases m
      | succ i => simp at hi
    · have e := ht ns hl
      refine run_post (k := fun z => z.1 = .bool true) (kx := fun _ => False) ?_ (fun d ρ' h σ' F' H' G l v dv => ?_) (fun _ h => h.elim)
      · revert e
        unfold fnS runF
        show ((Res.bind (g ([Slot.s ns] ++ List.replicate (N.length - [Slot.s ns].length) Slot.un)) _).bind _ = _) → _
        cases g ([Slot.s ns] ++ List.replicate (N.length - [Slot.s ns].length) Slot.un) with
        | bad => exact fun q => nomatch q
        | exc x => exact fun q => nomatch q
        | ok r =>
          obtain ⟨fl, ρ'⟩ := r
          cases fl with
          | rt d => exact fun q => by injection q
          | nx => exact fun q => by injection q
          | bk => exact fun q => nomatch q
          | ct => exact fun q => nomatch q
      · have h : d = .bool true := h
        subst h
        rw [dv.bl_inv]
        exact q H'
theorem to0 {n : Nat} (F : FnOk P w K mg base (L2N.CX P w) k f fd ps (spL K n)) : FnOk P w K mg base CX0 k f fd ps (spL K n) :=
  ⟨F.len, fun A outer s H args us vs Q E hr e0 hb r hs => codeAny_mono (F.run A outer s H args us vs Q E0 hr e0 hb r hs) fun r s' h => by
    cases r with
    | ok fl => cases fl <;> exact h
    | error e =>
      obtain ⟨_, _, _, _, _, _, _, _, _, _, _, _, z⟩ := h
      exact z.elim⟩
end
theorem bo_len : bootBuiltins "len" = some (.builtin "len") := by decide +kernel
theorem bo_all : bootBuiltins "all" = some (.builtin "all") := by decide +kernel
theorem bo_any : bootBuiltins "any" = some (.builtin "any") := by decide +kernel
theorem bo_sorted : bootBuiltins "sorted" = some (.builtin "sorted") := by decide +kernel
theorem bo_sum : bootBuiltins "sum" = some (.builtin "sum") := by decide +kernel
theorem bo_min : bootBuiltins "min" = some (.builtin "min") := by decide +kernel
theorem bo_max : bootBuiltins "max" = some (.builtin "max") := by decide +kernel
theorem bo_isinstance : bootBuiltins "isinstance" = some (.builtin "isinstance") := by decide +kernel
theorem bo_tuple : bootBuiltins "tuple" = some (.type "tuple") := by decide +kernel
theorem bo_list : bootBuiltins "list" = some (.type "list") := by decide +kernel
theorem bo_int : bootBuiltins "int" = some (.type "int") := by decide +kernel
theorem bo_str : bootBuiltins "str" = some (.type "str") := by decide +kernel
theorem bo_bool : bootBuiltins "bool" = some (.type "bool") := by decide +kernel
theorem bo_dict : bootBuiltins "dict" = some (.type "dict") := by decide +kernel
theorem bo_set : bootBuiltins "set" = some (.type "set") := by decide +kernel
end DL

set_option maxHeartbeats 2000000
/-! DLE: what is caught: isinstance of it, the def that tells which, try .. except. -/
namespace DL
open PySem PySem.Spec L2
open PyProof.Rows hiding St

/-! ### facts about the classes, by one Bool -/
def excB (K : PySem.W.Frag) (D : Addr) : Bool :=
  (decide (PySem.W.findIn K (.ref D) "__getattribute__" = some (some (.builtin "BaseException.__getattribute__"))) && decide (PySem.W.findIn K (.ref D) "__getattr__" = some none)) &&
  ((decide (PySem.W.subIn K (.ref D) (.type "BaseException") = some true) && PySem.W.hasDictIn K D) &&
  ((decide (PySem.W.findIn K (.ref D) "__class__" = some (some (.builtin "object.__class__"))) && decide (PySem.W.specialIn K (.builtin "object.__class__") "__get__" = some (some (.builtin "getset_descriptor.__get__")))) &&
  (decide (PySem.W.takesIn K (.builtin "object.__class__") = some true) && decide (PySem.W.mroIn K D (.type "object") = some true))))
theorem excB_ok {K : PySem.W.Frag} {D : Addr} (h : excB K D = true) : ExcC K D := by
  unfold excB at h
  simp only [Bool.and_eq_true, decide_eq_true_eq] at h
  exact ⟨h.1.1, h.1.2, h.2.1.1, h.2.1.2, h.2.2.1.1, h.2.2.1.2, h.2.2.2.1, h.2.2.2.2⟩
/-- the own classes xs under B, none under another -/
def exB (K : PySem.W.Frag) (B : Str) (xs : List Str) : Bool := xs.all fun x => (excB K (He.ga K x) && decide (PySem.W.exmOne K (.ref (He.ga K x)) (.ref (He.ga K B)) = some true)) &&
  (decide (PySem.W.kitOne K (.ref (He.ga K x)) (.type "ValueError") = some true) && xs.all fun y => decide (PySem.W.kitOne K (.ref (He.ga K x)) (.ref (He.ga K y)) = some (decide (x = y))))
structure ExB (K : PySem.W.Frag) (B : Str) (xs : List Str) : Prop where
  c : ∀ x ∈ xs, ExcC K (He.ga K x)
  m : ∀ x ∈ xs, PySem.W.exmOne K (.ref (He.ga K x)) (.ref (He.ga K B)) = some true
  v : ∀ x ∈ xs, PySem.W.kitOne K (.ref (He.ga K x)) (.type "ValueError") = some true
  k : ∀ x ∈ xs, ∀ y ∈ xs, PySem.W.kitOne K (.ref (He.ga K x)) (.ref (He.ga K y)) = some (decide (x = y))
theorem exB_ok {K : PySem.W.Frag} {B : Str} {xs : List Str} (h : exB K B xs = true) : ExB K B xs := by
  have q : ∀ x ∈ xs, _ := fun x hx => List.all_eq_true.mp h x hx
  simp only [Bool.and_eq_true, decide_eq_true_eq, List.all_eq_true] at q
  exact ⟨fun x hx => excB_ok (q x hx).1.1, fun x hx => (q x hx).1.2, fun x hx => (q x hx).2.1, fun x hx y hy => (q x hx).2.2 y hy⟩

/-! ### isinstance of what is caught -/
/-- the context bears the exception that the constant names -/
def HasX (X : Cx) (c : Cst) : Prop := ∀ a nm, c.E = some (a, nm) → ∃ oe, (a, oe) ∈ X.pn ∧ Zc (.ref (He.ga X.K nm)) none oe ∧ ∃ vs, oe.data = .fields vs
section
variable {X : Cx} {c : Cst} {W : XK} {k : Nat} {e t : Expr} {p pos : Pos} {x : Str}
theorem call_isX {a D : Addr} {oe : Obj} (hp : (a, oe) ∈ X.pn) (C : ExcC X.K D) (hz : Zc (.ref D) none oe) (hf : ∃ vs, oe.data = .fields vs) : CallR X (.builtin "isinstance") (rIsE X.K D a) := by
  rintro pins s σ H xs us Q I r ⟨c, cv, b, rfl, hcv, ek, q⟩
  cases r with
  | cons r1 r2 =>
    cases r2 with
    | cons r3 r4 =>
      cases r4
      cases r1
      have e1 := hcv _ r3
      subst e1
      have g := (I.pin (a, oe) (List.mem_append_left _ hp)).1
      have J : PySem.W.InstAt s.heap a oe D none := by
        obtain ⟨oc, od, dt, osl⟩ := oe
        obtain ⟨z1, z2⟩ := hz
        obtain ⟨vs, z3⟩ := hf
        dsimp only at z1 z2 z3
        subst z1 z2 z3
        exact ⟨g, rfl, rfl, trivial⟩
      exact PySem.W.kia_one (PySem.W.handS_kitx_exc C.hg C.hk C.hs C.hd C.ha C.hn C.ht C.hm) I.kIn J ek (fun z => nomatch z) fun tk => ⟨.bl b, H, I.kept (t' := tk) fun _ _ z => z, rfl, q⟩
/-- isinstance(e, C) of the own classes xs -/
def mIsE (xs : List Str) (i : Nat) (C : Str) : M D := fun ρ => match ρ[i]? with
  | some (.x nm) => if nm ∈ xs ∧ C ∈ xs then .ok (.bool (decide (nm = C)), ρ) else .bad
  | _ => .bad
def mIsV (xs : List Str) (i : Nat) : M D := fun ρ => match ρ[i]? with
  | some (.x nm) => if nm ∈ xs then .ok (.bool true, ρ) else .bad
  | _ => .bad
theorem de_isE {B C : Str} {xs : List Str} {i : Nat} (hx : HasX X c) (EX : ExB X.K B xs) (hg : Gl X x) (hm : X.mg x = none) (hv : bootBuiltins x = some (.builtin "isinstance")) (ha : PE X e (tVar i)) (ht : PE X t (tC (.ref (He.ga X.K C))))
    (hn : x ≠ "__name__" := by decide) (hdb : (x == ("__debug__" : Str)) = false := by decide) (hs : starEach [e, t] X.env = (false, eval e X.env) :: starEach [t] X.env := by rfl) (hs2 : starEach [t] X.env = (false, eval t X.env) :: starEach [] X.env := by rfl)
    (hpl : (backTo pos (starEach [t] X.env)).any (·.1) = false := by rfl) : DE X c W (.Call (.Name x p) [e, t] [] pos) (mIsE xs i C) := by
  refine ⟨fun pins s σ H Q I ⟨P, ρ, F, G, q⟩ => ?_⟩
  unfold mIsE at q
  cases e1 : ρ[i]? with
  | none => simp only [e1] at q; exact q.elim
  | some sl =>
    cases sl <;> (try (simp only [e1] at q; exact q.elim))
    rename_i nm
    simp only [e1] at q
    obtain ⟨hin, q⟩ := Post.ite q
    obtain ⟨a, ea, es⟩ := G.sl i _ e1
    obtain ⟨oe, hp, hz, hf⟩ := hx a nm ea
    exact (pe_callB (call_isX hp (EX.c nm hin.1) hz hf) hg hm hv (pa_cons ha (pa_cons ht pa_nil hs2) hs) hn hdb hs hpl).run pins s σ H Q I ⟨_, join_some es, .ref (He.ga X.K C), .ref (He.ga X.K C), _, rfl, fun u z => z, EX.k nm hin.1 C hin.2, q.ok G _ (.bl _)⟩
theorem de_isV {B : Str} {xs : List Str} {i : Nat} (hx : HasX X c) (EX : ExB X.K B xs) (hg : Gl X x) (hm : X.mg x = none) (hv : bootBuiltins x = some (.builtin "isinstance")) (ha : PE X e (tVar i)) (ht : PE X t (tC (.ty "ValueError")))
    (hn : x ≠ "__name__" := by decide) (hdb : (x == ("__debug__" : Str)) = false := by decide) (hs : starEach [e, t] X.env = (false, eval e X.env) :: starEach [t] X.env := by rfl) (hs2 : starEach [t] X.env = (false, eval t X.env) :: starEach [] X.env := by rfl)
    (hpl : (backTo pos (starEach [t] X.env)).any (·.1) = false := by rfl) : DE X c W (.Call (.Name x p) [e, t] [] pos) (mIsV xs i) := by
  refine ⟨fun pins s σ H Q I ⟨P, ρ, F, G, q⟩ => ?_⟩
  unfold mIsV at q
  cases e1 : ρ[i]? with
  | none => simp only [e1] at q; exact q.elim
  | some sl =>
    cases sl <;> (try (simp only [e1] at q; exact q.elim))
    rename_i nm
    simp only [e1] at q
    obtain ⟨hin, q⟩ := Post.ite q
    obtain ⟨a, ea, es⟩ := G.sl i _ e1
    obtain ⟨oe, hp, hz, hf⟩ := hx a nm ea
    exact (pe_callB (call_isX hp (EX.c nm hin) hz hf) hg hm hv (pa_cons ha (pa_cons ht pa_nil hs2) hs) hn hdb hs hpl).run pins s σ H Q I ⟨_, join_some es, .ty "ValueError", .type "ValueError", _, rfl, fun u z => z, EX.v nm hin, q.ok G _ (.bl _)⟩
theorem pe_gcls {C : Str} {a : Addr} (hg : Gl X C) (hm : X.mg C = some (.ref a)) (hd : (C == ("__debug__" : Str)) = false := by decide) : PE X (.Name C p) (tC (.ref a)) := pe_glob (v := .ref a) hg hm rfl hd
end

/-! ### the def that tells which: called where an exception is handled -/
structure OkH (X : Cx) (c : Cst) (k : Nat) : Prop where
  cw : c.w = X.w
  nd : X.N.Nodup
  room : L2H.RoomH k X.A
  hx : HasX X c
theorem OkH.units {X : Cx} {c : Cst} {k : Nat} (O : OkH X c k) : X.A.units + 64 < cLine := by have := O.room.un; omega
theorem OkH.units2 {X : Cx} {c : Cst} {k : Nat} (O : OkH X c k) : X.A.units + 66 < cLine := by have := O.room.un; omega
def fnX (N : Nat) (g : S) (nm : Str) : Res D := (runF N g [.x nm]).bind fun r => .ok r.1
abbrev CxW (P : Program) (w : World) (K : PySem.W.Frag) (mg : Str → Option Value) (base : Heap) (N : List Str) (qual : Str) (scope : Scope) (f : Addr) (cdv : Value) (A : Around) (outer : List PySem.Env) (s : Shared) (H : Hp) (E : XK) (p : Addr × Obj) : Cx := L2H.cxH (L2N.CX P w) P w K mg base N qual scope f cdv A outer s H E p
/-- a def whose one parameter is what is caught -/
structure KeptX (P : Program) (w : World) (K : PySem.W.Frag) (mg : Str → Option Value) (base : Heap) (k : Nat) (x : Str) (g : Str → Res D) : Prop where
  gl : ∃ f, mg x = some (.ref f) ∧ PySem.W.keepIn K (.ref f) = true ∧ ∀ (X : Cx) (pins : List (Addr × Obj)) (σ : L2.St) (F H : Hp) (s : Shared) (Q : VK) (a : Addr) (oe : Obj) (nm : Str) (z : D),
    X.prog = P → X.w = w → X.K = K → X.mg = mg → X.base = base → (a, oe) ∈ X.pn → L2H.Hot1 X.A (a, oe) → Zc (.ref (He.ga K nm)) none oe → L2H.RoomH (k + 1) X.A → Inv X pins σ H s → DL.le F H → g nm = .ok z →
    (∀ v F' H', Grow F H F' H' → Dv K F' v z → Q v H') → wpAny (model P w) X.A (call (.ref f) [.ref a]) (EP X pins σ Q) X.xe s
theorem keptX {P : Program} {w : World} {K : PySem.W.Frag} {mg : Str → Option Value} {base : Heap} {k : Nat} {x qual y : Str} {params : Arguments} {body : List Stmt} {scope : Scope} {f : Addr} {fd : FuncData} {N : List Str} {g : S}
    (FD : FunD K x qual params body scope [] [] f fd) (hm : mg x = some (.ref f)) (Sc : FnScope N [y] scope)
    (bnd : ∀ (kV doc pm : Value) (an : Option Addr) (cdv ct : Value) (us : List Value), us.length = [y].length → bindArgs (PySem.W.fnOf x qual params body scope .none kV doc pm an cdv ct) ⟨us, []⟩ = pure ([y].zip us))
    (hb : ∀ (cdv : Value) (A : Around) (outer : List PySem.Env) (s : Shared) (H : Hp) (E : XK) (p : Addr × Obj) (c : Cst), OkH (CxW P w K mg base N qual scope f cdv A outer s H E p) c k → DSs (CxW P w K mg base N qual scope f cdv A outer s H E p) c E body g) :
    KeptX P w K mg base k x (fnX N.length g) := by
  refine ⟨f, hm, FD.kp, fun X pins σ F H s Q a oe nm z eP ew eK em eb hp hot hz hr I l hgz q => ?_⟩
  subst eP ew eK em eb
  have bd := FD.bindsN bnd
  obtain ⟨oc, od, dV, kV, doc, pm, an, cdv, ct, osl, rfl, lk, hcd, _, _⟩ := FD.ex
  have b := bd s [.ref a] I.kIn rfl
  have pin := I.pin (a, oe) (List.mem_append_left _ hp)
  have po : L2H.PinOk X.stack H s (a, oe) := ⟨pin.1, pin.2.1, fun hq => by
    rcases List.mem_cons.mp (I.stkSub a hq) with z | z
    · exact pin.2.2.1 z
    · exact pin.2.2.2.1 z, pin.2.2.2.2⟩
  have e0 := I.env0
  have KX : X.K.In s.heap := I.kIn
  have rv : Vals [V.ref a] [Value.ref a] := .cons rfl .nil
  have fin : ∀ (r : Result) (s' : Shared), CR (L2N.CX X.prog X.w) X.stack X.prog X.w H s Q E0 r s' → wants (EP X pins σ Q) X.xe r s' := fun r s' hq => by
    cases r with
    | error e => obtain ⟨_, _, _, _, _, _, _, _, _, _, _, _, z⟩ := hq; exact z.elim
    | ok fl => cases fl <;> first | exact I.after hq | exact False.elim hq
  refine wpAny_call (codeAny_mono ?_ fin)
  have hkind : ∀ yy ∈ [y].zip [Value.ref a], scope.names.lookup yy.1 = some .local ∨ (scope.names.lookup yy.1 = some .cell ∧ ((cellsFrom (s.heap.objs.size + 1) scope.names []).lookup yy.1).isSome = true) := by
    rintro ⟨n, v⟩ hy
    rcases Sc.par n (List.of_mem_zip hy).1 with q1 | q1
    · exact .inl q1
    · exact .inr ⟨q1, PySem.W.cellsFrom_some _ _ _ (.inl q1)⟩
  refine codeAny_call_function hr.depth (KX _ _ lk) rfl Sc.co Sc.gen rfl (PySem.W.codeRec_of KX hcd) (b _ _ _ _ ?_)
  refine wpAny_newFunctionEnv_cells Sc.kind hkind fun env he s1 inn => ?_
  subst he
  refine ⟨I.nolimit.keeps inn.toInCall.keep, codeAny_func ?_⟩
  have J : Inv (CxW X.prog X.w X.K X.mg X.base N qual scope f cdv X.A X.stack s H E0 (a, oe)) [] (L2.start N [.ref a]) H s1 := L2H.inv_startH Sc po e0 rfl rv inn
  have ok : OkH (CxW X.prog X.w X.K X.mg X.base N qual scope f cdv X.A X.stack s H E0 (a, oe)) ⟨none, some (a, nm), X.w⟩ k := by
    refine ⟨rfl, Sc.nd, hr.deeper _, fun b n hb => ?_⟩
    cases hb
    obtain ⟨_, vs, hv, _⟩ := hot
    exact ⟨oe, List.mem_cons_self, hz, vs, hv⟩
  have Gd : Good X.K ⟨none, some (a, nm), X.w⟩ (pinAll none F H) (L2.start N [.ref a]) ([Slot.x nm] ++ List.replicate (N.length - [Slot.x nm].length) .un) F H := by
    refine good_start (ss := [.x nm]) l (fun b o h => ⟨(pinAll_some h).1, (pinAll_some h).2.1⟩) rfl (fun i sl hi => ?_) (fun i j sl sl' hn hi hj m m' => ?_)
    · cases i with
      | zero => cases hi; exact ⟨a, rfl, rfl⟩
      | succ i => simp at hi
    · cases i with
      | zero => cases hi; cases m
      | succ i => simp at hi
  have post : PostS X.K ⟨none, some (a, nm), X.w⟩ E0 (pinAll none F H) F (g ([Slot.x nm] ++ List.replicate (N.length - [Slot.x nm].length) .un)) (RS X.K { nx := fun _ H' => Q .non H', rt := Q }) := by
    refine run_post (k := fun zz => ∀ v F' H', Grow F H F' H' → Dv X.K F' v zz.1 → Q v H') (kx := fun _ => False) ?_ (fun d ρ' h σ' F' H' G lf v dv => h v F' H' ⟨fun a o z => pin_le (T := none) l (lf.trans G.le) (fun a o z => (G.pin a o z).1) a o (by simp) z, lf, G.le, fun a o z => ?_⟩ dv) (fun _ h => h.elim)
    · revert hgz
      unfold fnX runF
      cases g ([Slot.x nm] ++ List.replicate (N.length - [Slot.x nm].length) .un) with
      | bad => exact fun q => nomatch q
      | exc x => exact fun q => nomatch q
      | ok r =>
        obtain ⟨fl, ρ'⟩ := r
        cases fl with
        | rt d => exact fun e => by cases e; exact q
        | nx => exact fun e => by cases e; exact q
        | bk => exact fun e => nomatch e
        | ct => exact fun e => nomatch e
    · cases e : F a with
      | some u =>
        have := lf a u e
        rw [z] at this; cases this; exact .inl rfl
      | none =>
        cases e' : H a with
        | none => exact .inr rfl
        | some u =>
          have := (G.pin a u (pinAll_at e' e (by simp))).2
          rw [z] at this; cases this
  refine wpAny_mono ((hb cdv X.A X.stack s H E0 (a, oe) _ ok).run [] s1 _ H _ J ⟨_, _, F, Gd, post⟩) (fun fl s' hs => ?_) fun e s' hs => hs
  cases fl with
  | ret u =>
    obtain ⟨v, σ', H', J', rv', q'⟩ := hs
    exact (show CE X.stack X.prog X.w H s Q u s' from ⟨v, H', J'.os, J'.bare, J'.base, J'.hok, rv', q'⟩)
  | next =>
    obtain ⟨σ', H', J', q'⟩ := hs
    exact (show CE X.stack X.prog X.w H s Q .none s' from ⟨.non, H', J'.os, J'.bare, J'.base, J'.hok, rfl, q'⟩)
  | brk => obtain ⟨_, _, _, q'⟩ := hs; exact False.elim q'
  | cont => obtain ⟨_, _, _, q'⟩ := hs; exact False.elim q'

/-! ### try .. except B as e: return which(e) -/
/-- what is told where the body ends in an own exception -/
def sTry (g : S) (xs : List Str) (wh : Str → Res D) : S := fun ρ => match g ρ with
  | .exc x => if x ∈ xs then (wh x).nox.bind fun z => .ok (.rt z, []) else .bad
  | r => r
section
variable {X : Cx} {c : Cst} {W : XK} {k j : Nat} {g : S} {body : List Stmt} {B n y : Str} {p p1 p2 p3 np pos pos' : Pos} {xs : List Str}
theorem ds_try {i : Nat} {wh : Str → Res D} (O : Ok X c W k) (hst : X.stack = X.env :: X.outer) (hf : X.env.frame = some X.env.locals) (hi : X.N[i]? = some n) (hln : X.env.kindOf n = some .local) (hB : Gl X B) (mB : X.mg B = some (.ref (He.ga X.K B))) (EX : ExB X.K B xs)
    (hw : KeptX X.prog X.w X.K X.mg X.base j y wh) (hj : j + 1 ≤ k) (hy : Gl X y)
    (hb : ∀ (W' : XK) (pn : List (Addr × Obj)) (xe : Value → Shared → Prop), Ok (X.tr pn xe) c W' k → DSs (X.tr pn xe) c W' body g)
    (hdn : (n == ("__debug__" : Str)) = false := by decide) (hcn : (n == ("__classdict__" : Str)) = false := by decide) (hdB : (B == ("__debug__" : Str)) = false := by decide) (hdy : (y == ("__debug__" : Str)) = false := by decide)
    (hpl : (backTo p2 (starEach [] X.env)).any (·.1) = false := by rfl) :
    DS X c W (.Try body [.ExceptHandler (some (.Name B np)) (some n) [.Return (some (.Call (.Name y p1) [.Name n p3] [] p2)) p] pos'] [] [] pos) (sTry g xs wh) := by
  obtain ⟨f, mf, kf, hw⟩ := hw.gl
  have hil : i < X.N.length := by
    by_cases h : i < X.N.length
    · exact h
    · rw [List.getElem?_eq_none (by omega)] at hi; cases hi
  let ts : Addr → Value → Option Addr → TS := fun a cls d En σ H => ∃ (nm : Str) (F : Hp) (z : PyData) (σ0 : L2.St), cls = .ref (He.ga X.K nm) ∧ d = none ∧ wh nm = .ok z ∧ DL.le F H ∧ σ = σ0.set i (some (.ref a)) ∧ ∀ v F' H', Grow F H F' H' → Dv X.K F' v z → En.rt v H'
  have key := L2N.ps_try_as (X := X) (x := B) (n := n) (c := .ref (He.ga X.K B)) (i := i) (body := body) (suite := []) (b₀ := .Return (some (.Call (.Name y p1) [.Name n p3] [] p2)) p) (np := np) (pos := pos) (pos' := pos')
    (tb := fun Wx => tS X.K c (fun cls d H => ∀ σ, Wx cls d σ H) g) (ts := ts) (Wout := fun cls d _ H => W cls d H) hst hf O.nd hi hln ⟨hB, hdB, .inl mB⟩ O.tk
    (fun Wx pn xe tk own => hb (fun cls d H => ∀ σ, Wx cls d σ H) pn xe ⟨O.cw, O.calm, O.nd, L2N.passes_call tk fun _ _ _ _ h => h _, own, O.room, tk.imp fun _ _ _ _ h => h _⟩)
    (fun a oe cls d pn hz hv => ?_)
  · refine PS.imp key fun D σ H ⟨P, ρ, F, G, q⟩ => ⟨P, ρ, F, G, ?_⟩
    unfold sTry at q
    cases eg : g ρ with
    | bad => rw [eg] at q; exact q
    | ok r => rw [eg] at q; exact q
    | exc x =>
      rw [eg] at q
      obtain ⟨hx, q⟩ := PostS.ite q
      cases ew : wh x with
      | bad => rw [ew] at q; exact q.elim
      | exc _ => rw [ew] at q; exact q.elim
      | ok z =>
        rw [ew] at q
        refine fun H' l1 l2 σ' => ⟨true, EX.m x hx, fun _ a na => ⟨x, F, z, σ', rfl, rfl, ew, l1, rfl, fun v F2 H2 gr dv => ?_⟩, fun h => nomatch h⟩
        have Gn : Good X.K c P [] [] F2 H2 := ⟨gr.fh, fun b o hb => ⟨gr.hh b o (l2 b o hb), by
          cases e : F2 b with
          | none => rfl
          | some u =>
            rcases gr.nw b u e with e1 | e1
            · rw [(G.pin b o hb).2] at e1; cases e1
            · rw [l2 b o hb] at e1; cases e1⟩, rfl, fun j s h => by simp at h, fun j _ s _ _ _ h => by simp at h⟩
        exact q [] F2 H2 Gn gr.ff v dv
  · refine pss_one ⟨fun pins s σ H D I ⟨nm, F, z, σ0, e1, e2, e3, l, e4, q⟩ => ?_⟩
    subst e1 e2
    have hl : i < σ0.length := by have := I.len; rw [e4, List.length_set] at this; rw [this]; exact hil
    have hs : σ[i]? = some (some (.ref a)) := by rw [e4, List.getElem?_set_self hl]
    have pe : PE (X.suite a ((a, oe) :: pn)) (.Call (.Name y p1) [.Name n p3] [] p2) (fun σ H Q => (∃ x, σ[i]? = some (some (.ref a)) ∧ x = H) ∧ ∃ F, DL.le F H ∧ ∀ v F' H', Grow F H F' H' → Dv X.K F' v z → Q v H') := by
      refine ⟨fun pins s σ H Q I ⟨⟨_, hs, _⟩, F, l, q⟩ => ?_⟩
      refine wpAny_Call_Name_kw (ld_glob I hy mf ?_ hdy)
      refine PySem.W.callWith_K (h₀ := X.base) I.ok.mod.kin kf (thn ((pa_cons (X := X.suite a ((a, oe) :: pn)) (e := .Name n p3) (pe_var (i := i) hi (.inl hln) hdn hcn) pa_nil).run p2 pins s σ H (fun vs H1 => vs = [.ref a] ∧ H1 = H) I ⟨_, hs, rfl, rfl⟩) fun us s1 ⟨vs, H1, I1, r, ev, eH⟩ => ⟨I1.kIn, ?_⟩) rfl hpl
      subst ev eH
      cases r with
      | cons r1 r2 =>
        cases r2
        cases r1
        obtain ⟨vs, hvv⟩ := hv
        exact hw (X.suite a ((a, oe) :: pn)) pins σ F _ s1 Q a oe nm z rfl rfl rfl rfl rfl List.mem_cons_self ⟨rfl, vs, hvv, hz.2.2 vs hvv⟩ ⟨hz.1, hz.2.1⟩ (⟨(((L2H.roomH_of O.room).mono hj).dp : _), (((L2H.roomH_of O.room).mono hj).un : _)⟩) I1 l e3 q
    exact (ps_ret pe).run pins s σ H D I ⟨⟨H, hs, rfl⟩, F, l, q⟩
end

/-! ### [f, g][i](..) -/
section
variable {X : Cx} {c : Cst} {W : XK} {k n : Nat} {e idx : Expr} {es ns : List Expr} {fx : M D} {fs : M (List D)} {pos p1 p2 : Pos} {k1 : Nat}
theorem pac_nil : PA X [] (fun _ H Q => Q [] H) := PA.imp pa_nil fun _ _ _ q => q
theorem pac_cons {v : V} {vs : List V} (h : PE X e (tC v)) (hr : PA X es (fun _ H Q => Q vs H)) (hs : starEach (e :: es) X.env = (false, eval e X.env) :: starEach es X.env := by rfl) : PA X (e :: es) (fun _ H Q => Q (v :: vs) H) := PA.imp (pa_cons h hr hs) fun _ _ _ q => q
def FnAt (X : Cx) (k n : Nat) (f : Addr) (o : List D → Res D) : Prop := ∃ fd ps j, j ≤ k ∧ PySem.W.keepIn X.K (.ref f) = true ∧ Binds X.K fd ps [] ∧ FnOk X.prog X.w X.K X.mg X.base (L2N.CX X.prog X.w) j f fd ps (spD X.K n o)
theorem fnAt {x : Str} {ps : List Str} {j : Nat} {f : Addr} {o : List D → Res D} (h : Kept X.prog X.w X.K X.mg X.base j x ps (spD X.K n o)) (hj : j ≤ k) (hm : X.mg x = some (.ref f)) : FnAt X k n f o := by
  obtain ⟨f', fd, hm', hk, hb, F⟩ := h.ex
  rw [hm] at hm'
  cases hm'
  exact ⟨fd, ps, j, hj, hk, hb, F⟩
def mPick (n : Nat) (os : List (List D → Res D)) (fx : M D) (fs : M (List D)) : M D := fun ρ => (fx ρ).bind fun x => match x.1 with
  | .int j => if 0 ≤ j then (match os[j.toNat]? with
    | some o => mDef n o fs x.2
    | none => .bad) else .bad
  | _ => .bad
theorem Paired.getB {α β : Type} {R : α → β → Prop} : ∀ {xs : List α} {ys : List β}, Paired R xs ys → ∀ {i : Nat} {y : β}, ys[i]? = some y → ∃ x, xs[i]? = some x ∧ R x y
  | _, _, .nil, i, y, h => by simp at h
  | _, _, .cons r t, 0, y, h => by simp at h; subst h; exact ⟨_, rfl, r⟩
  | _, _, .cons r t, i + 1, y, h => by
    obtain ⟨x, h1, h2⟩ := Paired.getB t (i := i) (y := y) (by simpa using h)
    exact ⟨x, by simpa using h1, h2⟩
theorem Post.pinned {K : PySem.W.Frag} {P F : Hp} {pp : Addr} {o : HO} {σ : L2.St} {α : Type} {r : Res (α × Env)} {R : α → Env → Hp → Hp → Prop} (hp : P pp = none) (h : Post K c W P σ F r R) : Post K c W (upd P pp o) σ F r R := by
  cases r with
  | bad => exact h
  | exc x => exact fun H' l1 l2 => h H' l1 fun a u z => l2 a u (by rw [upd_ne (ne_of_none z hp)]; exact z)
  | ok a => exact fun F' H' G l => h F' H' (G.drop hp) l
theorem de_pick {ls : List Addr} {os : List (List D → Res D)} (O : Ok X c W k) (hn : PA X ns (fun _ H Q => Q (ls.map V.ref) H)) (hl : ls.length ≤ 1000) (hp : Paired (FnAt X k n) ls os) (hi : DE X c W idx fx) (ha : DA X c W (e :: es) fs) (hs : PlainIx idx)
    (he : starEach (e :: es) X.env = (false, eval e X.env) :: starEach es X.env := by rfl) (hpl : (backTo pos (starEach es X.env)).any (·.1) = false := by rfl)
    (hcall : eval (.Call (.Subscript (.List ns p1) idx p2) (e :: es) [] pos) X.env = (do callWith pos (← eval (.Subscript (.List ns p1) idx p2) X.env) [] (backTo pos (starEach (e :: es) X.env)) (backToKw pos (keywordEach [] X.env))) := by rfl) :
    DE X c W (.Call (.Subscript (.List ns p1) idx p2) (e :: es) [] pos) (mPick n os fx fs) := by
  refine ⟨fun pins s σ H Q I ⟨P, ρ, F, G, q⟩ => ?_⟩
  have ev : tOp (rIxL X.K) (tLst fun _ H Q => Q (ls.map V.ref) H) (tD X.K c W fx) σ H (fun v H1 => ∃ f o ρ1 F1, v = .ref f ∧ FnAt X k n f o ∧ Good X.K c P σ ρ1 F1 H1 ∧ Post X.K c W P σ F1 (mDef n o fs ρ1) fun d _ F' H' => ∀ v, Dv X.K F' v d → Q v H') := by
    refine ⟨by rw [List.length_map]; exact Nat.le_trans hl (by decide), fun pp hpp => ?_⟩
    obtain ⟨G1, _, hP⟩ := G.pinNew (o := .lst (ls.map V.ref)) hpp
    refine ⟨_, ρ, F, G1, (Post.pinned hP q.bind).mono fun d ρ1 F1 H1 G2 l1 q1 v dv => ?_⟩
    cases d <;> (try exact q1.elim)
    rename_i j
    obtain ⟨h0, q1⟩ := Post.ite q1
    cases eo : os[j.toNat]? with
    | none => simp only [eo] at q1; exact q1.elim
    | some o =>
      simp only [eo] at q1
      obtain ⟨f, hf, fa⟩ := Paired.getB hp eo
      refine ⟨pp, _, j, .ref f, rfl, dv.int_inv, SqL.of (G2.pin pp _ upd_same).1, ?_, f, o, ρ1, F1, rfl, fa, G2.drop hP, q1⟩
      obtain ⟨m, rfl⟩ := Int.eq_ofNat_of_zero_le h0
      have hm : m < (ls.map V.ref).length := by rw [List.length_map]; exact (List.getElem?_eq_some_iff.mp hf).1
      unfold L2.atI ixN
      rw [if_pos h0, if_pos (show (m : Int) < ((ls.map V.ref).length : Nat) by omega)]
      show (ls.map V.ref)[m]? = _
      rw [List.getElem?_map, show ls[m]? = some f from hf]
      rfl
  refine Call_ (thn ((pe_ix ix_list (pe_lst hn) hi hs).run pins s σ H _ I ev) fun v s1 ⟨vv, H1, I1, rv, f, o, ρ1, F1, e1, ⟨fd, ps, j, hj, hk, hb, hF⟩, G1, q1⟩ => ?_) hcall
  subst e1
  cases rv
  have z := mDef_ok (X := X) (c := c) (W := W) (σ := σ) (H := H1) (Q := Q) ⟨P, ρ1, F1, G1, q1⟩
  refine PySem.W.callWith_K (h₀ := X.base) I.ok.mod.kin hk (thn (ha.run pos pins s1 σ H1 _ I1 z) fun us s2 ⟨vs, H2, I2, r, q2⟩ => ⟨I2.kIn, ?_⟩) he hpl
  exact run_fn hF (O.room.mono hj) hb .nil O.pass I2 r (by rw [List.append_nil]; exact q2)
end
end DL

set_option maxHeartbeats 4000000
/-! DLM: more operations: tuples times any small number. -/
namespace DL
open PySem PySem.Spec L2
open PyProof.Rows hiding St
/-! ### tuple * k: the tuple itself, or the empty one -/
theorem tmul_self (l : Addr) (its : Array Value) (n : Nat) (dd : Option Addr) (sl : Array (Option Value)) (x : Int) (u : Tok) (b0 : (decide (x < -(2 ^ 63)) || decide (x ≥ 2 ^ 63)) = false) (b1 : (its.isEmpty || x == 1) = true) :
    Meets (Builtin.«tuple.__mul__» ⟨[.ref l, .int x u], []⟩) (fun _ R s => s.heap.get? l = some { cls := .type "tuple", dict := dd, data := .seq its n, slots := sl } ∧ R (.ok (.ret (.ref l))) s) :=
  .of_wp fun prog w A R s h => by
    obtain ⟨hp, g, d, tk, os⟩ := s
    obtain ⟨hl, h⟩ := h
    have f1 := AutoSeq1.idx_int
    wp_walk using wpAny_loadPart' hl
    repeat (first
      | (refine wpAny_ite_false (decide_eq_false (by rw [b0]; exact Bool.false_ne_true)) ?_; wp_walk using wpAny_loadPart' hl)
      | (refine wpAny_ite_true (decide_eq_true (by rw [b1])) ?_; wp_walk using wpAny_loadPart' hl))
    exact ⟨_, rfl, h⟩
theorem tmul_none (l : Addr) (its : Array Value) (n : Nat) (dd : Option Addr) (sl : Array (Option Value)) (x : Int) (u : Tok) (b0 : (decide (x < -(2 ^ 63)) || decide (x ≥ 2 ^ 63)) = false) (b1 : (its.isEmpty || x == 1) = false) (b2 : (decide (x ≤ 0) || its.isEmpty) = true) :
    Meets (Builtin.«tuple.__mul__» ⟨[.ref l, .int x u], []⟩) (fun _ R s => s.heap.get? l = some { cls := .type "tuple", dict := dd, data := .seq its n, slots := sl } ∧ R (.ok (.ret (.ref s.heap.objs.size))) { s with heap := s.heap.push { cls := Value.type "tuple", data := Data.seq #[] } }) :=
  .of_wp fun prog w A R s h => by
    obtain ⟨hp, g, d, tk, os⟩ := s
    obtain ⟨hl, h⟩ := h
    have f1 := AutoSeq1.idx_int
    wp_walk using wpAny_loadPart' hl
    repeat (first
      | (refine wpAny_ite_false (decide_eq_false (by rw [b0]; exact Bool.false_ne_true)) ?_; wp_walk using wpAny_loadPart' hl)
      | (refine wpAny_ite_false (decide_eq_false (by rw [b1]; exact Bool.false_ne_true)) ?_; wp_walk using wpAny_loadPart' hl)
      | (refine wpAny_ite_true (decide_eq_true (by rw [b2])) ?_; wp_walk using wpAny_loadPart' hl))
    exact ⟨_, rfl, h⟩
def rRepS (K : PySem.W.Frag) : R2 := fun x y H Q => ∃ l k xs, x = .ref l ∧ y = .int k ∧ SqT K H l xs ∧ -1000 ≤ k ∧ k ≤ 1000 ∧ (((k = 1 ∨ xs = []) ∧ Q (.ref l) H) ∨ (k ≠ 1 ∧ xs ≠ [] ∧ k ≤ 0 ∧ ∀ p, H p = none → Q (.ref p) (upd H p (.tup []))))
section
variable {X : Cx}
theorem op_repS : OpR X (binaryOp .Mult) (rRepS X.K) := by
  intro pins s σ H x y v u Q I rx ry h
  obtain ⟨l, kk, xs, rfl, rfl, hT, g1, g2, h⟩ := h
  cases rx
  obtain ⟨t, rfl⟩ := ry
  obtain ⟨its, r, ⟨⟨cls, dd, data, sl⟩, ho, hc, n, hd⟩, hs⟩ := I.tuple hT
  simp only at hc hd
  subst hc hd
  have b0 : (decide (kk < -(2 ^ 63)) || decide (kk ≥ 2 ^ 63)) = false := by
    rw [decide_eq_false (by omega), decide_eq_false (by omega)] <;> rfl
  have he : its.toArray.isEmpty = xs.isEmpty := by
    cases r with
    | nil => rfl
    | cons _ _ => rfl
  rcases h with ⟨h1, q⟩ | ⟨h1, h2, h3, q⟩
  · have b1 : (its.toArray.isEmpty || kk == 1) = true := by
      rcases h1 with h1 | h1
      · rw [h1]; simp
      · rw [he, h1]; rfl
    refine wpAny_binaryOp_repeat_ref (T := "tuple") (U := "int") (by decide) ⟨_, ho, rfl⟩ (fun s' => typeIs_int s' kk t) noFill_tuple_mul F.fills_int_mul F.slot_int_rmul repeat_tuple F.slot_int_index.lookup
      (call_meets F.slot_int_rmul (typeIs_int s kk t) F.entry_int_rmul (F.args_int_rmul_2 _ _) (int_rmul_tuple kk t l its.toArray n dd sl)
        ⟨ho, rfl, ⟨_, ho, rfl⟩, call_meets F.slot_tuple_mul ⟨_, ho, rfl⟩ F.entry_tuple_mul (F.args_tuple_mul_2 _ _) (tmul_self l its.toArray n dd sl kk t b0 b1) ⟨ho, ?_⟩⟩)
    exact ⟨.ref l, H, I, rfl, q⟩
  · have hem : its.toArray.isEmpty = false := by
      rw [he]
      cases xs with
      | nil => exact absurd rfl h2
      | cons _ _ => rfl
    have b1 : (its.toArray.isEmpty || kk == 1) = false := by
      rw [hem, Bool.false_or]
      exact beq_eq_false_iff_ne.mpr h1
    have b2 : (decide (kk ≤ 0) || its.toArray.isEmpty) = true := by rw [decide_eq_true h3]; rfl
    refine wpAny_binaryOp_repeat_ref (T := "tuple") (U := "int") (by decide) ⟨_, ho, rfl⟩ (fun s' => typeIs_int s' kk t) noFill_tuple_mul F.fills_int_mul F.slot_int_rmul repeat_tuple F.slot_int_index.lookup
      (call_meets F.slot_int_rmul (typeIs_int s kk t) F.entry_int_rmul (F.args_int_rmul_2 _ _) (int_rmul_tuple kk t l its.toArray n dd sl)
        ⟨ho, rfl, ⟨_, ho, rfl⟩, call_meets F.slot_tuple_mul ⟨_, ho, rfl⟩ F.entry_tuple_mul (F.args_tuple_mul_2 _ _) (tmul_none l its.toArray n dd sl kk t b0 b1 b2) ⟨ho, ?_⟩⟩)
    refine ⟨.ref s.heap.objs.size, _, I.laid (t' := s.toks) (o := .tup []) (fun b ob z => Heap.get?_push_of_some _ z) (Nat.le_refl _) ?_, rfl, q _ (I.hok.fresh (Nat.le_refl _))⟩
    exact ⟨Nat.zero_le _, [], .nil, IsTup.new _ _⟩
def oMulS (d e : D) : Option D := match d, e with
  | .tuple xs, .int k => if (-1000 ≤ k ∧ k ≤ 1000) ∧ xs.length ≤ 1000 then some (.tuple (List.replicate k.toNat xs).flatten) else none
  | _, _ => none
theorem flat_nil {α : Type} : ∀ n : Nat, (List.replicate n ([] : List α)).flatten = []
  | 0 => rfl
  | n + 1 => by rw [List.replicate_succ, List.flatten_cons, flat_nil n]; rfl
def rMulS (K : PySem.W.Frag) : R2 := fun x y H Q => rMulD K x y H Q ∨ rRepS K x y H Q
theorem op_mulS : OpR X (binaryOp .Mult) (rMulS X.K) := OpR.or op_mulD op_repS
theorem rd_mulT' {K : PySem.W.Frag} : RD K (rMulS K) oMulS := fun F H x y d e z Q l hx hy ho q => by
  cases d <;> cases e <;> (try (cases ho; done))
  rename_i ds kk
  simp only [oMulS] at ho
  split at ho
  · cases ho
    rename_i hl
    obtain ⟨⟨g1, g2⟩, g3⟩ := hl
    obtain ⟨a, xs, rfl, h1, h2⟩ := id hx.tup_inv
    by_cases c1 : kk = 1 ∨ ds = []
    · refine .inr ⟨a, kk, xs, rfl, hy.int_inv, SqT.le h1 l, g1, g2, .inl ⟨c1.imp id fun e => ?_, ?_⟩⟩
      · subst e; cases h2; rfl
      · refine q _ _ _ (Grow.refl l) ?_
        rcases c1 with c1 | c1
        · subst c1
          have e : (List.replicate (Int.toNat 1) ds).flatten = ds := by simp
          rw [e]; exact hx
        · subst c1
          rw [flat_nil]; exact hx
    · by_cases c2 : kk ≤ 0
      · refine .inr ⟨a, kk, xs, rfl, hy.int_inv, SqT.le h1 l, g1, g2, .inr ⟨fun e => c1 (.inl e), fun e => c1 (.inr ?_), c2, fun p hp => ?_⟩⟩
        · subst e; cases h2; rfl
        · have g := Grow.lay (o := .tup []) l hp
          have e : (List.replicate kk.toNat ds).flatten = [] := by rw [show kk.toNat = 0 by omega]; rfl
          rw [e] at q
          exact q _ _ _ g (.tup (SqT.of upd_same) .nil)
      · refine .inl (.inr (rd_mulT F H _ y (.tuple ds) (.int kk) _ Q l hx hy ?_ q))
        simp only [oMulT]
        rw [if_pos ⟨by omega, g2, g3, fun e => c1 (.inr e)⟩]
  · cases ho
noncomputable def oMulX (d e : D) : Option D := match d with
  | .int _ => oMulI d e
  | .list _ => oMulL d e
  | .tuple _ => oMulS d e
  | _ => none
theorem rd_mulX {K : PySem.W.Frag} : RD K (rMulS K) oMulX := fun F H x y d e z Q l hx hy ho q => by
  cases d <;> (try (cases ho; done))
  · exact .inl (.inl (.inl (rd_mulI F H x y _ e z Q l hx hy ho q)))
  · exact .inl (.inl (.inr (rd_mulL F H x y _ e z Q l hx hy ho q)))
  · exact rd_mulT' F H x y _ e z Q l hx hy ho q
end

/-! ### what is not run -/
section
variable {X : Cx} {c : Cst} {W : XK} {body : List Stmt} {st : Stmt} {e : Expr}
def sDead : S := fun _ => .bad
def mDead : M D := fun _ => .bad
theorem dss_dead : DSs X c W body sDead := PSs.imp pss_never fun _ _ _ ⟨_, _, _, _, p⟩ => p
theorem ds_dead : DS X c W st sDead := PS.imp ps_never fun _ _ _ ⟨_, _, _, _, p⟩ => p
theorem de_dead : DE X c W e mDead := ⟨fun _ _ _ _ _ _ ⟨_, _, _, _, p⟩ => p.elim⟩
/-! ### a tuple of ints of the module -/
def intsB : List Value → List Int → Bool
  | [], [] => true
  | .int i _ :: vs, j :: js => decide (i = j) && intsB vs js
  | _, _ => false
theorem intsB_ok : ∀ {vs : List Value} {ns : List Int}, intsB vs ns = true → Vals (ns.map .int) vs
  | [], [], _ => .nil
  | [], _ :: _, h => by cases h
  | v :: vs, [], h => by cases v <;> cases h
  | v :: vs, j :: js, h => by
    cases v <;> (try (cases h; done))
    rename_i i t
    have h : (decide (i = j) && intsB vs js) = true := h
    rw [Bool.and_eq_true, decide_eq_true_eq] at h
    exact .cons ⟨t, by rw [h.1]⟩ (intsB_ok h.2)
def tupB (K : PySem.W.Frag) (a : Addr) (ns : List Int) : Bool := match K.lookup a with
  | some ⟨cls, _, .seq its _, _⟩ => (cls == .type "tuple" && decide (its.size ≤ 1000)) && intsB its.toList ns
  | _ => false
theorem tupB_ok {K : PySem.W.Frag} {a : Addr} {ns : List Int} (h : tupB K a ns = true) (F : Hp) : SqT K F a (ns.map .int) := by
  unfold tupB at h
  split at h
  · rename_i cls dd its n sl e
    rw [Bool.and_eq_true, Bool.and_eq_true, decide_eq_true_eq] at h
    exact .inr ⟨_, its, n, e, by simpa using h.1.1, rfl, Nat.le_trans h.1.2 (by decide), intsB_ok h.2⟩
  · cases h
theorem DvAll.ofInts {K : PySem.W.Frag} {F : Hp} : ∀ ns : List Int, DvAll K F (ns.map .int) (ns.map .int)
  | [] => .nil
  | n :: ns => .cons (.int n) (DvAll.ofInts ns)
theorem de_gtup {x : Str} {p : Pos} {a : Addr} {ns : List Int} (hg : Gl X x) (hm : X.mg x = some (.ref a)) (ht : tupB X.K a ns = true) (hd : (x == ("__debug__" : Str)) = false := by decide) : DE X c W (.Name x p) (mC (.tuple (ns.map .int))) :=
  de_c (pe_glob (v := .ref a) hg hm rfl hd) fun F => .tup (tupB_ok ht F) (DvAll.ofInts ns)
theorem bo_ValueError : bootBuiltins "ValueError" = some (.type "ValueError") := by decide +kernel
end
end DL

set_option maxHeartbeats 4000000
/-! DLR: [::-1] of a tuple or a list. -/
namespace DL
open PySem PySem.Spec L2
open PyProof.Rows hiding St
section
variable {prog : Program} {w : World} {A : Around} {E : Value → Shared → Prop} {s : Shared}
theorem applied_rev {sl : Addr} {vl vu vs : Value} {n : Nat} {Q : Int × Int × Nat → Shared → Prop} (hs : s.heap.IsSliceOf sl vl vu vs) (pl : IsPart vl none) (pu : IsPart vu none) (ps : IsPart vs (some (-1)))
    (h : Q ((n : Int) - 1, -1, n) s) : wpAny (model prog w) A (Builtin.Slice.sliceApplied (.ref sl) (pure (n : Int))) Q E s := by
  obtain ⟨ob, g1, g2, g3⟩ := id hs
  unfold Builtin.Slice.sliceApplied Builtin.Slice.sliceFields
  refine wpAny_bind (wpAny_bind (wpAny_field g1 g3 (x := vl) rfl (wpAny_bind (wpAny_field g1 g3 (x := vu) rfl (wpAny_bind (wpAny_field g1 g3 (x := vs) rfl (wpAny_pure ?_)))))))
  refine wpAny_bind (HT.slicePart_ ps ?_)
  show wpAny _ _ (if ((-1 : Int) == 0) = true then _ else _) _ _ s
  rw [if_neg (by decide)]
  refine wpAny_bind (HT.slicePart_ pl (wpAny_bind (HT.slicePart_ pu (wpAny_bind (wpAny_pure ?_)))))
  have e : Builtin.Slice.slicePlaces ((n : Int) - 1) (-1) (-1) = n := by
    unfold Builtin.Slice.slicePlaces
    rw [if_neg (by decide)]
    by_cases hn : n = 0
    · subst hn; rfl
    · rw [if_pos (by omega)]
      simp only [Int.neg_neg, Int.ediv_one]
      omega
  show wpAny _ _ (pure ((n : Int) - 1, (-1 : Int), Builtin.Slice.slicePlaces ((n : Int) - 1) (-1) (-1))) _ _ s
  rw [e]
  exact wpAny_pure h
theorem pick_rev (xs : List Value) : ((List.range xs.length).filterMap fun (m : Nat) => xs.toArray[(((xs.length : Int) - 1) + (m : Int) * (-1)).toNat]?) = xs.reverse := by
  have e : ∀ m ∈ List.range xs.length, xs.toArray[(((xs.length : Int) - 1) + (m : Int) * (-1)).toNat]? = xs.reverse[m]? := fun m hm => by
    have hm := List.mem_range.mp hm
    have e1 : (((xs.length : Int) - 1) + (m : Int) * (-1)).toNat = xs.length - 1 - m := by omega
    rw [e1, List.getElem?_reverse hm]
    simp
  have fc : ∀ (l : List Nat) (f g : Nat → Option Value), (∀ m ∈ l, f m = g m) → l.filterMap f = l.filterMap g := fun l f g h => by
    induction l with
    | nil => rfl
    | cons a l ih => rw [List.filterMap_cons, List.filterMap_cons, h a List.mem_cons_self, ih fun m hm => h m (List.mem_cons_of_mem _ hm)]
  rw [fc _ _ _ e]
  apply List.ext_getElem?
  intro i
  have key : ∀ (ys : List Value) (k : Nat), k ≤ ys.length → (List.range k).filterMap (fun m => ys[m]?) = ys.take k := fun ys k => by
    induction k with
    | zero => intro _; rfl
    | succ k ih =>
      intro hk
      rw [List.range_succ, List.filterMap_append, ih (by omega), List.take_add_one]
      congr 1
  rw [key xs.reverse xs.length (by simp), List.take_of_length_le (by simp)]
theorem item_tup_rev {t sl : Addr} {its : List Value} {vl vu vs : Value} {Q : Value → Shared → Prop} (ht : IsTup s.heap t its.toArray) (hs : s.heap.IsSliceOf sl vl vu vs) (pl : IsPart vl none) (pu : IsPart vu none) (ps : IsPart vs (some (-1)))
    (h : Q (.ref s.heap.objs.size) { s with heap := s.heap.push { cls := .type "tuple", data := .seq its.reverse.toArray } }) (hz : its.length ≤ sizeLine) : wpAny (model prog w) A (getItem (.ref t) (.ref sl)) Q E s := by
  obtain ⟨ob, g1, g2, g3⟩ := id hs
  have hT : s.TypeIs (.ref sl) "slice" := ⟨ob, g1, g2⟩
  unfold getItem
  try with_reducible refine wpAny_holding ?_
  first | refine wpAny_bind (wpAny_pure ?_) | skip
  refine wpAny_bind (wpAny_sequenceKey ht.typeIs (by decide) ?_)
  refine wpAny_bind (wpAny_callSpecial?_slot (name := Str.ofString "__getitem__") ht.typeIs PyProof.Rows.slot_tuple_getitem (wpAny_call_entry PyProof.Rows.slot_tuple_getitem ht.typeIs entry_tuple_getitem ?_ (args_tuple_getitem _ _)))
  show wpAny _ _ (Builtin.Tuple.tupleItemsOf (.ref t) >>= _) _ _ s
  refine wpAny_bind (tupleItemsOf_ ht (wpAny_bind (wpAny_typeOf hT ?_)))
  rw [if_pos (by decide)]
  have hsz : its.toArray.size = its.length := List.size_toArray ..
  refine wpAny_bind ?_
  rw [hsz]
  refine applied_rev hs pl pu ps ?_
  have no : (((its.length : Int) - 1) == 0 && (-1 : Int) == 1 && its.length == its.length) = false := by simp
  show wpAny _ _ (if (((its.length : Int) - 1) == 0 && (-1 : Int) == 1 && its.length == its.length) = true then _ else _) _ _ s
  rw [no, if_neg Bool.false_ne_true]
  rw [pick_rev]
  have ok : sizeOk (.seq its.reverse.toArray) := by
    show its.reverse.toArray.size ≤ sizeLine
    rw [List.size_toArray, List.length_reverse]; exact hz
  first
    | exact wpAny_bind (m := Builtin.Tuple.tupleExact _) (wpAny_newObj_type (wpAny_pure ⟨_, rfl, wpAny_pure h⟩) ok)
    | exact wpAny_bind (m := Builtin.Tuple.tupleExact _) (wpAny_newObj_type (wpAny_bind (wpAny_pure (wpAny_pure ⟨_, rfl, wpAny_pure h⟩))) ok)
    | exact wpAny_bind (wpAny_bind (m := Builtin.Tuple.tupleExact _) (wpAny_newObj_type (wpAny_pure (wpAny_pure ⟨_, rfl, wpAny_pure h⟩)) ok))
    | exact wpAny_bind (wpAny_bind (m := Builtin.Tuple.tupleExact _) (wpAny_newObj_type (wpAny_pure ⟨_, rfl, wpAny_pure h⟩) ok))
end
/-- turned round: a list or a tuple -/
def tRevA (K : PySem.W.Frag) (te : TE) : TE := fun σ H Q => te σ H fun x H1 => (∃ a xs, x = .ref a ∧ SqL K H1 a xs ∧ ∀ p, H1 p = none → Q (.ref p) (upd H1 p (.lst xs.reverse))) ∨ ∃ a xs, x = .ref a ∧ SqT K H1 a xs ∧ ∀ p, H1 p = none → Q (.ref p) (upd H1 p (.tup xs.reverse))
section
variable {X : Cx} {c : Cst} {W : XK} {e : Expr} {f : M D} {k : Nat} {p1 p2 p3 pos : Pos}
theorem pe_revA {te : TE} (he : PE X e te) : PE X (.Subscript e (.Slice none none (some (.UnaryOp .USub (.Constant (.int 1) k p1) p2)) p3) pos) (tRevA X.K te) := by
  refine ⟨fun pins s σ H Q I h => Subscript_ (thn (he.run pins s σ H _ I h) fun v s1 ⟨x, H1, I1, r1, q1⟩ => ?_)⟩
  have mk : ∀ (G : Prop → Prop), True := fun _ => trivial
  have st : PO X (some (.UnaryOp .USub (.Constant (.int 1) k p1) p2)) (tPart (tUn (rU fun i => .int (-i)) (tC (.int 1)))) := po_some (pe_un un_neg pe_int)
  obtain ⟨a, rfl⟩ : ∃ a, x = .ref a := by rcases q1 with ⟨a, _, e, _⟩ | ⟨a, _, e, _⟩ <;> exact ⟨a, e⟩
  cases r1
  refine wpAny_Slice (thn (po_none.run pins s1 σ H1 (fun o H2 => o = none ∧ H2 = H1) I1 ⟨rfl, rfl⟩) fun vl s2 ⟨o2, H2, I2, pl, e2, f2⟩ => ?_)
  subst e2 f2
  refine thn (po_none.run pins s2 σ H2 (fun o H3 => o = none ∧ H3 = H2) I2 ⟨rfl, rfl⟩) fun vu s3 ⟨o3, H3, I3, pu, e3, f3⟩ => ?_
  subst e3 f3
  refine thn (st.run pins s3 σ H3 (fun o H4 => o = some (-1) ∧ H4 = H3) I3 ⟨1, rfl, -1, rfl, rfl, rfl⟩) fun vs s4 ⟨o4, H4, I4, ps, e4, f4⟩ => ?_
  subst e4 f4
  have I5 : Inv X pins σ H4 { s4 with heap := s4.heap.push { cls := .type "slice", data := .fields #[vl, vu, vs] } } := I4.kept (t' := s4.toks) fun b ob q => Heap.get?_push_of_some _ q
  show wpAny (model X.prog X.w) X.A (subscriptTail e _ (.ref a) (.ref s4.heap.objs.size)) (EP X pins σ Q) X.xe { s4 with heap := s4.heap.push { cls := .type "slice", data := .fields #[vl, vu, vs] } }
  rcases q1 with ⟨b, xs, eb, hx, q⟩ | ⟨b, xs, eb, hx, q⟩
  · cases eb
    obtain ⟨its, r, ht, hz⟩ := I5.list hx
    have hlen := r.length
    refine tail_any (ops := [.ref a, .ref s4.heap.objs.size]) ht.isList.typeIs (PySem.slot_list_getitem.lookup) ?_ (by with_unfolding_all rfl)
    refine wpAny_getItem_list_slice ht.isList (Heap.IsSliceOf.new _ vl vu vs) pl pu ps (by decide) ?_ (by rw [List.size_toArray]; omega)
    rw [PySem.W.krv_pick]
    exact ⟨.ref _, _, I5.laid (t' := s4.toks) (o := .lst xs.reverse) (fun b ob z => Heap.get?_push_of_some _ z) (Nat.le_refl _) ⟨by rw [List.length_reverse]; exact hz, _, 0, r.reverse, Heap.get?_push_size _ rfl⟩, rfl, q _ (I5.hok.fresh (Nat.le_refl _))⟩
  · cases eb
    obtain ⟨its, r, ht, hz⟩ := I5.tuple hx
    have hlen := r.length
    refine tail_any (ops := [.ref a, .ref s4.heap.objs.size]) ht.typeIs (PyProof.Rows.slot_tuple_getitem.lookup) ?_ (by with_unfolding_all rfl)
    refine item_tup_rev ht (Heap.IsSliceOf.new _ vl vu vs) pl pu ps ?_ (by omega)
    exact ⟨.ref _, _, I5.laid (t' := s4.toks) (o := .tup xs.reverse) (fun b ob z => Heap.get?_push_of_some _ z) (Nat.le_refl _) ⟨by rw [List.length_reverse]; exact hz, _, r.reverse, IsTup.new _ _⟩, rfl, q _ (I5.hok.fresh (Nat.le_refl _))⟩
def oRev (d : D) : Option D := match d with
  | .list xs => some (.list xs.reverse)
  | .tuple xs => some (.tuple xs.reverse)
  | _ => none
theorem de_rev (he : DE X c W e f) : DE X c W (.Subscript e (.Slice none none (some (.UnaryOp .USub (.Constant (.int 1) k p1) p2)) p3) pos) (m1 oRev f) := PE.imp (pe_revA he) fun σ H Q ⟨P, ρ, F, G, p⟩ => ⟨P, ρ, F, G, p.bind.mono fun d ρ1 F1 H1 G1 l1 p1 v dv => by
  obtain ⟨z, hz, p2⟩ := p1.lift
  cases d <;> (try (cases hz; done))
  · cases hz
    obtain ⟨a, xs, rfl, h1, h2⟩ := dv.lst_inv
    refine .inl ⟨a, xs, rfl, SqL.of (G1.le _ _ h1), fun q hq => ?_⟩
    have g := Grow.lay (o := .lst xs.reverse) G1.le hq
    exact p2 _ _ (G1.grow g) g.ff _ (.lst upd_same (DvAll.le g.ff h2.reverse))
  · cases hz
    obtain ⟨a, xs, rfl, h1, h2⟩ := dv.tup_inv
    refine .inr ⟨a, xs, rfl, SqT.le h1 G1.le, fun q hq => ?_⟩
    have g := Grow.lay (o := .tup xs.reverse) G1.le hq
    exact p2 _ _ (G1.grow g) g.ff _ (.tup (SqT.of upd_same) (DvAll.le g.ff h2.reverse))⟩
end
end DL

set_option maxHeartbeats 4000000
/-! DLD: dicts whose keys are tuples. -/
namespace DL
open PySem PySem.Spec L2
open PyProof.Rows hiding St

/-! ### keys -/
mutual
theorem key_eqv : ∀ {a b : D} {x y : NestedKey}, keyD a = some x → keyD b = some y → PyData.eqv a b = decide (x = y)
  | .none, b, x, y, ha, hb => by
    cases ha
    cases b with
    | none => cases hb; rfl
    | bool _ => cases hb; rfl
    | int _ => cases hb; rfl
    | str _ => cases hb; rfl
    | list _ => cases hb
    | tuple ds => simp only [keyD, Option.map_eq_some_iff] at hb; obtain ⟨ks, _, rfl⟩ := hb; rfl
    | dict _ => cases hb
  | .bool p, b, x, y, ha, hb => by
    cases ha
    cases b with
    | none => cases hb; rfl
    | bool q => cases hb; rw [NestedKey.decide_eq]; cases p <;> cases q <;> rfl
    | int j => cases hb; rw [NestedKey.decide_eq]; show _ = decide (_ = _); simp only [PyData.eqv]; rw [Bool.eq_iff_iff, beq_iff_eq, decide_eq_true_eq]
    | str _ => cases hb; rfl
    | list _ => cases hb
    | tuple ds => simp only [keyD, Option.map_eq_some_iff] at hb; obtain ⟨ks, _, rfl⟩ := hb; rfl
    | dict _ => cases hb
  | .int i, b, x, y, ha, hb => by
    cases ha
    cases b with
    | none => cases hb; rfl
    | bool q => cases hb; rw [NestedKey.decide_eq]; show _ = decide (_ = _); simp only [PyData.eqv]; rw [Bool.eq_iff_iff, beq_iff_eq, decide_eq_true_eq]
    | int j => cases hb; rw [NestedKey.decide_eq]; show _ = decide (_ = _); simp only [PyData.eqv]; rw [Bool.eq_iff_iff, beq_iff_eq, decide_eq_true_eq]
    | str _ => cases hb; rfl
    | list _ => cases hb
    | tuple ds => simp only [keyD, Option.map_eq_some_iff] at hb; obtain ⟨ks, _, rfl⟩ := hb; rfl
    | dict _ => cases hb
  | .str i, b, x, y, ha, hb => by
    cases ha
    cases b with
    | none => cases hb; rfl
    | bool q => cases hb; rfl
    | int j => cases hb; rfl
    | str j => cases hb; rw [NestedKey.decide_eq]; show _ = decide (_ = _); simp only [PyData.eqv]; rw [Bool.eq_iff_iff, beq_iff_eq, decide_eq_true_eq]
    | list _ => cases hb
    | tuple ds => simp only [keyD, Option.map_eq_some_iff] at hb; obtain ⟨ks, _, rfl⟩ := hb; rfl
    | dict _ => cases hb
  | .list _, _, _, _, ha, _ => by cases ha
  | .dict _, _, _, _, ha, _ => by cases ha
  | .tuple as, b, x, y, ha, hb => by
    simp only [keyD, Option.map_eq_some_iff] at ha
    obtain ⟨ks, h1, rfl⟩ := ha
    cases b with
    | none => cases hb; rfl
    | bool q => cases hb; rfl
    | int j => cases hb; rfl
    | str j => cases hb; rfl
    | list _ => cases hb
    | dict _ => cases hb
    | tuple bs =>
      simp only [keyD, Option.map_eq_some_iff] at hb
      obtain ⟨ls, h2, rfl⟩ := hb
      show PyData.eqvAll as bs = _
      rw [keys_eqv h1 h2, NestedKey.decide_eq]
      show decide (ks = ls) = NestedKey.beqAll ks ls
      rw [Bool.eq_iff_iff, decide_eq_true_eq]
      exact ⟨fun e => e ▸ NestedKey.beqAll_self ks, NestedKey.eq_of_beqAll ks ls⟩
theorem keys_eqv : ∀ {as bs : List D} {xs ys : List NestedKey}, keyDs as = some xs → keyDs bs = some ys → PyData.eqvAll as bs = decide (xs = ys)
  | [], [], xs, ys, ha, hb => by cases ha; cases hb; rfl
  | [], b :: bs, xs, ys, ha, hb => by
    cases ha
    simp only [keyDs, Option.bind_eq_some_iff, Option.map_eq_some_iff] at hb
    obtain ⟨k, _, ks, _, rfl⟩ := hb
    rfl
  | a :: as, [], xs, ys, ha, hb => by
    cases hb
    simp only [keyDs, Option.bind_eq_some_iff, Option.map_eq_some_iff] at ha
    obtain ⟨k, _, ks, _, rfl⟩ := ha
    rfl
  | a :: as, b :: bs, xs, ys, ha, hb => by
    simp only [keyDs, Option.bind_eq_some_iff, Option.map_eq_some_iff] at ha hb
    obtain ⟨k, h1, ks, h2, rfl⟩ := ha
    obtain ⟨l, h3, ls, h4, rfl⟩ := hb
    show (PyData.eqv a b && PyData.eqvAll as bs) = _
    rw [key_eqv h1 h3, keys_eqv h2 h4]
    rw [Bool.eq_iff_iff, Bool.and_eq_true, decide_eq_true_eq, decide_eq_true_eq, decide_eq_true_eq, List.cons.injEq]
end
def keyOk (d : D) : Bool := d.isTuple && match keyD d with
  | some k => decide (k.depth ≤ 8)
  | none => false
theorem keyOk_inv {d : D} (h : keyOk d = true) : ∃ k ds, d = .tuple ds ∧ keyD d = some k ∧ k.depth ≤ 8 := by
  unfold keyOk at h
  rw [Bool.and_eq_true] at h
  cases d <;> (try (cases h.1; done))
  rename_i ds
  cases e : keyD (.tuple ds) with
  | none => rw [e] at h; cases h.2
  | some k => rw [e] at h; exact ⟨k, ds, rfl, rfl, of_decide_eq_true h.2⟩
section
variable {X : Cx} {pins : List (Addr × Obj)} {σ : L2.St} {H F : Hp} {s : Shared}
mutual
theorem nested_of (I : L2.Inv X pins σ H s) (l : DL.le F H) : ∀ {v : V} {d : D} {k : NestedKey} {u : Value}, Dv X.K F v d → keyD d = some k → RelV v u → NestedIs s.heap k u
  | _, _, _, _, .non, hk, r => by cases hk; cases r; exact .none
  | _, _, _, _, .bl b, hk, r => by cases hk; cases r; exact .bool rfl
  | _, _, _, _, .int i, hk, r => by cases hk; obtain ⟨t, rfl⟩ := r; exact .int i t
  | _, _, _, _, .str x, hk, r => by cases hk; obtain ⟨t, rfl⟩ := r; exact .text x t
  | _, _, _, _, .lst _ _, hk, _ => by cases hk
  | _, _, _, _, .tup h1 h2, hk, r => by
    simp only [keyD, Option.map_eq_some_iff] at hk
    obtain ⟨ks, e, rfl⟩ := hk
    cases r
    obtain ⟨its, rv, ⟨o, ho, hc, n, hd⟩, _⟩ := I.tuple (SqT.le h1 l)
    exact .tup ho hc hd (by simpa using nestedAll_of I l h2 e rv)
theorem nestedAll_of (I : L2.Inv X pins σ H s) (l : DL.le F H) : ∀ {vs : List V} {ds : List D} {ks : List NestedKey} {us : List Value}, DvAll X.K F vs ds → keyDs ds = some ks → Vals vs us → NestedAll s.heap ks us
  | _, _, _, _, .nil, hk, r => by cases hk; cases r; exact .nil
  | _, _, _, _, .cons h1 h2, hk, r => by
    simp only [keyDs, Option.bind_eq_some_iff, Option.map_eq_some_iff] at hk
    obtain ⟨k, e1, ks, e2, rfl⟩ := hk
    cases r with
    | cons r1 r2 => exact .cons (nested_of I l h1 e1 r1) (nestedAll_of I l h2 e2 r2)
end
/-- a datum as a key -/
theorem key_is (I : L2.Inv X pins σ H s) (l : DL.le F H) {v : V} {u : Value} {d : D} (dv : Dv X.K F v d) (r : RelV v u) (hk : keyOk d = true) : ∃ a k, v = .ref a ∧ u = .ref a ∧ keyD d = some k ∧ k.depth ≤ 8 ∧ (nestedKind X.prog X.w).is s.heap k a := by
  obtain ⟨k, ds, rfl, e, h8⟩ := keyOk_inv hk
  obtain ⟨a, xs, rfl, _, _⟩ := id dv.tup_inv
  have e1 : u = .ref a := r
  subst e1
  exact ⟨a, k, rfl, rfl, e, h8, nested_of I l dv e rfl, h8⟩
/-- the dict as the library sees it -/
theorem map_at {c : Cst} (I : L2.Inv X pins σ H s) (cw : c.w = X.w) (l : DL.le F H) {a : Addr} {kvs : List (D × D)} (m : MapAt X.K c F H a kvs) : ∃ xs, s.heap.DictOfH (nestedKind X.prog X.w) a xs ∧ (a == sysModules) = false ∧ Paired (DKv X.K F) xs kvs := by
  obtain ⟨xs, ep, h1, h2, h3, h4⟩ := m
  obtain ⟨⟨o, es, g1, g2, g3, g4⟩, _, _⟩ := I.hok _ _ h1
  refine ⟨xs, ⟨o, es, ep, g1, g2, g3, ?_, fun x hx => ?_, h3⟩, h2, h4⟩
  · rw [g4, cw]; rfl
  · obtain ⟨i, hi⟩ := List.mem_iff_getElem?.mp hx
    have hl : i < xs.length := (List.getElem?_eq_some_iff.mp hi).1
    have hl2 : i < kvs.length := by rw [← Paired.length h4]; exact hl
    obtain ⟨x', e1, q⟩ := Paired.getB h4 (i := i) (y := kvs[i]) (List.getElem?_eq_getElem hl2)
    rw [hi] at e1
    cases e1
    obtain ⟨q1, q2, q3, _⟩ := q
    exact ⟨nested_of I l q3 q1 rfl, q2⟩
end
/-! ### tables -/
def mapGet (kvs : List (D × D)) (d : D) : Option D := (kvs.find? fun p => PyData.eqv p.1 d).map (·.2)
def mapPut (kvs : List (D × D)) (d e : D) : List (D × D) := if (mapGet kvs d).isSome = true then kvs.map (fun p => if PyData.eqv p.1 d = true then (p.1, e) else p) else kvs ++ [(d, e)]
section
variable {K : PySem.W.Frag} {F : Hp}
theorem get_rel {d : D} {k : NestedKey} (hk : keyD d = some k) : ∀ {xs : List (NestedKey × Addr × Value)} {kvs : List (D × D)}, Paired (DKv K F) xs kvs → match mapGet kvs d with
    | some e => ∃ p v, atKey xs k = some p ∧ RelV v p.2 ∧ Dv K F v e
    | none => atKey xs k = none
  | _, _, .nil => rfl
  | x :: xs, p :: kvs, .cons h t => by
    have ih := get_rel hk t
    obtain ⟨h1, _, _, v, h4, h5⟩ := h
    have e := key_eqv h1 hk
    unfold mapGet atKey at *
    by_cases q : x.1 = k
    · have e1 : PyData.eqv p.1 d = true := by rw [e]; exact decide_eq_true q
      simp only [List.find?, e1, decide_eq_true q, Option.map_some]
      exact ⟨_, v, rfl, h4, h5⟩
    · have e1 : PyData.eqv p.1 d = false := by rw [e]; exact decide_eq_false q
      simp only [List.find?, e1, decide_eq_false q]
      exact ih
theorem get_some {d : D} {k : NestedKey} (hk : keyD d = some k) {xs : List (NestedKey × Addr × Value)} {kvs : List (D × D)} (h : Paired (DKv K F) xs kvs) : (atKey xs k).isSome = (mapGet kvs d).isSome := by
  have := get_rel hk h
  cases e : mapGet kvs d with
  | none => rw [e] at this; rw [show atKey xs k = none from this]; rfl
  | some z => rw [e] at this; obtain ⟨p, v, h1, _⟩ := this; rw [h1]; rfl
theorem put_old {d e : D} {k : NestedKey} {v : V} {u : Value} (hk : keyD d = some k) (rv : RelV v u) (dv : Dv K F v e) {xs : List (NestedKey × Addr × Value)} {kvs : List (D × D)} (h : Paired (DKv K F) xs kvs) : Paired (DKv K F) (xs.map (putAt k u)) (kvs.map fun p => if PyData.eqv p.1 d = true then (p.1, e) else p) := by
  induction h with
  | nil => exact .nil
  | @cons x p xs kvs q t ih =>
    refine .cons ?_ ih
    obtain ⟨h1, h2, h3, v', h4, h5⟩ := q
    have ee := key_eqv h1 hk
    unfold putAt
    show DKv K F _ (if PyData.eqv p.1 d = true then (p.1, e) else p)
    by_cases q : x.1 = k
    · have e1 : PyData.eqv p.1 d = true := by rw [ee]; exact decide_eq_true q
      rw [if_pos q, if_pos e1]
      exact ⟨h1, h2, h3, v, rv, dv⟩
    · have e1 : ¬ PyData.eqv p.1 d = true := by rw [ee]; simpa using q
      rw [if_neg q, if_neg e1]
      exact ⟨h1, h2, h3, v', h4, h5⟩
theorem put_new {d e : D} {k : NestedKey} {a : Addr} {v : V} {u : Value} (hk : keyD d = some k) (h8 : k.depth ≤ 8) (ka : Dv K F (.ref a) d) (rv : RelV v u) (dv : Dv K F v e) {xs : List (NestedKey × Addr × Value)} {kvs : List (D × D)} (h : Paired (DKv K F) xs kvs) : Paired (DKv K F) (xs ++ [(k, a, u)]) (kvs ++ [(d, e)]) := by
  induction h with
  | nil => exact .cons ⟨hk, h8, ka, v, rv, dv⟩ .nil
  | cons q t ih => exact .cons q ih
theorem put_rel {d e : D} {k : NestedKey} {a : Addr} {v : V} {u : Value} (hk : keyD d = some k) (h8 : k.depth ≤ 8) (ka : Dv K F (.ref a) d) (rv : RelV v u) (dv : Dv K F v e) {xs : List (NestedKey × Addr × Value)} {kvs : List (D × D)} (h : Paired (DKv K F) xs kvs) : Paired (DKv K F) (storedH xs k a u) (mapPut kvs d e) := by
  unfold storedH mapPut
  rw [← get_some hk h]
  split
  · exact put_old hk rv dv h
  · exact put_new hk h8 ka rv dv h
theorem mapPut_len (kvs : List (D × D)) (d e : D) : (mapPut kvs d e).length ≤ kvs.length + 1 := by
  unfold mapPut
  split <;> simp
end
end DL

set_option maxHeartbeats 4000000
/-! DLD2: rules over dicts whose keys are tuples. -/
namespace DL
open PySem PySem.Spec L2
open PyProof.Rows hiding St
theorem nroom {prog : Program} {w : World} {A : Around} (h : A.units + 16 < cLine) : (nestedKind prog w).room A.in1 := by
  show A.units + 1 + 8 < cLine
  omega
theorem Ok.units16 {X : Cx} {c : Cst} {W : XK} {k : Nat} (O : Ok X c W k) : X.A.units + 16 < cLine := by have := O.room.un; omega
/-- the object of such a dict, laid -/
theorem phi_ok {P : Program} {w : World} {h : Heap} {a : Addr} {xs : List (NestedKey × Addr × Value)} (m : h.DictOfH (nestedKind P w) a xs) : ∃ ep, ∀ H : Hp, ObjOk P w H h a (.ext (dictPhi w a ep xs)) := by
  obtain ⟨o, es, ep, g1, g2, g3, g4, _, _⟩ := m
  exact ⟨ep, fun H => ⟨⟨o, es, g1, g2, g3, g4⟩, ⟨o, g1⟩, fun h1 h2 ⟨o, es, g1, g2, g3, g4⟩ k => ⟨o, es, k _ g1, g2, g3, g4⟩⟩⟩
theorem phi_new {P : Program} {w : World} {H : Hp} (h : Heap) : ObjOk P w H (h.push { cls := .type "dict", data := .dict #[] }) h.objs.size (.ext (dictPhi w h.objs.size 0 [])) :=
  ⟨⟨_, #[], Heap.get?_push_size _ rfl, ⟨rfl, rfl, rfl⟩, rfl, rfl⟩, ⟨_, Heap.get?_push_size _ rfl⟩, fun h1 h2 ⟨o, es, g1, g2, g3, g4⟩ k => ⟨o, es, k _ g1, g2, g3, g4⟩⟩
section
variable {X : Cx} {c : Cst} {W : XK} {k : Nat} {e a b : Expr} {es : List Expr} {f g : M D} {pos p : Pos} {st : Stmt}

/-! ### new dicts -/
def tFm (K : PySem.W.Frag) (c : Cst) (W : XK) (f : M (List (D × D))) : TE := fun σ H Q => ∃ P ρ F, Good K c P σ ρ F H ∧ Post K c W P σ F (f ρ) fun kvs ρ' F' H' => ∀ p o H2, Good K c P σ ρ' F' H2 → P p = none → Good K c (upd P p o) σ ρ' F' H2 → H2 p = some o → MapAt K c F' H2 p kvs → Q (.ref p) H2
abbrev DM (X : Cx) (c : Cst) (W : XK) (e : Expr) (f : M (List (D × D))) : Prop := PE X e (tFm X.K c W f)
def mMNil : M (List (D × D)) := fun ρ => .ok ([], ρ)
theorem big_ne {s : Shared} {pins : List (Addr × Obj)} {σ : L2.St} {H : Hp} (I : L2.Inv X pins σ H s) : (s.heap.objs.size == sysModules) = false := beq_eq_false_iff_ne.mpr (Ne.symm (Nat.ne_of_lt I.big))
theorem dm_nil (cw : c.w = X.w) : DM X c W (.Dict [] [] pos) mMNil := by
  refine ⟨fun pins s σ H Q I ⟨P, ρ, F, G, q⟩ => ?_⟩
  have hn := I.hok.fresh (Nat.le_refl s.heap.objs.size)
  have new : ObjOk X.prog X.w (upd H s.heap.objs.size (.ext (dictPhi c.w s.heap.objs.size 0 []))) (s.heap.push { cls := .type "dict", data := .dict #[] }) s.heap.objs.size (.ext (dictPhi c.w s.heap.objs.size 0 [])) := by
    rw [cw]; exact phi_new s.heap
  obtain ⟨g1, g2, g3⟩ := G.pinNew (o := .ext (dictPhi c.w s.heap.objs.size 0 [])) hn
  exact wpAny_Dict_empty ⟨.ref s.heap.objs.size, _, I.laid (t' := s.toks) (fun _ _ q => Heap.get?_push_of_some _ q) (Nat.le_refl _) new, rfl, q.ok G _ _ _ g2 g3 g1 upd_same ⟨[], 0, upd_same, big_ne I, List.nodup_nil, .nil⟩⟩
/-- {k: v} -/
def mMOne (f g : M D) : M (List (D × D)) := fun ρ => (f ρ).bind fun x => (g x.2).bind fun y => if keyOk x.1 = true then .ok ([(x.1, y.1)], y.2) else .bad
theorem dm_one (cw : c.w = X.w) (hu : X.A.units + 16 < cLine) (ha : DE X c W a f) (hb : DE X c W b g) : DM X c W (.Dict [some a] [b] pos) (mMOne f g) := by
  refine ⟨fun pins s σ H Q I ⟨P, ρ, F, G, q⟩ => ?_⟩
  have hn := I.hok.fresh (Nat.le_refl s.heap.objs.size)
  have new : ObjOk X.prog X.w (upd H s.heap.objs.size (.ext (dictPhi c.w s.heap.objs.size 0 []))) (s.heap.push { cls := .type "dict", data := .dict #[] }) s.heap.objs.size (.ext (dictPhi c.w s.heap.objs.size 0 [])) := by
    rw [cw]; exact phi_new s.heap
  have I1 := I.laid (t' := s.toks) (fun _ _ q => Heap.get?_push_of_some _ q) (Nat.le_refl _) new
  obtain ⟨g1, g2, g3⟩ := G.pinNew (o := .ext (dictPhi c.w s.heap.objs.size 0 [])) hn
  have ev : tPairs [(tD X.K c W f, tD X.K c W g)] σ (upd H s.heap.objs.size (.ext (dictPhi c.w s.heap.objs.size 0 []))) (fun ps H2 => ∃ v u d e ρ2 F2, ps = [(v, u)] ∧ keyOk d = true ∧ Dv X.K F2 v d ∧ Dv X.K F2 u e ∧ Good X.K c (upd P s.heap.objs.size (.ext (dictPhi c.w s.heap.objs.size 0 []))) σ ρ2 F2 H2 ∧
      Post X.K c W P σ F2 (.ok ([(d, e)], ρ2)) fun kvs ρ' F' H' => ∀ p o H2, Good X.K c P σ ρ' F' H2 → P p = none → Good X.K c (upd P p o) σ ρ' F' H2 → H2 p = some o → MapAt X.K c F' H2 p kvs → Q (.ref p) H2) := by
    refine ⟨_, ρ, F, g1, (Post.pinned g3 q.bind).mono fun d ρ1 F1 H1 G1 l1 q1 v dv => ⟨_, ρ1, F1, G1, (Post.pinned g3 q1.bind).mono fun e ρ2 F2 H2 G2 l2 q2 u du => ?_⟩⟩
    obtain ⟨hk, q2⟩ := Post.ite q2
    exact ⟨v, u, d, e, ρ2, F2, rfl, hk, Dv.le l2 dv, du, G2, q2⟩
  have hall : ([some a] : List (Option Expr)).all (·.isSome) = true := rfl
  rw [arm_eval_Dict, zip_pairTrees [some a] [b] X.env pos hall rfl, dictDisplay_pairs (pairTrees [some a] [b] X.env pos) (fun z => nomatch z) (Nat.le_of_ble_eq_true rfl)]
  refine wpAny_bind (wpAny_standAt (wpAny_bind (wpAny_subDictH (knd := nestedKind X.prog X.w) (Q := fun d s' => wpAny (model X.prog X.w) X.A (pure (Value.ref d)) (EP X pins σ Q) X.xe s') (show X.A.units + 8 < cLine by omega) (Nat.le_of_ble_eq_true rfl) (thn ((pps_cons ha hb pps_nil).run pins _ σ _ _ I1 ev) fun ws s2 ⟨ps, H2, I2, rel, v, u, d, e, ρ2, F2, eps, hk, dv, du, G2, q2⟩ => ?_))))
  subst eps
  cases rel with
  | @cons _ y _ ys r r0 =>
    cases r0
    obtain ⟨y1, y2⟩ := y
    obtain ⟨r1, r2⟩ := r
    obtain ⟨ad, kk, rfl, ey, hkd, h8, hkey⟩ := key_is I2 G2.le dv r1 hk
    have ey : y1 = .ref ad := ey
    subst ey
    obtain ⟨p1, p2⟩ := G2.pin _ _ upd_same
    have m0 : MapAt X.K c F2 H2 s.heap.objs.size [] := ⟨[], 0, p1, big_ne I, List.nodup_nil, .nil⟩
    obtain ⟨xs, dd, _, pr⟩ := map_at I2 cw G2.le m0
    cases pr
    refine ⟨[(kk, ad, y2)], ⟨rfl, rfl, hkey, trivial⟩, dd, fun h' tk dd' hs => wpAny_pure ?_⟩
    have e1 : storedAllH [] [(kk, ad, y2)] = [(kk, ad, y2)] := rfl
    rw [e1] at dd'
    have he : ∃ q, h'.get? s.heap.objs.size = some q := by obtain ⟨q, _, _, hq, _⟩ := dd'; exact ⟨q, hq⟩
    obtain ⟨ep, po⟩ := phi_ok dd'
    have I3 := d_write (t' := tk) (ob := .ext (dictPhi c.w s.heap.objs.size ep [(kk, ad, y2)])) I2 (by rw [p1]; exact True.intro) hs he (by rw [cw]; exact po _)
    have G3 := G2.repin (u := .ext (dictPhi c.w s.heap.objs.size ep [(kk, ad, y2)])) g3
    exact ⟨.ref s.heap.objs.size, _, I3, rfl, q2.ok (G3.drop g3) _ _ _ (G3.drop g3) g3 G3 upd_same ⟨[(kk, ad, y2)], ep, upd_same, big_ne I, by simp, .cons ⟨hkd, h8, dv, u, r2, du⟩ .nil⟩⟩

/-! ### x = {..} -/
def sOwnM (i : Nat) (f : M (List (D × D))) : S := fun ρ => (f ρ).bind fun x => .ok (.nx, x.2.set i (.m x.1))
theorem Good.ownM {K : PySem.W.Frag} {P : Hp} {σ : L2.St} {ρ : Env} {F H : Hp} {p : Addr} {o : HO} {kvs : List (D × D)} (G : Good K c P σ ρ F H) (Gp : Good K c (upd P p o) σ ρ F H) (hp : P p = none) (m : MapAt K c F H p kvs) (i : Nat) :
    Good K c P (σ.set i (some (.ref p))) (ρ.set i (.m kvs)) F H := by
  obtain ⟨h1, h2⟩ := Gp.pin p _ upd_same
  refine G.set (s := .m kvs) ⟨p, rfl, m, h2, hp⟩ fun j s' a _ hj _ m' e r => ?_
  cases e
  have := (SlotOk.has (Gp.sl j s' hj) m' r).2.2
  rw [upd_same] at this
  cases this
theorem tAsg_ownM {f : M (List (D × D))} {i : Nat} {E : Ends} {σ : L2.St} {H : Hp} (q : tS X.K c W (sOwnM i f) E σ H) : tAsg (tFm X.K c W f) (gName i) E σ H := by
  obtain ⟨P, ρ, F, G, p⟩ := q
  exact ⟨P, ρ, F, G, p.ofE.mono fun kvs ρ1 F1 H1 G1 _ p1 a o H2 G2 hp Gp ho m => p1.ok (G2.ownM Gp hp m i)⟩
theorem ds_ownM {f : M (List (D × D))} {i : Nat} (h : PS X st (tAsg (tFm X.K c W f) (gName i))) : DS X c W st (sOwnM i f) := PS.imp h fun _ _ _ q => tAsg_ownM q

/-! ### in, not in -/
def rInM (K : PySem.W.Frag) (c : Cst) (ng : Bool) : R2 := fun x y H Q => ∃ F d a kvs, DL.le F H ∧ Dv K F x d ∧ keyOk d = true ∧ y = .ref a ∧ MapAt K c F H a kvs ∧ Q (.bl (ng != (mapGet kvs d).isSome)) H
theorem op_inM (cw : c.w = X.w) (hu : X.A.units + 16 < cLine) : OpR X (compareOp .In) (rInM X.K c false) := by
  intro pins s σ H x y v u Q I rx ry ⟨F, d, a, kvs, l, dv, hk, ey, m, q⟩
  subst ey
  cases ry
  obtain ⟨ad, kk, rfl, rfl, hkd, h8, hkey⟩ := key_is I l dv rx hk
  obtain ⟨xs, dd, hs, pr⟩ := map_at I cw l m
  refine wpAny_in_heap (nroom hu) hkey hs dd ⟨.bl _, H, I.tok _, rfl, ?_⟩
  rw [get_some hkd pr, ← Bool.false_bne (mapGet kvs d).isSome]
  exact q
theorem op_notInM (cw : c.w = X.w) (hu : X.A.units + 16 < cLine) : OpR X (compareOp .NotIn) (rInM X.K c true) := by
  intro pins s σ H x y v u Q I rx ry ⟨F, d, a, kvs, l, dv, hk, ey, m, q⟩
  subst ey
  cases ry
  obtain ⟨ad, kk, rfl, rfl, hkd, h8, hkey⟩ := key_is I l dv rx hk
  obtain ⟨xs, dd, hs, pr⟩ := map_at I cw l m
  refine wpAny_notIn_heap (nroom hu) hkey hs dd ⟨.bl _, H, I.tok _, rfl, ?_⟩
  rw [get_some hkd pr, ← Bool.true_bne (mapGet kvs d).isSome]
  exact q
/-- the dict at a slot, owned or frozen -/
def dictAt : Option Slot → Option (List (D × D))
  | some (.m kvs) => some kvs
  | some (.f kvs) => some kvs
  | _ => none
theorem dict_slot {K : PySem.W.Frag} {P : Hp} {σ : L2.St} {ρ : Env} {F H : Hp} {i : Nat} {kvs : List (D × D)} (G : Good K c P σ ρ F H) (h : dictAt ρ[i]? = some kvs) : ∃ a, (σ[i]?).join = some (.ref a) ∧ MapAt K c F H a kvs := by
  cases e : ρ[i]? with
  | none => rw [e] at h; cases h
  | some s =>
    rw [e] at h
    have q := G.sl i s e
    cases s <;> (try (cases h; done))
    · cases h
      obtain ⟨a, e1, e2, _⟩ := q
      exact ⟨a, e1, e2⟩
    · cases h
      obtain ⟨a, e1, e2⟩ := q
      exact ⟨a, e1, e2.le le.refl fun o z => G.le _ _ z⟩
def mInM (ng : Bool) (i : Nat) (f : M D) : M D := fun ρ => (f ρ).bind fun x => if keyOk x.1 = true then (match dictAt x.2[i]? with
  | some kvs => .ok (.bool (ng != (mapGet kvs x.1).isSome), x.2)
  | none => .bad) else .bad
theorem inM_pre {ng : Bool} {i : Nat} {σ : L2.St} {H : Hp} {Q : VK} (q : tD X.K c W (mInM ng i f) σ H Q) : tOp (rInM X.K c ng) (tD X.K c W f) (tVar i) σ H Q := by
  obtain ⟨P, ρ, F, G, q⟩ := q
  refine ⟨P, ρ, F, G, q.bind.mono fun d ρ1 F1 H1 G1 l1 q1 v dv => ?_⟩
  obtain ⟨hk, q1⟩ := Post.ite q1
  cases e : dictAt ρ1[i]? with
  | none => simp only [e] at q1; exact q1.elim
  | some kvs =>
    simp only [e] at q1
    obtain ⟨a, e1, m⟩ := dict_slot G1 e
    exact ⟨_, join_some e1, F1, d, a, kvs, G1.le, dv, hk, rfl, m, q1.ok G1 _ (.bl _)⟩
theorem de_inM {i : Nat} {o : Expr} (O : Ok X c W k) (ha : DE X c W a f) (ho : PE X o (tVar i)) (hm : behindInMarks .In o = false := by rfl) : DE X c W (.Compare a [.In] [o] pos) (mInM false i f) := PE.imp (pe_cmpR (op_inM O.cw O.units16) ha ho hm) fun _ _ _ q => inM_pre q
theorem de_notInM {i : Nat} {o : Expr} (O : Ok X c W k) (ha : DE X c W a f) (ho : PE X o (tVar i)) (hm : behindInMarks .NotIn o = false := by rfl) : DE X c W (.Compare a [.NotIn] [o] pos) (mInM true i f) := PE.imp (pe_cmpR (op_notInM O.cw O.units16) ha ho hm) fun _ _ _ q => inM_pre q
theorem dt_inM {i : Nat} {o : Expr} (O : Ok X c W k) (ha : DE X c W a f) (ho : PE X o (tVar i)) (hm : behindInMarks .In o = false := by rfl) : DT X c W (.Compare a [.In] [o] pos) (mBool (mInM false i f)) := PT.imp (pt_cmpR (op_inM O.cw O.units16) ha ho hm) fun _ _ _ q => inM_pre (tB_of q)
theorem dt_notInM {i : Nat} {o : Expr} (O : Ok X c W k) (ha : DE X c W a f) (ho : PE X o (tVar i)) (hm : behindInMarks .NotIn o = false := by rfl) : DT X c W (.Compare a [.NotIn] [o] pos) (mBool (mInM true i f)) := PT.imp (pt_cmpR (op_notInM O.cw O.units16) ha ho hm) fun _ _ _ q => inM_pre (tB_of q)
end
end DL

set_option maxHeartbeats 4000000
/-! DLD3: looks into dicts, stores, their keys as a list, walks over them. -/
namespace DL
open PySem PySem.Spec L2
open PyProof.Rows hiding St
section
variable {X : Cx} {c : Cst} {W : XK} {k : Nat} {e a b tg : Expr} {es : List Expr} {f g : M D} {pos p pos' apos cpos : Pos} {st : Stmt}
/-! ### d[k] -/
def rIxM (K : PySem.W.Frag) (c : Cst) : R2 := fun x y H Q => ∃ F d a kvs z, DL.le F H ∧ Dv K F y d ∧ keyOk d = true ∧ x = .ref a ∧ MapAt K c F H a kvs ∧ mapGet kvs d = some z ∧ ∀ w, Dv K F w z → Q w H
theorem ix_map (cw : c.w = X.w) (hu : X.A.units + 16 < cLine) : IxR X (rIxM X.K c) := by
  intro value slice pins s σ H x y v u Q I rx ry ⟨F, d, a, kvs, z, l, dv, hk, ex, m, hz, q⟩ hs
  subst ex
  cases rx
  obtain ⟨ad, kk, rfl, rfl, hkd, h8, hkey⟩ := key_is I l dv ry hk
  obtain ⟨xs, dd, hsy, pr⟩ := map_at I cw l m
  have g := get_rel hkd pr
  rw [hz] at g
  obtain ⟨p, w, e1, e2, e3⟩ := g
  exact subscriptTail_builtinR (x := p.2) dd.typeIs PySem.F.slot_dict_getitem.lookup (wpAny_getItem_heap (Q := fun r s' => r = p.2 ∧ EP X pins σ Q r s') (nroom hu) hkey dd e1 ⟨rfl, w, H, I.tok _, e2, q w e3⟩) hs
def mIxM (i : Nat) (f : M D) : M D := fun ρ => if (dictAt ρ[i]?).isSome = true then (f ρ).bind fun y => if keyOk y.1 = true then (match dictAt y.2[i]? with
  | some kvs => (ofO (mapGet kvs y.1)).map fun z => (z, y.2)
  | none => .bad) else .bad else .bad
theorem dict_there {K : PySem.W.Frag} {P : Hp} {σ : L2.St} {ρ : Env} {F H : Hp} {i : Nat} (G : Good K c P σ ρ F H) (h : (dictAt ρ[i]?).isSome = true) : ∃ a, (σ[i]?).join = some (.ref a) := by
  obtain ⟨kvs, e⟩ := Option.isSome_iff_exists.mp h
  obtain ⟨a, e1, _⟩ := dict_slot G e
  exact ⟨a, e1⟩
theorem de_ixM {i : Nat} (O : Ok X c W k) (ha : PE X a (tVar i)) (hb : DE X c W b f) (hs : PlainIx b) : DE X c W (.Subscript a b pos) (mIxM i f) :=
  PE.imp (pe_ix (ix_map O.cw O.units16) ha hb hs) fun σ H Q ⟨P, ρ, F, G, q⟩ => by
    obtain ⟨h0, q⟩ := Post.ite q
    obtain ⟨A, eA⟩ := dict_there G h0
    refine ⟨_, join_some eA, P, ρ, F, G, q.bind.mono fun d ρ1 F1 H1 G1 l1 q1 v dv => ?_⟩
    obtain ⟨hk, q1⟩ := Post.ite q1
    cases e : dictAt ρ1[i]? with
    | none => simp only [e] at q1; exact q1.elim
    | some kvs =>
      simp only [e] at q1
      obtain ⟨z, hz, q2⟩ := q1.lift
      obtain ⟨a, e1, m⟩ := dict_slot G1 e
      rw [eA] at e1
      cases e1
      exact ⟨F1, d, A, kvs, z, G1.le, dv, hk, rfl, m, hz, fun w dw => q2.ok G1 w dw⟩

/-! ### d.get(k, x) -/
def mGetM (i : Nat) (f g : M D) : M D := fun ρ => if (dictAt ρ[i]?).isSome = true then (f ρ).bind fun x => (g x.2).bind fun y => if keyOk x.1 = true then (match dictAt y.2[i]? with
  | some kvs => .ok ((mapGet kvs x.1).getD y.1, y.2)
  | none => .bad) else .bad else .bad
theorem de_getM {i : Nat} {o : Expr} (O : Ok X c W k) (ho : PE X o (tVar i)) (ha : DE X c W a f) (hb : DE X c W b g) (m : M2 X o "get" apos a b cpos) : DE X c W (.Call (.Attribute o "get" apos) [a, b] [] cpos) (mGetM i f g) := by
  refine ⟨fun pins s σ H Q I ⟨P, ρ, F, G, q⟩ => ?_⟩
  obtain ⟨h0, q⟩ := Post.ite q
  obtain ⟨A, eA⟩ := dict_there G h0
  obtain ⟨kv0, hk0⟩ := Option.isSome_iff_exists.mp h0
  have typ : ∀ {s1 : Shared} {ρ1 : Env} {F1 H1 : Hp} {kvs : List (D × D)}, L2.Inv X pins σ H1 s1 → Good X.K c P σ ρ1 F1 H1 → dictAt ρ1[i]? = some kvs → ∃ xs, s1.heap.DictOfH (nestedKind X.prog X.w) A xs ∧ (A == sysModules) = false ∧ Paired (DKv X.K F1) xs kvs := fun {s1 ρ1 F1 H1 kvs} I1 G1 e => by
    obtain ⟨a, e1, mm⟩ := dict_slot G1 e
    rw [eA] at e1
    cases e1
    exact map_at I1 O.cw G1.le mm
  refine wpAny_Call_method m.base m.few m.line PySem.F.plainAttrs_dict PySem.F.slot_dict_get PySem.F.type_dict_get (thn (ho.run pins s σ H (fun v H1 => v = .ref A ∧ H1 = H) I ⟨_, join_some eA, rfl, rfl⟩) fun vo s0 ⟨vv, H0, I0, rv, e1, e2⟩ => ?_)
  subst e1 e2
  cases rv
  obtain ⟨xs0, dd0, _, _⟩ := typ I0 G hk0
  refine ⟨dd0.typeIs, fun b0 eb => ?_, ?_⟩
  · cases eb
    obtain ⟨o, _, _, g1, g2, _⟩ := dd0
    exact ⟨o, g1, g2.2.1⟩
  rw [m.trees]
  refine Calls.callWith_builtin rfl (Calls.evalArgs_plain (Calls.spliced_cons (thn (ha.run pins s0 σ _ (fun v H1 => ∃ d ρ1 F1, Good X.K c P σ ρ1 F1 H1 ∧ Dv X.K F1 v d ∧ Post X.K c W P σ F1 ((g ρ1).bind fun y => if keyOk d = true then (match dictAt y.2[i]? with
    | some kvs => Res.ok ((mapGet kvs d).getD y.1, y.2)
    | none => .bad) else .bad) fun d _ F' H' => ∀ v, Dv X.K F' v d → Q v H') I0 ⟨P, ρ, F, G, q.bind.mono fun d ρ1 F1 H1 G1 l1 q1 v dv => ⟨d, ρ1, F1, G1, dv, q1⟩⟩) fun u s1 ⟨v, H1, I1, ru, d, ρ1, F1, G1, dv, q1⟩ => ?_)))
  refine Calls.spliced_cons (thn (hb.run pins s1 σ H1 (fun v' H2 => ∃ e ρ2 F2 kvs, keyOk d = true ∧ dictAt ρ2[i]? = some kvs ∧ Good X.K c P σ ρ2 F2 H2 ∧ DL.le F1 F2 ∧ Dv X.K F2 v' e ∧ ∀ v, Dv X.K F2 v ((mapGet kvs d).getD e) → Q v H2) I1 ⟨P, ρ1, F1, G1, q1.bind.mono fun e ρ2 F2 H2 G2 l2 q2 v' dv' => ?_⟩) fun u2 s2 ⟨v', H2, I2, ru2, e, ρ2, F2, kvs, hk, hd, G2, l2, dv', q2⟩ => Calls.spliced_nil ?_)
  · obtain ⟨hk, q2⟩ := Post.ite q2
    cases eq : dictAt ρ2[i]? with
    | none => simp only [eq] at q2; exact q2.elim
    | some kvs =>
      simp only [eq] at q2
      exact ⟨e, ρ2, F2, kvs, hk, eq, G2, l2, dv', q2.ok G2⟩
  · obtain ⟨xs, dd, hsy, pr⟩ := typ I2 G2 hd
    obtain ⟨ad, kk, rfl, rfl, hkd, h8, hkey⟩ := key_is I2 G2.le (Dv.le l2 dv) ru hk
    have gr := get_rel hkd pr
    refine call_meetsIn PySem.F.slot_dict_get dd.typeIs PySem.F.entry_dict_get (PySem.F.args_dict_get_3 _ _ _) (meetsH_dict_get_default (nestedKind X.prog X.w) A ad hsy u2) ⟨nroom O.units16, kk, xs, hkey, dd, ?_⟩
    cases hg : mapGet kvs d with
    | none =>
      rw [hg] at gr q2
      rw [show atKey xs kk = none from gr]
      exact ⟨v', H2, I2.tok _, ru2, q2 v' dv'⟩
    | some z =>
      rw [hg] at gr q2
      obtain ⟨pp, w, e1, e2, e3⟩ := gr
      rw [e1]
      exact ⟨w, H2, I2.tok _, e2, q2 w e3⟩

/-! ### d[k] = v -/
def sPutM (i : Nat) (f g : M D) : S := fun ρ => (g ρ).bind fun y => if (dictAt y.2[i]?).isSome = true then (f y.2).bind fun x => if keyOk x.1 = true then (match x.2[i]? with
  | some (.m kvs) => if kvs.length < lim then .ok (.nx, x.2.set i (.m (mapPut kvs x.1 y.1))) else .bad
  | _ => .bad) else .bad else .bad
theorem Good.putM {K : PySem.W.Frag} {P : Hp} {σ : L2.St} {ρ : Env} {F H : Hp} {i : Nat} {kvs ls : List (D × D)} {a : Addr} {o : HO} (G : Good K c P σ ρ F H) (h : ρ[i]? = some (.m kvs)) (ha : (σ[i]?).join = some (.ref a)) (m : MapAt K c F (upd H a o) a ls) :
    Good K c P σ (ρ.set i (.m ls)) F (upd H a o) := by
  obtain ⟨a', e, mm, fn, pn⟩ := G.sl i _ h
  rw [e] at ha; cases ha
  have hi : i < ρ.length := by rw [List.getElem?_eq_some_iff] at h; exact h.1
  refine ⟨fun x o z => ?_, fun x o z => ?_, by simp [G.len], fun j s hj => ?_, fun j j' s s' b hn hj hj' m1 m2 r r' => ?_⟩
  · rw [upd_ne (ne_of_none z fn)]; exact G.le x o z
  · rw [upd_ne (ne_of_none z pn)]; exact G.pin x o z
  · by_cases hij : i = j
    · subst hij
      rw [List.getElem?_set_self hi] at hj
      cases hj
      exact ⟨a, e, m, fn, pn⟩
    · rw [List.getElem?_set_ne hij] at hj
      refine SlotOk.side le.refl (G.sl j s hj) (fun b o m1 r z => ?_) (fun _ _ _ z => z) fun _ _ _ z => z
      have : b ≠ a := fun eb => by subst eb; exact G.ap i j _ s b hij h hj rfl m1 e r
      rw [upd_ne this]; exact z
  · by_cases hij : i = j
    · subst hij
      rw [List.getElem?_set_self hi] at hj
      cases hj
      rw [List.getElem?_set_ne hn] at hj'
      exact G.ap i j' _ s' b hn h hj' rfl m2 r r'
    · by_cases hij' : i = j'
      · subst hij'
        rw [List.getElem?_set_self hi] at hj'
        cases hj'
        rw [List.getElem?_set_ne hij] at hj
        exact G.ap j i s _ b hn hj h m1 rfl r r'
      · rw [List.getElem?_set_ne hij] at hj
        rw [List.getElem?_set_ne hij'] at hj'
        exact G.ap j j' s s' b hn hj hj' m1 m2 r r'
theorem ds_putM {i : Nat} {o : Expr} (O : Ok X c W k) (ho : PE X o (tVar i)) (ha : DE X c W a f) (hv : DE X c W b g) (hs : swapsWith b (some (.Subscript o a pos')) pos.line X.env = pure false := by rfl) :
    DS X c W (.Assign [.Subscript o a pos'] b pos) (sPutM i f g) := by
  refine ⟨fun pins s σ H E I ⟨P, ρ, F, G, q⟩ => ?_⟩
  refine wpAny_Assign_Subscript (thn (hv.run pins s σ H (fun v H1 => ∃ y ρ1 F1 A, Good X.K c P σ ρ1 F1 H1 ∧ Dv X.K F1 v y ∧ (σ[i]?).join = some (.ref A) ∧ PostS X.K c W P F1 ((f ρ1).bind fun x => if keyOk x.1 = true then (match x.2[i]? with
    | some (.m kvs) => if kvs.length < lim then Res.ok (Fl.nx, x.2.set i (.m (mapPut kvs x.1 y))) else .bad
    | _ => .bad) else .bad) (RS X.K E)) I ⟨P, ρ, F, G, q.ofE.mono fun y ρ1 F1 H1 G1 l1 q1 v dv => ?_⟩) fun r s1 ⟨v, H1, I1, rv, y, ρ1, F1, A, G1, dv, eA, q1⟩ => thn (ho.run pins s1 σ H1 (fun v H2 => v = .ref A ∧ H2 = H1) I1 ⟨_, join_some eA, rfl, rfl⟩) fun u s2 ⟨x, H2, I2, rx, ex, eH⟩ => ?_) hs
  · obtain ⟨h0, q1⟩ := PostS.ite q1
    obtain ⟨A, eA⟩ := dict_there G1 h0
    exact ⟨y, ρ1, F1, A, G1, dv, eA, q1⟩
  · subst ex eH
    cases rx
    refine thn (ha.run pins s2 σ H2 (fun kv H3 => ∃ d ρ3 F3 kvs, Good X.K c P σ ρ3 F3 H3 ∧ DL.le F1 F3 ∧ Dv X.K F3 kv d ∧ keyOk d = true ∧ ρ3[i]? = some (.m kvs) ∧ kvs.length < lim ∧ PostS X.K c W P F3 (.ok (Fl.nx, ρ3.set i (.m (mapPut kvs d y)))) (RS X.K E)) I2 ⟨P, ρ1, F1, G1, q1.ofE.mono fun d ρ3 F3 H3 G3 l3 q3 kv dk => ?_⟩) fun iv s3 ⟨kv, H3, I3, rk, d, ρ3, F3, kvs, G3, l3, dk, hk, hm, hl, q3⟩ => ?_
    · obtain ⟨hk, q3⟩ := PostS.ite q3
      cases e3 : ρ3[i]? with
      | none => simp only [e3] at q3; exact q3.elim
      | some s =>
        cases s <;> (try (simp only [e3] at q3; exact q3.elim))
        rename_i kvs
        simp only [e3] at q3
        obtain ⟨hl, q3⟩ := PostS.ite q3
        exact ⟨d, ρ3, F3, kvs, G3, l3, dk, hk, e3, hl, q3⟩
    · obtain ⟨ad, kk, rfl, rfl, hkd, h8, hkey⟩ := key_is I3 G3.le dk rk hk
      obtain ⟨a', e1, mm, fn, pn⟩ := G3.sl i _ hm
      rw [eA] at e1
      cases e1
      obtain ⟨xs, ep0, hx, hsy, nd, pr0⟩ := id mm
      obtain ⟨xs', dd, _, pr⟩ := map_at I3 O.cw G3.le mm
      have hz : xs'.length ≤ sizeLine := by rw [Paired.length pr]; exact Nat.le_trans (Nat.le_of_lt hl) (by decide)
      refine wpAny_setItem_heap (hsz := hz) (nroom O.units16) hkey dd fun h' dd' hsb => ?_
      have he : ∃ q, h'.get? A = some q := by obtain ⟨q, _, _, hq, _⟩ := id dd'; exact ⟨q, hq⟩
      have nd' : ((storedH xs' kk ad r).map (·.1)).Nodup := by obtain ⟨_, _, _, _, _, _, _, _, h⟩ := id dd'; exact h
      obtain ⟨ep, po⟩ := phi_ok dd'
      have I4 := d_write (t' := s3.toks + (nestedKind X.prog X.w).draws kk) (ob := .ext (dictPhi c.w A ep (storedH xs' kk ad r))) I3 (by rw [hx]; exact True.intro) hsb he (by rw [O.cw]; exact po _)
      have M4 : MapAt X.K c F3 (upd H3 A (.ext (dictPhi c.w A ep (storedH xs' kk ad r)))) A (mapPut kvs d y) := ⟨_, ep, upd_same, hsy, nd', put_rel hkd h8 dk rv (Dv.le l3 dv) pr⟩
      exact ⟨σ, _, I4, q3.ok (G3.putM hm eA M4)⟩
end
end DL

set_option maxHeartbeats 4000000
/-! DLD4: a dict's keys as a list, a walk over a dict, a dict moved to another name. -/
namespace DL
open PySem PySem.Spec L2
open PyProof.Rows hiding St
section
variable {X : Cx} {c : Cst} {W : XK} {k : Nat} {e a b tg : Expr} {es : List Expr} {f g : M D} {pos p pos' apos cpos : Pos} {st : Stmt}
theorem keys_dv {K : PySem.W.Frag} {F : Hp} : ∀ {xs : List (NestedKey × Addr × Value)} {kvs : List (D × D)}, Paired (DKv K F) xs kvs → DvAll K F (xs.map fun x => V.ref x.2.1) (kvs.map (·.1))
  | _, _, .nil => .nil
  | _, _, .cons h t => .cons h.2.2.1 (keys_dv t)
/-! ### list(d) -/
def rListM (K : PySem.W.Frag) (c : Cst) : List V → Hp → VK → Prop := fun xs H Q => ∃ F a kvs, xs = [.ref a] ∧ DL.le F H ∧ MapAt K c F H a kvs ∧ kvs.length ≤ lim ∧ ∀ p vs, H p = none → DvAll K F vs (kvs.map (·.1)) → Q (.ref p) (upd H p (.lst vs))
theorem cr_listM (cw : c.w = X.w) (hc : X.calm = true) : CallR X (.type "list") (rListM X.K c) := by
  rintro pins s σ H xs us Q I r ⟨F, a, kvs, rfl, l, m, hl, q⟩
  cases r with
  | cons r1 r2 =>
    cases r2
    cases r1
    obtain ⟨xs, dd, hsy, pr⟩ := map_at I cw l m
    obtain ⟨es, ep, hr, hz, he⟩ := dd.raw
    have hn : es.size ≤ sizeLine := by rw [hz, Paired.length pr]; exact lim_line hl
    refine PySem.W.kdl_call (PySem.KdlSrc.rawDict hsy) (I.ok.hd hc) hr hn fun h' tk acc' c' hk hD hacc => ?_
    have rel : Vals (xs.map fun x => V.ref x.2.1) acc'.toList := by
      have key : ∀ (vs : List V) (us : List Value), vs.length = us.length → (∀ (i : Nat) v u, vs[i]? = some v → us[i]? = some u → RelV v u) → Vals vs us := fun vs => by
        induction vs with
        | nil => intro us h _; cases us with | nil => exact .nil | cons _ _ => cases h
        | cons v vs ih =>
          intro us h k
          cases us with
          | nil => cases h
          | cons u us => exact .cons (k 0 v u rfl rfl) (ih us (by simpa using h) fun i v u h1 h2 => k (i + 1) v u (by simpa using h1) (by simpa using h2))
      refine key _ _ (by rw [List.length_map, Array.length_toList]; exact hz.symm.trans hacc.1.symm) fun i v u h1 h2 => ?_
      obtain ⟨hi, e1⟩ := hacc.2 i u (by simpa using h2)
      obtain ⟨y, hy, e2, _, _⟩ := he i hi
      rw [List.getElem?_map, hy] at h1
      cases h1
      rw [e1, e2]
      rfl
    refine ⟨.ref s.heap.objs.size, _, I.laid (t' := tk) (o := .lst (xs.map fun x => V.ref x.2.1)) hk (Nat.le_refl _) ⟨?_, acc'.toList, c', rel, by simpa using hD⟩, rfl, q _ _ (I.hok.fresh (Nat.le_refl _)) (keys_dv pr)⟩
    rw [List.length_map, Paired.length pr]
    exact lim_line hl
def mKeysL (i : Nat) : M (List D) := fun ρ => match dictAt ρ[i]? with
  | some kvs => if kvs.length ≤ lim then .ok (kvs.map (·.1), ρ) else .bad
  | none => .bad
theorem df_keys {i : Nat} {x : Str} {o : Expr} (O : Ok X c W k) (hg : Gl X x) (hm : X.mg x = none) (hv : bootBuiltins x = some (.type "list")) (ho : PE X o (tVar i)) (hn : x ≠ "__name__" := by decide) (hdb : (x == ("__debug__" : Str)) = false := by decide)
    (hs : starEach [o] X.env = (false, eval o X.env) :: starEach [] X.env := by rfl) (hpl : (backTo pos (starEach [] X.env)).any (·.1) = false := by rfl) : DF X c W (.Call (.Name x p) [o] [] pos) (mKeysL i) :=
  PE.imp (pe_callTy (cr_listM O.cw O.calm) hg hm hv (pa_cons ho pa_nil hs) hn hdb hs hpl) fun σ H Q ⟨P, ρ, F, G, q⟩ => by
    unfold mKeysL at q
    cases e : dictAt ρ[i]? with
    | none => simp only [e] at q; exact q.elim
    | some kvs =>
      simp only [e] at q
      obtain ⟨hl, q⟩ := Post.ite q
      obtain ⟨a, e1, m⟩ := dict_slot G e
      refine ⟨_, join_some e1, F, a, kvs, rfl, G.le, m, hl, fun pp vs hp dv => ?_⟩
      obtain ⟨g1, g2, g3⟩ := G.pinNew (o := .lst vs) hp
      exact q.ok G pp vs _ g2 g3 g1 dv

/-! ### for k in d -/
theorem Good.freezeM {K : PySem.W.Frag} {P : Hp} {σ : L2.St} {ρ : Env} {F H : Hp} {i : Nat} {kvs : List (D × D)} (G : Good K c P σ ρ F H) (h : ρ[i]? = some (.m kvs)) :
    ∃ a F', (σ[i]?).join = some (.ref a) ∧ Good K c P σ (ρ.set i (.f kvs)) F' H ∧ DL.le F F' ∧ MapAt K c F' F' a kvs := by
  obtain ⟨a, e, q, fn, pn⟩ := G.sl i _ h
  obtain ⟨xs, ep, hl, hsy, nd, pr⟩ := id q
  have hi : i < ρ.length := by rw [List.getElem?_eq_some_iff] at h; exact h.1
  generalize hob : HO.ext (dictPhi c.w a ep xs) = ob at hl
  have lF : DL.le F (upd F a ob) := fun x o z => by rw [upd_ne (ne_of_none z fn)]; exact z
  have lH : DL.le (upd F a ob) H := fun x o z => by
    by_cases hx : x = a
    · subst hx; rw [upd_same] at z; cases z; exact hl
    · rw [upd_ne hx] at z; exact G.le x o z
  have mm : MapAt K c (upd F a ob) (upd F a ob) a kvs := ⟨xs, ep, by rw [upd_same, hob], hsy, nd, Paired.mapP pr fun _ _ z => z.le lF⟩
  have other : ∀ (j : Nat) s b, i ≠ j → ρ[j]? = some s → s.mutb = true → (σ[j]?).join = some (.ref b) → b ≠ a := fun j s b hij hj hm hb hba => by
    subst hba
    exact G.ap i j _ s b hij h hj rfl hm e hb
  refine ⟨a, upd F a ob, e, ⟨lH, fun x o z => ⟨(G.pin x o z).1, ?_⟩, by simp [G.len], fun j s hj => ?_, fun j j' s s' b hn hj hj' m m' r r' => ?_⟩, lF, mm⟩
  · rw [upd_ne (ne_of_none z pn)]; exact (G.pin x o z).2
  · by_cases hij : i = j
    · subst hij
      rw [List.getElem?_set_self hi] at hj
      cases hj
      exact ⟨_, e, mm⟩
    · rw [List.getElem?_set_ne hij] at hj
      exact SlotOk.side lF (G.sl j s hj) (fun _ _ _ _ z => z) (fun b hm r z => by rw [upd_ne (other j s b hij hj hm r)]; exact z) fun _ _ _ z => z
  · by_cases hij : i = j
    · subst hij
      rw [List.getElem?_set_self hi] at hj
      cases hj; cases m
    · by_cases hij' : i = j'
      · subst hij'
        rw [List.getElem?_set_self hi] at hj'
        cases hj'; cases m'
      · rw [List.getElem?_set_ne hij] at hj
        rw [List.getElem?_set_ne hij'] at hj'
        exact G.ap j j' s s' b hn hj hj' m m' r r'
/-- the keys of a dict that stands still -/
def ItM (w : World) (a : Addr) (ep : Nat) (xs : List (NestedKey × Addr × Value)) : It := ⟨fun i H => i < xs.length ∧ H a = some (.ext (dictPhi w a ep xs)), fun i H v H' => H' = H ∧ ∃ x, xs[i]? = some x ∧ v = .ref x.2.1, fun i H => i = xs.length ∧ H a = some (.ext (dictPhi w a ep xs))⟩
theorem turn_map {P : Program} {w : World} {K : PySem.W.Frag} {tg : Expr} {ep : Nat} {xs : List (NestedKey × Addr × Value)} (a it : Addr) : Turn P w K tg (ItM w a ep xs) [it] it (fun i h => h.IsKeyIter it a i xs.length ep) where
  mem := by simp
  obj := fun i h st b hb => by
    have e : b = it := by simpa using hb
    subst e
    obtain ⟨o, e, cc, d⟩ := st
    exact ⟨o, e, fun v z => by rw [d] at z; cases z⟩
  keep := fun i h h' st q => by obtain ⟨o, e, r⟩ := st; exact ⟨o, q it (by simp) o e, r⟩
  item := by
    intro X hP hw hK hc i pins s σ H E I hf st hg
    subst hP hw hK
    obtain ⟨hlt, ho⟩ := hg
    obtain ⟨⟨o, es, g1, g2, g3, g4⟩, _, _⟩ := I.hok _ _ ho
    have hz : es.size = xs.length := by rw [← Array.length_toList, g4, List.length_map]
    obtain ⟨f0, f1, f2, f3, f4, f5⟩ := hf it (by simp)
    have hi : i < es.size := by rw [hz]; exact hlt
    have st2 : s.heap.IsKeyIter it a i es.size ep := by rw [hz]; exact st
    refine wpAny_pyNext_keys_item_raw st2 ⟨o, g1, g2, g3⟩ hi fun h' st' sb => ?_
    rw [hz] at st'
    have I1 : Inv X pins σ H { s with heap := h' } := I.turned (t' := s.toks) (fun b o hb e => (sb.2 b hb).trans e) f0 f1 f3 f4 f5
    have ek : es[i].key = .ref xs[i].2.1 := by
      have e1 : es.toList[i]? = some es[i] := by simp [hi]
      rw [g4, List.getElem?_map, List.getElem?_eq_getElem hlt] at e1
      have e2 := Option.some.inj e1
      rw [← e2]; rfl
    obtain ⟨o', e', c', d'⟩ := id st'
    exact ⟨_, rfl, go_of (s := { s with heap := h' }) e' c' d' (by decide) ⟨.ref xs[i].2.1, H, I1, ek, ⟨rfl, xs[i], List.getElem?_eq_getElem hlt, rfl⟩, st', fun b hb => (hf b hb).1⟩⟩
  done := by
    intro X hP hw hK hc i pins s σ H E I hf st hg
    subst hP hw hK
    obtain ⟨hlt, ho⟩ := hg
    obtain ⟨⟨o, es, g1, g2, g3, g4⟩, _, _⟩ := I.hok _ _ ho
    have hz : es.size = xs.length := by rw [← Array.length_toList, g4, List.length_map]
    obtain ⟨f0, f1, f2, f3, f4, f5⟩ := hf it (by simp)
    have st2 : s.heap.IsKeyIter it a i es.size ep := by rw [hz]; exact st
    exact wpAny_pyNext_keys_end_raw (I.ok.hd hc) st2 ⟨o, g1, g2, g3⟩ (by rw [hz]; omega) fun h' eb => ⟨rfl, I.turned (t' := s.toks) (fun b o hb e => eb b o hb e) f0 f1 f3 f4 f5⟩
  self := fun A i s Q E st h => wpAny_pyIter_keyiter st h
def mKeysW (i : Nat) : M (List D) := fun ρ => match ρ[i]? with
  | some (.m kvs) => .ok (kvs.map (·.1), ρ.set i (.f kvs))
  | some (.f kvs) => .ok (kvs.map (·.1), ρ)
  | _ => .bad
theorem itD_map {K : PySem.W.Frag} {F : Hp} {a : Addr} {ep : Nat} {xs : List (NestedKey × Addr × Value)} {kvs : List (D × D)} (h : F a = some (.ext (dictPhi c.w a ep xs))) (pr : Paired (DKv K F) xs kvs) : ItD K (ItM c.w a ep xs) F (kvs.map (·.1)) where
  go := fun i H l hi => ⟨by rw [Paired.length pr]; simpa using hi, l _ _ h⟩
  stop := fun i H l hi => ⟨by rw [Paired.length pr, hi, List.length_map], l _ _ h⟩
  yld := fun i H x H' l hi ⟨e, y, hy, ev⟩ => by
    subst e ev
    have hk : i < kvs.length := by simpa using hi
    obtain ⟨y', h1, q⟩ := Paired.getB pr (i := i) (y := kvs[i]) (List.getElem?_eq_getElem hk)
    rw [hy] at h1
    cases h1
    refine ⟨kvs[i].1, by rw [List.getElem?_map, List.getElem?_eq_getElem hk]; rfl, fun F1 l1 l2 => ⟨F1, Grow.refl l2, Dv.le l1 q.2.2.1⟩⟩
theorem di_dict {i : Nat} {o : Expr} (O : Ok X c W k) (ho : PE X o (tVar i)) : DI X c W tg o (mKeysW i) := by
  refine ⟨fun pins s σ H R I ⟨P, ρ, F, G, q⟩ => ?_⟩
  have key : ∃ a ρ' F' kvs, (σ[i]?).join = some (.ref a) ∧ Good X.K c P σ ρ' F' H ∧ DL.le F F' ∧ MapAt X.K c F' F' a kvs ∧ Post X.K c W P σ F' (.ok (kvs.map (·.1), ρ')) fun ds _ F' H' => ∀ J H2, ItD X.K J F' ds → H2 = H' → R J H2 := by
    unfold mKeysW at q
    cases e : ρ[i]? with
    | none => simp only [e] at q; exact q.elim
    | some sl =>
      cases sl <;> (try (simp only [e] at q; exact q.elim))
      · simp only [e] at q
        obtain ⟨a, F', h1, h2, h3, h4⟩ := G.freezeM e
        exact ⟨a, _, F', _, h1, h2, h3, h4, q.at h3⟩
      · simp only [e] at q
        obtain ⟨a, h1, h2⟩ := G.sl i _ e
        exact ⟨a, _, F, _, h1, G, le.refl, h2, q⟩
  obtain ⟨a, ρ', F', kvs, h1, G', l', m, q'⟩ := key
  obtain ⟨xs, ep, hx, hsy, nd, pr⟩ := m
  have it := q'.ok G' _ H (itD_map (c := c) hx pr) rfl
  refine thn (ho.run pins s σ H (fun v H1 => v = .ref a ∧ H1 = H) I ⟨_, join_some h1, rfl, rfl⟩) fun v s1 ⟨vv, H1, I1, rv, e1, e2⟩ => ?_
  subst e1 e2
  cases rv
  have hH := G'.le _ _ hx
  obtain ⟨⟨o, es, g1, g2, g3, g4⟩, _, _⟩ := I1.hok _ _ hH
  have hz : es.size = xs.length := by rw [← Array.length_toList, g4, List.length_map]
  refine wpAny_pyIter_dict_raw hsy ⟨o, g1, g2, g3⟩ ?_
  refine ⟨s1.heap.objs.size, [s1.heap.objs.size], _, _, H1, rfl, I1.kept (t' := s1.toks) fun b o e => Heap.get?_push_of_some _ e, (by rw [O.cw]; exact turn_map (ep := ep) (xs := xs) a s1.heap.objs.size), ?_, fun b hb => ?_, it⟩
  · exact ⟨_, Heap.get?_push_size _ rfl, rfl, by rw [hz]; rfl⟩
  · have e : b = s1.heap.objs.size := by simpa using hb
    subst e
    exact I1.fpOk (Nat.le_refl _) (I1.hok.fresh (Nat.le_refl _))

/-! ### a dict moved to another name -/
def sMoveM (i j : Nat) : S := fun ρ => match ρ[j]? with
  | some (.m kvs) => .ok (.nx, (ρ.set j .un).set i (.m kvs))
  | _ => .bad
theorem Good.forget {K : PySem.W.Frag} {P : Hp} {σ : L2.St} {ρ : Env} {F H : Hp} (G : Good K c P σ ρ F H) (j : Nat) : Good K c P σ (ρ.set j .un) F H := by
  refine ⟨G.le, G.pin, by rw [List.length_set]; exact G.len, fun i s hi => ?_, fun i i' s s' a hn hi hi' m m' r r' => ?_⟩
  · by_cases h : j = i
    · subst h
      have hl : j < ρ.length := by
        have := (List.getElem?_eq_some_iff.mp hi).1
        simpa using this
      rw [List.getElem?_set_self hl] at hi
      cases hi
      trivial
    · rw [List.getElem?_set_ne h] at hi
      exact G.sl i s hi
  · have key : ∀ (i : Nat) s, (ρ.set j Slot.un)[i]? = some s → s.mutb = true → ρ[i]? = some s := fun i s hi m => by
      by_cases h : j = i
      · subst h
        have hl : j < ρ.length := by
          have := (List.getElem?_eq_some_iff.mp hi).1
          simpa using this
        rw [List.getElem?_set_self hl] at hi
        cases hi; cases m
      · rwa [List.getElem?_set_ne h] at hi
    exact G.ap i i' s s' a hn (key i s hi m) (key i' s' hi' m') m m' r r'
theorem ds_moveM {i j : Nat} (h : PS X st (tAsg (tVar j) (gName i))) : DS X c W st (sMoveM i j) := PS.imp h fun E σ H ⟨P, ρ, F, G, q⟩ => by
  unfold sMoveM at q
  cases e : ρ[j]? with
  | none => simp only [e] at q; exact q.elim
  | some sl =>
    cases sl <;> (try (simp only [e] at q; exact q.elim))
    rename_i kvs
    simp only [e] at q
    obtain ⟨a, e1, m, fn, pn⟩ := G.sl j _ e
    refine ⟨_, join_some e1, PostS.ok q ((G.forget j).set (s := .m kvs) ⟨a, rfl, m, fn, pn⟩ fun i' s' b hn hi' _ m' eb r => ?_)⟩
    cases eb
    by_cases hj : j = i'
    · subst hj
      have hl : j < ρ.length := (List.getElem?_eq_some_iff.mp e).1
      rw [List.getElem?_set_self hl] at hi'
      cases hi'; cases m'
    · rw [List.getElem?_set_ne hj] at hi'
      exact G.ap j i' _ s' a hj e hi' rfl m' e1 r
end
end DL

set_option maxHeartbeats 4000000
/-! DLZ: zip of two, of three: lists, tuples in any mix. -/
namespace DL
open PySem PySem.Spec L2
open PyProof.Rows hiding St
/-! ### zip of 2 -/
def ItZ2 (fl1 fl2 : Bool) (K : PySem.W.Frag) (a1 a2 : Addr) (xs1 xs2 : List V) : It :=
  ⟨fun i H => i < (min xs1.length xs2.length) ∧ Sq fl1 K H a1 xs1 ∧ Sq fl2 K H a2 xs2, fun i H v H' => ∃ T x1 x2, v = .ref T ∧ H T = none ∧ H' = upd H T (.tup [x1, x2]) ∧ xs1[i]? = some x1 ∧ xs2[i]? = some x2, fun i H => i = (min xs1.length xs2.length) ∧ Sq fl1 K H a1 xs1 ∧ Sq fl2 K H a2 xs2⟩
theorem turn_zip2 {P : Program} {w : World} {K : PySem.W.Frag} {fl1 fl2 : Bool} {xs1 xs2 : List V} {elts : List Expr} {kk : Nat} {tpos : Pos} {a1 a2 z TI TO i1 i2 : Addr} (S : ZipSep2 z TI TO i1 i2 [i1, a1] [i2, a2]) :
    Turn P w K (.Tuple elts kk tpos) (ItZ2 fl1 fl2 K a1 a2 xs1 xs2) [z, TI, TO, i1, i2] z (fun i h => IsZip h z TI TO .none ∧ IsTupOf2 h TI (.ref i1) (.ref i2) ∧ (∃ y1 y2, IsTupOf2 h TO y1 y2) ∧ iterAt fl1 h i1 a1 i ∧ iterAt fl2 h i2 a2 i) where
  mem := by simp
  obj := fun i h st b hb => by
    obtain ⟨hz, hTI, ⟨y1, y2, hTO⟩, h1, h2⟩ := st
    have e' : b = z ∨ b = TI ∨ b = TO ∨ b = i1 ∨ b = i2 := by simpa using hb
    rcases e' with rfl | rfl | rfl | rfl | rfl
    · exact ⟨_, hz, fun v q => nomatch q⟩
    · exact ⟨_, hTI, fun v q => nomatch q⟩
    · exact ⟨_, hTO, fun v q => nomatch q⟩
    · exact h1.ob
    · exact h2.ob
  keep := fun i h h' st k => by
    obtain ⟨hz, hTI, ⟨y1, y2, hTO⟩, h1, h2⟩ := st
    exact ⟨k z (by simp) _ hz, k TI (by simp) _ hTI, ⟨y1, y2, k TO (by simp) _ hTO⟩, h1.at fun o q => k i1 (by simp) o q, h2.at fun o q => k i2 (by simp) o q⟩
  item := by
    intro X hP hw hK hc i pins s σ H E I hf st hg
    subst hP hw hK
    obtain ⟨hz, hTI, ⟨y1, y2, hTO⟩, h1, h2⟩ := st
    obtain ⟨hlt, q1, q2⟩ := hg
    obtain ⟨us1, rv1, hh1⟩ := Inv.src I q1
    have n1 : a1 ≠ i1 := iter_ne h1 hh1
    obtain ⟨us2, rv2, hh2⟩ := Inv.src I q2
    have n2 : a2 ≠ i2 := iter_ne h2 hh2
    have hn : i < (min us1.toArray.size us2.toArray.size) := by
      rw [List.size_toArray, ← rv1.length, List.size_toArray, ← rv2.length]; exact hlt
    have GN := GoesN.zip2 (prog := X.prog) (w := X.w) (A := X.A) (elts := elts) (x1 := kk) (pos := tpos) S (Draws.src (fl := fl1) (its := us1.toArray) (a := a1) (it := i1) (A := X.A.in1) (I.ok.hd hc) n1) (Draws.src (fl := fl2) (its := us2.toArray) (a := a2) (it := i2) (A := X.A.in1) (I.ok.hd hc) n2)
    refine GN.goes i s _ E hn ⟨hz, hTI, ⟨y1, y2, hTO⟩, ⟨h1, hh1⟩, ⟨h2, hh2⟩⟩ fun v h' tk hY st' hk htk => ?_
    obtain ⟨T, x1, x2, rfl, hT, hx1, hx2, hTt⟩ := hY
    obtain ⟨hz', hTI', ⟨z1, z2, hTO'⟩, ⟨g1, _⟩, ⟨g2, _⟩⟩ := st'
    have l1 : i < xs1.length := by omega
    obtain ⟨w1, hw1, rw1⟩ := rv1.get (List.getElem?_eq_getElem l1)
    have hx1 : us1[i]? = some x1 := by simpa using hx1
    rw [hx1] at hw1
    cases hw1
    have l2 : i < xs2.length := by omega
    obtain ⟨w2, hw2, rw2⟩ := rv2.get (List.getElem?_eq_getElem l2)
    have hx2 : us2[i]? = some x2 := by simpa using hx2
    rw [hx2] at hw2
    cases hw2
    have new : ObjOk X.prog X.w (upd H T (.tup [xs1[i], xs2[i]])) h' T (.tup [xs1[i], xs2[i]]) := ⟨by show 2 ≤ sizeLine; decide, [x1, x2], (.cons rw1 (.cons rw2 .nil)), hTt⟩
    have I1 : L2.Inv X pins σ (upd H T (.tup [xs1[i], xs2[i]])) { s with heap := h', toks := tk } :=
      I.turnedNew (ch := [z, TO, i1, i2]) (fun b ob hb q => hk b ob hb q) (fun b hb => hf b (by simp only [List.mem_cons, List.not_mem_nil, or_false] at hb ⊢; rcases hb with q | q | q | q <;> simp [q])) hT new
    refine ⟨.ref T, _, I1, rfl, ⟨T, xs1[i], xs2[i], rfl, I.hok.fresh hT, rfl, List.getElem?_eq_getElem l1, List.getElem?_eq_getElem l2⟩, ⟨hz', hTI', ⟨z1, z2, hTO'⟩, g1, g2⟩, fun b hb => ?_⟩
    have hb' : b < s.heap.objs.size := by
      have e' : b = z ∨ b = TI ∨ b = TO ∨ b = i1 ∨ b = i2 := by simpa using hb
      rcases e' with q | q | q | q | q <;> rw [q]
      · exact Heap.lt_size hz
      · exact Heap.lt_size hTI
      · exact Heap.lt_size hTO
      · obtain ⟨o, q, _⟩ := h1.ob; exact Heap.lt_size q
      · obtain ⟨o, q, _⟩ := h2.ob; exact Heap.lt_size q
    rw [upd_ne (Nat.ne_of_lt (Nat.lt_of_lt_of_le hb' hT))]
    exact (hf b hb).1
  done := by
    intro X hP hw hK hc i pins s σ H E I hf st hg
    subst hP hw hK
    obtain ⟨hz, hTI, ⟨y1, y2, hTO⟩, h1, h2⟩ := st
    obtain ⟨hlt, q1, q2⟩ := hg
    obtain ⟨us1, rv1, hh1⟩ := Inv.src I q1
    have n1 : a1 ≠ i1 := iter_ne h1 hh1
    obtain ⟨us2, rv2, hh2⟩ := Inv.src I q2
    have n2 : a2 ≠ i2 := iter_ne h2 hh2
    have hn : i = (min us1.toArray.size us2.toArray.size) := by
      rw [List.size_toArray, ← rv1.length, List.size_toArray, ← rv2.length]; exact hlt
    have GN := GoesN.zip2 (prog := X.prog) (w := X.w) (A := X.A) (elts := elts) (x1 := kk) (pos := tpos) S (Draws.src (fl := fl1) (its := us1.toArray) (a := a1) (it := i1) (A := X.A.in1) (I.ok.hd hc) n1) (Draws.src (fl := fl2) (its := us2.toArray) (a := a2) (it := i2) (A := X.A.in1) (I.ok.hd hc) n2)
    subst hn
    exact GN.stops s (fun s1 => L2.Inv X pins σ H s1) E ⟨hz, hTI, ⟨y1, y2, hTO⟩, ⟨h1, hh1⟩, ⟨h2, hh2⟩⟩ fun h' tk hk htk => I.turnedL (ch := [z, TO, i1, i2]) (fun b ob hb q => hk b ob hb q) fun b hb => hf b (by simp only [List.mem_cons, List.not_mem_nil, or_false] at hb ⊢; rcases hb with q | q | q | q <;> simp [q])
  self := fun A i s Q E st h => wpAny_pyIter_zip st.1 h
def iZ2 (K : PySem.W.Frag) (ta : TA) : TI := fun σ H R => ta σ H fun vs H1 => ∃ fl1 fl2 a1 a2 xs1 xs2, vs = [.ref a1, .ref a2] ∧ Sq fl1 K H1 a1 xs1 ∧ Sq fl2 K H1 a2 xs2 ∧ R (ItZ2 fl1 fl2 K a1 a2 xs1 xs2) H1
section
variable {X : Cx} {c : Cst} {W : XK} {e1 e2 : Expr} {elts : List Expr} {kk : Nat} {tpos p pos : Pos} {f1 f2 : M D}
theorem pi_z2 {ta : TA} (hg : Gl X "zip") (hm : X.mg "zip" = none) (ha : PA X [e1, e2] ta) (hs : starEach [e1, e2] X.env = (false, eval e1 X.env) :: starEach [e2] X.env := by rfl) (hpl : (backTo pos (starEach [e2] X.env)).any (·.1) = false := by rfl) :
    PI X (.Tuple elts kk tpos) (.Call (.Name "zip" p) [e1, e2] [] pos) (iZ2 X.K ta) := by
  refine ⟨fun pins s σ H R I h => ?_⟩
  refine Call_ (ld_blt I hg hm PyProof.Rows.boot_zip (PyProof.Rows.callWith_type1 (thn (ha.run pos pins s σ H _ I h) fun us s1 ⟨vs, H1, I1, r1, q1⟩ => ?_) hs hpl))
  obtain ⟨fl1, fl2, a1, a2, xs1, xs2, rfl, hq1, hq2, q⟩ := q1
  cases r1 with
  | cons r r1 =>
    cases r
    cases r1 with
    | cons r r1 =>
      cases r
      cases r1
      obtain ⟨us1, rv1, hh1⟩ := Inv.src I1 hq1
      have b1 : a1 < s1.heap.objs.size := by
        cases fl1
        · obtain ⟨o, e, _⟩ := hh1; exact Heap.lt_size e
        · obtain ⟨o, e, _⟩ := hh1; exact Heap.lt_size e
      obtain ⟨us2, rv2, hh2⟩ := Inv.src I1 hq2
      have b2 : a2 < s1.heap.objs.size := by
        cases fl2
        · obtain ⟨o, e, _⟩ := hh2; exact Heap.lt_size e
        · obtain ⟨o, e, _⟩ := hh2; exact Heap.lt_size e
      refine zip_begins2 (begins_src (fl := fl1) (a := a1) (its := us1.toArray)) (begins_src (fl := fl2) (a := a2) (its := us2.toArray)) hh1 hh2 fun h' hz hTI hTO g1 g2 hsz hk => wpAny_pyIter_zip hz ?_
      have I2 : L2.Inv X pins σ H1 { s1 with heap := h' } := I1.kept (t' := s1.toks) hk
      have sep := zip_sep2 (N := s1.heap.objs.size) (fp1 := [a1]) (fp2 := [a2]) (fun b hb => by rw [List.mem_singleton.mp hb]; exact b1) (fun b hb => by rw [List.mem_singleton.mp hb]; exact b2)
      refine ⟨(s1.heap.objs.size + 4), [(s1.heap.objs.size + 4), (s1.heap.objs.size + 2), (s1.heap.objs.size + 3), s1.heap.objs.size, (s1.heap.objs.size + 1)], _, _, H1, rfl, I2, turn_zip2 sep, ⟨hz, hTI, ⟨_, _, hTO⟩, iterAt.new g1, iterAt.new g2⟩, fun b hb => ?_, q⟩
      have hle : s1.heap.objs.size ≤ b := by
        have e' : b = (s1.heap.objs.size + 4) ∨ b = (s1.heap.objs.size + 2) ∨ b = (s1.heap.objs.size + 3) ∨ b = s1.heap.objs.size ∨ b = (s1.heap.objs.size + 1) := by simpa using hb
        rcases e' with z | z | z | z | z <;> rw [z]
        all_goals first | exact Nat.le_refl _ | exact Nat.le_add_right _ _
      exact I1.fpOk hle (I1.hok.fresh hle)
end
def zip2D : List D → List D → List D
  | d1 :: ds1, d2 :: ds2 => .tuple [d1, d2] :: zip2D ds1 ds2
  | _, _ => []
theorem zip2D_len : ∀ (ds1 ds2 : List D), (zip2D ds1 ds2).length = min ds1.length ds2.length
  | [], ds2 => by cases ds2 <;> simp [zip2D]
  | _ :: _, [] => by simp [zip2D]
  | _ :: a, _ :: b => by simp [zip2D, zip2D_len a b, Nat.succ_min_succ]
theorem zip2D_get : ∀ (ds1 ds2 : List D) (i : Nat) (d1 d2 : D), ds1[i]? = some d1 → ds2[i]? = some d2 → (zip2D ds1 ds2)[i]? = some (.tuple [d1, d2])
  | [], _, _, _, _, h, _ => by simp at h
  | _ :: _, [], _, _, _, _, h => by simp at h
  | x :: a, y :: b, 0, d1, d2, h1, h2 => by simp at h1 h2; subst h1 h2; simp [zip2D]
  | x :: a, y :: b, i + 1, d1, d2, h1, h2 => by
    have := zip2D_get a b i d1 d2 (by simpa using h1) (by simpa using h2)
    simp only [zip2D, List.getElem?_cons_succ, this]
theorem itD_z2 {K : PySem.W.Frag} {F : Hp} {fl1 fl2 : Bool} {a1 a2 : Addr} {xs1 xs2 : List V} {ds1 ds2 : List D} (h1 : Sq fl1 K F a1 xs1) (h2 : Sq fl2 K F a2 xs2) (dv1 : DvAll K F xs1 ds1) (dv2 : DvAll K F xs2 ds2) : ItD K (ItZ2 fl1 fl2 K a1 a2 xs1 xs2) F (zip2D ds1 ds2) where
  go := fun i H l hi => ⟨by rw [dv1.length, dv2.length]; rw [zip2D_len] at hi; exact hi, h1.le l, h2.le l⟩
  stop := fun i H l hi => ⟨by rw [dv1.length, dv2.length]; rw [zip2D_len] at hi; exact hi, h1.le l, h2.le l⟩
  yld := fun i H x H' l _ ⟨T, y1, y2, e, hn, eH, q1, q2⟩ => by
    subst e eH
    obtain ⟨d1, j1, k1⟩ := dv1.get q1
    obtain ⟨d2, j2, k2⟩ := dv2.get q2
    refine ⟨_, zip2D_get ds1 ds2 i d1 d2 j1 j2, fun F1 l1 l2 => ⟨_, Grow.lay (o := .tup [y1, y2]) l2 hn, ?_⟩⟩
    have g := Grow.lay (o := .tup [y1, y2]) l2 hn
    exact .tup (SqT.of upd_same) (.cons (Dv.le (l1.trans g.ff) k1) (.cons (Dv.le (l1.trans g.ff) k2) .nil))
/-- the items of a list or a tuple -/
def itemsOf : D → Option (List D)
  | .list xs => some xs
  | .tuple xs => some xs
  | _ => none
theorem Dv.items {K : PySem.W.Frag} {F : Hp} {v : V} {d : D} {ds : List D} (h : Dv K F v d) (e : itemsOf d = some ds) : ∃ fl a vs, v = .ref a ∧ Sq fl K F a vs ∧ DvAll K F vs ds := by
  cases d <;> simp only [itemsOf] at e <;> cases e
  · obtain ⟨a, xs, rfl, h1, h2⟩ := h.lst_inv
    exact ⟨true, a, xs, rfl, SqL.of h1, h2⟩
  · obtain ⟨a, xs, rfl, h1, h2⟩ := h.tup_inv
    exact ⟨false, a, xs, rfl, h1, h2⟩
def mZip2 (f1 f2 : M D) : M (List D) := fun ρ => ((mCons f1 (mCons f2 mNil)) ρ).bind fun x => match x.1 with
  | [d1, d2] => (match itemsOf d1, itemsOf d2 with
    | some ds1, some ds2 => .ok (zip2D ds1 ds2, x.2)
    | _, _ => .bad)
  | _ => .bad
section
variable {X : Cx} {c : Cst} {W : XK} {e1 e2 : Expr} {elts : List Expr} {kk k : Nat} {tpos p pos : Pos} {f1 f2 : M D}
theorem di_zip2 (hc : X.calm = true) (hg : Gl X "zip") (hm : X.mg "zip" = none) (h1 : DE X c W e1 f1) (h2 : DE X c W e2 f2) (hs : starEach [e1, e2] X.env = (false, eval e1 X.env) :: starEach [e2] X.env := by rfl) (hpl : (backTo pos (starEach [e2] X.env)).any (·.1) = false := by rfl) (e1s : starEach [e1, e2] X.env = (false, eval e1 X.env) :: starEach [e2] X.env := by rfl) (e2s : starEach [e2] X.env = (false, eval e2 X.env) :: starEach [] X.env := by rfl) : DI X c W (.Tuple elts kk tpos) (.Call (.Name "zip" p) [e1, e2] [] pos) (mZip2 f1 f2) :=
  PI.imp (pi_z2 hg hm (da_cons h1 (da_cons h2 da_nil e2s) e1s) hs hpl) fun σ H R ⟨P, ρ, F, G, p⟩ => ⟨P, ρ, F, G, p.bind.mono fun vs ρ1 F1 H1 G1 l1 p1 us dv => by
  cases dv with
  | nil => exact p1.elim
  | cons dd1 dv =>
    rename_i v1 _ d1 _
    cases dv with
    | nil => exact p1.elim
    | cons dd2 dv =>
      rename_i v2 _ d2 _
      cases dv with
      | cons _ _ => exact p1.elim
      | nil =>
        simp only at p1
        cases q1 : itemsOf d1 with
        | none => (try simp only [q1] at p1); exact p1.elim
        | some ds1 =>
          cases q2 : itemsOf d2 with
          | none => (try simp only [q1, q2] at p1); exact p1.elim
          | some ds2 =>
            simp only [q1, q2] at p1
            obtain ⟨fl1, a1, xs1, rfl, h1, w1⟩ := dd1.items q1
            obtain ⟨fl2, a2, xs2, rfl, h2, w2⟩ := dd2.items q2
            exact ⟨fl1, fl2, a1, a2, xs1, xs2, rfl, h1.le G1.le, h2.le G1.le, p1.ok G1 _ _ (itD_z2 h1 h2 w1 w2) rfl⟩⟩
end
/-! ### zip of 3 -/
def ItZ3 (fl1 fl2 fl3 : Bool) (K : PySem.W.Frag) (a1 a2 a3 : Addr) (xs1 xs2 xs3 : List V) : It :=
  ⟨fun i H => i < (min (min xs1.length xs2.length) xs3.length) ∧ Sq fl1 K H a1 xs1 ∧ Sq fl2 K H a2 xs2 ∧ Sq fl3 K H a3 xs3, fun i H v H' => ∃ T x1 x2 x3, v = .ref T ∧ H T = none ∧ H' = upd H T (.tup [x1, x2, x3]) ∧ xs1[i]? = some x1 ∧ xs2[i]? = some x2 ∧ xs3[i]? = some x3, fun i H => i = (min (min xs1.length xs2.length) xs3.length) ∧ Sq fl1 K H a1 xs1 ∧ Sq fl2 K H a2 xs2 ∧ Sq fl3 K H a3 xs3⟩
theorem turn_zip3 {P : Program} {w : World} {K : PySem.W.Frag} {fl1 fl2 fl3 : Bool} {xs1 xs2 xs3 : List V} {elts : List Expr} {kk : Nat} {tpos : Pos} {a1 a2 a3 z TI TO i1 i2 i3 : Addr} (S : ZipSep3 z TI TO i1 i2 i3 [i1, a1] [i2, a2] [i3, a3]) :
    Turn P w K (.Tuple elts kk tpos) (ItZ3 fl1 fl2 fl3 K a1 a2 a3 xs1 xs2 xs3) [z, TI, TO, i1, i2, i3] z (fun i h => IsZip h z TI TO .none ∧ IsTupOf3 h TI (.ref i1) (.ref i2) (.ref i3) ∧ (∃ y1 y2 y3, IsTupOf3 h TO y1 y2 y3) ∧ iterAt fl1 h i1 a1 i ∧ iterAt fl2 h i2 a2 i ∧ iterAt fl3 h i3 a3 i) where
  mem := by simp
  obj := fun i h st b hb => by
    obtain ⟨hz, hTI, ⟨y1, y2, y3, hTO⟩, h1, h2, h3⟩ := st
    have e' : b = z ∨ b = TI ∨ b = TO ∨ b = i1 ∨ b = i2 ∨ b = i3 := by simpa using hb
    rcases e' with rfl | rfl | rfl | rfl | rfl | rfl
    · exact ⟨_, hz, fun v q => nomatch q⟩
    · exact ⟨_, hTI, fun v q => nomatch q⟩
    · exact ⟨_, hTO, fun v q => nomatch q⟩
    · exact h1.ob
    · exact h2.ob
    · exact h3.ob
  keep := fun i h h' st k => by
    obtain ⟨hz, hTI, ⟨y1, y2, y3, hTO⟩, h1, h2, h3⟩ := st
    exact ⟨k z (by simp) _ hz, k TI (by simp) _ hTI, ⟨y1, y2, y3, k TO (by simp) _ hTO⟩, h1.at fun o q => k i1 (by simp) o q, h2.at fun o q => k i2 (by simp) o q, h3.at fun o q => k i3 (by simp) o q⟩
  item := by
    intro X hP hw hK hc i pins s σ H E I hf st hg
    subst hP hw hK
    obtain ⟨hz, hTI, ⟨y1, y2, y3, hTO⟩, h1, h2, h3⟩ := st
    obtain ⟨hlt, q1, q2, q3⟩ := hg
    obtain ⟨us1, rv1, hh1⟩ := Inv.src I q1
    have n1 : a1 ≠ i1 := iter_ne h1 hh1
    obtain ⟨us2, rv2, hh2⟩ := Inv.src I q2
    have n2 : a2 ≠ i2 := iter_ne h2 hh2
    obtain ⟨us3, rv3, hh3⟩ := Inv.src I q3
    have n3 : a3 ≠ i3 := iter_ne h3 hh3
    have hn : i < (min (min us1.toArray.size us2.toArray.size) us3.toArray.size) := by
      rw [List.size_toArray, ← rv1.length, List.size_toArray, ← rv2.length, List.size_toArray, ← rv3.length]; exact hlt
    have GN := GoesN.zip3 (prog := X.prog) (w := X.w) (A := X.A) (elts := elts) (x1 := kk) (pos := tpos) S (Draws.src (fl := fl1) (its := us1.toArray) (a := a1) (it := i1) (A := X.A.in1) (I.ok.hd hc) n1) (Draws.src (fl := fl2) (its := us2.toArray) (a := a2) (it := i2) (A := X.A.in1) (I.ok.hd hc) n2) (Draws.src (fl := fl3) (its := us3.toArray) (a := a3) (it := i3) (A := X.A.in1) (I.ok.hd hc) n3)
    refine GN.goes i s _ E hn ⟨hz, hTI, ⟨y1, y2, y3, hTO⟩, ⟨h1, hh1⟩, ⟨h2, hh2⟩, ⟨h3, hh3⟩⟩ fun v h' tk hY st' hk htk => ?_
    obtain ⟨T, x1, x2, x3, rfl, hT, hx1, hx2, hx3, hTt⟩ := hY
    obtain ⟨hz', hTI', ⟨z1, z2, z3, hTO'⟩, ⟨g1, _⟩, ⟨g2, _⟩, ⟨g3, _⟩⟩ := st'
    have l1 : i < xs1.length := by omega
    obtain ⟨w1, hw1, rw1⟩ := rv1.get (List.getElem?_eq_getElem l1)
    have hx1 : us1[i]? = some x1 := by simpa using hx1
    rw [hx1] at hw1
    cases hw1
    have l2 : i < xs2.length := by omega
    obtain ⟨w2, hw2, rw2⟩ := rv2.get (List.getElem?_eq_getElem l2)
    have hx2 : us2[i]? = some x2 := by simpa using hx2
    rw [hx2] at hw2
    cases hw2
    have l3 : i < xs3.length := by omega
    obtain ⟨w3, hw3, rw3⟩ := rv3.get (List.getElem?_eq_getElem l3)
    have hx3 : us3[i]? = some x3 := by simpa using hx3
    rw [hx3] at hw3
    cases hw3
    have new : ObjOk X.prog X.w (upd H T (.tup [xs1[i], xs2[i], xs3[i]])) h' T (.tup [xs1[i], xs2[i], xs3[i]]) := ⟨by show 3 ≤ sizeLine; decide, [x1, x2, x3], (.cons rw1 (.cons rw2 (.cons rw3 .nil))), hTt⟩
    have I1 : L2.Inv X pins σ (upd H T (.tup [xs1[i], xs2[i], xs3[i]])) { s with heap := h', toks := tk } :=
      I.turnedNew (ch := [z, TO, i1, i2, i3]) (fun b ob hb q => hk b ob hb q) (fun b hb => hf b (by simp only [List.mem_cons, List.not_mem_nil, or_false] at hb ⊢; rcases hb with q | q | q | q | q <;> simp [q])) hT new
    refine ⟨.ref T, _, I1, rfl, ⟨T, xs1[i], xs2[i], xs3[i], rfl, I.hok.fresh hT, rfl, List.getElem?_eq_getElem l1, List.getElem?_eq_getElem l2, List.getElem?_eq_getElem l3⟩, ⟨hz', hTI', ⟨z1, z2, z3, hTO'⟩, g1, g2, g3⟩, fun b hb => ?_⟩
    have hb' : b < s.heap.objs.size := by
      have e' : b = z ∨ b = TI ∨ b = TO ∨ b = i1 ∨ b = i2 ∨ b = i3 := by simpa using hb
      rcases e' with q | q | q | q | q | q <;> rw [q]
      · exact Heap.lt_size hz
      · exact Heap.lt_size hTI
      · exact Heap.lt_size hTO
      · obtain ⟨o, q, _⟩ := h1.ob; exact Heap.lt_size q
      · obtain ⟨o, q, _⟩ := h2.ob; exact Heap.lt_size q
      · obtain ⟨o, q, _⟩ := h3.ob; exact Heap.lt_size q
    rw [upd_ne (Nat.ne_of_lt (Nat.lt_of_lt_of_le hb' hT))]
    exact (hf b hb).1
  done := by
    intro X hP hw hK hc i pins s σ H E I hf st hg
    subst hP hw hK
    obtain ⟨hz, hTI, ⟨y1, y2, y3, hTO⟩, h1, h2, h3⟩ := st
    obtain ⟨hlt, q1, q2, q3⟩ := hg
    obtain ⟨us1, rv1, hh1⟩ := Inv.src I q1
    have n1 : a1 ≠ i1 := iter_ne h1 hh1
    obtain ⟨us2, rv2, hh2⟩ := Inv.src I q2
    have n2 : a2 ≠ i2 := iter_ne h2 hh2
    obtain ⟨us3, rv3, hh3⟩ := Inv.src I q3
    have n3 : a3 ≠ i3 := iter_ne h3 hh3
    have hn : i = (min (min us1.toArray.size us2.toArray.size) us3.toArray.size) := by
      rw [List.size_toArray, ← rv1.length, List.size_toArray, ← rv2.length, List.size_toArray, ← rv3.length]; exact hlt
    have GN := GoesN.zip3 (prog := X.prog) (w := X.w) (A := X.A) (elts := elts) (x1 := kk) (pos := tpos) S (Draws.src (fl := fl1) (its := us1.toArray) (a := a1) (it := i1) (A := X.A.in1) (I.ok.hd hc) n1) (Draws.src (fl := fl2) (its := us2.toArray) (a := a2) (it := i2) (A := X.A.in1) (I.ok.hd hc) n2) (Draws.src (fl := fl3) (its := us3.toArray) (a := a3) (it := i3) (A := X.A.in1) (I.ok.hd hc) n3)
    subst hn
    exact GN.stops s (fun s1 => L2.Inv X pins σ H s1) E ⟨hz, hTI, ⟨y1, y2, y3, hTO⟩, ⟨h1, hh1⟩, ⟨h2, hh2⟩, ⟨h3, hh3⟩⟩ fun h' tk hk htk => I.turnedL (ch := [z, TO, i1, i2, i3]) (fun b ob hb q => hk b ob hb q) fun b hb => hf b (by simp only [List.mem_cons, List.not_mem_nil, or_false] at hb ⊢; rcases hb with q | q | q | q | q <;> simp [q])
  self := fun A i s Q E st h => wpAny_pyIter_zip st.1 h
def iZ3 (K : PySem.W.Frag) (ta : TA) : TI := fun σ H R => ta σ H fun vs H1 => ∃ fl1 fl2 fl3 a1 a2 a3 xs1 xs2 xs3, vs = [.ref a1, .ref a2, .ref a3] ∧ Sq fl1 K H1 a1 xs1 ∧ Sq fl2 K H1 a2 xs2 ∧ Sq fl3 K H1 a3 xs3 ∧ R (ItZ3 fl1 fl2 fl3 K a1 a2 a3 xs1 xs2 xs3) H1
section
variable {X : Cx} {c : Cst} {W : XK} {e1 e2 e3 : Expr} {elts : List Expr} {kk : Nat} {tpos p pos : Pos} {f1 f2 f3 : M D}
theorem pi_z3 {ta : TA} (hg : Gl X "zip") (hm : X.mg "zip" = none) (ha : PA X [e1, e2, e3] ta) (hs : starEach [e1, e2, e3] X.env = (false, eval e1 X.env) :: starEach [e2, e3] X.env := by rfl) (hpl : (backTo pos (starEach [e2, e3] X.env)).any (·.1) = false := by rfl) :
    PI X (.Tuple elts kk tpos) (.Call (.Name "zip" p) [e1, e2, e3] [] pos) (iZ3 X.K ta) := by
  refine ⟨fun pins s σ H R I h => ?_⟩
  refine Call_ (ld_blt I hg hm PyProof.Rows.boot_zip (PyProof.Rows.callWith_type1 (thn (ha.run pos pins s σ H _ I h) fun us s1 ⟨vs, H1, I1, r1, q1⟩ => ?_) hs hpl))
  obtain ⟨fl1, fl2, fl3, a1, a2, a3, xs1, xs2, xs3, rfl, hq1, hq2, hq3, q⟩ := q1
  cases r1 with
  | cons r r1 =>
    cases r
    cases r1 with
    | cons r r1 =>
      cases r
      cases r1 with
      | cons r r1 =>
        cases r
        cases r1
        obtain ⟨us1, rv1, hh1⟩ := Inv.src I1 hq1
        have b1 : a1 < s1.heap.objs.size := by
          cases fl1
          · obtain ⟨o, e, _⟩ := hh1; exact Heap.lt_size e
          · obtain ⟨o, e, _⟩ := hh1; exact Heap.lt_size e
        obtain ⟨us2, rv2, hh2⟩ := Inv.src I1 hq2
        have b2 : a2 < s1.heap.objs.size := by
          cases fl2
          · obtain ⟨o, e, _⟩ := hh2; exact Heap.lt_size e
          · obtain ⟨o, e, _⟩ := hh2; exact Heap.lt_size e
        obtain ⟨us3, rv3, hh3⟩ := Inv.src I1 hq3
        have b3 : a3 < s1.heap.objs.size := by
          cases fl3
          · obtain ⟨o, e, _⟩ := hh3; exact Heap.lt_size e
          · obtain ⟨o, e, _⟩ := hh3; exact Heap.lt_size e
        refine zip_begins3 (begins_src (fl := fl1) (a := a1) (its := us1.toArray)) (begins_src (fl := fl2) (a := a2) (its := us2.toArray)) (begins_src (fl := fl3) (a := a3) (its := us3.toArray)) hh1 hh2 hh3 fun h' hz hTI hTO g1 g2 g3 hsz hk => wpAny_pyIter_zip hz ?_
        have I2 : L2.Inv X pins σ H1 { s1 with heap := h' } := I1.kept (t' := s1.toks) hk
        have sep := zip_sep3 (N := s1.heap.objs.size) (fp1 := [a1]) (fp2 := [a2]) (fp3 := [a3]) (fun b hb => by rw [List.mem_singleton.mp hb]; exact b1) (fun b hb => by rw [List.mem_singleton.mp hb]; exact b2) (fun b hb => by rw [List.mem_singleton.mp hb]; exact b3)
        refine ⟨(s1.heap.objs.size + 5), [(s1.heap.objs.size + 5), (s1.heap.objs.size + 3), (s1.heap.objs.size + 4), s1.heap.objs.size, (s1.heap.objs.size + 1), (s1.heap.objs.size + 2)], _, _, H1, rfl, I2, turn_zip3 sep, ⟨hz, hTI, ⟨_, _, _, hTO⟩, iterAt.new g1, iterAt.new g2, iterAt.new g3⟩, fun b hb => ?_, q⟩
        have hle : s1.heap.objs.size ≤ b := by
          have e' : b = (s1.heap.objs.size + 5) ∨ b = (s1.heap.objs.size + 3) ∨ b = (s1.heap.objs.size + 4) ∨ b = s1.heap.objs.size ∨ b = (s1.heap.objs.size + 1) ∨ b = (s1.heap.objs.size + 2) := by simpa using hb
          rcases e' with z | z | z | z | z | z <;> rw [z]
          all_goals first | exact Nat.le_refl _ | exact Nat.le_add_right _ _
        exact I1.fpOk hle (I1.hok.fresh hle)
end
def zip3D : List D → List D → List D → List D
  | d1 :: ds1, d2 :: ds2, d3 :: ds3 => .tuple [d1, d2, d3] :: zip3D ds1 ds2 ds3
  | _, _, _ => []
theorem zip3D_len : ∀ (ds1 ds2 ds3 : List D), (zip3D ds1 ds2 ds3).length = min (min ds1.length ds2.length) ds3.length
  | [], ds2, ds3 => by cases ds2 <;> cases ds3 <;> simp [zip3D]
  | _ :: _, [], ds3 => by cases ds3 <;> simp [zip3D]
  | _ :: _, _ :: _, [] => by simp [zip3D]
  | _ :: a, _ :: b, _ :: c => by simp [zip3D, zip3D_len a b c, Nat.succ_min_succ]
theorem zip3D_get : ∀ (ds1 ds2 ds3 : List D) (i : Nat) (d1 d2 d3 : D), ds1[i]? = some d1 → ds2[i]? = some d2 → ds3[i]? = some d3 → (zip3D ds1 ds2 ds3)[i]? = some (.tuple [d1, d2, d3])
  | [], _, _, _, _, _, _, h, _, _ => by simp at h
  | _ :: _, [], _, _, _, _, _, _, h, _ => by simp at h
  | _ :: _, _ :: _, [], _, _, _, _, _, _, h => by simp at h
  | x :: a, y :: b, z :: c, 0, d1, d2, d3, h1, h2, h3 => by simp at h1 h2 h3; subst h1 h2 h3; simp [zip3D]
  | x :: a, y :: b, z :: c, i + 1, d1, d2, d3, h1, h2, h3 => by
    have := zip3D_get a b c i d1 d2 d3 (by simpa using h1) (by simpa using h2) (by simpa using h3)
    simp only [zip3D, List.getElem?_cons_succ, this]
theorem itD_z3 {K : PySem.W.Frag} {F : Hp} {fl1 fl2 fl3 : Bool} {a1 a2 a3 : Addr} {xs1 xs2 xs3 : List V} {ds1 ds2 ds3 : List D} (h1 : Sq fl1 K F a1 xs1) (h2 : Sq fl2 K F a2 xs2) (h3 : Sq fl3 K F a3 xs3) (dv1 : DvAll K F xs1 ds1) (dv2 : DvAll K F xs2 ds2) (dv3 : DvAll K F xs3 ds3) : ItD K (ItZ3 fl1 fl2 fl3 K a1 a2 a3 xs1 xs2 xs3) F (zip3D ds1 ds2 ds3) where
  go := fun i H l hi => ⟨by rw [dv1.length, dv2.length, dv3.length]; rw [zip3D_len] at hi; exact hi, h1.le l, h2.le l, h3.le l⟩
  stop := fun i H l hi => ⟨by rw [dv1.length, dv2.length, dv3.length]; rw [zip3D_len] at hi; exact hi, h1.le l, h2.le l, h3.le l⟩
  yld := fun i H x H' l _ ⟨T, y1, y2, y3, e, hn, eH, q1, q2, q3⟩ => by
    subst e eH
    obtain ⟨d1, j1, k1⟩ := dv1.get q1
    obtain ⟨d2, j2, k2⟩ := dv2.get q2
    obtain ⟨d3, j3, k3⟩ := dv3.get q3
    refine ⟨_, zip3D_get ds1 ds2 ds3 i d1 d2 d3 j1 j2 j3, fun F1 l1 l2 => ⟨_, Grow.lay (o := .tup [y1, y2, y3]) l2 hn, ?_⟩⟩
    have g := Grow.lay (o := .tup [y1, y2, y3]) l2 hn
    exact .tup (SqT.of upd_same) (.cons (Dv.le (l1.trans g.ff) k1) (.cons (Dv.le (l1.trans g.ff) k2) (.cons (Dv.le (l1.trans g.ff) k3) .nil)))
def mZip3 (f1 f2 f3 : M D) : M (List D) := fun ρ => ((mCons f1 (mCons f2 (mCons f3 mNil))) ρ).bind fun x => match x.1 with
  | [d1, d2, d3] => (match itemsOf d1, itemsOf d2, itemsOf d3 with
    | some ds1, some ds2, some ds3 => .ok (zip3D ds1 ds2 ds3, x.2)
    | _, _, _ => .bad)
  | _ => .bad
section
variable {X : Cx} {c : Cst} {W : XK} {e1 e2 e3 : Expr} {elts : List Expr} {kk k : Nat} {tpos p pos : Pos} {f1 f2 f3 : M D}
theorem di_zip3 (hc : X.calm = true) (hg : Gl X "zip") (hm : X.mg "zip" = none) (h1 : DE X c W e1 f1) (h2 : DE X c W e2 f2) (h3 : DE X c W e3 f3) (hs : starEach [e1, e2, e3] X.env = (false, eval e1 X.env) :: starEach [e2, e3] X.env := by rfl) (hpl : (backTo pos (starEach [e2, e3] X.env)).any (·.1) = false := by rfl) (e1s : starEach [e1, e2, e3] X.env = (false, eval e1 X.env) :: starEach [e2, e3] X.env := by rfl) (e2s : starEach [e2, e3] X.env = (false, eval e2 X.env) :: starEach [e3] X.env := by rfl) (e3s : starEach [e3] X.env = (false, eval e3 X.env) :: starEach [] X.env := by rfl) : DI X c W (.Tuple elts kk tpos) (.Call (.Name "zip" p) [e1, e2, e3] [] pos) (mZip3 f1 f2 f3) :=
  PI.imp (pi_z3 hg hm (da_cons h1 (da_cons h2 (da_cons h3 da_nil e3s) e2s) e1s) hs hpl) fun σ H R ⟨P, ρ, F, G, p⟩ => ⟨P, ρ, F, G, p.bind.mono fun vs ρ1 F1 H1 G1 l1 p1 us dv => by
  cases dv with
  | nil => exact p1.elim
  | cons dd1 dv =>
    rename_i v1 _ d1 _
    cases dv with
    | nil => exact p1.elim
    | cons dd2 dv =>
      rename_i v2 _ d2 _
      cases dv with
      | nil => exact p1.elim
      | cons dd3 dv =>
        rename_i v3 _ d3 _
        cases dv with
        | cons _ _ => exact p1.elim
        | nil =>
          simp only at p1
          cases q1 : itemsOf d1 with
          | none => (try simp only [q1] at p1); exact p1.elim
          | some ds1 =>
            cases q2 : itemsOf d2 with
            | none => (try simp only [q1, q2] at p1); exact p1.elim
            | some ds2 =>
              cases q3 : itemsOf d3 with
              | none => (try simp only [q1, q2, q3] at p1); exact p1.elim
              | some ds3 =>
                simp only [q1, q2, q3] at p1
                obtain ⟨fl1, a1, xs1, rfl, h1, w1⟩ := dd1.items q1
                obtain ⟨fl2, a2, xs2, rfl, h2, w2⟩ := dd2.items q2
                obtain ⟨fl3, a3, xs3, rfl, h3, w3⟩ := dd3.items q3
                exact ⟨fl1, fl2, fl3, a1, a2, a3, xs1, xs2, xs3, rfl, h1.le G1.le, h2.le G1.le, h3.le G1.le, p1.ok G1 _ _ (itD_z3 h1 h2 h3 w1 w2 w3) rfl⟩⟩
end
end DL

set_option maxHeartbeats 2000000
/-! DLV: min and max of two ints, sum of a list of ints. -/
namespace DL
open PySem PySem.Spec L2
open PyProof.Rows hiding St
def oMin2 : List D → Option D
  | [.int i, .int j] => some (.int (if j < i then j else i))
  | _ => none
def oMax2 : List D → Option D
  | [.int i, .int j] => some (.int (if j > i then j else i))
  | _ => none
theorem ra_min2 {K : PySem.W.Frag} : RA K (fun xs H Q => ∃ i j, xs = [.int i, .int j] ∧ Q (.int (if j < i then j else i)) H) oMin2 := fun F H vs ds z Q l hv ho q => by
  unfold oMin2 at ho
  split at ho
  · cases ho
    cases hv with
    | cons h1 h2 =>
      cases h2 with
      | cons h3 h4 =>
        cases h4
        rw [h1.int_inv, h3.int_inv]
        exact ⟨_, _, rfl, q _ _ _ (Grow.refl l) (.int _)⟩
  · cases ho
theorem ra_max2 {K : PySem.W.Frag} : RA K (fun xs H Q => ∃ i j, xs = [.int i, .int j] ∧ Q (.int (if j > i then j else i)) H) oMax2 := fun F H vs ds z Q l hv ho q => by
  unfold oMax2 at ho
  split at ho
  · cases ho
    cases hv with
    | cons h1 h2 =>
      cases h2 with
      | cons h3 h4 =>
        cases h4
        rw [h1.int_inv, h3.int_inv]
        exact ⟨_, _, rfl, q _ _ _ (Grow.refl l) (.int _)⟩
  · cases ho
def oSum : List D → Option D
  | [.list xs] => (asInts xs).map fun ns => .int ns.sum
  | _ => none
theorem ra_sum {K : PySem.W.Frag} : RA K (rSum K) oSum := fun F H vs ds z Q l hv ho q => by
  unfold oSum at ho
  split at ho
  · rename_i xs
    obtain ⟨v, rfl, h⟩ := hv.one
    obtain ⟨a, us, rfl, h1, h2⟩ := h.lst_inv
    cases e : asInts xs with
    | none => rw [e] at ho; cases ho
    | some ns =>
      rw [e] at ho; cases ho
      rw [asInts_inv e] at h2
      have e2 := h2.ints
      subst e2
      exact ⟨a, ns, rfl, SqL.of (l _ _ h1), q _ _ _ (Grow.refl l) (.int _)⟩
  · cases ho
/-- a fresh list of a list's, of a tuple's items -/
def mListOf (f : M D) : M (List D) := fun ρ => (f ρ).bind fun x => match itemsOf x.1 with
  | some ds => .ok (ds, x.2)
  | none => .bad
section
variable {X : Cx} {c : Cst} {W : XK} {k : Nat} {a e : Expr} {f : M D} {pos p : Pos}
theorem df_listOf {x : Str} (hg : Gl X x) (hm : X.mg x = none) (hv : bootBuiltins x = some (.type "list")) (ha : DE X c W e f) (hn : x ≠ "__name__" := by decide) (hdb : (x == ("__debug__" : Str)) = false := by decide)
    (hs : starEach [e] X.env = (false, eval e X.env) :: starEach [] X.env := by rfl) (hpl : (backTo pos (starEach [] X.env)).any (·.1) = false := by rfl) : DF X c W (.Call (.Name x p) [e] [] pos) (mListOf f) :=
  PE.imp (pe_callTy call_list_of hg hm hv (pa_cons ha pa_nil hs) hn hdb hs hpl) fun σ H Q ⟨P, ρ, F, G, p⟩ =>
  ⟨P, ρ, F, G, p.bind.mono fun d ρ1 F1 H1 G1 l1 p1 v dv => by
    cases e : itemsOf d with
    | none => simp only [e] at p1; exact p1.elim
    | some ds =>
      simp only [e] at p1
      obtain ⟨fl, q, vs, rfl, h1, h2⟩ := dv.items e
      refine ⟨q, vs, rfl, by cases fl; exact .inr (h1.le G1.le); exact .inl (h1.le G1.le), fun q hq => ?_⟩
      obtain ⟨g1, g2, g3⟩ := G1.pinNew (o := .lst vs) hq
      exact p1.ok G1 q vs _ g2 g3 g1 h2⟩
/-- an own list is not the empty one -/
def mNeNilS (i : Nat) : M Bool := fun ρ => match ρ[i]? with
  | some (.s ns) => .ok (!ns.isEmpty, ρ)
  | some (.l xs) => .ok (!xs.isEmpty, ρ)
  | _ => .bad
theorem dt_neNilS {i : Nat} {p' : Pos} (hu : X.A.units + 64 < cLine) (ha : PE X a (tVar i)) (hm : behindInMarks .NotEq (.List [] p') = false) : DT X c W (.Compare a [.NotEq] [.List [] p'] pos) (mNeNilS i) :=
  PT.imp (pt_cmpR (op_neP hu) ha (pe_lst pa_nil) hm) fun σ H Q ⟨P, ρ, F, G, p⟩ => by
    unfold mNeNilS at p
    cases q1 : ρ[i]? with
    | none => simp only [q1] at p; exact p.elim
    | some s =>
      have fin : ∀ (b : Bool) (H2 : Hp), le H H2 → Grow F H F H2 → Post X.K c W P σ F (.ok (b, ρ)) (fun b _ _ H' => Q b H') → Q b H2 := fun b H2 l g p => p.ok (G.grow g)
      cases s <;> (try (simp only [q1] at p; exact p.elim))
      · rename_i xs
        simp only [q1] at p
        obtain ⟨A, vs, eA, hA, fA, pA, dA⟩ := G.sl i _ q1
        refine ⟨_, join_some eA, by decide, fun q hq => ?_⟩
        have g := Grow.side (o := .lst []) G.le hq
        exact ⟨.list xs, .list [], .lst (SqL.of (g.hh _ _ hA)) (DvAll.dp (DvAll.le (g.ff.trans g.fh) dA)), .lst (SqL.of upd_same) .nil, DvAll.plain dA, rfl, by simp [PyData.depth, PyData.depthAll, deep], _, rfl, by rw [eqv_nil]; exact fin _ _ g.hh g p⟩
      · rename_i ns
        simp only [q1] at p
        obtain ⟨S, eS, hS⟩ := G.sl i _ q1
        refine ⟨_, join_some eS, by decide, fun q hq => ?_⟩
        have g := Grow.side (o := .lst []) G.le hq
        refine ⟨.list (ns.map .int), .list [], .lst (SqL.le hS (g.ff.trans g.fh)) (DpAll.ints ns), .lst (SqL.of upd_same) .nil, plain_ints ns, rfl, by simp [PyData.depth, PyData.depthAll, deep], _, rfl, ?_⟩
        rw [eqv_nil]
        have e : (ns.map PyData.int).isEmpty = ns.isEmpty := by cases ns <;> rfl
        rw [e]
        exact fin _ _ g.hh g p
/-- a, b = x, y -/
def sPar (i j : Nat) (fs : M (List D)) : S := fun ρ => (fs ρ).bind fun x => match x.1 with
  | [d, e] => .ok (.nx, (x.2.set i (.d d)).set j (.d e))
  | _ => .bad
theorem ds_par {i j : Nat} {fs : M (List D)} {x y : Str} {a b : Expr} {px py pt : Pos} {kt k2 pt2} (O : Ok X c W k) (hi : X.N[i]? = some x) (hj : X.N[j]? = some y) (hij : i ≠ j)
    (hx : X.env.scope.names.lookup x = some .local) (hy : X.env.scope.names.lookup y = some .local) (ha : DA X c W [a, b] fs)
    (hw : swappedStores [.Tuple [.Name x px, .Name y py] kt pt] (.Tuple [a, b] k2 pt2) X.env = pure (some [x, y]) := by rfl)
    (hs : swapsWithSole [.Tuple [.Name x px, .Name y py] kt pt] (.Tuple [a, b] k2 pt2) pos.line X.env = pure false := by rfl) : DS X c W (.Assign [.Tuple [.Name x px, .Name y py] kt pt] (.Tuple [a, b] k2 pt2) pos) (sPar i j fs) :=
  PS.imp (ps_par O.calm O.nd hi hj hij hx hy ha hw hs) fun E σ H ⟨P, ρ, F, G, p⟩ => ⟨P, ρ, F, G, p.ofE.mono fun ds ρ1 F1 H1 G1 l1 p1 vs dv => by
    cases dv with
    | nil => exact p1.elim
    | cons h1 r =>
      cases r with
      | nil => exact p1.elim
      | cons h2 r =>
        cases r with
        | cons _ _ => exact p1.elim
        | nil => exact ⟨_, _, rfl, PostS.ok p1 ((G1.setd i h1).setd j h2)⟩⟩
end
end DL

set_option maxHeartbeats 2000000
/-! PL0: stepping through mirrors, in plain Lean. -/
namespace DL
open PySem PySem.Spec L2
section
variable {α β : Type}
@[simp] theorem nox_exc (c : Str) : (Res.exc c : Res α).nox = .bad := rfl
@[simp] theorem nox_bad : (Res.bad : Res α).nox = .bad := rfl
@[simp] theorem map_bad (f : α → β) : (Res.bad : Res α).map f = .bad := rfl
@[simp] theorem ofO_none : (ofO (none : Option α)) = .bad := rfl
end
theorem rangeOk_of {j : Int} (h1 : -1000000 ≤ j) (h2 : j ≤ 1000000) : rangeOk j = true := gd_of (by omega)
theorem mulOk_r {i j : Int} (h1 : -10000000000 ≤ j) (h2 : j ≤ 10000000000) : mulOk i j = true := gd_of (.inr (by omega))
theorem mulOk_l {i j : Int} (h1 : -10000000000 ≤ i) (h2 : i ≤ 10000000000) : mulOk i j = true := gd_of (.inl (by omega))
theorem powOk_of {i j : Int} (h1 : 0 ≤ j) (h2 : j ≤ 1000000) (h3 : 0 ≤ i) (h4 : i ≤ 10000000000) : powOk i j = true := gd_of ⟨h1, h2, by omega⟩
section
variable (ρ : Env) (d e : D) (f g h : M D) (t u : M Bool) (fs : M (List D)) (i j n : Nat) (a b : S)
@[simp] theorem mC_s : mC d ρ = .ok (d, ρ) := id rfl
@[simp] theorem mV_s : mV i ρ = match ρ[i]? with | some (.d x) => .ok (x, ρ) | some (.l xs) => .ok (.list xs, ρ.set i (.d (.list xs))) | _ => .bad := id rfl
@[simp] theorem m2_s (op : D → D → Option D) : m2 op f g ρ = (f ρ).bind fun x => (g x.2).bind fun y => (ofO (op x.1 y.1)).map fun z => (z, y.2) := id rfl
@[simp] theorem m1_s (op : D → Option D) : m1 op f ρ = (f ρ).bind fun x => (ofO (op x.1)).map fun z => (z, x.2) := id rfl
@[simp] theorem mBool_s : mBool f ρ = (f ρ).bind fun x => match x.1 with | .bool b => .ok (b, x.2) | _ => .bad := id rfl
@[simp] theorem mNotB_s : mNotB t ρ = (t ρ).bind fun x => .ok (!x.1, x.2) := id rfl
@[simp] theorem mAndB_s : mAndB t u ρ = (t ρ).bind fun x => if x.1 = true then u x.2 else .ok (false, x.2) := id rfl
@[simp] theorem mOrB_s : mOrB t u ρ = (t ρ).bind fun x => if x.1 = true then .ok (true, x.2) else u x.2 := id rfl
@[simp] theorem mAnd_s : mAnd f g ρ = (f ρ).bind fun x => match x.1 with | .bool true => g x.2 | .bool false => .ok (.bool false, x.2) | _ => .bad := id rfl
@[simp] theorem mOr_s : mOr f g ρ = (f ρ).bind fun x => match x.1 with | .bool true => .ok (.bool true, x.2) | .bool false => g x.2 | _ => .bad := id rfl
@[simp] theorem mNot_s : mNot f ρ = (f ρ).bind fun x => match x.1 with | .bool b => .ok (.bool (!b), x.2) | _ => .bad := id rfl
@[simp] theorem mIf_s : mIf t f g ρ = (t ρ).bind fun x => if x.1 = true then f x.2 else g x.2 := id rfl
@[simp] theorem mChain_s (o o' : D → D → Option D) : mChain o o' f g h ρ = (f ρ).bind fun x => (g x.2).bind fun y => (ofO (o x.1 y.1)).bind fun z => match z with
  | .bool true => (h y.2).bind fun u => (ofO (o' y.1 u.1)).map fun z => (z, u.2)
  | .bool false => .ok (.bool false, y.2)
  | _ => .bad := id rfl
@[simp] theorem mNil_s : mNil ρ = .ok ([], ρ) := id rfl
@[simp] theorem mCons_s : mCons f fs ρ = (f ρ).bind fun x => (fs x.2).bind fun xs => .ok (x.1 :: xs.1, xs.2) := id rfl
@[simp] theorem mTup_s : mTup fs ρ = (fs ρ).bind fun x => if x.1.length ≤ lim then .ok (.tuple x.1, x.2) else .bad := id rfl
@[simp] theorem mFr_s (fl : M (List D)) : mFr fl ρ = (fl ρ).bind fun x => .ok (.list x.1, x.2) := id rfl
@[simp] theorem mLst_s : mLst fs ρ = (fs ρ).bind fun x => if x.1.length ≤ lim then .ok x else .bad := id rfl
@[simp] theorem mCall_s (o : List D → Option D) : mCall o fs ρ = (fs ρ).bind fun x => (ofO (o x.1)).map fun z => (z, x.2) := id rfl
@[simp] theorem mDef_s (o : List D → Res D) : mDef n o fs ρ = (fs ρ).bind fun x => if x.1.length = n then (o x.1).map fun z => (z, x.2) else .bad := id rfl
@[simp] theorem mIsi_s (T : String) : mIsi T f ρ = (f ρ).bind fun x => (ofO (isiD T x.1)).map fun b => (.bool b, x.2) := id rfl
@[simp] theorem mLenS_s : mLenS i ρ = match ρ[i]? with | some (.l xs) => .ok (.int xs.length, ρ) | some (.t n) => .ok (.int n, ρ) | some (.s ns) => .ok (.int ns.length, ρ) | _ => .bad := id rfl
@[simp] theorem mIxS_s : mIxS i f ρ = match ρ[i]? with | some (.s ns) => (f ρ).bind fun y => (ofO (oIx (.list (ns.map .int)) y.1)).map fun z => (z, y.2) | _ => .bad := id rfl
@[simp] theorem mNilS_s : mNilS i ρ = match ρ[i]? with | some (.s ns) => .ok (ns.isEmpty, ρ) | some (.l xs) => .ok (xs.isEmpty, ρ) | _ => .bad := id rfl
@[simp] theorem mScr_s (o : List Int → List D → Res D) : mScr i n o fs ρ = match ρ[i]? with | some (.s ns) => (fs ρ).bind fun x => if x.1.length = n then (o ns x.1).bind fun z => .ok (z, x.2) else .bad | _ => .bad := id rfl
@[simp] theorem mTown_s (o : List Int → List D → Nat → Res (D × Nat)) : mTown i j n o fs ρ = match ρ[i]? with
  | some (.s ns) => if isTk ρ[j]? = true then (fs ρ).bind fun x => match x.2[j]? with
    | some (.t t) => if x.1.length = n then (o ns x.1 t).bind fun z => .ok (z.1, x.2.set j (.t z.2)) else .bad
    | _ => .bad else .bad
  | _ => .bad := id rfl
@[simp] theorem isTk_t : isTk (some (.t n)) = true := id rfl
@[simp] theorem mTick_s : mTick i ρ = match ρ[i]? with | some (.t n) => if n < lim then .ok (.none, ρ.set i (.t (n + 1))) else .bad | _ => .bad := id rfl
@[simp] theorem mAppend_s : mAppend i f ρ = if isOwn ρ[i]? = true then (f ρ).bind fun x => match x.2[i]? with
  | some (.l xs) => if xs.length < lim then .ok (.none, x.2.set i (.l (xs ++ [x.1]))) else .bad
  | _ => .bad else .bad := id rfl
@[simp] theorem isOwn_l (xs : List D) : isOwn (some (.l xs)) = true := id rfl
@[simp] theorem mExtend_s : mExtend i f ρ = if isOwn ρ[i]? = true then (f ρ).bind fun x => match x.2[i]?, x.1 with
  | some (.l xs), .list ys => if xs.length + ys.length ≤ lim then .ok (.none, x.2.set i (.l (xs ++ ys))) else .bad
  | _, _ => .bad else .bad := id rfl
@[simp] theorem mMeth_s (ok : D → Bool) (op : D → List D → Option D) : mMeth ok op f fs ρ = (f ρ).bind fun x => if ok x.1 = true then (fs x.2).bind fun y => (ofO (op x.1 y.1)).map fun z => (z, y.2) else .bad := id rfl
@[simp] theorem mNoP_s : mNoP ρ = .ok (none, ρ) := id rfl
@[simp] theorem mP_s : mP f ρ = (f ρ).bind fun x => match x.1 with | .int i => .ok (some i, x.2) | _ => .bad := id rfl
@[simp] theorem mSlice_s (lo hi : M (Option Int)) : mSlice f lo hi ρ = (f ρ).bind fun x => (lo x.2).bind fun l => (hi l.2).bind fun u => (ofO (oSlice x.1 l.1 u.1)).map fun z => (z, u.2) := id rfl
@[simp] theorem mNeg_s : mNeg f ρ = (f ρ).bind fun x => match x.1 with | .int i => .ok (.int (-i), x.2) | _ => .bad := id rfl
@[simp] theorem mTabGet_s (kvs : List (Str × Int)) : mTabGet kvs f g ρ = (f ρ).bind fun a => (g a.2).bind fun b => match a.1 with
  | .str z => .ok ((match kvs.lookup z with | some i => .int i | none => b.1), b.2)
  | _ => .bad := id rfl
@[simp] theorem mItems_s : mItems f ρ = (f ρ).bind fun x => match x.1 with | .list xs => .ok (xs, x.2) | .tuple xs => .ok (xs, x.2) | _ => .bad := id rfl
@[simp] theorem mRange1_s : mRange1 f ρ = (f ρ).bind fun x => match x.1 with | .int j => if rangeOk j = true then .ok (rangeD 0 j.toNat, x.2) else .bad | _ => .bad := id rfl
@[simp] theorem mRange2_s : mRange2 f g ρ = (f ρ).bind fun x => (g x.2).bind fun y => match x.1, y.1 with
  | .int i, .int j => if (rangeOk i && rangeOk j) = true then .ok (rangeD i (j - i).toNat, y.2) else .bad
  | _, _ => .bad := id rfl
@[simp] theorem mEnum_s : mEnum f ρ = (f ρ).bind fun x => match x.1 with | .list xs => .ok (enumD 0 xs, x.2) | .tuple xs => .ok (enumD 0 xs, x.2) | _ => .bad := id rfl
@[simp] theorem mLc_s (ix : List Nat) (it : M (List D)) (bd : D → Env → Option Env) : mLc ix it bd t f ρ = (it ρ).bind fun x => if plainAt x.2 ix = true then (lcD ix bd t f x.1 [] (wipeE x.2 ix)).bind fun y => .ok (y.1, backE x.2 y.2 ix) else .bad := id rfl
@[simp] theorem mYes_s : mYes ρ = .ok (true, ρ) := id rfl
@[simp] theorem sSeq_s : sSeq a b ρ = (a ρ).bind fun r => match r.1 with | .nx => b r.2 | fl => .ok (fl, r.2) := id rfl
@[simp] theorem sIf_s : sIf t a b ρ = (t ρ).bind fun x => if x.1 = true then a x.2 else b x.2 := id rfl
@[simp] theorem sNil_s : sNil ρ = .ok (.nx, ρ) := id rfl
@[simp] theorem sBrk_s : sBrk ρ = .ok (.bk, ρ) := id rfl
@[simp] theorem sCont_s : sCont ρ = .ok (.ct, ρ) := id rfl
@[simp] theorem sDrop_s : sDrop f ρ = (f ρ).bind fun x => .ok (.nx, x.2) := id rfl
@[simp] theorem sRet_s : sRet f ρ = (f ρ).bind fun x => .ok (.rt x.1, x.2) := id rfl
@[simp] theorem sRetN_s : sRetN ρ = .ok (.rt .none, ρ) := id rfl
@[simp] theorem sSet_s : sSet i f ρ = (f ρ).bind fun x => .ok (.nx, x.2.set i (.d x.1)) := id rfl
@[simp] theorem sOwn_s (fl : M (List D)) : sOwn i fl ρ = (fl ρ).bind fun x => .ok (.nx, x.2.set i (.l x.1)) := id rfl
@[simp] theorem sTown_s : sTown i ρ = .ok (.nx, ρ.set i (.t 0)) := id rfl
@[simp] theorem sRaise_s (x : Str) : sRaise x ρ = .exc x := id rfl
@[simp] theorem sTry_s (g : S) (xs : List Str) (wh : Str → Res D) : sTry g xs wh ρ = match g ρ with | .exc x => if x ∈ xs then (wh x).nox.bind fun z => .ok (.rt z, []) else .bad | r => r := id rfl
@[simp] theorem mPick_s (os : List (List D → Res D)) : mPick n os f fs ρ = (f ρ).bind fun x => match x.1 with
  | .int j => if 0 ≤ j then (match os[j.toNat]? with
    | some o => mDef n o fs x.2
    | none => .bad) else .bad
  | _ => .bad := id rfl
@[simp] theorem mIsE_s (xs : List Str) (C : Str) : mIsE xs i C ρ = match ρ[i]? with | some (.x nm) => if nm ∈ xs ∧ C ∈ xs then .ok (.bool (decide (nm = C)), ρ) else .bad | _ => .bad := id rfl
@[simp] theorem mIsV_s (xs : List Str) : mIsV xs i ρ = match ρ[i]? with | some (.x nm) => if nm ∈ xs then .ok (.bool true, ρ) else .bad | _ => .bad := id rfl
@[simp] theorem sBind_s (bd : D → Env → Option Env) : sBind bd f ρ = (f ρ).bind fun x => (ofO (bd x.1 x.2)).bind fun ρ' => .ok (.nx, ρ') := id rfl
@[simp] theorem sFor_s (it : M (List D)) (bd : D → Env → Option Env) : sFor it bd a ρ = (it ρ).bind fun x => forD bd a x.1 x.2 := id rfl
@[simp] theorem bName_s : bName i d ρ = some (ρ.set i (.d d)) := id rfl
@[simp] theorem bNil_s : bNil [] ρ = some ρ := id rfl
@[simp] theorem bCons_s (b1 : D → Env → Option Env) (b2 : List D → Env → Option Env) (r : List D) : bCons b1 b2 (d :: r) ρ = (b1 d ρ).bind (b2 r) := id rfl
@[simp] theorem bTup_s (b1 : List D → Env → Option Env) (r : List D) : bTup n b1 (.tuple r) ρ = if r.length = n then b1 r ρ else none := id rfl
@[simp] theorem isi_str : isiD "str" d = some d.isStr := id rfl
@[simp] theorem isi_int : isiD "int" d = some d.isInt := id rfl
@[simp] theorem isi_bool : isiD "bool" d = some d.isBool := id rfl
@[simp] theorem isi_tuple : isiD "tuple" d = some d.isTuple := id rfl
@[simp] theorem isi_list : isiD "list" d = some d.isList := id rfl
end
/-! ### operations by kinds -/
section
variable (i j : Int) (x y : Str) (d e : D) (xs ys : List D) (b : Bool)
@[simp] theorem oEq_int : oEq (.int i) e = some (.bool (PyData.eqv (.int i) e)) := by simp [oEq, PyData.depth]
@[simp] theorem oEq_str : oEq (.str x) e = some (.bool (PyData.eqv (.str x) e)) := by simp [oEq, PyData.depth]
@[simp] theorem oEq_bool : oEq (.bool b) e = some (.bool (PyData.eqv (.bool b) e)) := by simp [oEq, PyData.depth]
@[simp] theorem oNe_int : oNe (.int i) e = some (.bool (!PyData.eqv (.int i) e)) := by simp [oNe, PyData.depth]
@[simp] theorem oNe_str : oNe (.str x) e = some (.bool (!PyData.eqv (.str x) e)) := by simp [oNe, PyData.depth]
@[simp] theorem oNe_bool : oNe (.bool b) e = some (.bool (!PyData.eqv (.bool b) e)) := by simp [oNe, PyData.depth]
@[simp] theorem oLt_s : oLt (.int i) (.int j) = some (.bool (decide (i < j))) := id rfl
@[simp] theorem oLe_s : oLe (.int i) (.int j) = some (.bool (decide (i ≤ j))) := id rfl
@[simp] theorem oGt_s : oGt (.int i) (.int j) = some (.bool (decide (j < i))) := id rfl
@[simp] theorem oGe_s : oGe (.int i) (.int j) = some (.bool (decide (j ≤ i))) := id rfl
@[simp] theorem oAdd_int : oAdd (.int i) (.int j) = some (.int (i + j)) := id rfl
@[simp] theorem oAdd_tup : oAdd (.tuple xs) (.tuple ys) = if xs.length + ys.length ≤ lim then some (.tuple (xs ++ ys)) else none := id rfl
@[simp] theorem oAdd_lst : oAdd (.list xs) (.list ys) = if xs.length + ys.length ≤ lim then some (.list (xs ++ ys)) else none := id rfl
@[simp] theorem oSub_s : oSub (.int i) (.int j) = some (.int (i - j)) := id rfl
@[simp] theorem oMod_s : oMod (.int i) (.int j) = if 0 < j then some (.int (i % j)) else none := id rfl
@[simp] theorem oMul_int : oMulX (.int i) (.int j) = if mulOk i j = true then some (.int (i * j)) else none := id rfl
@[simp] theorem oMul_tup : oMulX (.tuple xs) (.int i) = if (-1000 ≤ i ∧ i ≤ 1000) ∧ xs.length ≤ 1000 then some (.tuple (List.replicate i.toNat xs).flatten) else none := id rfl
@[simp] theorem oPow_s : oPow (.int i) (.int j) = if powOk i j = true then some (.int (i ^ j.toNat)) else none := id rfl
@[simp] theorem oIx_tup : oIx (.tuple xs) (.int i) = atI xs i := id rfl
@[simp] theorem oIx_lst : oIx (.list xs) (.int i) = atI xs i := id rfl
@[simp] theorem oLen_tup : oLen [.tuple xs] = some (.int xs.length) := id rfl
@[simp] theorem oLen_lst : oLen [.list xs] = some (.int xs.length) := id rfl
@[simp] theorem oLen_str : oLen [.str x] = if x.length ≤ lim then some (.int x.length) else none := id rfl
@[simp] theorem oTuple_tup : oTuple [.tuple xs] = some (.tuple xs) := id rfl
@[simp] theorem oTuple_lst : oTuple [.list xs] = some (.tuple xs) := id rfl
@[simp] theorem oList_tup : oList [.tuple xs] = some (.list xs) := id rfl
@[simp] theorem oList_lst : oList [.list xs] = some (.list xs) := id rfl
@[simp] theorem oAll_lst : oAll [.list xs] = (asBls xs).map fun bs => .bool (bs.all id) := id rfl
@[simp] theorem oSlice_tup (lo hi : Option Int) : oSlice (.tuple xs) lo hi = some (.tuple (cutD xs lo hi)) := id rfl
@[simp] theorem oSlice_lst (lo hi : Option Int) : oSlice (.list xs) lo hi = some (.list (cutD xs lo hi)) := id rfl
@[simp] theorem isS_str : isS (.str x) = decide (x.length ≤ lim) := id rfl
@[simp] theorem isL_lst : isL (.list xs) = true := id rfl
@[simp] theorem oStrip_s : oStrip (.str x) [.str y] = some (.str (Txt.stripChars x y)) := id rfl
@[simp] theorem isStr_str : (PyData.str x).isStr = true := id rfl
@[simp] theorem isStr_int : (PyData.int i).isStr = false := id rfl
@[simp] theorem isStr_tup : (PyData.tuple xs).isStr = false := id rfl
@[simp] theorem isTup_tup : (PyData.tuple xs).isTuple = true := id rfl
@[simp] theorem isTup_str : (PyData.str x).isTuple = false := id rfl
@[simp] theorem isTup_int : (PyData.int i).isTuple = false := id rfl
@[simp] theorem isTup_lst : (PyData.list xs).isTuple = false := id rfl
@[simp] theorem isTup_non : (PyData.none).isTuple = false := id rfl
@[simp] theorem isInt_int : (PyData.int i).isInt = true := id rfl
@[simp] theorem isBool_int : (PyData.int i).isBool = false := id rfl
@[simp] theorem isBool_bool : (PyData.bool b).isBool = true := id rfl
@[simp] theorem eqv_ii : PyData.eqv (.int i) (.int j) = (i == j) := id rfl
@[simp] theorem eqv_ss : PyData.eqv (.str x) (.str y) = (x == y) := id rfl
@[simp] theorem eqv_bb (a b : Bool) : PyData.eqv (.bool a) (.bool b) = (a == b) := id rfl
end
theorem atI_n {α : Type} (xs : List α) (k : Nat) : atI xs (k : Int) = xs[k]? := by
  unfold atI ixN
  by_cases h : k < xs.length
  · have h1 : (0 : Int) ≤ k ∧ (k : Int) < xs.length := by omega
    simp [h, h1]
  · simp [h]
theorem atI_last {α : Type} (xs : List α) (x : α) : atI (xs ++ [x]) (-1) = some x := by
  unfold atI ixN
  have h0 : ¬ (0 : Int) ≤ -1 := by omega
  have h1 : -(((xs ++ [x]).length : Nat) : Int) ≤ -1 := by simp; omega
  have h2 : ((-1 : Int) + ((xs ++ [x]).length : Nat)).toNat = xs.length := by simp; omega
  rw [if_neg h0, if_pos h1, Option.bind_some, h2]
  simp
@[simp] theorem atI_c0 {α : Type} (x : α) (xs : List α) : atI (x :: xs) 0 = some x := atI_n (x :: xs) 0
@[simp] theorem atI_c1 {α : Type} (x y : α) (xs : List α) : atI (x :: y :: xs) 1 = some y := atI_n (x :: y :: xs) 1
@[simp] theorem atI_c2 {α : Type} (x y z : α) (xs : List α) : atI (x :: y :: z :: xs) 2 = some z := atI_n (x :: y :: z :: xs) 2
@[simp] theorem atI_c3 {α : Type} (x y z u : α) (xs : List α) : atI (x :: y :: z :: u :: xs) 3 = some u := atI_n (x :: y :: z :: u :: xs) 3
@[simp] theorem atI_m1 {α : Type} (xs : List α) : atI xs (-1) = xs.getLast? := by
  rcases List.eq_nil_or_concat xs with rfl | ⟨ys, y, rfl⟩
  · rfl
  · rw [List.concat_eq_append, atI_last, List.getLast?_append]; rfl
@[simp] theorem asBls_of {α : Type} (p : α → Bool) (xs : List α) : asBls (xs.map fun x => PyData.bool (p x)) = some (xs.map p) := by
  induction xs with
  | nil => rfl
  | cons x r ih => simp [asBls, ih]
@[simp] theorem asBls_comp {α : Type} (p : α → Bool) (xs : List α) : asBls (xs.map (PyData.bool ∘ p)) = some (xs.map p) := asBls_of p xs
@[simp] theorem asStrs_of {α : Type} (p : α → Str) (xs : List α) : asStrs (xs.map fun x => PyData.str (p x)) = some (xs.map p) := by
  induction xs with
  | nil => rfl
  | cons x r ih => simp [asStrs, ih]
@[simp] theorem asStrs_comp {α : Type} (p : α → Str) (xs : List α) : asStrs (xs.map (PyData.str ∘ p)) = some (xs.map p) := asStrs_of p xs
section
variable (xs : List D) (b : Bool) (i : Int) (x : Str)
@[simp] theorem oCount_bool : oCount (.list xs) [.bool b] = some (.int (xs.countP fun z => PyData.eqv z (.bool b) : Nat)) := by simp [oCount, PyData.depth]
@[simp] theorem oCount_int : oCount (.list xs) [.int i] = some (.int (xs.countP fun z => PyData.eqv z (.int i) : Nat)) := by simp [oCount, PyData.depth]
@[simp] theorem oCount_str : oCount (.list xs) [.str x] = some (.int (xs.countP fun z => PyData.eqv z (.str x) : Nat)) := by simp [oCount, PyData.depth]
@[simp] theorem oIndex_bool : oIndex (.list xs) [.bool b] = if xs.length ≤ lim then (SeqAt.dataPlace xs (.bool b)).map fun j => .int (j : Nat) else none := by simp [oIndex, PyData.depth]
end
@[simp] theorem oMul_lst (xs : List D) (k : Int) (h1 : -1000 ≤ k) (h2 : k ≤ 100000) (h3 : xs.length * k.toNat ≤ lim) : oMulX (.list xs) (.int k) = some (.list (List.replicate k.toNat xs).flatten) := by
  have e : oMulX (.list xs) (.int k) = if gd (-(2 ^ 63) ≤ k ∧ k < 2 ^ 63 ∧ xs.length * k.toNat ≤ lim) = true then some (.list (List.replicate k.toNat xs).flatten) else none := id rfl
  rw [e, if_pos (gd_of ⟨by omega, by omega, h3⟩)]
/-! ### written numbers under the limit; written texts -/
@[simp] theorem lm0 : 0 ≤ lim := by decide
@[simp] theorem lm1 : 1 ≤ lim := by decide
@[simp] theorem lm2 : 2 ≤ lim := by decide
@[simp] theorem lm3 : 3 ≤ lim := by decide
@[simp] theorem lm4 : 4 ≤ lim := by decide
@[simp] theorem lm5 : 5 ≤ lim := by decide
@[simp] theorem lm6 : 6 ≤ lim := by decide
@[simp] theorem lm7 : 7 ≤ lim := by decide
@[simp] theorem lm8 : 8 ≤ lim := by decide
@[simp] theorem lm9 : 9 ≤ lim := by decide
@[simp] theorem lm10 : 10 ≤ lim := by decide
@[simp] theorem lm11 : 11 ≤ lim := by decide
@[simp] theorem lm12 : 12 ≤ lim := by decide
@[simp] theorem lm13 : 13 ≤ lim := by decide
@[simp] theorem lm14 : 14 ≤ lim := by decide
@[simp] theorem lm15 : 15 ≤ lim := by decide
@[simp] theorem lm16 : 16 ≤ lim := by decide
@[simp] theorem lm17 : 17 ≤ lim := by decide
@[simp] theorem lm18 : 18 ≤ lim := by decide
@[simp] theorem lm19 : 19 ≤ lim := by decide
@[simp] theorem lm20 : 20 ≤ lim := by decide
@[simp] theorem lm21 : 21 ≤ lim := by decide
@[simp] theorem lm22 : 22 ≤ lim := by decide
@[simp] theorem lm23 : 23 ≤ lim := by decide
@[simp] theorem lm24 : 24 ≤ lim := by decide
@[simp] theorem lm25 : 25 ≤ lim := by decide
@[simp] theorem lm26 : 26 ≤ lim := by decide
@[simp] theorem lm27 : 27 ≤ lim := by decide
@[simp] theorem lm28 : 28 ≤ lim := by decide
@[simp] theorem lm29 : 29 ≤ lim := by decide
@[simp] theorem lm30 : 30 ≤ lim := by decide
@[simp] theorem lm31 : 31 ≤ lim := by decide
@[simp] theorem lm32 : 32 ≤ lim := by decide
@[simp] theorem lmt0 : 0 < lim := by decide
@[simp] theorem lmt1 : 1 < lim := by decide
@[simp] theorem lmt2 : 2 < lim := by decide
@[simp] theorem lmt3 : 3 < lim := by decide
@[simp] theorem lmt4 : 4 < lim := by decide
@[simp] theorem lmt5 : 5 < lim := by decide
@[simp] theorem lmt6 : 6 < lim := by decide
@[simp] theorem lmt7 : 7 < lim := by decide
@[simp] theorem lmt8 : 8 < lim := by decide
@[simp] theorem lmt9 : 9 < lim := by decide
@[simp] theorem lmt10 : 10 < lim := by decide
@[simp] theorem lmt11 : 11 < lim := by decide
@[simp] theorem lmt12 : 12 < lim := by decide
@[simp] theorem lmt13 : 13 < lim := by decide
@[simp] theorem lmt14 : 14 < lim := by decide
@[simp] theorem lmt15 : 15 < lim := by decide
@[simp] theorem lmt16 : 16 < lim := by decide
@[simp] theorem lmt17 : 17 < lim := by decide
@[simp] theorem lmt18 : 18 < lim := by decide
@[simp] theorem lmt19 : 19 < lim := by decide
@[simp] theorem lmt20 : 20 < lim := by decide
@[simp] theorem lmt21 : 21 < lim := by decide
@[simp] theorem lmt22 : 22 < lim := by decide
@[simp] theorem lmt23 : 23 < lim := by decide
@[simp] theorem lmt24 : 24 < lim := by decide
@[simp] theorem ofString_inj (a b : String) : Str.ofString a = Str.ofString b ↔ a = b := by
  constructor
  · intro h
    rw [Str.ofString_eq_toList, Str.ofString_eq_toList] at h
    have h1 : a.toList.map Char.toNat = b.toList.map Char.toNat := by
      have := congrArg (fun s : Str => s.cps.toList) h
      simpa using this
    have h2 : a.toList = b.toList := by
      have inj : ∀ x y : List Char, x.map Char.toNat = y.map Char.toNat → x = y := by
        intro x
        induction x with
        | nil => intro y h; cases y with | nil => rfl | cons _ _ => simp at h
        | cons c x ih =>
          intro y h
          cases y with
          | nil => simp at h
          | cons d y =>
            simp only [List.map_cons, List.cons.injEq] at h
            have e : c = d := Char.ext (by have := h.1; unfold Char.toNat at this; exact UInt32.toNat_inj.mp this)
            rw [e, ih y h.2]
      exact inj _ _ h1
    exact String.ext h2
  · rintro rfl; rfl
@[simp] theorem ofString_beq (a b : String) : (Str.ofString a == Str.ofString b) = (a == b) := by
  rw [Bool.eq_iff_iff, beq_iff_eq, beq_iff_eq, ofString_inj]
/-! ### loops -/
theorem forD_nx {bd : D → Env → Option Env} {g : S} (I : Nat → Env → Prop) : ∀ (xs : List D) (i : Nat) (ρ : Env), I i ρ →
    (∀ (j : Nat) x ρ, xs[j]? = some x → I (i + j) ρ → ∃ ρ1 ρ2, bd x ρ = some ρ1 ∧ g ρ1 = .ok (.nx, ρ2) ∧ I (i + j + 1) ρ2) → ∃ ρ', forD bd g xs ρ = .ok (.nx, ρ') ∧ I (i + xs.length) ρ'
  | [], i, ρ, h, _ => ⟨ρ, rfl, h⟩
  | x :: xs, i, ρ, h, k => by
    obtain ⟨ρ1, ρ2, e1, e2, h2⟩ := k 0 x ρ rfl h
    obtain ⟨ρ', e3, h3⟩ := forD_nx I xs (i + 1) ρ2 h2 fun j y ρ hj hi => by
      have := k (j + 1) y ρ (by simpa using hj) (by rw [show i + (j + 1) = i + 1 + j by omega]; exact hi)
      rwa [show i + (j + 1) = i + 1 + j by omega] at this
    refine ⟨ρ', ?_, by rw [List.length_cons, show i + (xs.length + 1) = i + 1 + xs.length by omega]; exact h3⟩
    simp only [forD, e1, ofO_some, Res.bind_ok, e2, turnD]
    exact e3
theorem lcD_pure {ix : List Nat} {bd : D → Env → Option Env} {t : M Bool} {f : M D} {ρ : Env} (p : D → Bool) (y : D → D) : ∀ (xs acc : List D), acc.length + xs.length ≤ lim →
    (∀ x ∈ xs, ∃ ρ1, bd x ρ = some ρ1 ∧ t ρ1 = .ok (p x, ρ1) ∧ (p x = true → f ρ1 = .ok (y x, ρ1)) ∧ wipeE ρ1 ix = ρ) → lcD ix bd t f xs acc ρ = .ok (acc ++ (xs.filter p).map y, ρ)
  | [], acc, _, _ => by simp [lcD]
  | x :: xs, acc, hl, h => by
    obtain ⟨ρ1, e1, e2, e3, e4⟩ := h x List.mem_cons_self
    have hl2 : acc.length < lim := by simp only [List.length_cons] at hl; omega
    unfold lcD
    rw [e1]
    simp only [ofO_some, Res.bind_ok, e2, Res.nox_ok]
    cases hp : p x with
    | false =>
      rw [if_neg Bool.false_ne_true, e4, lcD_pure p y xs acc (by simp only [List.length_cons] at hl; omega) fun z hz => h z (List.mem_cons_of_mem _ hz)]
      simp [hp]
    | true =>
      rw [if_pos rfl, e3 hp]
      simp only [Res.nox_ok, Res.bind_ok]
      rw [if_pos hl2, e4, lcD_pure p y xs (acc ++ [y x]) (by simp only [List.length_cons, List.length_append, List.length_nil] at *; omega) fun z hz => h z (List.mem_cons_of_mem _ hz)]
      simp [hp]
theorem lcD_map {α : Type} {ix : List Nat} {bd : D → Env → Option Env} {t : M Bool} {f : M D} {ρ : Env} (enc : α → D) (p : α → Bool) (y : α → D) : ∀ (xs : List α) (acc : List D), acc.length + xs.length ≤ lim →
    (∀ x ∈ xs, ∃ ρ1, bd (enc x) ρ = some ρ1 ∧ t ρ1 = .ok (p x, ρ1) ∧ (p x = true → f ρ1 = .ok (y x, ρ1)) ∧ wipeE ρ1 ix = ρ) → lcD ix bd t f (xs.map enc) acc ρ = .ok (acc ++ (xs.filter p).map y, ρ)
  | [], acc, _, _ => by simp [lcD]
  | x :: xs, acc, hl, h => by
    obtain ⟨ρ1, e1, e2, e3, e4⟩ := h x List.mem_cons_self
    have hl2 : acc.length < lim := by simp only [List.length_cons] at hl; omega
    rw [List.map_cons]
    unfold lcD
    rw [e1]
    simp only [ofO_some, Res.bind_ok, e2, Res.nox_ok]
    cases hp : p x with
    | false =>
      rw [if_neg Bool.false_ne_true, e4, lcD_map enc p y xs acc (by simp only [List.length_cons] at hl; omega) fun z hz => h z (List.mem_cons_of_mem _ hz)]
      simp [hp]
    | true =>
      rw [if_pos rfl, e3 hp]
      simp only [Res.nox_ok, Res.bind_ok]
      rw [if_pos hl2, e4, lcD_map enc p y xs (acc ++ [y x]) (by simp only [List.length_cons, List.length_append, List.length_nil] at *; omega) fun z hz => h z (List.mem_cons_of_mem _ hz)]
      simp [hp]
theorem filter_all {α : Type} (xs : List α) : xs.filter (fun _ => true) = xs := List.filter_eq_self.mpr fun _ _ => rfl
/-- a block that changes what stands outside: by an invariant -/
theorem lcD_inv {ix : List Nat} {bd : D → Env → Option Env} {t : M Bool} {f : M D} (I : Nat → List D → Env → Prop) : ∀ (xs : List D) (i : Nat) (acc : List D) (ρ : Env), I i acc ρ → acc.length + xs.length ≤ lim →
    (∀ (j : Nat) x acc ρ, xs[j]? = some x → I (i + j) acc ρ → ∃ ρ1 ρ2, bd x ρ = some ρ1 ∧ ((t ρ1 = .ok (false, ρ2) ∧ I (i + j + 1) acc (wipeE ρ2 ix)) ∨ ∃ ρ3 y, t ρ1 = .ok (true, ρ2) ∧ f ρ2 = .ok (y, ρ3) ∧ I (i + j + 1) (acc ++ [y]) (wipeE ρ3 ix))) →
    ∃ acc' ρ', lcD ix bd t f xs acc ρ = .ok (acc', ρ') ∧ I (i + xs.length) acc' ρ'
  | [], i, acc, ρ, h, _, _ => ⟨acc, ρ, rfl, h⟩
  | x :: xs, i, acc, ρ, h, hl, k => by
    obtain ⟨ρ1, ρ2, e1, e⟩ := k 0 x acc ρ rfl h
    have k2 : ∀ (j : Nat) x acc ρ, xs[j]? = some x → I (i + 1 + j) acc ρ → ∃ ρ1 ρ2, bd x ρ = some ρ1 ∧ ((t ρ1 = .ok (false, ρ2) ∧ I (i + 1 + j + 1) acc (wipeE ρ2 ix)) ∨ ∃ ρ3 y, t ρ1 = .ok (true, ρ2) ∧ f ρ2 = .ok (y, ρ3) ∧ I (i + 1 + j + 1) (acc ++ [y]) (wipeE ρ3 ix)) := fun j y acc ρ hj hi => by
      have := k (j + 1) y acc ρ (by simpa using hj) (by rw [show i + (j + 1) = i + 1 + j by omega]; exact hi)
      rwa [show i + (j + 1) = i + 1 + j by omega] at this
    have hl2 : acc.length < lim := by simp only [List.length_cons] at hl; omega
    unfold lcD
    rw [e1]
    rcases e with ⟨e2, h2⟩ | ⟨ρ3, y, e2, e3, h2⟩
    · obtain ⟨acc', ρ', e4, h4⟩ := lcD_inv I xs (i + 1) acc _ h2 (by simp only [List.length_cons] at hl; omega) k2
      refine ⟨acc', ρ', ?_, by rw [List.length_cons, show i + (xs.length + 1) = i + 1 + xs.length by omega]; exact h4⟩
      simp only [ofO_some, Res.bind_ok, e2, Res.nox_ok, Bool.false_eq_true, if_false]
      exact e4
    · obtain ⟨acc', ρ', e4, h4⟩ := lcD_inv I xs (i + 1) (acc ++ [y]) _ h2 (by simp only [List.length_cons, List.length_append, List.length_nil] at *; omega) k2
      refine ⟨acc', ρ', ?_, by rw [List.length_cons, show i + (xs.length + 1) = i + 1 + xs.length by omega]; exact h4⟩
      simp only [ofO_some, Res.bind_ok, e2, Res.nox_ok, if_true, e3, if_pos hl2]
      exact e4
/-! ### loops, by steps -/
def lcStep (ix : List Nat) (bd : D → Env → Option Env) (t : M Bool) (f : M D) (x : D) (ρ : Env) : Res (Option D × Env) := (ofO (bd x ρ)).bind fun ρ1 => (t ρ1).nox.bind fun b => if b.1 = true then (f b.2).nox.bind fun y => .ok (some y.1, wipeE y.2 ix) else .ok (none, wipeE b.2 ix)
theorem lcD_step {ix : List Nat} {bd : D → Env → Option Env} {t : M Bool} {f : M D} (x : D) (xs acc : List D) (ρ : Env) (hl : acc.length < lim) : lcD ix bd t f (x :: xs) acc ρ = (lcStep ix bd t f x ρ).bind fun z => lcD ix bd t f xs (match z.1 with | some y => acc ++ [y] | none => acc) z.2 := by
  conv => lhs; unfold lcD
  unfold lcStep
  cases bd x ρ with
  | none => rfl
  | some ρ1 =>
    simp only [ofO_some, Res.bind_ok]
    cases t ρ1 with
    | bad => rfl
    | exc c => rfl
    | ok b =>
      obtain ⟨b, ρ2⟩ := b
      cases b with
      | false => rfl
      | true =>
        simp only [Res.nox_ok, Res.bind_ok, if_true]
        cases f ρ2 with
        | bad => rfl
        | exc c => rfl
        | ok y => simp only [Res.nox_ok, Res.bind_ok, if_pos hl]
theorem lcD_s {α : Type} {ix : List Nat} {bd : D → Env → Option Env} {t : M Bool} {f : M D} {ρ : Env} (enc : α → D) (y : α → Option D) : ∀ (xs : List α) (acc : List D), acc.length + xs.length ≤ lim →
    (∀ x ∈ xs, lcStep ix bd t f (enc x) ρ = .ok (y x, ρ)) → lcD ix bd t f (xs.map enc) acc ρ = .ok (acc ++ xs.filterMap y, ρ)
  | [], acc, _, _ => by simp [lcD]
  | x :: xs, acc, hl, h => by
    have hl2 : acc.length < lim := by simp only [List.length_cons] at hl; omega
    rw [List.map_cons, lcD_step _ _ _ _ hl2, h x List.mem_cons_self]
    simp only [Res.bind_ok]
    cases e : y x with
    | none =>
      have := lcD_s enc y xs acc (by simp only [List.length_cons] at hl; omega) fun z hz => h z (List.mem_cons_of_mem _ hz)
      simp only [this, List.filterMap_cons, e]
    | some d =>
      have := lcD_s enc y xs (acc ++ [d]) (by simp only [List.length_cons, List.length_append, List.length_nil] at *; omega) fun z hz => h z (List.mem_cons_of_mem _ hz)
      simp only [this, List.filterMap_cons, e, List.append_assoc, List.singleton_append]
/-- a block over things, all kept -/
theorem lc_all {α : Type} {ix : List Nat} {bd : D → Env → Option Env} {t : M Bool} {f : M D} {ρ : Env} (enc : α → D) (y : α → D) (xs : List α) (hl : xs.length ≤ lim) (h : ∀ x ∈ xs, lcStep ix bd t f (enc x) ρ = .ok (some (y x), ρ)) : lcD ix bd t f (xs.map enc) [] ρ = .ok (xs.map y, ρ) := by
  have := lcD_s enc (fun x => some (y x)) xs [] (by simpa using hl) h
  rw [this, List.nil_append]
  congr 2
  induction xs with
  | nil => rfl
  | cons x r ih => simp
/-- a block over things, some kept -/
theorem lc_if {α : Type} {ix : List Nat} {bd : D → Env → Option Env} {t : M Bool} {f : M D} {ρ : Env} (enc : α → D) (p : α → Bool) (y : α → D) (xs : List α) (hl : xs.length ≤ lim) (h : ∀ x ∈ xs, lcStep ix bd t f (enc x) ρ = .ok (if p x = true then some (y x) else none, ρ)) : lcD ix bd t f (xs.map enc) [] ρ = .ok ((xs.filter p).map y, ρ) := by
  have := lcD_s enc (fun x => if p x = true then some (y x) else none) xs [] (by simpa using hl) h
  rw [this, List.nil_append]
  congr 2
  clear h hl this
  induction xs with
  | nil => rfl
  | cons x r ih =>
    cases hp : p x <;> simp [hp, ih]
/-- a loop that folds: R tells what the slots hold -/
theorem for_s {α σ : Type} {bd : D → Env → Option Env} {g : S} (enc : α → D) (R : Nat → σ → Env → Prop) (step : σ → α → σ) : ∀ (xs : List α) (i : Nat) (s : σ) (ρ : Env), R i s ρ →
    (∀ (j : Nat) x s ρ, xs[j]? = some x → R (i + j) s ρ → ∃ ρ', (ofO (bd (enc x) ρ)).bind g = .ok (.nx, ρ') ∧ R (i + j + 1) (step s x) ρ') → ∃ ρ', forD bd g (xs.map enc) ρ = .ok (.nx, ρ') ∧ R (i + xs.length) (xs.foldl step s) ρ'
  | [], i, s, ρ, h, _ => ⟨ρ, rfl, h⟩
  | x :: xs, i, s, ρ, h, k => by
    obtain ⟨ρ1, e1, h1⟩ := k 0 x s ρ rfl h
    obtain ⟨ρ2, e2, h2⟩ := for_s enc R step xs (i + 1) (step s x) ρ1 h1 fun j y s ρ hj hi => by
      have := k (j + 1) y s ρ (by simpa using hj) (by rw [show i + (j + 1) = i + 1 + j by omega]; exact hi)
      rwa [show i + (j + 1) = i + 1 + j by omega] at this
    refine ⟨ρ2, ?_, by rw [List.length_cons, show i + (xs.length + 1) = i + 1 + xs.length by omega]; exact h2⟩
    rw [List.map_cons]
    unfold forD
    cases eb : bd (enc x) ρ with
    | none => rw [eb] at e1; cases e1
    | some ρ0 =>
      rw [eb] at e1
      have e1 : g ρ0 = .ok (.nx, ρ1) := e1
      simp only [ofO_some, Res.bind_ok, e1, turnD]
      exact e2
end DL

namespace HD
open PySem PySem.Spec L2 DL
def excsC : List PySem.Str := ["NoTemplate", "NoText", "NoWorths", "NoStand", "Unsure", "NoWord", "NoBook", "NoRows", "NoPair"]
def excsA : List PySem.Str := ["NoTemplate", "NoText", "NoWorths", "NoStand", "NoWord", "NoBook", "NoRows", "NoPair", "Unsure", "NoForm", "NoNumber", "NoName", "TooGreat", "NoDeed"]
def excsB : List PySem.Str := ["NoTemplate", "NoText", "NoWorths", "NoStand", "NoWord", "NoBook", "NoRows", "NoPair", "Unsure"]
def tabKv : List (PySem.Str × Int) := [("word", 2), ("one", 3), ("some", 4)]
noncomputable def g__law_cell_at : S :=
    (sSeq (sIf (mBool (m2 oLt (mV 1) (mLenS 0))) (sRet (mIxS 0 (mV 1))) sNil)
    (sSeq (sIf (mNilS 0) (sRet (mC (.int 0))) sNil)
    (sRet (m2 oAdd (m2 oMulX (mIxS 0 (m2 oMod (mV 1) (mLenS 0))) (mC (.int 31))) (mV 1)))))
noncomputable def f__law_cell_at := fnS 2 g__law_cell_at

noncomputable def g__law_mixed : S :=
    (sSeq (sSet 3 (m2 oMod (m2 oAdd (m2 oAdd (m2 oMulX (mScr 0 1 f__law_cell_at (mCons (mV 1) mNil)) (mC (.int 1103515245))) (m2 oMulX (mC (.int 7919)) (mV 1))) (mC (.int 12345))) (mC (.int 2147483647))))
    (sRet (m2 oMod (m2 oMod (m2 oMod (m2 oPow (mV 3) (mC (.int 5))) (mC (.int 2147483647))) (mC (.int 999983))) (mV 2))))
noncomputable def f__law_mixed := fnS 4 g__law_mixed

noncomputable def g__law_draw : S :=
    (sSeq (sDrop (mTick 1))
    (sRet (mScr 0 2 f__law_mixed (mCons (mLenS 1) (mCons (mV 2) mNil)))))
noncomputable def f__law_draw := fnT 3 g__law_draw

noncomputable def g__law_pick : S :=
    (sRet (m2 oIx (mV 2) (mTown 0 1 1 f__law_draw (mCons (mCall oLen (mCons (mV 2) mNil)) mNil))))
noncomputable def f__law_pick := fnT 3 g__law_pick

noncomputable def e__law_barred_1 : M D :=
    (mTown 0 1 1 f__law_pick (mCons (mFr (mLst (mCons (mC (.str "a")) (mCons (mC (.str "b")) (mCons (mC (.str "c")) mNil))))) mNil))
noncomputable def g__law_barred : S :=
    (sSeq (sSet 2 (mFr (mLc [3] (mRange1 (mTown 0 1 1 f__law_draw (mCons (mC (.int 3)) mNil))) (bName 3) mYes e__law_barred_1)))
    (sRet (mCall oTuple (mCons (m1 oSortSet (mV 2)) mNil))))
noncomputable def f__law_barred := fnT 4 g__law_barred

noncomputable def b__law_template_1 : S :=
    (sSeq (sSet 6 (mTown 0 1 1 f__law_draw (mCons (mC (.int 3)) mNil)))
    (sIf (mBool (m2 oEq (mV 6) (mC (.int 0)))) (sSet 3 (m2 oAdd (mV 3) (mTup (mCons (mTup (mCons (mC (.str "word")) (mCons (mTown 0 1 1 f__law_pick (mCons (mFr (mLst (mCons (mC (.str "a")) (mCons (mC (.str "b")) (mCons (mC (.str "get")) mNil))))) mNil)) mNil))) mNil)))) (sIf (mBool (m2 oEq (mV 6) (mC (.int 1)))) (sSet 3 (m2 oAdd (mV 3) (mTup (mCons (mTup (mCons (mC (.str "one")) (mCons (m2 oIx (mV 4) (mV 5)) (mCons (mTown 0 1 0 f__law_barred mNil) mNil)))) mNil)))) (sSeq (sSet 7 (mTown 0 1 1 f__law_pick (mCons (mFr (mLst (mCons (mC (.int 0)) (mCons (mC (.int 0)) (mCons (mC (.int 1)) (mCons (mC (.int 2)) mNil)))))) mNil)))
    (sSet 3 (m2 oAdd (mV 3) (mTup (mCons (mTup (mCons (mC (.str "some")) (mCons (m2 oIx (mV 4) (mV 5)) (mCons (mV 7) (mCons (mTown 0 1 0 f__law_barred mNil) mNil))))) mNil))))))))
noncomputable def g__law_template : S :=
    (sSeq (sSet 3 (mTup mNil))
    (sSeq (sSet 4 (mFr (mLst (mCons (mC (.str "x")) (mCons (mC (.str "y")) (mCons (mC (.str "z")) (mCons (mC (.str "what")) (mCons (mC (.str "rest")) (mCons (mC (.str "name")) mNil)))))))))
    (sSeq (sFor (mRange1 (mTown 0 1 1 f__law_draw (mCons (m2 oAdd (mV 2) (mC (.int 1))) mNil))) (bName 5) b__law_template_1)
    (sRet (mV 3)))))
noncomputable def f__law_template := fnT 8 g__law_template

noncomputable def g_is_word : S :=
    (sRet (mAnd (mIsi "str" (mV 0)) (mAnd (mChain oLe oLe (mC (.int 1)) (mCall oLen (mCons (mV 0) mNil)) (mC (.int 4))) (m2 oEq (mMeth isS oStrip (mV 0) (mCons (mC (.str "abcdefghijklmnopqrstuvwxyz")) mNil)) (mC (.str ""))))))
noncomputable def f_is_word := fnD 1 g_is_word

noncomputable def e_are_words_1 : M D :=
    (mDef 1 f_is_word (mCons (mV 1) mNil))
noncomputable def g_are_words : S :=
    (sRet (mAnd (mIsi "tuple" (mV 0)) (mCall oAll (mCons (mFr (mLc [1] (mItems (mV 0)) (bName 1) mYes e_are_words_1)) mNil))))
noncomputable def f_are_words := fnD 2 g_are_words

noncomputable def g_is_barred : S :=
    (sRet (mAnd (mDef 1 f_are_words (mCons (mV 0) mNil)) (mAnd (m2 oLe (mCall oLen (mCons (mV 0) mNil)) (mC (.int 3))) (m2 oEq (mCall oList (mCons (mV 0) mNil)) (m1 oSortSet (mV 0))))))
noncomputable def f_is_barred := fnD 1 g_is_barred

noncomputable def g_is_whole : S :=
    (sRet (mAnd (mIsi "int" (mV 0)) (mAnd (mNot (mIsi "bool" (mV 0))) (mChain oLe oLe (mV 1) (mV 0) (mV 2)))))
noncomputable def f_is_whole := fnD 3 g_is_whole

noncomputable def g_is_part : S :=
    (sSeq (sIf (mOrB (mNotB (mBool (mIsi "tuple" (mV 0)))) (mOrB (mBool (m2 oLt (mCall oLen (mCons (mV 0) mNil)) (mC (.int 2)))) (mNotB (mBool (mIsi "str" (m2 oIx (mV 0) (mC (.int 0)))))))) (sRet (mC (.bool false))) sNil)
    (sSeq (sIf (mOrB (mBool (m2 oNe (mCall oLen (mCons (mV 0) mNil)) (mTabGet tabKv (m2 oIx (mV 0) (mC (.int 0))) (mC (.int 0))))) (mNotB (mBool (mDef 1 f_is_word (mCons (m2 oIx (mV 0) (mC (.int 1))) mNil))))) (sRet (mC (.bool false))) sNil)
    (sSeq (sIf (mAndB (mBool (m2 oEq (m2 oIx (mV 0) (mC (.int 0))) (mC (.str "some")))) (mNotB (mBool (mDef 3 f_is_whole (mCons (m2 oIx (mV 0) (mC (.int 2))) (mCons (mC (.int 0)) (mCons (mC (.int 2)) mNil))))))) (sRet (mC (.bool false))) sNil)
    (sRet (mOr (m2 oEq (m2 oIx (mV 0) (mC (.int 0))) (mC (.str "word"))) (mDef 1 f_is_barred (mCons (m2 oIx (mV 0) (mNeg (mC (.int 1)))) mNil)))))))
noncomputable def f_is_part := fnD 1 g_is_part

noncomputable def e_is_template_1 : M D :=
    (mDef 1 f_is_part (mCons (mV 1) mNil))
noncomputable def t_is_template_2 : M Bool :=
    (mBool (m2 oNe (m2 oIx (mV 1) (mC (.int 0))) (mC (.str "word"))))
noncomputable def e_is_template_3 : M D :=
    (m2 oIx (mV 1) (mC (.int 1)))
noncomputable def g_is_template : S :=
    (sSeq (sIf (mOrB (mNotB (mBool (mIsi "tuple" (mV 0)))) (mOrB (mBool (m2 oGt (mCall oLen (mCons (mV 0) mNil)) (mC (.int 6)))) (mNotB (mBool (mCall oAll (mCons (mFr (mLc [1] (mItems (mV 0)) (bName 1) mYes e_is_template_1)) mNil)))))) (sRet (mC (.bool false))) sNil)
    (sSeq (sSet 2 (mFr (mLc [1] (mItems (mV 0)) (bName 1) t_is_template_2 e_is_template_3)))
    (sRet (m2 oEq (m1 oLenSet (mV 2)) (mCall oLen (mCons (mV 2) mNil))))))
noncomputable def f_is_template := fnD 3 g_is_template

noncomputable def g_need_template : S :=
    (sIf (mNotB (mBool (mDef 1 f_is_template (mCons (mV 0) mNil)))) (sRaise "NoTemplate") sNil)
noncomputable def f_need_template := fnD 1 g_need_template

noncomputable def e_is_plain_1 : M D :=
    (m2 oEq (m2 oIx (mV 1) (mC (.int 0))) (mC (.str "word")))
noncomputable def g_is_plain : S :=
    (sSeq (sDrop (mDef 1 f_need_template (mCons (mV 0) mNil)))
    (sRet (mCall oAll (mCons (mFr (mLc [1] (mItems (mV 0)) (bName 1) mYes e_is_plain_1)) mNil))))
noncomputable def f_is_plain := fnD 2 g_is_plain

noncomputable def b_parts_around_1 : S :=
    (sIf (mBool (m2 oEq (mV 4) (mTup (mCons (mC (.str "word")) (mCons (mV 1) mNil))))) (sDrop (mAppend 2 (mTup (mCons (mSlice (mV 0) mNoP (mP (mV 3))) (mCons (mSlice (mV 0) (mP (m2 oAdd (mV 3) (mC (.int 1)))) mNoP) mNil))))) sNil)
noncomputable def g_parts_around : S :=
    (sSeq (sDrop (mDef 1 f_need_template (mCons (mV 0) mNil)))
    (sSeq (sOwn 2 (mLst mNil))
    (sSeq (sFor (mEnum (mV 0)) (bTup 2 (bCons (bName 3) (bCons (bName 4) bNil))) b_parts_around_1)
    (sRet (mV 2)))))
noncomputable def f_parts_around := fnD 5 g_parts_around

noncomputable def t_words_of_1 : M Bool :=
    (mBool (m2 oEq (m2 oIx (mV 1) (mC (.int 0))) (mC (.str "word"))))
noncomputable def e_words_of_2 : M D :=
    (m2 oIx (mV 1) (mC (.int 1)))
noncomputable def g_words_of : S :=
    (sSeq (sDrop (mDef 1 f_need_template (mCons (mV 0) mNil)))
    (sRet (mFr (mLc [1] (mItems (mV 0)) (bName 1) t_words_of_1 e_words_of_2))))
noncomputable def f_words_of := fnD 2 g_words_of

noncomputable def g_joined : S :=
    (sSeq (sDrop (mDef 1 f_need_template (mCons (mV 0) mNil)))
    (sSeq (sDrop (mDef 1 f_need_template (mCons (mV 1) mNil)))
    (sSeq (sSet 2 (m2 oAdd (mV 0) (mV 1)))
    (sSeq (sIf (mBool (m2 oGt (mCall oLen (mCons (mV 2) mNil)) (mC (.int 6)))) (sRaise "TooGreat") sNil)
    (sSeq (sIf (mNotB (mBool (mDef 1 f_is_template (mCons (mV 2) mNil)))) (sRaise "NoName") sNil)
    (sRet (mV 2)))))))
noncomputable def f_joined := fnD 3 g_joined

end HD

namespace HD
open PySem PySem.Spec L2 DL
noncomputable def t_place_of_1 : M Bool :=
    (mAndB (mBool (m2 oNe (m2 oIx (mV 4) (mC (.int 0))) (mC (.str "word")))) (mBool (m2 oEq (m2 oIx (mV 4) (mC (.int 1))) (mV 1))))
noncomputable def e_place_of_2 : M D :=
    (mV 3)
noncomputable def g_place_of : S :=
    (sSeq (sSet 2 (mFr (mLc [3, 4] (mEnum (mV 0)) (bTup 2 (bCons (bName 3) (bCons (bName 4) bNil))) t_place_of_1 e_place_of_2)))
    (sSeq (sIf (mOrB (mNotB (mBool (mIsi "str" (mV 1)))) (mBool (m2 oEq (mV 2) (mFr (mLst mNil))))) (sRaise "NoName") sNil)
    (sRet (m2 oIx (mV 2) (mC (.int 0))))))
noncomputable def f_place_of := fnD 5 g_place_of

noncomputable def g_with_part : S :=
    (sRet (m2 oAdd (m2 oAdd (mSlice (mV 0) mNoP (mP (mV 1))) (mV 2)) (mSlice (mV 0) (mP (m2 oAdd (mV 1) (mC (.int 1)))) mNoP)))
noncomputable def f_with_part := fnD 3 g_with_part

noncomputable def g_open_again : S :=
    (sSeq (sDrop (mDef 1 f_need_template (mCons (mV 0) mNil)))
    (sSeq (sSet 2 (mDef 2 f_place_of (mCons (mV 0) (mCons (mV 1) mNil))))
    (sRet (mDef 3 f_with_part (mCons (mV 0) (mCons (mV 2) (mCons (mTup (mCons (m2 oAdd (mSlice (m2 oIx (mV 0) (mV 2)) mNoP (mP (mNeg (mC (.int 1))))) (mTup (mCons (mTup mNil) mNil))) mNil)) mNil)))))))
noncomputable def f_open_again := fnD 3 g_open_again

noncomputable def t_renamed_1 : M Bool :=
    (mBool (m2 oNe (m2 oIx (mV 5) (mC (.int 0))) (mC (.str "word"))))
noncomputable def e_renamed_2 : M D :=
    (m2 oIx (mV 5) (mC (.int 1)))
noncomputable def g_renamed : S :=
    (sSeq (sDrop (mDef 1 f_need_template (mCons (mV 0) mNil)))
    (sSeq (sSet 3 (mDef 2 f_place_of (mCons (mV 0) (mCons (mV 1) mNil))))
    (sSeq (sSet 4 (mFr (mLc [5] (mItems (mV 0)) (bName 5) t_renamed_1 e_renamed_2)))
    (sSeq (sIf (mOrB (mNotB (mBool (mDef 1 f_is_word (mCons (mV 2) mNil)))) (mBool (m2 oIn (mV 2) (mV 4)))) (sRaise "NoName") sNil)
    (sSeq (sSet 5 (m2 oIx (mV 0) (mV 3)))
    (sRet (mDef 3 f_with_part (mCons (mV 0) (mCons (mV 3) (mCons (mTup (mCons (m2 oAdd (mTup (mCons (m2 oIx (mV 5) (mC (.int 0))) (mCons (mV 2) mNil))) (mSlice (mV 5) (mP (mC (.int 2))) mNoP)) mNil)) mNil))))))))))
noncomputable def f_renamed := fnD 6 g_renamed

noncomputable def g_barring : S :=
    (sSeq (sDrop (mDef 1 f_need_template (mCons (mV 0) mNil)))
    (sSeq (sSet 3 (mDef 2 f_place_of (mCons (mV 0) (mCons (mV 1) mNil))))
    (sSeq (sIf (mNotB (mBool (mDef 1 f_is_word (mCons (mV 2) mNil)))) (sRaise "NoWord") sNil)
    (sSeq (sSet 4 (m2 oIx (mV 0) (mV 3)))
    (sSeq (sSet 5 (mCall oTuple (mCons (m1 oSortSet (m2 oAdd (m2 oIx (mV 4) (mNeg (mC (.int 1)))) (mTup (mCons (mV 2) mNil)))) mNil)))
    (sSeq (sIf (mBool (m2 oGt (mCall oLen (mCons (mV 5) mNil)) (mC (.int 3)))) (sRaise "TooGreat") sNil)
    (sRet (mDef 3 f_with_part (mCons (mV 0) (mCons (mV 3) (mCons (mTup (mCons (m2 oAdd (mSlice (mV 4) mNoP (mP (mNeg (mC (.int 1))))) (mTup (mCons (mV 5) mNil))) mNil)) mNil)))))))))))
noncomputable def f_barring := fnD 6 g_barring

noncomputable def g_is_text : S :=
    (sRet (mAnd (mDef 1 f_are_words (mCons (mV 0) mNil)) (m2 oLe (mCall oLen (mCons (mV 0) mNil)) (mC (.int 12)))))
noncomputable def f_is_text := fnD 1 g_is_text

noncomputable def g_takes : S :=
    (sSeq (sIf (mBool (m2 oEq (m2 oIx (mV 0) (mC (.int 0))) (mC (.str "word")))) (sRet (m2 oEq (mV 1) (m2 oIx (mV 0) (mC (.int 1))))) sNil)
    (sRet (m2 oNotIn (mV 1) (m2 oIx (mV 0) (mNeg (mC (.int 1)))))))
noncomputable def f_takes := fnD 2 g_takes

noncomputable def e_fits_gap_1 : M D :=
    (mDef 2 f_takes (mCons (mV 0) (mCons (mV 2) mNil)))
noncomputable def g_fits_gap : S :=
    (sSeq (sIf (mBool (m2 oEq (m2 oIx (mV 0) (mC (.int 0))) (mC (.str "one")))) (sRet (mAnd (mDef 1 f_is_word (mCons (mV 1) mNil)) (mDef 2 f_takes (mCons (mV 0) (mCons (mV 1) mNil))))) sNil)
    (sRet (mAnd (mDef 1 f_is_text (mCons (mV 1) mNil)) (mAnd (m2 oGe (mCall oLen (mCons (mV 1) mNil)) (m2 oIx (mV 0) (mC (.int 2)))) (mCall oAll (mCons (mFr (mLc [2] (mItems (mV 1)) (bName 2) mYes e_fits_gap_1)) mNil))))))
noncomputable def f_fits_gap := fnD 3 g_fits_gap

noncomputable def e_closed_1 : M D :=
    (mTup (mCons (mC (.str "word")) (mCons (mV 6) mNil)))
noncomputable def g_closed : S :=
    (sSeq (sDrop (mDef 1 f_need_template (mCons (mV 0) mNil)))
    (sSeq (sSet 3 (mDef 2 f_place_of (mCons (mV 0) (mCons (mV 1) mNil))))
    (sSeq (sIf (mNotB (mBool (mDef 2 f_fits_gap (mCons (m2 oIx (mV 0) (mV 3)) (mCons (mV 2) mNil))))) (sRaise "NoWorths") sNil)
    (sSeq (sSet 4 (mIf (mBool (mIsi "tuple" (mV 2))) (mV 2) (mTup (mCons (mV 2) mNil))))
    (sSeq (sSet 5 (mDef 3 f_with_part (mCons (mV 0) (mCons (mV 3) (mCons (mCall oTuple (mCons (mFr (mLc [6] (mItems (mV 4)) (bName 6) mYes e_closed_1)) mNil)) mNil)))))
    (sSeq (sIf (mBool (m2 oGt (mCall oLen (mCons (mV 5) mNil)) (mC (.int 6)))) (sRaise "TooGreat") sNil)
    (sRet (mV 5))))))))
noncomputable def f_closed := fnD 7 g_closed

end HD

namespace HD
open PySem PySem.Spec L2 DL
noncomputable def g_need_text : S :=
    (sIf (mNotB (mBool (mDef 1 f_is_text (mCons (mV 0) mNil)))) (sRaise "NoText") sNil)
noncomputable def f_need_text := fnD 1 g_need_text

noncomputable def g_is_done : S :=
    (sSeq (sBind (bTup 2 (bCons (bName 2) (bCons (bName 3) bNil))) (mV 1))
    (sRet (mOr (m2 oLt (mV 2) (mC (.int 0))) (mOr (m2 oNe (m2 oIx (m2 oIx (mV 0) (mV 2)) (mC (.int 0))) (mC (.str "some"))) (m2 oGe (mV 3) (m2 oIx (m2 oIx (mV 0) (mV 2)) (mC (.int 2))))))))
noncomputable def f_is_done := fnD 4 g_is_done

noncomputable def e_may_skip_1 : M D :=
    (mAnd (m2 oEq (m2 oIx (mV 3) (mC (.int 0))) (mC (.str "some"))) (m2 oEq (m2 oIx (mV 3) (mC (.int 2))) (mC (.int 0))))
noncomputable def g_may_skip : S :=
    (sRet (mCall oAll (mCons (mFr (mLc [3] (mItems (mSlice (mV 0) (mP (mV 1)) (mP (mV 2)))) (bName 3) mYes e_may_skip_1)) mNil)))
noncomputable def f_may_skip := fnD 4 g_may_skip

noncomputable def g_most_of : S :=
    (sSeq (sIf (mBool (m2 oEq (m2 oIx (mV 0) (mC (.int 0))) (mC (.str "some")))) (sRet (mCall oMax2 (mCons (mC (.int 1)) (mCons (m2 oIx (mV 0) (mC (.int 2))) mNil)))) sNil)
    (sRet (mC (.int 1))))
noncomputable def f_most_of := fnD 1 g_most_of

noncomputable def b_moves_at_1 : S :=
    (sIf (mAndB (mBool (mDef 3 f_may_skip (mCons (mV 0) (mCons (m2 oAdd (mV 3) (mC (.int 1))) (mCons (mV 6) mNil))))) (mBool (mDef 2 f_takes (mCons (m2 oIx (mV 0) (mV 6)) (mCons (mV 2) mNil))))) (sDrop (mAppend 5 (mTup (mCons (mV 6) (mCons (mC (.int 1)) mNil))))) sNil)
noncomputable def g_moves_at : S :=
    (sSeq (sBind (bTup 2 (bCons (bName 3) (bCons (bName 4) bNil))) (mV 1))
    (sSeq (sOwn 5 (mLst mNil))
    (sSeq (sIf (mAndB (mBool (m2 oGe (mV 3) (mC (.int 0)))) (mAndB (mBool (m2 oEq (m2 oIx (m2 oIx (mV 0) (mV 3)) (mC (.int 0))) (mC (.str "some")))) (mBool (mDef 2 f_takes (mCons (m2 oIx (mV 0) (mV 3)) (mCons (mV 2) mNil)))))) (sDrop (mAppend 5 (mTup (mCons (mV 3) (mCons (mCall oMin2 (mCons (mDef 1 f_most_of (mCons (m2 oIx (mV 0) (mV 3)) mNil)) (mCons (m2 oAdd (mV 4) (mC (.int 1))) mNil))) mNil))))) sNil)
    (sSeq (sIf (mBool (mDef 2 f_is_done (mCons (mV 0) (mCons (mV 1) mNil)))) (sFor (mRange2 (m2 oAdd (mV 3) (mC (.int 1))) (mCall oLen (mCons (mV 0) mNil))) (bName 6) b_moves_at_1) sNil)
    (sRet (mV 5))))))
noncomputable def f_moves_at := fnD 7 g_moves_at

noncomputable def b_stands_behind_1 : S :=
    (sPutM 3 (mV 5) (mC (.bool true)))
noncomputable def b_stands_behind_2 : S :=
    (sFor (mItems (mDef 3 f_moves_at (mCons (mV 0) (mCons (mV 4) (mCons (mV 2) mNil))))) (bName 5) b_stands_behind_1)
noncomputable def g_stands_behind : S :=
    (sSeq (sOwnM 3 mMNil)
    (sSeq (sFor (mItems (mV 1)) (bName 4) b_stands_behind_2)
    (sRet (mCall oTuple (mCons (mCall oSorted (mCons (mFr (mKeysL 3)) mNil)) mNil)))))
noncomputable def f_stands_behind := fnD 6 g_stands_behind

noncomputable def g_end_now : S :=
    (sRet (mAnd (mDef 2 f_is_done (mCons (mV 0) (mCons (mV 1) mNil))) (mDef 3 f_may_skip (mCons (mV 0) (mCons (m2 oAdd (m2 oIx (mV 1) (mC (.int 0))) (mC (.int 1))) (mCons (mCall oLen (mCons (mV 0) mNil)) mNil))))))
noncomputable def f_end_now := fnD 2 g_end_now

noncomputable def b_has_it_1 : S :=
    (sSet 2 (mDef 3 f_stands_behind (mCons (mV 0) (mCons (mV 2) (mCons (mV 3) mNil)))))
noncomputable def e_has_it_2 : M D :=
    (mDef 2 f_end_now (mCons (mV 0) (mCons (mV 4) mNil)))
noncomputable def g_has_it : S :=
    (sSeq (sSet 2 (mTup (mCons (mC (.tuple ([(-1), (0)].map .int))) mNil)))
    (sSeq (sFor (mItems (mV 1)) (bName 3) b_has_it_1)
    (sRet (mCall oAny (mCons (mFr (mLc [4] (mItems (mV 2)) (bName 4) mYes e_has_it_2)) mNil)))))
noncomputable def f_has_it := fnD 5 g_has_it

noncomputable def g_has : S :=
    (sSeq (sDrop (mDef 1 f_need_template (mCons (mV 0) mNil)))
    (sSeq (sDrop (mDef 1 f_need_text (mCons (mV 1) mNil)))
    (sRet (mDef 2 f_has_it (mCons (mV 0) (mCons (mV 1) mNil))))))
noncomputable def f_has := fnD 2 g_has

noncomputable def t__law_text_1 : M Bool :=
    (mBool (m2 oNotIn (mV 8) (m2 oIx (mV 5) (mNeg (mC (.int 1))))))
noncomputable def e__law_text_2 : M D :=
    (mV 8)
noncomputable def b__law_text_3 : S :=
    (sSet 4 (m2 oAdd (mV 4) (mTup (mCons (mTown 0 1 1 f__law_pick (mCons (mV 7) mNil)) mNil))))
noncomputable def b__law_text_4 : S :=
    (sIf (mBool (m2 oEq (m2 oIx (mV 5) (mC (.int 0))) (mC (.str "word")))) (sSet 4 (m2 oAdd (mV 4) (mTup (mCons (m2 oIx (mV 5) (mC (.int 1))) mNil)))) (sSeq (sSet 6 (mIf (mBool (m2 oEq (m2 oIx (mV 5) (mC (.int 0))) (mC (.str "one")))) (mC (.int 1)) (m2 oAdd (m2 oIx (mV 5) (mC (.int 2))) (mTown 0 1 1 f__law_draw (mCons (mC (.int 3)) mNil)))))
    (sSeq (sSet 7 (mFr (mLc [8] (mItems (mV 3)) (bName 8) t__law_text_1 e__law_text_2)))
    (sFor (mRange1 (mV 6)) (bName 9) b__law_text_3))))
noncomputable def g__law_text : S :=
    (sSeq (sSet 3 (mFr (mLst (mCons (mC (.str "a")) (mCons (mC (.str "b")) (mCons (mC (.str "c")) (mCons (mC (.str "get")) mNil)))))))
    (sSeq (sSet 4 (mTup mNil))
    (sSeq (sFor (mItems (mV 2)) (bName 5) b__law_text_4)
    (sSeq (sIf (mBool (m2 oEq (mTown 0 1 1 f__law_draw (mCons (mC (.int 4)) mNil)) (mC (.int 0)))) (sSet 4 (m2 oAdd (mV 4) (mTup (mCons (mTown 0 1 1 f__law_pick (mCons (mV 3) mNil)) mNil)))) sNil)
    (sRet (mSlice (mV 4) mNoP (mP (mC (.int 12)))))))))
noncomputable def f__law_text := fnT 10 g__law_text

noncomputable def t__law_fits_1 : M Bool :=
    (mBool (m2 oIn (mV 2) (m2 oIx (mV 0) (mNeg (mC (.int 1))))))
noncomputable def e__law_fits_2 : M D :=
    (mV 2)
noncomputable def g__law_fits : S :=
    (sSeq (sIf (mBool (m2 oEq (m2 oIx (mV 0) (mC (.int 0))) (mC (.str "word")))) (sRet (m2 oEq (mV 1) (mTup (mCons (m2 oIx (mV 0) (mC (.int 1))) mNil)))) sNil)
    (sSeq (sIf (mOrB (mAndB (mBool (m2 oEq (m2 oIx (mV 0) (mC (.int 0))) (mC (.str "one")))) (mBool (m2 oNe (mCall oLen (mCons (mV 1) mNil)) (mC (.int 1))))) (mAndB (mBool (m2 oEq (m2 oIx (mV 0) (mC (.int 0))) (mC (.str "some")))) (mBool (m2 oLt (mCall oLen (mCons (mV 1) mNil)) (m2 oIx (mV 0) (mC (.int 2))))))) (sRet (mC (.bool false))) sNil)
    (sRet (m2 oEq (mFr (mLc [2] (mItems (mV 1)) (bName 2) t__law_fits_1 e__law_fits_2)) (mFr (mLst mNil))))))
noncomputable def f__law_fits := fnD 3 g__law_fits

noncomputable def t__law_runs_1 : M Bool :=
    (mBool (mDef 2 f__law_fits (mCons (mV 3) (mCons (mSlice (mV 1) (mP (m2 oIx (mV 5) (mNeg (mC (.int 1))))) (mP (mV 7))) mNil))))
noncomputable def e__law_runs_2 : M D :=
    (mV 7)
noncomputable def e__law_runs_3 : M D :=
    (m2 oAdd (mV 5) (mFr (mLst (mCons (mV 7) mNil))))
noncomputable def b__law_runs_4 : S :=
    (sSeq (sSet 6 (mFr (mLc [7] (mRange2 (m2 oIx (mV 5) (mNeg (mC (.int 1)))) (m2 oAdd (mCall oLen (mCons (mV 1) mNil)) (mC (.int 1)))) (bName 7) t__law_runs_1 e__law_runs_2)))
    (sDrop (mExtend 4 (mFr (mLc [7] (mItems (mV 6)) (bName 7) mYes e__law_runs_3)))))
noncomputable def b__law_runs_5 : S :=
    (sSeq (sOwn 4 (mLst mNil))
    (sSeq (sFor (mItems (mV 2)) (bName 5) b__law_runs_4)
    (sSet 2 (mV 4))))
noncomputable def t__law_runs_6 : M Bool :=
    (mBool (m2 oEq (m2 oIx (mV 5) (mNeg (mC (.int 1)))) (mCall oLen (mCons (mV 1) mNil))))
noncomputable def e__law_runs_7 : M D :=
    (mV 5)
noncomputable def g__law_runs : S :=
    (sSeq (sSet 2 (mFr (mLst (mCons (mFr (mLst (mCons (mC (.int 0)) mNil))) mNil))))
    (sSeq (sFor (mItems (mV 0)) (bName 3) b__law_runs_5)
    (sRet (mFr (mLc [5] (mItems (mV 2)) (bName 5) t__law_runs_6 e__law_runs_7)))))
noncomputable def f__law_runs := fnD 8 g__law_runs

end HD

set_option maxHeartbeats 0
namespace HD
open PySem PySem.Spec PyProof.Rows L2
def top (i : Nat) : Stmt := PySem.Challenge.pw_gapforms_k03_stands.main.body.getD i (.Pass ⟨0, 0, 0, 0⟩)
abbrev s__law_cell_at : Stmt := top 37
abbrev s__law_mixed : Stmt := top 38
abbrev s__law_draw : Stmt := top 39
abbrev s__law_pick : Stmt := top 40
abbrev s__law_word : Stmt := top 41
abbrev s__law_barred : Stmt := top 42
abbrev s__law_template : Stmt := top 43
abbrev s_is_word : Stmt := top 19
abbrev s_are_words : Stmt := top 20
abbrev s_is_barred : Stmt := top 21
abbrev s_is_whole : Stmt := top 18
abbrev s_is_part : Stmt := top 22
abbrev s_is_template : Stmt := top 23
abbrev s_need_template : Stmt := top 24
abbrev s_most_of : Stmt := top 27
abbrev s_is_stand : Stmt := top 32
abbrev s_need_stand : Stmt := top 33
abbrev s_is_done : Stmt := top 28
abbrev s_may_skip : Stmt := top 29
abbrev s_end_now : Stmt := top 30
abbrev s_may_end : Stmt := top 35
abbrev s_takes : Stmt := top 25
abbrev s_moves_at : Stmt := top 31
abbrev s_moves : Stmt := top 34
abbrev s__law_which : Stmt := top 45
abbrev s__law_ask : Stmt := top 46
abbrev s__law_enough : Stmt := top 48
abbrev s__law_free : Stmt := top 49
abbrev s__law_takes : Stmt := top 44
abbrev s__law_cap : Stmt := top 47
abbrev s__law_moves : Stmt := top 50
abbrev s_law : Stmt := top 51
def d__law_cell_at : He.DefD := ⟨("_law_cell_at", none), "_law_cell_at", "_law_cell_at", defArgs s__law_cell_at, defBody s__law_cell_at, defScope s__law_cell_at, [], []⟩
def d__law_mixed : He.DefD := ⟨("_law_mixed", none), "_law_mixed", "_law_mixed", defArgs s__law_mixed, defBody s__law_mixed, defScope s__law_mixed, [], []⟩
def d__law_draw : He.DefD := ⟨("_law_draw", none), "_law_draw", "_law_draw", defArgs s__law_draw, defBody s__law_draw, defScope s__law_draw, [], []⟩
def d__law_pick : He.DefD := ⟨("_law_pick", none), "_law_pick", "_law_pick", defArgs s__law_pick, defBody s__law_pick, defScope s__law_pick, [], []⟩
def d__law_word : He.DefD := ⟨("_law_word", none), "_law_word", "_law_word", defArgs s__law_word, defBody s__law_word, defScope s__law_word, [], []⟩
def d__law_barred : He.DefD := ⟨("_law_barred", none), "_law_barred", "_law_barred", defArgs s__law_barred, defBody s__law_barred, defScope s__law_barred, [], []⟩
def d__law_template : He.DefD := ⟨("_law_template", none), "_law_template", "_law_template", defArgs s__law_template, defBody s__law_template, defScope s__law_template, [], []⟩
def d_is_word : He.DefD := ⟨("is_word", none), "is_word", "is_word", defArgs s_is_word, defBody s_is_word, defScope s_is_word, [], []⟩
def d_are_words : He.DefD := ⟨("are_words", none), "are_words", "are_words", defArgs s_are_words, defBody s_are_words, defScope s_are_words, [], []⟩
def d_is_barred : He.DefD := ⟨("is_barred", none), "is_barred", "is_barred", defArgs s_is_barred, defBody s_is_barred, defScope s_is_barred, [], []⟩
def d_is_whole : He.DefD := ⟨("is_whole", none), "is_whole", "is_whole", defArgs s_is_whole, defBody s_is_whole, defScope s_is_whole, [], []⟩
def d_is_part : He.DefD := ⟨("is_part", none), "is_part", "is_part", defArgs s_is_part, defBody s_is_part, defScope s_is_part, [], []⟩
def d_is_template : He.DefD := ⟨("is_template", none), "is_template", "is_template", defArgs s_is_template, defBody s_is_template, defScope s_is_template, [], []⟩
def d_need_template : He.DefD := ⟨("need_template", none), "need_template", "need_template", defArgs s_need_template, defBody s_need_template, defScope s_need_template, [], []⟩
def d_most_of : He.DefD := ⟨("most_of", none), "most_of", "most_of", defArgs s_most_of, defBody s_most_of, defScope s_most_of, [], []⟩
def d_is_stand : He.DefD := ⟨("is_stand", none), "is_stand", "is_stand", defArgs s_is_stand, defBody s_is_stand, defScope s_is_stand, [], []⟩
def d_need_stand : He.DefD := ⟨("need_stand", none), "need_stand", "need_stand", defArgs s_need_stand, defBody s_need_stand, defScope s_need_stand, [], []⟩
def d_is_done : He.DefD := ⟨("is_done", none), "is_done", "is_done", defArgs s_is_done, defBody s_is_done, defScope s_is_done, [], []⟩
def d_may_skip : He.DefD := ⟨("may_skip", none), "may_skip", "may_skip", defArgs s_may_skip, defBody s_may_skip, defScope s_may_skip, [], []⟩
def d_end_now : He.DefD := ⟨("end_now", none), "end_now", "end_now", defArgs s_end_now, defBody s_end_now, defScope s_end_now, [], []⟩
def d_may_end : He.DefD := ⟨("may_end", none), "may_end", "may_end", defArgs s_may_end, defBody s_may_end, defScope s_may_end, [], []⟩
def d_takes : He.DefD := ⟨("takes", none), "takes", "takes", defArgs s_takes, defBody s_takes, defScope s_takes, [], []⟩
def d_moves_at : He.DefD := ⟨("moves_at", none), "moves_at", "moves_at", defArgs s_moves_at, defBody s_moves_at, defScope s_moves_at, [], []⟩
def d_moves : He.DefD := ⟨("moves", none), "moves", "moves", defArgs s_moves, defBody s_moves, defScope s_moves, [], []⟩
def d__law_which : He.DefD := ⟨("_law_which", none), "_law_which", "_law_which", defArgs s__law_which, defBody s__law_which, defScope s__law_which, [], []⟩
def d__law_ask : He.DefD := ⟨("_law_ask", none), "_law_ask", "_law_ask", defArgs s__law_ask, defBody s__law_ask, defScope s__law_ask, [], []⟩
def d__law_enough : He.DefD := ⟨("_law_enough", none), "_law_enough", "_law_enough", defArgs s__law_enough, defBody s__law_enough, defScope s__law_enough, [], []⟩
def d__law_free : He.DefD := ⟨("_law_free", none), "_law_free", "_law_free", defArgs s__law_free, defBody s__law_free, defScope s__law_free, [], []⟩
def d__law_takes : He.DefD := ⟨("_law_takes", none), "_law_takes", "_law_takes", defArgs s__law_takes, defBody s__law_takes, defScope s__law_takes, [], []⟩
def d__law_cap : He.DefD := ⟨("_law_cap", none), "_law_cap", "_law_cap", defArgs s__law_cap, defBody s__law_cap, defScope s__law_cap, [], []⟩
def d__law_moves : He.DefD := ⟨("_law_moves", none), "_law_moves", "_law_moves", defArgs s__law_moves, defBody s__law_moves, defScope s__law_moves, [], []⟩
def d_law : He.DefD := ⟨("law", none), "law", "law", defArgs s_law, defBody s_law, defScope s_law, [], []⟩
def fn : List He.DefD := [d__law_cell_at, d__law_mixed, d__law_draw, d__law_pick, d__law_word, d__law_barred, d__law_template, d_is_word, d_are_words, d_is_barred, d_is_whole, d_is_part, d_is_template, d_need_template, d_most_of, d_is_stand, d_need_stand, d_is_done, d_may_skip, d_end_now, d_may_end, d_takes, d_moves_at, d_moves, d__law_which, d__law_ask, d__law_enough, d__law_free, d__law_takes, d__law_cap, d__law_moves, d_law]
def fa : List He.Fa := [.glo "_law_cell_at", .glo "_law_mixed", .glo "_law_draw", .glo "_law_pick", .glo "_law_word", .glo "_law_barred", .glo "_law_template", .glo "is_word", .glo "are_words", .glo "is_barred", .glo "is_whole", .glo "is_part", .glo "is_template", .glo "need_template", .glo "most_of", .glo "is_stand", .glo "need_stand", .glo "is_done", .glo "may_skip", .glo "end_now", .glo "may_end", .glo "takes", .glo "moves_at", .glo "moves", .glo "_law_which", .glo "_law_ask", .glo "_law_enough", .glo "_law_free", .glo "_law_takes", .glo "_law_cap", .glo "_law_moves", .glo "law", .free "ValueError", .free "all", .free "bool", .free "enumerate", .free "int", .free "isinstance", .free "len", .free "list", .free "max", .free "min", .free "range", .free "set", .free "sorted", .free "str", .free "tuple", .glo "GapError", .exc "GapError", .glo "NoTemplate", .exc "NoTemplate", .glo "NoText", .exc "NoText", .glo "NoWorths", .exc "NoWorths", .glo "NoStand", .exc "NoStand", .glo "NoWord", .exc "NoWord", .glo "NoBook", .exc "NoBook", .glo "NoRows", .exc "NoRows", .glo "NoPair", .exc "NoPair", .glo "Unsure", .exc "Unsure", .str "LETTERS" "abcdefghijklmnopqrstuvwxyz", .int "LONGEST" 4, .int "PARTS" 6, .int "BARRED" 3, .int "LOW" 2, .glo "SIZES"]
def ts : List He.Tab := [(fun K => He.ga K "SIZES", ["word", "one", "some"])]
def ex (K : PySem.W.Frag) : Bool := DL.tabB K (He.ga K "SIZES") tabKv && (DL.exB K "GapError" excsC && (true))
def names0 : List PySem.Str := ["GapError", "NoTemplate", "NoText", "NoWorths", "NoStand", "NoWord", "NoBook", "NoRows", "NoPair", "Unsure", "LETTERS", "LONGEST", "PARTS", "BARRED", "LOW", "SIZES", "is_whole", "is_word", "are_words", "is_barred"]
def names1 : List PySem.Str := ["is_part", "is_template", "need_template", "takes", "most_of", "is_done", "may_skip", "end_now", "moves_at", "is_stand", "need_stand", "moves", "may_end", "_law_cell_at", "_law_mixed", "_law_draw", "_law_pick", "_law_word", "_law_barred", "_law_template"]
def names2 : List PySem.Str := ["_law_takes", "_law_which", "_law_ask", "_law_cap", "_law_enough", "_law_free", "_law_moves"]
def names : List PySem.Str := names0 ++ names1 ++ names2
abbrev R : PySem.W.OpenRow := PySem.W.OpenLaw.row PySem.Challenge.rw_gapforms_k03_stands
abbrev hk : PySem.W.Hook := He.hookX 4 fa fn ts [] ex
def ob (s : PySem.W.SharedT) : He.AlX := He.obsX 4 fa fn ts [] ex (HandSHeadRun.getT s)
theorem ob_eq (s : PySem.W.SharedT) : ob s = hk.obs s.abs := He.obsX_eq (HandSHeadRun.getT_eq s)
theorem run0 (w : World) : HandSHeadRun.RunEq R (PySem.W.view R.prog [51]) hk ob 30000 names (w.withFollow "special-get-raises" false) := by
  intro os
  kernel_rfl
theorem run1 (w : World) : HandSHeadRun.RunEq R (PySem.W.view R.prog [51]) hk ob 30000 names (w.withFollow "special-get-raises" true) := by
  intro os
  kernel_rfl
theorem run (w : World) : HandSHeadRun.RunEq R (PySem.W.view R.prog [51]) hk ob 30000 names w :=
  PySem.W.byRow2 "special-get-raises" (P := fun w => HandSHeadRun.RunEq R (PySem.W.view R.prog [51]) hk ob 30000 names w) run0 run1 w
/-- what the head tells, at hand -/
structure Hd (w : World) (K : PySem.W.Frag) (mg : PySem.Str → Option Value) : Prop where
  ex : ∃ h, K.In h ∧ h.Ns mainGlobals mg ∧ He.SaysX fa fn ts [] ex w h K
section
variable {w : World} {K : PySem.W.Frag} {mg : PySem.Str → Option Value}
theorem Hd.fact (d : Hd w K mg) (i : Nat) {f : He.Fa} (h : fa[i]? = some f := by rfl) : f.ok K = true := by
  obtain ⟨_, _, _, c⟩ := d.ex
  exact c.t.d.fact i h
theorem Hd.fnd (z : Hd w K mg) (i : Nat) {d : He.DefD} (h : fn[i]? = some d := by rfl) : ∃ fd, FunD K d.name d.qual d.params d.body d.scope (d.dvs K) (d.kws K) (He.fAd K d.at_) fd := by
  obtain ⟨_, _, _, c⟩ := z.ex
  exact c.t.d.def_ i h
theorem Hd.glo (d : Hd w K mg) (i : Nat) {x : PySem.Str} (h : fa[i]? = some (.glo x) := by rfl) : mg x = some (.ref (He.ga K x)) := by
  have q := d.fact i h
  obtain ⟨_, KX, G, _⟩ := d.ex
  exact He.glo_ok KX G q
theorem Hd.free (d : Hd w K mg) (i : Nat) {x : PySem.Str} (h : fa[i]? = some (.free x) := by rfl) : mg x = none := by
  have q := d.fact i h
  obtain ⟨_, KX, G, _⟩ := d.ex
  exact He.free_ok KX G q
theorem Hd.int (d : Hd w K mg) (i : Nat) {x : PySem.Str} {j : Int} (h : fa[i]? = some (.int x j) := by rfl) : ∃ t, mg x = some (.int j t) := by
  have q := d.fact i h
  obtain ⟨_, KX, G, _⟩ := d.ex
  exact He.int_ok KX G q
theorem Hd.str (d : Hd w K mg) (i : Nat) {x z : PySem.Str} (h : fa[i]? = some (.str x z) := by rfl) : ∃ t, mg x = some (.str z t) := by
  have q := d.fact i h
  obtain ⟨_, KX, G, _⟩ := d.ex
  exact He.str_ok KX G q
theorem Hd.tab (d : Hd w K mg) : DL.TabI K w (He.ga K "SIZES") tabKv := by
  obtain ⟨_, _, _, c⟩ := d.ex
  exact ⟨c.t.tab 0 rfl, (Bool.and_eq_true_iff.mp c.more).1⟩
theorem Hd.exb (d : Hd w K mg) : DL.ExB K "GapError" excsC := by
  obtain ⟨_, _, _, c⟩ := d.ex
  exact DL.exB_ok (Bool.and_eq_true_iff.mp (Bool.and_eq_true_iff.mp c.more).2).1
end
end HD

set_option maxHeartbeats 4000000
namespace HD
open PySem PySem.Spec L2 DL
noncomputable def g__law_mixed_v : S :=
    (sSeq (sSet 3 (m2 oMod (m2 oMulX (m2 oAdd (m2 oAdd (mScr 0 1 f__law_cell_at (mCons (mV 1) mNil)) (m2 oMulX (mC (.int 7919)) (mV 1))) (mC (.int 1))) (mC (.int 48271))) (mC (.int 2147483647))))
    (sRet (m2 oMod (m2 oMod (m2 oAdd (m2 oAdd (m2 oMulX (mV 3) (mV 3)) (m2 oMulX (mC (.int 7)) (mV 3))) (mV 1)) (mC (.int 2147483629))) (mV 2))))
noncomputable def f__law_mixed_v := fnS 4 g__law_mixed_v

noncomputable def g__law_draw_v : S :=
    (sSeq (sDrop (mTick 1))
    (sRet (mScr 0 2 f__law_mixed_v (mCons (mLenS 1) (mCons (mV 2) mNil)))))
noncomputable def f__law_draw_v := fnT 3 g__law_draw_v

noncomputable def g__law_pick_v : S :=
    (sRet (m2 oIx (mV 2) (mTown 0 1 1 f__law_draw_v (mCons (mCall oLen (mCons (mV 2) mNil)) mNil))))
noncomputable def f__law_pick_v := fnT 3 g__law_pick_v

noncomputable def b__law_word_1 : S :=
    (sSet 2 (m2 oAdd (mV 2) (m2 oIx (mC (.str "abcdefghijklmnopqrstuvwxyz")) (mTown 0 1 1 f__law_draw_v (mCons (mC (.int 26)) mNil)))))
noncomputable def g__law_word : S :=
    (sSeq (sIf (mBool (m2 oGt (mTown 0 1 1 f__law_draw_v (mCons (mC (.int 12)) mNil)) (mC (.int 0)))) (sRet (mTown 0 1 1 f__law_pick_v (mCons (mFr (mLst (mCons (mC (.str "a")) (mCons (mC (.str "b")) (mCons (mC (.str "c")) (mCons (mC (.str "x")) mNil)))))) mNil))) sNil)
    (sSeq (sSet 2 (mC (.str "")))
    (sSeq (sFor (mRange1 (m2 oAdd (mC (.int 1)) (mTown 0 1 1 f__law_draw_v (mCons (mC (.int 4)) mNil)))) (bName 3) b__law_word_1)
    (sRet (mV 2)))))
noncomputable def f__law_word := fnT 4 g__law_word

noncomputable def e__law_barred_v_1 : M D :=
    (mTown 0 1 0 f__law_word mNil)
noncomputable def g__law_barred_v : S :=
    (sSeq (sSet 2 (mTown 0 1 1 f__law_pick_v (mCons (mFr (mLst (mCons (mC (.int 0)) (mCons (mC (.int 0)) (mCons (mC (.int 1)) (mCons (mC (.int 1)) (mCons (mC (.int 2)) (mCons (mC (.int 3)) mNil)))))))) mNil)))
    (sRet (mCall oTuple (mCons (m1 oSortSet (mFr (mLc [3] (mRange1 (mV 2)) (bName 3) mYes e__law_barred_v_1))) mNil))))
noncomputable def f__law_barred_v := fnT 4 g__law_barred_v

noncomputable def b__law_template_v_1 : S :=
    (sSeq (sSet 7 (mTown 0 1 1 f__law_draw_v (mCons (mC (.int 5)) mNil)))
    (sSeq (sSet 8 (m2 oIx (mV 3) (mV 5)))
    (sSeq (sIf (mBool (m2 oLt (mV 7) (mC (.int 2)))) (sDrop (mAppend 4 (mTup (mCons (mC (.str "word")) (mCons (mTown 0 1 0 f__law_word mNil) mNil))))) (sIf (mBool (m2 oEq (mV 7) (mC (.int 2)))) (sDrop (mAppend 4 (mTup (mCons (mC (.str "one")) (mCons (mV 8) (mCons (mTown 0 1 0 f__law_barred_v mNil) mNil)))))) (sDrop (mAppend 4 (mTup (mCons (mC (.str "some")) (mCons (mV 8) (mCons (mTown 0 1 1 f__law_draw_v (mCons (mC (.int 3)) mNil)) (mCons (mTown 0 1 0 f__law_barred_v mNil) mNil)))))))))
    (sSet 5 (m2 oAdd (mV 5) (mCall oInt (mCons (m2 oGt (mV 7) (mC (.int 1))) mNil)))))))
noncomputable def g__law_template_v : S :=
    (sSeq (sSet 3 (mTown 0 1 1 f__law_pick_v (mCons (mFr (mLst (mCons (mC (.str "ghijkl")) (mCons (mC (.str "lkjihg")) (mCons (mC (.str "hkgjli")) mNil))))) mNil)))
    (sSeq (sOwn 4 (mLst mNil))
    (sSeq (sSet 5 (mC (.int 0)))
    (sSeq (sFor (mRange1 (mTown 0 1 1 f__law_draw_v (mCons (m2 oAdd (mV 2) (mC (.int 1))) mNil))) (bName 6) b__law_template_v_1)
    (sRet (mCall oTuple (mCons (mV 4) mNil)))))))
noncomputable def f__law_template_v := fnT 9 g__law_template_v

noncomputable def g_is_stand : S :=
    (sSeq (sIf (mOrB (mNotB (mBool (mIsi "tuple" (mV 1)))) (mOrB (mBool (m2 oNe (mCall oLen (mCons (mV 1) mNil)) (mC (.int 2)))) (mNotB (mBool (mDef 3 f_is_whole (mCons (m2 oIx (mV 1) (mC (.int 0))) (mCons (mNeg (mC (.int 1))) (mCons (m2 oSub (mCall oLen (mCons (mV 0) mNil)) (mC (.int 1))) mNil)))))))) (sRet (mC (.bool false))) sNil)
    (sSeq (sIf (mBool (m2 oLt (m2 oIx (mV 1) (mC (.int 0))) (mC (.int 0)))) (sRet (mDef 3 f_is_whole (mCons (m2 oIx (mV 1) (mC (.int 1))) (mCons (mC (.int 0)) (mCons (mC (.int 0)) mNil))))) sNil)
    (sRet (mDef 3 f_is_whole (mCons (m2 oIx (mV 1) (mC (.int 1))) (mCons (mC (.int 1)) (mCons (mDef 1 f_most_of (mCons (m2 oIx (mV 0) (m2 oIx (mV 1) (mC (.int 0)))) mNil)) mNil)))))))
noncomputable def f_is_stand := fnD 2 g_is_stand

noncomputable def g_need_stand : S :=
    (sIf (mNotB (mBool (mDef 2 f_is_stand (mCons (mV 0) (mCons (mV 1) mNil))))) (sRaise "NoStand") sNil)
noncomputable def f_need_stand := fnD 2 g_need_stand

noncomputable def g_may_end : S :=
    (sSeq (sDrop (mDef 1 f_need_template (mCons (mV 0) mNil)))
    (sSeq (sDrop (mDef 2 f_need_stand (mCons (mV 0) (mCons (mV 1) mNil))))
    (sRet (mDef 2 f_end_now (mCons (mV 0) (mCons (mV 1) mNil))))))
noncomputable def f_may_end := fnD 2 g_may_end

noncomputable def g_moves : S :=
    (sSeq (sDrop (mDef 1 f_need_template (mCons (mV 0) mNil)))
    (sSeq (sDrop (mDef 2 f_need_stand (mCons (mV 0) (mCons (mV 1) mNil))))
    (sSeq (sIf (mNotB (mBool (mDef 1 f_is_word (mCons (mV 2) mNil)))) (sRaise "NoWord") sNil)
    (sRet (mDef 3 f_moves_at (mCons (mV 0) (mCons (mV 1) (mCons (mV 2) mNil))))))))
noncomputable def f_moves := fnD 3 g_moves

noncomputable def g__law_which_v : S :=
    (sSeq (sOwn 1 (mLst (mCons (mIsE excsC 0 "NoTemplate") (mCons (mIsE excsC 0 "NoText") (mCons (mIsE excsC 0 "NoWorths") (mCons (mIsE excsC 0 "NoStand") mNil))))))
    (sSeq (sDrop (mExtend 1 (mFr (mLst (mCons (mIsE excsC 0 "NoWord") (mCons (mIsE excsC 0 "NoBook") (mCons (mIsE excsC 0 "NoRows") (mCons (mIsE excsC 0 "NoPair") mNil))))))))
    (sSeq (sDrop (mAppend 1 (mIsE excsC 0 "Unsure")))
    (sSeq (sIf (mOrB (mBool (m2 oNe (mMeth isL oCount (mV 1) (mCons (mC (.bool true)) mNil)) (mC (.int 1)))) (mNotB (mBool (mIsV excsC 0)))) (sRet (mTup (mCons (mC (.str "refused")) (mCons (mNeg (mC (.int 1))) mNil)))) sNil)
    (sRet (mTup (mCons (mC (.str "refused")) (mCons (mMeth isL oIndex (mV 1) (mCons (mC (.bool true)) mNil)) mNil))))))))
noncomputable def f__law_which_v := fnX 2 g__law_which_v

noncomputable def g__law_ask : S :=
    (sTry (sSeq (sIf (mBool (m2 oEq (mV 0) (mC (.int 0)))) (sRet (mDef 3 f_moves (mCons (mV 1) (mCons (mV 2) (mCons (mV 3) mNil))))) sNil)
    (sRet (mDef 2 f_may_end (mCons (mV 1) (mCons (mV 2) mNil))))) excsC f__law_which_v)
noncomputable def f__law_ask := fnD 5 g__law_ask

noncomputable def g__law_enough : S :=
    (sRet (mOr (m2 oEq (m2 oIx (mV 1) (mC (.int 0))) (mNeg (mC (.int 1)))) (mOr (m2 oNe (m2 oIx (m2 oIx (mV 0) (m2 oIx (mV 1) (mC (.int 0)))) (mC (.int 0))) (mC (.str "some"))) (m2 oGe (m2 oIx (mV 1) (mC (.int 1))) (m2 oIx (m2 oIx (mV 0) (m2 oIx (mV 1) (mC (.int 0)))) (mC (.int 2)))))))
noncomputable def f__law_enough := fnD 2 g__law_enough

noncomputable def t__law_free_1 : M Bool :=
    (mOrB (mBool (m2 oNe (m2 oIx (mV 3) (mC (.int 0))) (mC (.str "some")))) (mBool (m2 oGt (m2 oIx (mV 3) (mC (.int 2))) (mC (.int 0)))))
noncomputable def e__law_free_2 : M D :=
    (mC (.int 1))
noncomputable def g__law_free : S :=
    (sRet (m2 oEq (mCall oLen (mCons (mFr (mLc [3] (mItems (mSlice (mV 0) (mP (mV 1)) (mP (mV 2)))) (bName 3) t__law_free_1 e__law_free_2)) mNil)) (mC (.int 0))))
noncomputable def f__law_free := fnD 4 g__law_free

noncomputable def g__law_takes : S :=
    (sSeq (sIf (mBool (m2 oEq (m2 oIx (mV 0) (mC (.int 0))) (mC (.str "word")))) (sRet (m2 oEq (mV 1) (m2 oIx (mV 0) (mC (.int 1))))) sNil)
    (sRet (m2 oNotIn (mV 1) (m2 oIx (mV 0) (mNeg (mC (.int 1)))))))
noncomputable def f__law_takes := fnD 2 g__law_takes

noncomputable def g__law_cap : S :=
    (sRet (mIf (mBool (m2 oEq (m2 oIx (mV 0) (mC (.int 0))) (mC (.str "some")))) (mCall oMax2 (mCons (mC (.int 1)) (mCons (m2 oIx (mV 0) (mC (.int 2))) mNil))) (mC (.int 1))))
noncomputable def f__law_cap := fnD 1 g__law_cap

noncomputable def b__law_moves_1 : S :=
    (sIf (mBool (mDef 2 f__law_takes (mCons (m2 oIx (mV 0) (mV 6)) (mCons (mV 2) mNil)))) (sSeq (sIf (mAndB (mBool (m2 oEq (mV 6) (mV 3))) (mBool (m2 oEq (m2 oIx (m2 oIx (mV 0) (mV 3)) (mC (.int 0))) (mC (.str "some"))))) (sDrop (mAppend 5 (mTup (mCons (mV 3) (mCons (mCall oMin2 (mCons (m2 oAdd (mV 4) (mC (.int 1))) (mCons (mDef 1 f__law_cap (mCons (m2 oIx (mV 0) (mV 3)) mNil)) mNil))) mNil))))) sNil)
    (sIf (mAndB (mBool (m2 oGt (mV 6) (mV 3))) (mAndB (mBool (mDef 2 f__law_enough (mCons (mV 0) (mCons (mV 1) mNil)))) (mBool (mDef 3 f__law_free (mCons (mV 0) (mCons (m2 oAdd (mV 3) (mC (.int 1))) (mCons (mV 6) mNil))))))) (sDrop (mAppend 5 (mTup (mCons (mV 6) (mCons (mC (.int 1)) mNil))))) sNil)) sNil)
noncomputable def g__law_moves : S :=
    (sSeq (sBind (bTup 2 (bCons (bName 3) (bCons (bName 4) bNil))) (mV 1))
    (sSeq (sOwn 5 (mLst mNil))
    (sSeq (sFor (mRange2 (mCall oMax2 (mCons (mC (.int 0)) (mCons (mV 3) mNil))) (mCall oLen (mCons (mV 0) mNil))) (bName 6) b__law_moves_1)
    (sRet (mV 5)))))
noncomputable def f__law_moves := fnD 7 g__law_moves

noncomputable def e_law_1 : M D :=
    (mTup (mCons (mV 4) (mCons (mV 6) mNil)))
noncomputable def b_law_2 : S :=
    (sDrop (mExtend 3 (mFr (mLc [6] (mRange2 (mC (.int 1)) (m2 oAdd (mDef 1 f__law_cap (mCons (mV 5) mNil)) (mC (.int 1)))) (bName 6) mYes e_law_1))))
noncomputable def b_law_3 : S :=
    (sSeq (sSet 10 (mTown 0 1 0 f__law_word mNil))
    (sIf (mBool (m2 oNe (mDef 4 f__law_ask (mCons (mC (.int 0)) (mCons (mV 2) (mCons (mV 7) (mCons (mV 10) mNil))))) (mDef 3 f__law_moves (mCons (mV 2) (mCons (mV 7) (mCons (mV 10) mNil)))))) (sRet (mC (.bool false))) sNil))
noncomputable def b_law_4 : S :=
    (sSeq (sSet 8 (mAnd (mDef 2 f__law_enough (mCons (mV 2) (mCons (mV 7) mNil))) (mDef 3 f__law_free (mCons (mV 2) (mCons (m2 oAdd (m2 oIx (mV 7) (mC (.int 0))) (mC (.int 1))) (mCons (mCall oLen (mCons (mV 2) mNil)) mNil))))))
    (sSeq (sIf (mBool (m2 oNe (mDef 4 f__law_ask (mCons (mC (.int 1)) (mCons (mV 2) (mCons (mV 7) (mCons (mC .none) mNil))))) (mV 8))) (sRet (mC (.bool false))) sNil)
    (sFor (mRange1 (mC (.int 3))) (bName 9) b_law_3)))
noncomputable def g_law : S :=
    (sSeq (sTown 1)
    (sSeq (sSet 2 (mTown 0 1 1 f__law_template_v (mCons (mC (.int 6)) mNil)))
    (sSeq (sOwn 3 (mLst (mCons (mTup (mCons (mNeg (mC (.int 1))) (mCons (mC (.int 0)) mNil))) mNil)))
    (sSeq (sFor (mEnum (mV 2)) (bTup 2 (bCons (bName 4) (bCons (bName 5) bNil))) b_law_2)
    (sSeq (sFor (mItems (mV 3)) (bName 7) b_law_4)
    (sSeq (sSet 4 (mCall oLen (mCons (mV 2) mNil)))
    (sSeq (sOwn 11 (mLst (mCons (mC .none) (mCons (mTup mNil) (mCons (mTup (mCons (mNeg (mC (.int 1))) mNil)) (mCons (mTup (mCons (mNeg (mC (.int 1))) (mCons (mC (.int 1)) mNil))) (mCons (mTup (mCons (mNeg (mC (.int 2))) (mCons (mC (.int 0)) mNil))) (mCons (mTup (mCons (mV 4) (mCons (mC (.int 1)) mNil))) (mCons (mTup (mCons (mC (.int 0)) (mCons (mC (.int 0)) mNil))) (mCons (mTup (mCons (mC (.int 0)) (mCons (mC (.int 3)) mNil))) (mCons (mFr (mLst (mCons (mNeg (mC (.int 1))) (mCons (mC (.int 0)) mNil)))) (mCons (mTup (mCons (mNeg (mC (.int 1))) (mCons (mC (.int 0)) (mCons (mC (.int 0)) mNil)))) (mCons (mTup (mCons (mC (.bool true)) (mCons (mC (.int 1)) mNil))) (mCons (mTup (mCons (mNeg (mC (.int 1))) (mCons (mC (.bool false)) mNil))) (mCons (mC (.str "a")) mNil)))))))))))))))
    (sSeq (sIf (mBool (m2 oGt (mV 4) (mC (.int 0)))) (sDrop (mExtend 11 (mFr (mLst (mCons (mTup (mCons (m2 oSub (mV 4) (mC (.int 1))) (mCons (m2 oAdd (mDef 1 f__law_cap (mCons (m2 oIx (mV 2) (m2 oSub (mV 4) (mC (.int 1)))) mNil)) (mC (.int 1))) mNil))) (mCons (mTup (mCons (m2 oSub (mV 4) (mC (.int 1))) (mCons (mC (.int 0)) mNil))) (mCons (mTup (mCons (m2 oSub (mV 4) (mC (.int 1))) (mCons (mC .none) mNil))) mNil))))))) sNil)
    (sSeq (sSet 12 (mTown 0 1 1 f__law_pick_v (mCons (mV 11) mNil)))
    (sSeq (sIf (mOrB (mBool (m2 oNe (mDef 4 f__law_ask (mCons (mC (.int 0)) (mCons (mV 2) (mCons (mV 12) (mCons (mC .none) mNil))))) (mTup (mCons (mC (.str "refused")) (mCons (mC (.int 3)) mNil))))) (mBool (m2 oNe (mDef 4 f__law_ask (mCons (mC (.int 1)) (mCons (mV 2) (mCons (mV 12) (mCons (mC .none) mNil))))) (mTup (mCons (mC (.str "refused")) (mCons (mC (.int 3)) mNil)))))) (sRet (mC (.bool false))) sNil)
    (sSeq (sSet 13 (mTown 0 1 1 f__law_pick_v (mCons (mFr (mLst (mCons (mC .none) (mCons (mC (.str "")) (mCons (mC (.str "A")) (mCons (mC (.str "abcde")) (mCons (mC (.int 1)) (mCons (mTup (mCons (mC (.str "a")) mNil)) mNil)))))))) mNil)))
    (sRet (m2 oEq (mDef 4 f__law_ask (mCons (mC (.int 0)) (mCons (mV 2) (mCons (mTup (mCons (mNeg (mC (.int 1))) (mCons (mC (.int 0)) mNil))) (mCons (mV 13) mNil))))) (mTup (mCons (mC (.str "refused")) (mCons (mC (.int 4)) mNil))))))))))))))))
noncomputable def f_law := fnS 14 g_law
end HD

set_option maxHeartbeats 4000000
namespace HD
open PySem PySem.Spec L2 DL
open PyProof.Rows hiding St
variable {P : Program} {w : World} {K : PySem.W.Frag} {mg : PySem.Str → Option Value} {base : Heap}
theorem k__law_cell_at (d : Hd w K mg) : Kept P w K mg base 1 "_law_cell_at" ["_law_script", "_law_k"] (spS K 1 f__law_cell_at) := by
  obtain ⟨fd, F⟩ := d.fnd 0 (d := d__law_cell_at)
  exact keptS (N := ["_law_script", "_law_k"]) (g := g__law_cell_at) 1 F (d.glo 0) ⟨rfl, rfl, rfl, by decide +kernel, rfl, by decide +kernel, by decide +kernel⟩ rfl (fun _ _ _ _ _ _ us hl => match us, hl with | [_, _], _ => rfl) fun cdv A outer s H E c O =>
    (dss_cons (ds_if (dt_cmp op_lt rd_lt (de_v (pv 1)) (de_lenS (pe_callB call_len rfl (d.free 38) bo_len (pa_cons (pv 0) pa_nil))) (nomark _)) (dss_one (ds_ret (de_ixS (pv 0) (de_v (pv 1)) (by intro _ _; rfl)))) dss_nil)
    (dss_cons (ds_if (dt_nilS O.units (pv 0) (nomark _)) (dss_one (ds_ret de_int)) dss_nil)
    (dss_one (ds_ret (de_op op_addD rd_add (de_op op_mulS rd_mulX (de_ixS (pv 0) (de_op op_mod rd_mod (de_v (pv 1)) (de_lenS (pe_callB call_len rfl (d.free 38) bo_len (pa_cons (pv 0) pa_nil)))) (by intro _ _; rfl)) de_int) (de_v (pv 1)))))))

theorem k__law_mixed (d : Hd w K mg) : Kept P w K mg base 2 "_law_mixed" ["_law_script", "_law_k", "_law_many"] (spS K 2 f__law_mixed_v) := by
  obtain ⟨fd, F⟩ := d.fnd 1 (d := d__law_mixed)
  exact keptS (N := ["_law_script", "_law_k", "_law_many", "_law_drawn"]) (g := g__law_mixed_v) 2 F (d.glo 1) ⟨rfl, rfl, rfl, by decide +kernel, rfl, by decide +kernel, by decide +kernel⟩ rfl (fun _ _ _ _ _ _ us hl => match us, hl with | [_, _, _], _ => rfl) fun cdv A outer s H E c O =>
    (dss_cons (ds_set (ps_set (i := 3) O.nd rfl (by first | exact .inl rfl | exact .inr rfl) (de_op op_mod rd_mod (de_op op_mulS rd_mulX (de_op op_addD rd_add (de_op op_addD rd_add (de_scr O (k__law_cell_at d) (by decide) rfl (pv 0) (da_cons (de_v (pv 1)) da_nil)) (de_op op_mulS rd_mulX de_int (de_v (pv 1)))) de_int) de_int) de_int)))
    (dss_one (ds_ret (de_op op_mod rd_mod (de_op op_mod rd_mod (de_op op_addD rd_add (de_op op_addD rd_add (de_op op_mulS rd_mulX (de_v (pv 3)) (de_v (pv 3))) (de_op op_mulS rd_mulX de_int (de_v (pv 3)))) (de_v (pv 1))) de_int) (de_v (pv 2))))))

theorem k__law_draw (d : Hd w K mg) : Kept P w K mg base 3 "_law_draw" ["_law_script", "_law_town", "_law_many"] (spT K 1 f__law_draw_v) := by
  obtain ⟨fd, F⟩ := d.fnd 2 (d := d__law_draw)
  exact keptT (N := ["_law_script", "_law_town", "_law_many"]) (g := g__law_draw_v) 1 F (d.glo 2) ⟨rfl, rfl, rfl, by decide +kernel, rfl, by decide +kernel, by decide +kernel⟩ rfl (fun _ _ _ _ _ _ us hl => match us, hl with | [_, _, _], _ => rfl) fun cdv A outer s H E c O =>
    (dss_cons (ds_expr (de_tick (fun t ht => pe_bm PySem.F.plainAttrs_list PySem.F.slot_list_append PySem.F.type_list_append mt_append (pv 1) ht)))
    (dss_one (ds_ret (de_scr O (k__law_mixed d) (by decide) rfl (pv 0) (da_cons (de_lenS (pe_callB call_len rfl (d.free 38) bo_len (pa_cons (pv 1) pa_nil))) (da_cons (de_v (pv 2)) da_nil))))))

theorem k__law_pick (d : Hd w K mg) : Kept P w K mg base 4 "_law_pick" ["_law_script", "_law_town", "_law_some"] (spT K 1 f__law_pick_v) := by
  obtain ⟨fd, F⟩ := d.fnd 3 (d := d__law_pick)
  exact keptT (N := ["_law_script", "_law_town", "_law_some"]) (g := g__law_pick_v) 1 F (d.glo 3) ⟨rfl, rfl, rfl, by decide +kernel, rfl, by decide +kernel, by decide +kernel⟩ rfl (fun _ _ _ _ _ _ us hl => match us, hl with | [_, _, _], _ => rfl) fun cdv A outer s H E c O =>
    (dss_one (ds_ret (de_ix ix_D rd_ix (de_v (pv 2)) (de_town O (k__law_draw d) (by decide) rfl (pv 0) (pv 1) (da_cons (de_callB call_len ra_len rfl (d.free 38) bo_len (da_cons (de_v (pv 2)) da_nil)) da_nil)) (by intro _ _; rfl))))

theorem k__law_word (d : Hd w K mg) : Kept P w K mg base 5 "_law_word" ["_law_script", "_law_town"] (spT K 0 f__law_word) := by
  obtain ⟨fd, F⟩ := d.fnd 4 (d := d__law_word)
  exact keptT (N := ["_law_script", "_law_town", "_law_word_here", "_law_k"]) (g := g__law_word) 0 F (d.glo 4) ⟨rfl, rfl, rfl, by decide +kernel, rfl, by decide +kernel, by decide +kernel⟩ rfl (fun _ _ _ _ _ _ us hl => match us, hl with | [_, _], _ => rfl) fun cdv A outer s H E c O =>
    (dss_cons (ds_if (dt_cmp op_gt rd_gt (de_town O (k__law_draw d) (by decide) rfl (pv 0) (pv 1) (da_cons de_int da_nil)) de_int (nomark _)) (dss_one (ds_ret (de_town O (k__law_pick d) (by decide) rfl (pv 0) (pv 1) (da_cons (de_fr (df_lst (da_cons de_str (da_cons de_str (da_cons de_str (da_cons de_str da_nil)))))) da_nil)))) dss_nil)
    (dss_cons (ds_set (ps_set (i := 2) O.nd rfl (by first | exact .inl rfl | exact .inr rfl) de_str))
    (dss_cons (ds_for O (di_range1 rfl (d.free 42) (de_op op_addD rd_add de_int (de_town O (k__law_draw d) (by decide) rfl (pv 0) (pv 1) (da_cons de_int da_nil)))) (pg_name (i := 3) O.nd rfl (by first | exact .inl rfl | exact .inr rfl)) dg_name (dss_one (ds_set (ps_set (i := 2) O.nd rfl (by first | exact .inl rfl | exact .inr rfl) (de_op op_addD rd_add (de_v (pv 2)) (de_ix ix_D rd_ix de_str (de_town O (k__law_draw d) (by decide) rfl (pv 0) (pv 1) (da_cons de_int da_nil)) (by intro _ _; rfl)))))))
    (dss_one (ds_ret (de_v (pv 2)))))))

theorem k__law_barred (d : Hd w K mg) : Kept P w K mg base 6 "_law_barred" ["_law_script", "_law_town"] (spT K 0 f__law_barred_v) := by
  obtain ⟨fd, F⟩ := d.fnd 5 (d := d__law_barred)
  exact keptT (N := ["_law_script", "_law_town", "_law_many", "_law_k"]) (g := g__law_barred_v) 0 F (d.glo 5) ⟨rfl, rfl, rfl, by decide +kernel, rfl, by decide +kernel, by decide +kernel⟩ rfl (fun _ _ _ _ _ _ us hl => match us, hl with | [_, _], _ => rfl) fun cdv A outer s H E c O =>
    (dss_cons (ds_set (ps_set (i := 2) O.nd rfl (by first | exact .inl rfl | exact .inr rfl) (de_town O (k__law_pick d) (by decide) rfl (pv 0) (pv 1) (da_cons (de_fr (df_lst (da_cons de_int (da_cons de_int (da_cons de_int (da_cons de_int (da_cons de_int (da_cons de_int da_nil)))))))) da_nil))))
    (dss_one (ds_ret (de_callTy call_tuple_of ra_tuple rfl (d.free 46) bo_tuple (da_cons (de_sortSet O (de_fr (df_lcO O (own := [("_law_k", 3)]) rfl (di_range1 rfl (d.free 42) (de_v (pv 2))) (blkOk_by (by kernel_rfl)) (fun _ _ _ _ _ O => (pg_name (i := 3) O.nd rfl (by first | exact .inl rfl | exact .inr rfl))) dg_name (fun s H C cl fp O => dts_nil) (fun s H C cl fp O => (de_town O (k__law_word d) (by decide) rfl (pv 0) (pv 1) da_nil)))) rfl (d.free 44) rfl (d.free 43)) da_nil)))))

theorem k__law_template (d : Hd w K mg) : Kept P w K mg base 7 "_law_template" ["_law_script", "_law_town", "_law_most"] (spT K 1 f__law_template_v) := by
  obtain ⟨fd, F⟩ := d.fnd 6 (d := d__law_template)
  exact keptT (N := ["_law_script", "_law_town", "_law_most", "_law_six", "_law_made", "_law_gaps", "_law_k", "_law_kind", "_law_name"]) (g := g__law_template_v) 1 F (d.glo 6) ⟨rfl, rfl, rfl, by decide +kernel, rfl, by decide +kernel, by decide +kernel⟩ rfl (fun _ _ _ _ _ _ us hl => match us, hl with | [_, _, _], _ => rfl) fun cdv A outer s H E c O =>
    (dss_cons (ds_set (ps_set (i := 3) O.nd rfl (by first | exact .inl rfl | exact .inr rfl) (de_town O (k__law_pick d) (by decide) rfl (pv 0) (pv 1) (da_cons (de_fr (df_lst (da_cons de_str (da_cons de_str (da_cons de_str da_nil))))) da_nil))))
    (dss_cons (ds_own (ps_set (i := 4) O.nd rfl (by first | exact .inl rfl | exact .inr rfl) (df_lst da_nil)))
    (dss_cons (ds_set (ps_set (i := 5) O.nd rfl (by first | exact .inl rfl | exact .inr rfl) de_int))
    (dss_cons (ds_for O (di_range1 rfl (d.free 42) (de_town O (k__law_draw d) (by decide) rfl (pv 0) (pv 1) (da_cons (de_op op_addD rd_add (de_v (pv 2)) de_int) da_nil))) (pg_name (i := 6) O.nd rfl (by first | exact .inl rfl | exact .inr rfl)) dg_name (dss_cons (ds_set (ps_set (i := 7) O.nd rfl (by first | exact .inl rfl | exact .inr rfl) (de_town O (k__law_draw d) (by decide) rfl (pv 0) (pv 1) (da_cons de_int da_nil))))
    (dss_cons (ds_set (ps_set (i := 8) O.nd rfl (by first | exact .inl rfl | exact .inr rfl) (de_ix ix_D rd_ix (de_v (pv 3)) (de_v (pv 5)) (by intro _ _; rfl))))
    (dss_cons (ds_if (dt_cmp op_lt rd_lt (de_v (pv 7)) de_int (nomark _)) (dss_one (ds_expr (de_append (fun t ht => pe_bm PySem.F.plainAttrs_list PySem.F.slot_list_append PySem.F.type_list_append mt_append (pv 4) ht) (de_tup (da_cons de_str (da_cons (de_town O (k__law_word d) (by decide) rfl (pv 0) (pv 1) da_nil) da_nil)))))) (dss_one (ds_if (dt_cmp (op_eqP O.units) rd_eq (de_v (pv 7)) de_int (nomark _)) (dss_one (ds_expr (de_append (fun t ht => pe_bm PySem.F.plainAttrs_list PySem.F.slot_list_append PySem.F.type_list_append mt_append (pv 4) ht) (de_tup (da_cons de_str (da_cons (de_v (pv 8)) (da_cons (de_town O (k__law_barred d) (by decide) rfl (pv 0) (pv 1) da_nil) da_nil))))))) (dss_one (ds_expr (de_append (fun t ht => pe_bm PySem.F.plainAttrs_list PySem.F.slot_list_append PySem.F.type_list_append mt_append (pv 4) ht) (de_tup (da_cons de_str (da_cons (de_v (pv 8)) (da_cons (de_town O (k__law_draw d) (by decide) rfl (pv 0) (pv 1) (da_cons de_int da_nil)) (da_cons (de_town O (k__law_barred d) (by decide) rfl (pv 0) (pv 1) da_nil) da_nil)))))))))))
    (dss_one (ds_set (ps_set (i := 5) O.nd rfl (by first | exact .inl rfl | exact .inr rfl) (de_op op_addD rd_add (de_v (pv 5)) (de_callTy call_int1 ra_int rfl (d.free 36) bo_int (da_cons (de_cmp op_gt rd_gt (de_v (pv 7)) de_int (nomark _)) da_nil))))))))))
    (dss_one (ds_ret (de_callTy call_tuple_of ra_tuple rfl (d.free 46) bo_tuple (da_cons (de_v (pv 4)) da_nil))))))))

theorem k_is_word (d : Hd w K mg) : Kept P w K mg base 1 "is_word" ["thing"] (spD K 1 f_is_word) := by
  obtain ⟨fd, F⟩ := d.fnd 7 (d := d_is_word)
  exact keptD (N := ["thing"]) (g := g_is_word) 1 F (d.glo 7) ⟨rfl, rfl, rfl, by decide +kernel, rfl, by decide +kernel, by decide +kernel⟩ rfl (fun _ _ _ _ _ _ us hl => match us, hl with | [_], _ => rfl) fun cdv A outer s H E c O =>
    (dss_one (ds_ret (de_and (de_isi (T := "str") rfl (d.free 37) bo_isinstance (de_v (pv 0)) (pe_tyn (T := "str") rfl (d.free 45) bo_str)) (de_and (de_chain op_le rd_le op_le rd_le de_int (de_callB call_len ra_len rfl (d.free 38) bo_len (da_cons (de_v (pv 0)) da_nil)) (de_gint rfl (d.int 68))) (de_one (de_cmp (op_eqP O.units) rd_eq (de_strip (de_v (pv 0)) (de_gstr rfl (d.str 67))) de_str (nomark _)))))))

theorem k_are_words (d : Hd w K mg) : Kept P w K mg base 2 "are_words" ["thing"] (spD K 1 f_are_words) := by
  obtain ⟨fd, F⟩ := d.fnd 8 (d := d_are_words)
  exact keptD (N := ["thing", "word"]) (g := g_are_words) 1 F (d.glo 8) ⟨rfl, rfl, rfl, by decide +kernel, rfl, by decide +kernel, by decide +kernel⟩ rfl (fun _ _ _ _ _ _ us hl => match us, hl with | [_], _ => rfl) fun cdv A outer s H E c O =>
    (dss_one (ds_ret (de_and (de_isi (T := "tuple") rfl (d.free 37) bo_isinstance (de_v (pv 0)) (pe_tyn (T := "tuple") rfl (d.free 46) bo_tuple)) (de_one (de_callB (cr_all O.calm) ra_all rfl (d.free 33) bo_all (da_cons (de_fr (df_lcO O (own := [("word", 1)]) rfl (di_seq (de_v (pv 0))) (blkOk_by (by kernel_rfl)) (fun _ _ _ _ _ O => (pg_name (i := 1) O.nd rfl (by first | exact .inl rfl | exact .inr rfl))) dg_name (fun s H C cl fp O => dts_nil) (fun s H C cl fp O => (de_fn O (k_is_word d) (by decide) rfl (da_cons (de_v (pv 1)) da_nil))))) da_nil))))))

theorem k_is_barred (d : Hd w K mg) : Kept P w K mg base 3 "is_barred" ["thing"] (spD K 1 f_is_barred) := by
  obtain ⟨fd, F⟩ := d.fnd 9 (d := d_is_barred)
  exact keptD (N := ["thing"]) (g := g_is_barred) 1 F (d.glo 9) ⟨rfl, rfl, rfl, by decide +kernel, rfl, by decide +kernel, by decide +kernel⟩ rfl (fun _ _ _ _ _ _ us hl => match us, hl with | [_], _ => rfl) fun cdv A outer s H E c O =>
    (dss_one (ds_ret (de_and (de_fn O (k_are_words d) (by decide) rfl (da_cons (de_v (pv 0)) da_nil)) (de_and (de_cmp op_le rd_le (de_callB call_len ra_len rfl (d.free 38) bo_len (da_cons (de_v (pv 0)) da_nil)) (de_gint rfl (d.int 70)) (nomark _)) (de_one (de_cmp (op_eqP O.units) rd_eq (de_callTy call_list_of ra_list rfl (d.free 39) bo_list (da_cons (de_v (pv 0)) da_nil)) (de_sortSet O (de_v (pv 0)) rfl (d.free 44) rfl (d.free 43)) (nomark _)))))))

theorem k_is_whole (d : Hd w K mg) : Kept P w K mg base 1 "is_whole" ["thing", "low", "most"] (spD K 3 f_is_whole) := by
  obtain ⟨fd, F⟩ := d.fnd 10 (d := d_is_whole)
  exact keptD (N := ["thing", "low", "most"]) (g := g_is_whole) 3 F (d.glo 10) ⟨rfl, rfl, rfl, by decide +kernel, rfl, by decide +kernel, by decide +kernel⟩ rfl (fun _ _ _ _ _ _ us hl => match us, hl with | [_, _, _], _ => rfl) fun cdv A outer s H E c O =>
    (dss_one (ds_ret (de_and (de_isi (T := "int") rfl (d.free 37) bo_isinstance (de_v (pv 0)) (pe_tyn (T := "int") rfl (d.free 36) bo_int)) (de_and (de_not (de_isi (T := "bool") rfl (d.free 37) bo_isinstance (de_v (pv 0)) (pe_tyn (T := "bool") rfl (d.free 34) bo_bool))) (de_one (de_chain op_le rd_le op_le rd_le (de_v (pv 1)) (de_v (pv 0)) (de_v (pv 2))))))))

theorem k_is_part (d : Hd w K mg) : Kept P w K mg base 4 "is_part" ["thing"] (spD K 1 f_is_part) := by
  obtain ⟨fd, F⟩ := d.fnd 11 (d := d_is_part)
  exact keptD (N := ["thing"]) (g := g_is_part) 1 F (d.glo 11) ⟨rfl, rfl, rfl, by decide +kernel, rfl, by decide +kernel, by decide +kernel⟩ rfl (fun _ _ _ _ _ _ us hl => match us, hl with | [_], _ => rfl) fun cdv A outer s H E c O =>
    (dss_cons (ds_if (DW.pt (dw_or (dt_not (dt_val (de_isi (T := "tuple") rfl (d.free 37) bo_isinstance (de_v (pv 0)) (pe_tyn (T := "tuple") rfl (d.free 46) bo_tuple)))) (dw_or (dt_cmp op_lt rd_lt (de_callB call_len ra_len rfl (d.free 38) bo_len (da_cons (de_v (pv 0)) da_nil)) de_int (nomark _)) (dw_or1 (dt_not (dt_val (de_isi (T := "str") rfl (d.free 37) bo_isinstance (de_ix ix_D rd_ix (de_v (pv 0)) de_int (by intro _ _; rfl)) (pe_tyn (T := "str") rfl (d.free 45) bo_str)))))))) (dss_one (ds_ret de_bl)) dss_nil)
    (dss_cons (ds_if (DW.pt (dw_or (dt_cmp (op_neP O.units) rd_ne (de_callB call_len ra_len rfl (d.free 38) bo_len (da_cons (de_v (pv 0)) da_nil)) (de_tabGet d.tab rfl (d.glo 72) (de_ix ix_D rd_ix (de_v (pv 0)) de_int (by intro _ _; rfl)) de_int ⟨rfl, rfl, rfl, rfl⟩) (nomark _)) (dw_or1 (dt_not (dt_val (de_fn O (k_is_word d) (by decide) rfl (da_cons (de_ix ix_D rd_ix (de_v (pv 0)) de_int (by intro _ _; rfl)) da_nil))))))) (dss_one (ds_ret de_bl)) dss_nil)
    (dss_cons (ds_if (DW.pt (dw_and (dt_cmp (op_eqP O.units) rd_eq (de_ix ix_D rd_ix (de_v (pv 0)) de_int (by intro _ _; rfl)) de_str (nomark _)) (dw_and1 (dt_not (dt_val (de_fn O (k_is_whole d) (by decide) rfl (da_cons (de_ix ix_D rd_ix (de_v (pv 0)) de_int (by intro _ _; rfl)) (da_cons de_int (da_cons (de_gint rfl (d.int 71)) da_nil))))))))) (dss_one (ds_ret de_bl)) dss_nil)
    (dss_one (ds_ret (de_or (de_cmp (op_eqP O.units) rd_eq (de_ix ix_D rd_ix (de_v (pv 0)) de_int (by intro _ _; rfl)) de_str (nomark _)) (de_one (de_fn O (k_is_barred d) (by decide) rfl (da_cons (de_ix ix_D rd_ix (de_v (pv 0)) (de_neg de_int) (by intro _ _; rfl)) da_nil)))))))))

theorem k_is_template (d : Hd w K mg) : Kept P w K mg base 5 "is_template" ["thing"] (spD K 1 f_is_template) := by
  obtain ⟨fd, F⟩ := d.fnd 12 (d := d_is_template)
  exact keptD (N := ["thing", "part", "gaps"]) (g := g_is_template) 1 F (d.glo 12) ⟨rfl, rfl, rfl, by decide +kernel, rfl, by decide +kernel, by decide +kernel⟩ rfl (fun _ _ _ _ _ _ us hl => match us, hl with | [_], _ => rfl) fun cdv A outer s H E c O =>
    (dss_cons (ds_if (DW.pt (dw_or (dt_not (dt_val (de_isi (T := "tuple") rfl (d.free 37) bo_isinstance (de_v (pv 0)) (pe_tyn (T := "tuple") rfl (d.free 46) bo_tuple)))) (dw_or (dt_cmp op_gt rd_gt (de_callB call_len ra_len rfl (d.free 38) bo_len (da_cons (de_v (pv 0)) da_nil)) (de_gint rfl (d.int 69)) (nomark _)) (dw_or1 (dt_not (dt_val (de_callB (cr_all O.calm) ra_all rfl (d.free 33) bo_all (da_cons (de_fr (df_lcO O (own := [("part", 1)]) rfl (di_seq (de_v (pv 0))) (blkOk_by (by kernel_rfl)) (fun _ _ _ _ _ O => (pg_name (i := 1) O.nd rfl (by first | exact .inl rfl | exact .inr rfl))) dg_name (fun s H C cl fp O => dts_nil) (fun s H C cl fp O => (de_fn O (k_is_part d) (by decide) rfl (da_cons (de_v (pv 1)) da_nil))))) da_nil)))))))) (dss_one (ds_ret de_bl)) dss_nil)
    (dss_cons (ds_setF (asg_lcO O (own := [("part", 1)]) rfl (di_seq (de_v (pv 0))) (blkOk_by (by kernel_rfl)) (fun _ _ _ _ _ O => (pg_name (i := 1) O.nd rfl (by first | exact .inl rfl | exact .inr rfl))) dg_name (fun s H C cl fp O => (dts_one (dt_cmp (op_neP O.units) rd_ne (de_ix ix_D rd_ix (de_v (pv 1)) de_int (by intro _ _; rfl)) de_str (nomark _)))) (fun s H C cl fp O => (de_ix ix_D rd_ix (de_v (pv 1)) de_int (by intro _ _; rfl))) (i := 2) rfl rfl rfl))
    (dss_one (ds_ret (de_cmp (op_eqP O.units) rd_eq (de_lenSet O (de_v (pv 2)) rfl (d.free 38) rfl (d.free 43)) (de_callB call_len ra_len rfl (d.free 38) bo_len (da_cons (de_v (pv 2)) da_nil)) (nomark _))))))

theorem k_need_template (d : Hd w K mg) : Kept P w K mg base 6 "need_template" ["thing"] (spD K 1 f_need_template) := by
  obtain ⟨fd, F⟩ := d.fnd 13 (d := d_need_template)
  exact keptD (N := ["thing"]) (g := g_need_template) 1 F (d.glo 13) ⟨rfl, rfl, rfl, by decide +kernel, rfl, by decide +kernel, by decide +kernel⟩ rfl (fun _ _ _ _ _ _ us hl => match us, hl with | [_], _ => rfl) fun cdv A outer s H E c O =>
    (dss_one (ds_if (dt_not (dt_val (de_fn O (k_is_template d) (by decide) rfl (da_cons (de_v (pv 0)) da_nil)))) (dss_one (ds_raise O ⟨d.glo 49, d.fact 50⟩ rfl)) dss_nil))

theorem k_most_of (d : Hd w K mg) : Kept P w K mg base 1 "most_of" ["part"] (spD K 1 f_most_of) := by
  obtain ⟨fd, F⟩ := d.fnd 14 (d := d_most_of)
  exact keptD (N := ["part"]) (g := g_most_of) 1 F (d.glo 14) ⟨rfl, rfl, rfl, by decide +kernel, rfl, by decide +kernel, by decide +kernel⟩ rfl (fun _ _ _ _ _ _ us hl => match us, hl with | [_], _ => rfl) fun cdv A outer s H E c O =>
    (dss_cons (ds_if (dt_cmp (op_eqP O.units) rd_eq (de_ix ix_D rd_ix (de_v (pv 0)) de_int (by intro _ _; rfl)) de_str (nomark _)) (dss_one (ds_ret (de_callB (call_max2 O.calm) ra_max2 rfl (d.free 40) bo_max (da_cons de_int (da_cons (de_ix ix_D rd_ix (de_v (pv 0)) de_int (by intro _ _; rfl)) da_nil))))) dss_nil)
    (dss_one (ds_ret de_int)))

theorem k_is_stand (d : Hd w K mg) : Kept P w K mg base 2 "is_stand" ["template", "thing"] (spD K 2 f_is_stand) := by
  obtain ⟨fd, F⟩ := d.fnd 15 (d := d_is_stand)
  exact keptD (N := ["template", "thing"]) (g := g_is_stand) 2 F (d.glo 15) ⟨rfl, rfl, rfl, by decide +kernel, rfl, by decide +kernel, by decide +kernel⟩ rfl (fun _ _ _ _ _ _ us hl => match us, hl with | [_, _], _ => rfl) fun cdv A outer s H E c O =>
    (dss_cons (ds_if (DW.pt (dw_or (dt_not (dt_val (de_isi (T := "tuple") rfl (d.free 37) bo_isinstance (de_v (pv 1)) (pe_tyn (T := "tuple") rfl (d.free 46) bo_tuple)))) (dw_or (dt_cmp (op_neP O.units) rd_ne (de_callB call_len ra_len rfl (d.free 38) bo_len (da_cons (de_v (pv 1)) da_nil)) de_int (nomark _)) (dw_or1 (dt_not (dt_val (de_fn O (k_is_whole d) (by decide) rfl (da_cons (de_ix ix_D rd_ix (de_v (pv 1)) de_int (by intro _ _; rfl)) (da_cons (de_neg de_int) (da_cons (de_op op_sub rd_sub (de_callB call_len ra_len rfl (d.free 38) bo_len (da_cons (de_v (pv 0)) da_nil)) de_int) da_nil)))))))))) (dss_one (ds_ret de_bl)) dss_nil)
    (dss_cons (ds_if (dt_cmp op_lt rd_lt (de_ix ix_D rd_ix (de_v (pv 1)) de_int (by intro _ _; rfl)) de_int (nomark _)) (dss_one (ds_ret (de_fn O (k_is_whole d) (by decide) rfl (da_cons (de_ix ix_D rd_ix (de_v (pv 1)) de_int (by intro _ _; rfl)) (da_cons de_int (da_cons de_int da_nil)))))) dss_nil)
    (dss_one (ds_ret (de_fn O (k_is_whole d) (by decide) rfl (da_cons (de_ix ix_D rd_ix (de_v (pv 1)) de_int (by intro _ _; rfl)) (da_cons de_int (da_cons (de_fn O (k_most_of d) (by decide) rfl (da_cons (de_ix ix_D rd_ix (de_v (pv 0)) (de_ix ix_D rd_ix (de_v (pv 1)) de_int (by intro _ _; rfl)) (by intro _ _; rfl)) da_nil)) da_nil))))))))

theorem k_need_stand (d : Hd w K mg) : Kept P w K mg base 3 "need_stand" ["template", "thing"] (spD K 2 f_need_stand) := by
  obtain ⟨fd, F⟩ := d.fnd 16 (d := d_need_stand)
  exact keptD (N := ["template", "thing"]) (g := g_need_stand) 2 F (d.glo 16) ⟨rfl, rfl, rfl, by decide +kernel, rfl, by decide +kernel, by decide +kernel⟩ rfl (fun _ _ _ _ _ _ us hl => match us, hl with | [_, _], _ => rfl) fun cdv A outer s H E c O =>
    (dss_one (ds_if (dt_not (dt_val (de_fn O (k_is_stand d) (by decide) rfl (da_cons (de_v (pv 0)) (da_cons (de_v (pv 1)) da_nil))))) (dss_one (ds_raise O ⟨d.glo 55, d.fact 56⟩ rfl)) dss_nil))

theorem k_is_done (d : Hd w K mg) : Kept P w K mg base 1 "is_done" ["template", "stand"] (spD K 2 f_is_done) := by
  obtain ⟨fd, F⟩ := d.fnd 17 (d := d_is_done)
  exact keptD (N := ["template", "stand", "at", "many"]) (g := g_is_done) 2 F (d.glo 17) ⟨rfl, rfl, rfl, by decide +kernel, rfl, by decide +kernel, by decide +kernel⟩ rfl (fun _ _ _ _ _ _ us hl => match us, hl with | [_, _], _ => rfl) fun cdv A outer s H E c O =>
    (dss_cons (ds_bind (dg_tup (dgs_cons dg_name (dgs_cons dg_name dgs_nil))) (ps_asg (de_v (pv 1)) (pg_tup rfl (pgs_cons (pg_name (i := 2) O.nd rfl (by first | exact .inl rfl | exact .inr rfl)) (pgs_cons (pg_name (i := 3) O.nd rfl (by first | exact .inl rfl | exact .inr rfl)) pgs_nil)))))
    (dss_one (ds_ret (de_or (de_cmp op_lt rd_lt (de_v (pv 2)) de_int (nomark _)) (de_or (de_cmp (op_neP O.units) rd_ne (de_ix ix_D rd_ix (de_ix ix_D rd_ix (de_v (pv 0)) (de_v (pv 2)) (by intro _ _; rfl)) de_int (by intro _ _; rfl)) de_str (nomark _)) (de_one (de_cmp op_ge rd_ge (de_v (pv 3)) (de_ix ix_D rd_ix (de_ix ix_D rd_ix (de_v (pv 0)) (de_v (pv 2)) (by intro _ _; rfl)) de_int (by intro _ _; rfl)) (nomark _))))))))

theorem k_may_skip (d : Hd w K mg) : Kept P w K mg base 1 "may_skip" ["template", "first", "last"] (spD K 3 f_may_skip) := by
  obtain ⟨fd, F⟩ := d.fnd 18 (d := d_may_skip)
  exact keptD (N := ["template", "first", "last", "part"]) (g := g_may_skip) 3 F (d.glo 18) ⟨rfl, rfl, rfl, by decide +kernel, rfl, by decide +kernel, by decide +kernel⟩ rfl (fun _ _ _ _ _ _ us hl => match us, hl with | [_, _, _], _ => rfl) fun cdv A outer s H E c O =>
    (dss_one (ds_ret (de_callB (cr_all O.calm) ra_all rfl (d.free 33) bo_all (da_cons (de_fr (df_lcO O (own := [("part", 3)]) rfl (di_seq (de_slice (de_v (pv 0)) (do_some (de_v (pv 1))) (do_some (de_v (pv 2))))) (blkOk_by (by kernel_rfl)) (fun _ _ _ _ _ O => (pg_name (i := 3) O.nd rfl (by first | exact .inl rfl | exact .inr rfl))) dg_name (fun s H C cl fp O => dts_nil) (fun s H C cl fp O => (de_and (de_cmp (op_eqP O.units) rd_eq (de_ix ix_D rd_ix (de_v (pv 3)) de_int (by intro _ _; rfl)) de_str (nomark _)) (de_one (de_cmp (op_eqP O.units) rd_eq (de_ix ix_D rd_ix (de_v (pv 3)) de_int (by intro _ _; rfl)) de_int (nomark _))))))) da_nil))))

theorem k_end_now (d : Hd w K mg) : Kept P w K mg base 2 "end_now" ["template", "stand"] (spD K 2 f_end_now) := by
  obtain ⟨fd, F⟩ := d.fnd 19 (d := d_end_now)
  exact keptD (N := ["template", "stand"]) (g := g_end_now) 2 F (d.glo 19) ⟨rfl, rfl, rfl, by decide +kernel, rfl, by decide +kernel, by decide +kernel⟩ rfl (fun _ _ _ _ _ _ us hl => match us, hl with | [_, _], _ => rfl) fun cdv A outer s H E c O =>
    (dss_one (ds_ret (de_and (de_fn O (k_is_done d) (by decide) rfl (da_cons (de_v (pv 0)) (da_cons (de_v (pv 1)) da_nil))) (de_one (de_fn O (k_may_skip d) (by decide) rfl (da_cons (de_v (pv 0)) (da_cons (de_op op_addD rd_add (de_ix ix_D rd_ix (de_v (pv 1)) de_int (by intro _ _; rfl)) de_int) (da_cons (de_callB call_len ra_len rfl (d.free 38) bo_len (da_cons (de_v (pv 0)) da_nil)) da_nil))))))))

theorem k_may_end (d : Hd w K mg) : Kept P w K mg base 7 "may_end" ["template", "stand"] (spD K 2 f_may_end) := by
  obtain ⟨fd, F⟩ := d.fnd 20 (d := d_may_end)
  exact keptD (N := ["template", "stand"]) (g := g_may_end) 2 F (d.glo 20) ⟨rfl, rfl, rfl, by decide +kernel, rfl, by decide +kernel, by decide +kernel⟩ rfl (fun _ _ _ _ _ _ us hl => match us, hl with | [_, _], _ => rfl) fun cdv A outer s H E c O =>
    (dss_cons (ds_expr (de_fn O (k_need_template d) (by decide) rfl (da_cons (de_v (pv 0)) da_nil)))
    (dss_cons (ds_expr (de_fn O (k_need_stand d) (by decide) rfl (da_cons (de_v (pv 0)) (da_cons (de_v (pv 1)) da_nil))))
    (dss_one (ds_ret (de_fn O (k_end_now d) (by decide) rfl (da_cons (de_v (pv 0)) (da_cons (de_v (pv 1)) da_nil)))))))

theorem k_takes (d : Hd w K mg) : Kept P w K mg base 1 "takes" ["part", "word"] (spD K 2 f_takes) := by
  obtain ⟨fd, F⟩ := d.fnd 21 (d := d_takes)
  exact keptD (N := ["part", "word"]) (g := g_takes) 2 F (d.glo 21) ⟨rfl, rfl, rfl, by decide +kernel, rfl, by decide +kernel, by decide +kernel⟩ rfl (fun _ _ _ _ _ _ us hl => match us, hl with | [_, _], _ => rfl) fun cdv A outer s H E c O =>
    (dss_cons (ds_if (dt_cmp (op_eqP O.units) rd_eq (de_ix ix_D rd_ix (de_v (pv 0)) de_int (by intro _ _; rfl)) de_str (nomark _)) (dss_one (ds_ret (de_cmp (op_eqP O.units) rd_eq (de_v (pv 1)) (de_ix ix_D rd_ix (de_v (pv 0)) de_int (by intro _ _; rfl)) (nomark _)))) dss_nil)
    (dss_one (ds_ret (de_cmp (op_notInP O.units2) rd_notIn (de_v (pv 1)) (de_ix ix_D rd_ix (de_v (pv 0)) (de_neg de_int) (by intro _ _; rfl)) (by rfl)))))

theorem k_moves_at (d : Hd w K mg) : Kept P w K mg base 2 "moves_at" ["template", "stand", "word"] (spD K 3 f_moves_at) := by
  obtain ⟨fd, F⟩ := d.fnd 22 (d := d_moves_at)
  exact keptD (N := ["template", "stand", "word", "at", "many", "made", "goal"]) (g := g_moves_at) 3 F (d.glo 22) ⟨rfl, rfl, rfl, by decide +kernel, rfl, by decide +kernel, by decide +kernel⟩ rfl (fun _ _ _ _ _ _ us hl => match us, hl with | [_, _, _], _ => rfl) fun cdv A outer s H E c O =>
    (dss_cons (ds_bind (dg_tup (dgs_cons dg_name (dgs_cons dg_name dgs_nil))) (ps_asg (de_v (pv 1)) (pg_tup rfl (pgs_cons (pg_name (i := 3) O.nd rfl (by first | exact .inl rfl | exact .inr rfl)) (pgs_cons (pg_name (i := 4) O.nd rfl (by first | exact .inl rfl | exact .inr rfl)) pgs_nil)))))
    (dss_cons (ds_own (ps_set (i := 5) O.nd rfl (by first | exact .inl rfl | exact .inr rfl) (df_lst da_nil)))
    (dss_cons (ds_if (DW.pt (dw_and (dt_cmp op_ge rd_ge (de_v (pv 3)) de_int (nomark _)) (dw_and (dt_cmp (op_eqP O.units) rd_eq (de_ix ix_D rd_ix (de_ix ix_D rd_ix (de_v (pv 0)) (de_v (pv 3)) (by intro _ _; rfl)) de_int (by intro _ _; rfl)) de_str (nomark _)) (dw_and1 (dt_val (de_fn O (k_takes d) (by decide) rfl (da_cons (de_ix ix_D rd_ix (de_v (pv 0)) (de_v (pv 3)) (by intro _ _; rfl)) (da_cons (de_v (pv 2)) da_nil)))))))) (dss_one (ds_expr (de_append (fun t ht => pe_bm PySem.F.plainAttrs_list PySem.F.slot_list_append PySem.F.type_list_append mt_append (pv 5) ht) (de_tup (da_cons (de_v (pv 3)) (da_cons (de_callB (call_min2 O.calm) ra_min2 rfl (d.free 41) bo_min (da_cons (de_fn O (k_most_of d) (by decide) rfl (da_cons (de_ix ix_D rd_ix (de_v (pv 0)) (de_v (pv 3)) (by intro _ _; rfl)) da_nil)) (da_cons (de_op op_addD rd_add (de_v (pv 4)) de_int) da_nil))) da_nil)))))) dss_nil)
    (dss_cons (ds_if (dt_val (de_fn O (k_is_done d) (by decide) rfl (da_cons (de_v (pv 0)) (da_cons (de_v (pv 1)) da_nil)))) (dss_one (ds_for O (di_range2 rfl (d.free 42) (de_op op_addD rd_add (de_v (pv 3)) de_int) (de_callB call_len ra_len rfl (d.free 38) bo_len (da_cons (de_v (pv 0)) da_nil))) (pg_name (i := 6) O.nd rfl (by first | exact .inl rfl | exact .inr rfl)) dg_name (dss_one (ds_if (DW.pt (dw_and (dt_val (de_fn O (k_may_skip d) (by decide) rfl (da_cons (de_v (pv 0)) (da_cons (de_op op_addD rd_add (de_v (pv 3)) de_int) (da_cons (de_v (pv 6)) da_nil))))) (dw_and1 (dt_val (de_fn O (k_takes d) (by decide) rfl (da_cons (de_ix ix_D rd_ix (de_v (pv 0)) (de_v (pv 6)) (by intro _ _; rfl)) (da_cons (de_v (pv 2)) da_nil))))))) (dss_one (ds_expr (de_append (fun t ht => pe_bm PySem.F.plainAttrs_list PySem.F.slot_list_append PySem.F.type_list_append mt_append (pv 5) ht) (de_tup (da_cons (de_v (pv 6)) (da_cons de_int da_nil)))))) dss_nil)))) dss_nil)
    (dss_one (ds_ret (de_v (pv 5))))))))

theorem k_moves (d : Hd w K mg) : Kept P w K mg base 7 "moves" ["template", "stand", "word"] (spD K 3 f_moves) := by
  obtain ⟨fd, F⟩ := d.fnd 23 (d := d_moves)
  exact keptD (N := ["template", "stand", "word"]) (g := g_moves) 3 F (d.glo 23) ⟨rfl, rfl, rfl, by decide +kernel, rfl, by decide +kernel, by decide +kernel⟩ rfl (fun _ _ _ _ _ _ us hl => match us, hl with | [_, _, _], _ => rfl) fun cdv A outer s H E c O =>
    (dss_cons (ds_expr (de_fn O (k_need_template d) (by decide) rfl (da_cons (de_v (pv 0)) da_nil)))
    (dss_cons (ds_expr (de_fn O (k_need_stand d) (by decide) rfl (da_cons (de_v (pv 0)) (da_cons (de_v (pv 1)) da_nil))))
    (dss_cons (ds_if (dt_not (dt_val (de_fn O (k_is_word d) (by decide) rfl (da_cons (de_v (pv 2)) da_nil)))) (dss_one (ds_raise O ⟨d.glo 57, d.fact 58⟩ rfl)) dss_nil)
    (dss_one (ds_ret (de_fn O (k_moves_at d) (by decide) rfl (da_cons (de_v (pv 0)) (da_cons (de_v (pv 1)) (da_cons (de_v (pv 2)) da_nil)))))))))

theorem k__law_which (d : Hd w K mg) : KeptX P w K mg base 0 "_law_which" f__law_which_v := by
  obtain ⟨fd, F⟩ := d.fnd 24 (d := d__law_which)
  exact keptX (N := ["_law_e", "_law_own"]) (g := g__law_which_v) F (d.glo 24) ⟨rfl, rfl, rfl, by decide +kernel, rfl, by decide +kernel, by decide +kernel⟩ (fun _ _ _ _ _ _ us hl => match us, hl with | [_], _ => rfl) fun cdv A outer s H E p c O =>
    (dss_cons (ds_own (ps_set (i := 1) O.nd rfl (by first | exact .inl rfl | exact .inr rfl) (df_lst (da_cons (de_isE (C := "NoTemplate") O.hx d.exb rfl (d.free 37) bo_isinstance (pv 0) (pe_gcls rfl (d.glo 49))) (da_cons (de_isE (C := "NoText") O.hx d.exb rfl (d.free 37) bo_isinstance (pv 0) (pe_gcls rfl (d.glo 51))) (da_cons (de_isE (C := "NoWorths") O.hx d.exb rfl (d.free 37) bo_isinstance (pv 0) (pe_gcls rfl (d.glo 53))) (da_cons (de_isE (C := "NoStand") O.hx d.exb rfl (d.free 37) bo_isinstance (pv 0) (pe_gcls rfl (d.glo 55))) da_nil)))))))
    (dss_cons (ds_expr (de_extend (fun t ht => pe_bm PySem.F.plainAttrs_list PySem.F.slot_list_extend PySem.F.type_list_extend mt_extend (pv 1) ht) (de_fr (df_lst (da_cons (de_isE (C := "NoWord") O.hx d.exb rfl (d.free 37) bo_isinstance (pv 0) (pe_gcls rfl (d.glo 57))) (da_cons (de_isE (C := "NoBook") O.hx d.exb rfl (d.free 37) bo_isinstance (pv 0) (pe_gcls rfl (d.glo 59))) (da_cons (de_isE (C := "NoRows") O.hx d.exb rfl (d.free 37) bo_isinstance (pv 0) (pe_gcls rfl (d.glo 61))) (da_cons (de_isE (C := "NoPair") O.hx d.exb rfl (d.free 37) bo_isinstance (pv 0) (pe_gcls rfl (d.glo 63))) da_nil))))))))
    (dss_cons (ds_expr (de_append (fun t ht => pe_bm PySem.F.plainAttrs_list PySem.F.slot_list_append PySem.F.type_list_append mt_append (pv 1) ht) (de_isE (C := "Unsure") O.hx d.exb rfl (d.free 37) bo_isinstance (pv 0) (pe_gcls rfl (d.glo 65)))))
    (dss_cons (ds_if (DW.pt (dw_or (dt_cmp (op_neP O.units) rd_ne (de_count O.units2 (de_v (pv 1)) de_bl) de_int (nomark _)) (dw_or1 (dt_not (dt_val (de_isV O.hx d.exb rfl (d.free 37) bo_isinstance (pv 0) (pe_tyn (T := "ValueError") rfl (d.free 32) bo_ValueError))))))) (dss_one (ds_ret (de_tup (da_cons de_str (da_cons (de_neg de_int) da_nil))))) dss_nil)
    (dss_one (ds_ret (de_tup (da_cons de_str (da_cons (de_index O.units2 (de_v (pv 1)) de_bl) da_nil)))))))))

theorem k__law_ask (d : Hd w K mg) : Kept P w K mg base 8 "_law_ask" ["_law_what", "_law_template_here", "_law_stand", "_law_word_here"] (spD K 4 f__law_ask) := by
  obtain ⟨fd, F⟩ := d.fnd 25 (d := d__law_ask)
  exact keptD (N := ["_law_what", "_law_template_here", "_law_stand", "_law_word_here", "_law_e"]) (g := g__law_ask) 4 F (d.glo 25) ⟨rfl, rfl, rfl, by decide +kernel, rfl, by decide +kernel, by decide +kernel⟩ rfl (fun _ _ _ _ _ _ us hl => match us, hl with | [_, _, _, _], _ => rfl) fun cdv A outer s H E c O =>
    (dss_one (ds_try (i := 4) (xs := excsC) O rfl rfl rfl rfl rfl (d.glo 47) d.exb (k__law_which d) (by decide) rfl (fun W' pn xe O => (dss_cons (ds_if (dt_cmp (op_eqP O.units) rd_eq (de_v (pv 0)) de_int (nomark _)) (dss_one (ds_ret (de_fn O (k_moves d) (by decide) rfl (da_cons (de_v (pv 1)) (da_cons (de_v (pv 2)) (da_cons (de_v (pv 3)) da_nil)))))) dss_nil)
    (dss_one (ds_ret (de_fn O (k_may_end d) (by decide) rfl (da_cons (de_v (pv 1)) (da_cons (de_v (pv 2)) da_nil)))))))))

theorem k__law_enough (d : Hd w K mg) : Kept P w K mg base 1 "_law_enough" ["_law_template_here", "_law_stand"] (spD K 2 f__law_enough) := by
  obtain ⟨fd, F⟩ := d.fnd 26 (d := d__law_enough)
  exact keptD (N := ["_law_template_here", "_law_stand"]) (g := g__law_enough) 2 F (d.glo 26) ⟨rfl, rfl, rfl, by decide +kernel, rfl, by decide +kernel, by decide +kernel⟩ rfl (fun _ _ _ _ _ _ us hl => match us, hl with | [_, _], _ => rfl) fun cdv A outer s H E c O =>
    (dss_one (ds_ret (de_or (de_cmp (op_eqP O.units) rd_eq (de_ix ix_D rd_ix (de_v (pv 1)) de_int (by intro _ _; rfl)) (de_neg de_int) (nomark _)) (de_or (de_cmp (op_neP O.units) rd_ne (de_ix ix_D rd_ix (de_ix ix_D rd_ix (de_v (pv 0)) (de_ix ix_D rd_ix (de_v (pv 1)) de_int (by intro _ _; rfl)) (by intro _ _; rfl)) de_int (by intro _ _; rfl)) de_str (nomark _)) (de_one (de_cmp op_ge rd_ge (de_ix ix_D rd_ix (de_v (pv 1)) de_int (by intro _ _; rfl)) (de_ix ix_D rd_ix (de_ix ix_D rd_ix (de_v (pv 0)) (de_ix ix_D rd_ix (de_v (pv 1)) de_int (by intro _ _; rfl)) (by intro _ _; rfl)) de_int (by intro _ _; rfl)) (nomark _)))))))

theorem k__law_free (d : Hd w K mg) : Kept P w K mg base 1 "_law_free" ["_law_template_here", "_law_first", "_law_last"] (spD K 3 f__law_free) := by
  obtain ⟨fd, F⟩ := d.fnd 27 (d := d__law_free)
  exact keptD (N := ["_law_template_here", "_law_first", "_law_last", "_law_part"]) (g := g__law_free) 3 F (d.glo 27) ⟨rfl, rfl, rfl, by decide +kernel, rfl, by decide +kernel, by decide +kernel⟩ rfl (fun _ _ _ _ _ _ us hl => match us, hl with | [_, _, _], _ => rfl) fun cdv A outer s H E c O =>
    (dss_one (ds_ret (de_cmp (op_eqP O.units) rd_eq (de_callB call_len ra_len rfl (d.free 38) bo_len (da_cons (de_fr (df_lcO O (own := [("_law_part", 3)]) rfl (di_seq (de_slice (de_v (pv 0)) (do_some (de_v (pv 1))) (do_some (de_v (pv 2))))) (blkOk_by (by kernel_rfl)) (fun _ _ _ _ _ O => (pg_name (i := 3) O.nd rfl (by first | exact .inl rfl | exact .inr rfl))) dg_name (fun s H C cl fp O => (dts_one (DW.pt (dw_or (dt_cmp (op_neP O.units) rd_ne (de_ix ix_D rd_ix (de_v (pv 3)) de_int (by intro _ _; rfl)) de_str (nomark _)) (dw_or1 (dt_cmp op_gt rd_gt (de_ix ix_D rd_ix (de_v (pv 3)) de_int (by intro _ _; rfl)) de_int (nomark _))))))) (fun s H C cl fp O => de_int))) da_nil)) de_int (nomark _))))

theorem k__law_takes (d : Hd w K mg) : Kept P w K mg base 1 "_law_takes" ["_law_part", "_law_word_here"] (spD K 2 f__law_takes) := by
  obtain ⟨fd, F⟩ := d.fnd 28 (d := d__law_takes)
  exact keptD (N := ["_law_part", "_law_word_here"]) (g := g__law_takes) 2 F (d.glo 28) ⟨rfl, rfl, rfl, by decide +kernel, rfl, by decide +kernel, by decide +kernel⟩ rfl (fun _ _ _ _ _ _ us hl => match us, hl with | [_, _], _ => rfl) fun cdv A outer s H E c O =>
    (dss_cons (ds_if (dt_cmp (op_eqP O.units) rd_eq (de_ix ix_D rd_ix (de_v (pv 0)) de_int (by intro _ _; rfl)) de_str (nomark _)) (dss_one (ds_ret (de_cmp (op_eqP O.units) rd_eq (de_v (pv 1)) (de_ix ix_D rd_ix (de_v (pv 0)) de_int (by intro _ _; rfl)) (nomark _)))) dss_nil)
    (dss_one (ds_ret (de_cmp (op_notInP O.units2) rd_notIn (de_v (pv 1)) (de_ix ix_D rd_ix (de_v (pv 0)) (de_neg de_int) (by intro _ _; rfl)) (by rfl)))))

theorem k__law_cap (d : Hd w K mg) : Kept P w K mg base 1 "_law_cap" ["_law_part"] (spD K 1 f__law_cap) := by
  obtain ⟨fd, F⟩ := d.fnd 29 (d := d__law_cap)
  exact keptD (N := ["_law_part"]) (g := g__law_cap) 1 F (d.glo 29) ⟨rfl, rfl, rfl, by decide +kernel, rfl, by decide +kernel, by decide +kernel⟩ rfl (fun _ _ _ _ _ _ us hl => match us, hl with | [_], _ => rfl) fun cdv A outer s H E c O =>
    (dss_one (ds_ret (de_if (dt_cmp (op_eqP O.units) rd_eq (de_ix ix_D rd_ix (de_v (pv 0)) de_int (by intro _ _; rfl)) de_str (nomark _)) (de_callB (call_max2 O.calm) ra_max2 rfl (d.free 40) bo_max (da_cons de_int (da_cons (de_ix ix_D rd_ix (de_v (pv 0)) de_int (by intro _ _; rfl)) da_nil))) de_int)))

theorem k__law_moves (d : Hd w K mg) : Kept P w K mg base 2 "_law_moves" ["_law_template_here", "_law_stand", "_law_word_here"] (spD K 3 f__law_moves) := by
  obtain ⟨fd, F⟩ := d.fnd 30 (d := d__law_moves)
  exact keptD (N := ["_law_template_here", "_law_stand", "_law_word_here", "_law_at", "_law_many", "_law_made", "_law_goal"]) (g := g__law_moves) 3 F (d.glo 30) ⟨rfl, rfl, rfl, by decide +kernel, rfl, by decide +kernel, by decide +kernel⟩ rfl (fun _ _ _ _ _ _ us hl => match us, hl with | [_, _, _], _ => rfl) fun cdv A outer s H E c O =>
    (dss_cons (ds_bind (dg_tup (dgs_cons dg_name (dgs_cons dg_name dgs_nil))) (ps_asg (de_v (pv 1)) (pg_tup rfl (pgs_cons (pg_name (i := 3) O.nd rfl (by first | exact .inl rfl | exact .inr rfl)) (pgs_cons (pg_name (i := 4) O.nd rfl (by first | exact .inl rfl | exact .inr rfl)) pgs_nil)))))
    (dss_cons (ds_own (ps_set (i := 5) O.nd rfl (by first | exact .inl rfl | exact .inr rfl) (df_lst da_nil)))
    (dss_cons (ds_for O (di_range2 rfl (d.free 42) (de_callB (call_max2 O.calm) ra_max2 rfl (d.free 40) bo_max (da_cons de_int (da_cons (de_v (pv 3)) da_nil))) (de_callB call_len ra_len rfl (d.free 38) bo_len (da_cons (de_v (pv 0)) da_nil))) (pg_name (i := 6) O.nd rfl (by first | exact .inl rfl | exact .inr rfl)) dg_name (dss_one (ds_if (dt_val (de_fn O (k__law_takes d) (by decide) rfl (da_cons (de_ix ix_D rd_ix (de_v (pv 0)) (de_v (pv 6)) (by intro _ _; rfl)) (da_cons (de_v (pv 2)) da_nil)))) (dss_cons (ds_if (DW.pt (dw_and (dt_cmp (op_eqP O.units) rd_eq (de_v (pv 6)) (de_v (pv 3)) (nomark _)) (dw_and1 (dt_cmp (op_eqP O.units) rd_eq (de_ix ix_D rd_ix (de_ix ix_D rd_ix (de_v (pv 0)) (de_v (pv 3)) (by intro _ _; rfl)) de_int (by intro _ _; rfl)) de_str (nomark _))))) (dss_one (ds_expr (de_append (fun t ht => pe_bm PySem.F.plainAttrs_list PySem.F.slot_list_append PySem.F.type_list_append mt_append (pv 5) ht) (de_tup (da_cons (de_v (pv 3)) (da_cons (de_callB (call_min2 O.calm) ra_min2 rfl (d.free 41) bo_min (da_cons (de_op op_addD rd_add (de_v (pv 4)) de_int) (da_cons (de_fn O (k__law_cap d) (by decide) rfl (da_cons (de_ix ix_D rd_ix (de_v (pv 0)) (de_v (pv 3)) (by intro _ _; rfl)) da_nil)) da_nil))) da_nil)))))) dss_nil)
    (dss_one (ds_if (DW.pt (dw_and (dt_cmp op_gt rd_gt (de_v (pv 6)) (de_v (pv 3)) (nomark _)) (dw_and (dt_val (de_fn O (k__law_enough d) (by decide) rfl (da_cons (de_v (pv 0)) (da_cons (de_v (pv 1)) da_nil)))) (dw_and1 (dt_val (de_fn O (k__law_free d) (by decide) rfl (da_cons (de_v (pv 0)) (da_cons (de_op op_addD rd_add (de_v (pv 3)) de_int) (da_cons (de_v (pv 6)) da_nil))))))))) (dss_one (ds_expr (de_append (fun t ht => pe_bm PySem.F.plainAttrs_list PySem.F.slot_list_append PySem.F.type_list_append mt_append (pv 5) ht) (de_tup (da_cons (de_v (pv 6)) (da_cons de_int da_nil)))))) dss_nil))) dss_nil)))
    (dss_one (ds_ret (de_v (pv 5)))))))

theorem k_law (d : Hd w K mg) {fd : FuncData} (F : FunD K d_law.name d_law.qual d_law.params d_law.body d_law.scope [] [] (He.ga K "law") fd) (ht : ∀ ns : List Int, ns.length ≤ 63 → f_law ns [] = .ok (.bool true)) : FnOk P w K mg base (L2N.CX P w) 9 (He.ga K "law") fd ["_law_script"] (spL K 63) := by
  exact keptL (N := ["_law_script", "_law_town", "_law_template_here", "_law_stands", "_law_at", "_law_part", "_law_many", "_law_stand", "_law_end", "_law_k", "_law_word_here", "_law_bad", "_law_odd", "_law_none"]) (g := g_law) 63 F ⟨rfl, rfl, rfl, by decide +kernel, rfl, by decide +kernel, by decide +kernel⟩ rfl ht fun cdv A outer s H E O =>
    (dss_cons (ds_town rfl (ps_set (i := 1) O.nd rfl (by first | exact .inl rfl | exact .inr rfl) (df_lst da_nil)))
    (dss_cons (ds_set (ps_set (i := 2) O.nd rfl (by first | exact .inl rfl | exact .inr rfl) (de_town O (k__law_template d) (by decide) rfl (pv 0) (pv 1) (da_cons de_int da_nil))))
    (dss_cons (ds_own (ps_set (i := 3) O.nd rfl (by first | exact .inl rfl | exact .inr rfl) (df_lst (da_cons (de_tup (da_cons (de_neg de_int) (da_cons de_int da_nil))) da_nil))))
    (dss_cons (ds_for O (di_enum rfl (d.free 35) (de_v (pv 2))) (pg_tup rfl (pgs_cons (pg_name (i := 4) O.nd rfl (by first | exact .inl rfl | exact .inr rfl)) (pgs_cons (pg_name (i := 5) O.nd rfl (by first | exact .inl rfl | exact .inr rfl)) pgs_nil))) (dg_tup (dgs_cons dg_name (dgs_cons dg_name dgs_nil))) (dss_one (ds_expr (de_extend (fun t ht => pe_bm PySem.F.plainAttrs_list PySem.F.slot_list_extend PySem.F.type_list_extend mt_extend (pv 3) ht) (de_fr (df_lcO O (own := [("_law_many", 6)]) rfl (di_range2 rfl (d.free 42) de_int (de_op op_addD rd_add (de_fn O (k__law_cap d) (by decide) rfl (da_cons (de_v (pv 5)) da_nil)) de_int)) (blkOk_by (by kernel_rfl)) (fun _ _ _ _ _ O => (pg_name (i := 6) O.nd rfl (by first | exact .inl rfl | exact .inr rfl))) dg_name (fun s H C cl fp O => dts_nil) (fun s H C cl fp O => (de_tup (da_cons (de_v (pv 4)) (da_cons (de_v (pv 6)) da_nil))))))))))
    (dss_cons (ds_for O (di_seq (de_v (pv 3))) (pg_name (i := 7) O.nd rfl (by first | exact .inl rfl | exact .inr rfl)) dg_name (dss_cons (ds_set (ps_set (i := 8) O.nd rfl (by first | exact .inl rfl | exact .inr rfl) (de_and (de_fn O (k__law_enough d) (by decide) rfl (da_cons (de_v (pv 2)) (da_cons (de_v (pv 7)) da_nil))) (de_one (de_fn O (k__law_free d) (by decide) rfl (da_cons (de_v (pv 2)) (da_cons (de_op op_addD rd_add (de_ix ix_D rd_ix (de_v (pv 7)) de_int (by intro _ _; rfl)) de_int) (da_cons (de_callB call_len ra_len rfl (d.free 38) bo_len (da_cons (de_v (pv 2)) da_nil)) da_nil))))))))
    (dss_cons (ds_if (dt_cmp (op_neP O.units) rd_ne (de_fn O (k__law_ask d) (by decide) rfl (da_cons de_int (da_cons (de_v (pv 2)) (da_cons (de_v (pv 7)) (da_cons de_non da_nil))))) (de_v (pv 8)) (nomark _)) (dss_one (ds_ret de_bl)) dss_nil)
    (dss_one (ds_for O (di_range1 rfl (d.free 42) de_int) (pg_name (i := 9) O.nd rfl (by first | exact .inl rfl | exact .inr rfl)) dg_name (dss_cons (ds_set (ps_set (i := 10) O.nd rfl (by first | exact .inl rfl | exact .inr rfl) (de_town O (k__law_word d) (by decide) rfl (pv 0) (pv 1) da_nil)))
    (dss_one (ds_if (dt_cmp (op_neP O.units) rd_ne (de_fn O (k__law_ask d) (by decide) rfl (da_cons de_int (da_cons (de_v (pv 2)) (da_cons (de_v (pv 7)) (da_cons (de_v (pv 10)) da_nil))))) (de_fn O (k__law_moves d) (by decide) rfl (da_cons (de_v (pv 2)) (da_cons (de_v (pv 7)) (da_cons (de_v (pv 10)) da_nil)))) (nomark _)) (dss_one (ds_ret de_bl)) dss_nil))))))))
    (dss_cons (ds_set (ps_set (i := 4) O.nd rfl (by first | exact .inl rfl | exact .inr rfl) (de_callB call_len ra_len rfl (d.free 38) bo_len (da_cons (de_v (pv 2)) da_nil))))
    (dss_cons (ds_own (ps_set (i := 11) O.nd rfl (by first | exact .inl rfl | exact .inr rfl) (df_lst (da_cons de_non (da_cons (de_tup da_nil) (da_cons (de_tup (da_cons (de_neg de_int) da_nil)) (da_cons (de_tup (da_cons (de_neg de_int) (da_cons de_int da_nil))) (da_cons (de_tup (da_cons (de_neg de_int) (da_cons de_int da_nil))) (da_cons (de_tup (da_cons (de_v (pv 4)) (da_cons de_int da_nil))) (da_cons (de_tup (da_cons de_int (da_cons de_int da_nil))) (da_cons (de_tup (da_cons de_int (da_cons de_int da_nil))) (da_cons (de_fr (df_lst (da_cons (de_neg de_int) (da_cons de_int da_nil)))) (da_cons (de_tup (da_cons (de_neg de_int) (da_cons de_int (da_cons de_int da_nil)))) (da_cons (de_tup (da_cons de_bl (da_cons de_int da_nil))) (da_cons (de_tup (da_cons (de_neg de_int) (da_cons de_bl da_nil))) (da_cons de_str da_nil))))))))))))))))
    (dss_cons (ds_if (dt_cmp op_gt rd_gt (de_v (pv 4)) de_int (nomark _)) (dss_one (ds_expr (de_extend (fun t ht => pe_bm PySem.F.plainAttrs_list PySem.F.slot_list_extend PySem.F.type_list_extend mt_extend (pv 11) ht) (de_fr (df_lst (da_cons (de_tup (da_cons (de_op op_sub rd_sub (de_v (pv 4)) de_int) (da_cons (de_op op_addD rd_add (de_fn O (k__law_cap d) (by decide) rfl (da_cons (de_ix ix_D rd_ix (de_v (pv 2)) (de_op op_sub rd_sub (de_v (pv 4)) de_int) (by intro _ _; rfl)) da_nil)) de_int) da_nil))) (da_cons (de_tup (da_cons (de_op op_sub rd_sub (de_v (pv 4)) de_int) (da_cons de_int da_nil))) (da_cons (de_tup (da_cons (de_op op_sub rd_sub (de_v (pv 4)) de_int) (da_cons de_non da_nil))) da_nil)))))))) dss_nil)
    (dss_cons (ds_set (ps_set (i := 12) O.nd rfl (by first | exact .inl rfl | exact .inr rfl) (de_town O (k__law_pick d) (by decide) rfl (pv 0) (pv 1) (da_cons (de_v (pv 11)) da_nil))))
    (dss_cons (ds_if (DW.pt (dw_or (dt_cmp (op_neP O.units) rd_ne (de_fn O (k__law_ask d) (by decide) rfl (da_cons de_int (da_cons (de_v (pv 2)) (da_cons (de_v (pv 12)) (da_cons de_non da_nil))))) (de_tup (da_cons de_str (da_cons de_int da_nil))) (nomark _)) (dw_or1 (dt_cmp (op_neP O.units) rd_ne (de_fn O (k__law_ask d) (by decide) rfl (da_cons de_int (da_cons (de_v (pv 2)) (da_cons (de_v (pv 12)) (da_cons de_non da_nil))))) (de_tup (da_cons de_str (da_cons de_int da_nil))) (nomark _))))) (dss_one (ds_ret de_bl)) dss_nil)
    (dss_cons (ds_set (ps_set (i := 13) O.nd rfl (by first | exact .inl rfl | exact .inr rfl) (de_town O (k__law_pick d) (by decide) rfl (pv 0) (pv 1) (da_cons (de_fr (df_lst (da_cons de_non (da_cons de_str (da_cons de_str (da_cons de_str (da_cons de_int (da_cons (de_tup (da_cons de_str da_nil)) da_nil)))))))) da_nil))))
    (dss_one (ds_ret (de_cmp (op_eqP O.units) rd_eq (de_fn O (k__law_ask d) (by decide) rfl (da_cons de_int (da_cons (de_v (pv 2)) (da_cons (de_tup (da_cons (de_neg de_int) (da_cons de_int da_nil))) (da_cons (de_v (pv 13)) da_nil))))) (de_tup (da_cons de_str (da_cons de_int da_nil))) (nomark _)))))))))))))))
end HD

set_option maxHeartbeats 2000000
/-! PL1: the plain laws of the drawn numbers, of templates. -/
namespace HD
open PySem PySem.Spec L2 DL
/-! ### the script's cells -/
def cellAt (ns : List Int) (k : Nat) : Int := if k < ns.length then ns.getD k 0 else if ns = [] then 0 else ns.getD (k % ns.length) 0 * 31 + k
theorem map_get (ns : List Int) (k : Nat) (h : k < ns.length) : (ns.map PyData.int)[k]? = some (.int (ns.getD k 0)) := by
  rw [List.getElem?_map, List.getElem?_eq_getElem h, List.getD_eq_getElem?_getD, List.getElem?_eq_getElem h]
  rfl
theorem cell_s (ns : List Int) (k : Nat) : f__law_cell_at ns [.int k] = .ok (.int (cellAt ns k)) := by
  by_cases h : k < ns.length
  · have e : (ns.map PyData.int)[k]? = some (.int (ns.getD k 0)) := map_get ns k h
    have h2 : (k : Int) < ns.length := by omega
    simp [f__law_cell_at, fnS, runF, g__law_cell_at, h2, atI_n, e, cellAt, h]
  · have h2 : ¬ (k : Int) < ns.length := by omega
    by_cases h0 : ns = []
    · subst h0
      have h3 : ¬ (k : Int) < 0 := by omega
      simp [h3, f__law_cell_at, fnS, runF, g__law_cell_at, h2, cellAt]
    · have hp : 0 < ns.length := List.length_pos_iff.mpr h0
      have hm : k % ns.length < ns.length := Nat.mod_lt _ hp
      have e : (ns.map PyData.int)[k % ns.length]? = some (.int (ns.getD (k % ns.length) 0)) := map_get ns _ hm
      have e2 : ((k : Int) % (ns.length : Int)) = ((k % ns.length : Nat) : Int) := by omega
      have hp2 : (0 : Int) < ns.length := by omega
      have he : ns.isEmpty = false := by simpa using h0
      have e3 : atI (ns.map PyData.int) ((k : Int) % (ns.length : Int)) = some (.int (ns.getD (k % ns.length) 0)) := by rw [e2, atI_n, e]
      have h4 : ¬ (ns.length : Int) < 0 := by omega
      simp only [cellAt, h, h0, if_false]
      generalize ns.getD (k % ns.length) 0 = z at e3 ⊢
      have m1 : mulOk z 31 = true := mulOk_r (by omega) (by omega)
      simp [f__law_cell_at, fnS, runF, g__law_cell_at, h2, hp, hp2, e3, he, m1]
/-- what is drawn from a cell -/
def mixed (ns : List Int) (k : Nat) (m : Int) : Int := ((cellAt ns k * 1103515245 + 7919 * k + 12345) % 2147483647) ^ 5 % 2147483647 % 999983 % m
theorem mixed_lt (ns : List Int) (k : Nat) {m : Int} (hm : 0 < m) : 0 ≤ mixed ns k m ∧ mixed ns k m < m := ⟨Int.emod_nonneg _ (by omega), Int.emod_lt_of_pos _ hm⟩
theorem mixed_s (ns : List Int) (k : Nat) (m : Int) (hm : 0 < m) : f__law_mixed ns [.int k, .int m] = .ok (.int (mixed ns k m)) := by
  have h1 : 0 ≤ (cellAt ns k * 1103515245 + 7919 * k + 12345) % 2147483647 := Int.emod_nonneg _ (by omega)
  have h2 : (cellAt ns k * 1103515245 + 7919 * k + 12345) % 2147483647 < 2147483647 := Int.emod_lt_of_pos _ (by omega)
  have h3 : powOk ((cellAt ns k * 1103515245 + 7919 * k + 12345) % 2147483647) 5 = true := powOk_of (by omega) (by omega) h1 (by omega)
  have m1 : mulOk (cellAt ns k) 1103515245 = true := mulOk_r (by omega) (by omega)
  have m2 : mulOk 7919 (k : Int) = true := mulOk_l (by omega) (by omega)
  simp [f__law_mixed, fnS, runF, g__law_mixed, cell_s, hm, mixed, h3, m1, m2]
def drawn (ns : List Int) (t : Nat) (m : Int) : Int := mixed ns (t + 1) m
theorem draw_s (ns : List Int) (t : Nat) (m : Int) (hm : 0 < m) (ht : t < lim) : f__law_draw ns [.int m] t = .ok (.int (drawn ns t m), t + 1) := by
  have e := mixed_s ns (t + 1) m hm
  simp [f__law_draw, fnT, runF, g__law_draw, ht, drawn] at e ⊢
  simp [e]
theorem drawn_nat (ns : List Int) (t : Nat) {m : Nat} (hm : 0 < m) : ∃ r : Nat, drawn ns t m = r ∧ r < m := by
  obtain ⟨h1, h2⟩ := mixed_lt ns (t + 1) (m := m) (by omega)
  exact ⟨(drawn ns t m).toNat, by unfold drawn; omega, by unfold drawn; omega⟩
theorem pick_s (ns : List Int) (t : Nat) (xs : List D) (hx : xs ≠ []) (ht : t < lim) : ∃ d ∈ xs, f__law_pick ns [.list xs] t = .ok (d, t + 1) := by
  have hp : 0 < xs.length := List.length_pos_iff.mpr hx
  obtain ⟨r, e, hr⟩ := drawn_nat ns t hp
  have e1 := draw_s ns t xs.length (by omega) ht
  refine ⟨xs[r], List.getElem_mem hr, ?_⟩
  simp [f__law_pick, fnT, runF, g__law_pick, e1, e, atI_n, hr]
end HD

set_option maxHeartbeats 4000000
/-! PL2: templates, in plain Lean. -/
namespace HD
open PySem PySem.Spec L2 DL
inductive Part where
  | word (w : Str)
  | one (g : Str) (b : List Str)
  | some (g : Str) (n : Int) (b : List Str)
def strsD (b : List Str) : D := .tuple (b.map .str)
def Part.d : Part → D
  | .word w => .tuple [.str "word", .str w]
  | .one g b => .tuple [.str "one", .str g, strsD b]
  | .some g n b => .tuple [.str "some", .str g, .int n, strsD b]
def tmplD (ps : List Part) : D := .tuple (ps.map Part.d)
def isWord (w : Str) : Bool := decide (1 ≤ w.length) && (decide (w.length ≤ 4) && (Txt.stripChars w "abcdefghijklmnopqrstuvwxyz" == ""))
def isBarred (b : List Str) : Bool := b.all isWord && (decide (b.length ≤ 3) && decide (b = sortS b))
def Part.name : Part → Str
  | .word w => w
  | .one g _ => g
  | .some g _ _ => g
def Part.isGap : Part → Bool
  | .word _ => false
  | _ => true
def Part.ok : Part → Bool
  | .word w => isWord w
  | .one g b => isWord g && isBarred b
  | .some g n b => isWord g && (decide (0 ≤ n) && (decide (n ≤ 2) && isBarred b))
def gapsOf (ps : List Part) : List Str := (ps.filter Part.isGap).map Part.name
def isTmpl (ps : List Part) : Bool := decide (ps.length ≤ 6) && (ps.all Part.ok && decide ((uniq (gapsOf ps)).length = (gapsOf ps).length))
/-- no text is longer than the model's line -/
def Small (ps : List Part) : Prop := ∀ p ∈ ps, match p with
  | .word w => w.length ≤ lim
  | .one g b => g.length ≤ lim ∧ b.length ≤ 3000 ∧ ∀ x ∈ b, x.length ≤ lim
  | .some g _ b => g.length ≤ lim ∧ b.length ≤ 3000 ∧ ∀ x ∈ b, x.length ≤ lim
@[simp] theorem k_ws : ((Str.ofString "word") == (Str.ofString "some")) = false := by decide
@[simp] theorem k_wo : ((Str.ofString "word") == (Str.ofString "one")) = false := by decide
@[simp] theorem k_ow : ((Str.ofString "one") == (Str.ofString "word")) = false := by decide
@[simp] theorem k_os : ((Str.ofString "one") == (Str.ofString "some")) = false := by decide
@[simp] theorem k_sw : ((Str.ofString "some") == (Str.ofString "word")) = false := by decide
@[simp] theorem k_so : ((Str.ofString "some") == (Str.ofString "one")) = false := by decide
@[simp] theorem t_w : tabKv.lookup (Str.ofString "word") = some 2 := by decide
@[simp] theorem t_o : tabKv.lookup (Str.ofString "one") = some 3 := by decide
@[simp] theorem t_s : tabKv.lookup (Str.ofString "some") = some 4 := by decide
theorem word_s (w : Str) (h : w.length ≤ lim) : f_is_word [.str w] = .ok (.bool (isWord w)) := by
  by_cases h1 : 1 ≤ w.length
  · have i1 : (1 : Int) ≤ w.length := by omega
    by_cases h2 : w.length ≤ 4
    · have i2 : (w.length : Int) ≤ 4 := by omega
      simp [f_is_word, fnD, runF, g_is_word, h, i1, i2, isWord, h1, h2]
    · have i2 : ¬ (w.length : Int) ≤ 4 := by omega
      simp [f_is_word, fnD, runF, g_is_word, h, i1, i2, isWord, h1, h2]
  · have i1 : ¬ (1 : Int) ≤ w.length := by omega
    simp [f_is_word, fnD, runF, g_is_word, h, i1, isWord, h1]
theorem words_s (b : List Str) (hb : ∀ x ∈ b, x.length ≤ lim) (hl : b.length ≤ lim) : f_are_words [strsD b] = .ok (.bool (b.all isWord)) := by
  have e := lcD_map (ix := [1]) (bd := bName 1) (t := mYes) (f := e_are_words_1) (ρ := [Slot.d (strsD b), .un]) PyData.str (fun _ => true) (fun w => .bool (isWord w)) b [] (by simpa using hl) fun w hw => by
    refine ⟨_, rfl, rfl, fun _ => ?_, rfl⟩
    simp [e_are_words_1, word_s w (hb w hw)]
  rw [filter_all, List.nil_append] at e
  simp only [strsD] at e ⊢
  simp [f_are_words, fnD, runF, g_are_words, plainAt, Slot.mutb, wipeE, e, backE, List.all_map]
theorem eqvAll_strs : ∀ a b : List Str, PyData.eqvAll (a.map .str) (b.map .str) = decide (a = b)
  | [], [] => rfl
  | [], _ :: _ => rfl
  | _ :: _, [] => rfl
  | x :: a, y :: b => by
    show (x == y && PyData.eqvAll (a.map .str) (b.map .str)) = _
    rw [eqvAll_strs a b]
    by_cases h : x = y <;> by_cases h2 : a = b <;> simp [h, h2]
theorem depth_strs : ∀ a : List Str, PyData.depthAll (a.map .str) = 0
  | [] => rfl
  | x :: a => by simp [PyData.depthAll, PyData.depth, depth_strs a]
theorem sortSet_tup (b : List Str) (h : b.length < 4000) : oSortSet (.tuple (b.map .str)) = some (.list ((sortS b).map .str)) := by
  simp [oSortSet, seqD, keysD, h]
theorem sortSet_lst (b : List Str) (h : b.length < 4000) : oSortSet (.list (b.map .str)) = some (.list ((sortS b).map .str)) := by
  simp [oSortSet, seqD, keysD, h]
theorem barred_s (b : List Str) (hb : ∀ x ∈ b, x.length ≤ lim) (hl : b.length ≤ 3000) : f_is_barred [strsD b] = .ok (.bool (isBarred b)) := by
  have hl2 : b.length ≤ lim := Nat.le_trans hl (by decide)
  have e := words_s b hb hl2
  have e2 := sortSet_tup b (by omega)
  have e3 : oEq (.list (b.map .str)) (.list ((sortS b).map .str)) = some (.bool (decide (b = sortS b))) := by
    simp [oEq, PyData.depth, depth_strs, deep, PyData.eqv, eqvAll_strs]
  cases h1 : b.all isWord with
  | false => simp [f_is_barred, fnD, runF, g_is_barred, e, h1, isBarred]
  | true =>
    by_cases h2 : b.length ≤ 3
    · have i2 : (b.length : Int) ≤ 3 := by omega
      simp only [strsD] at e ⊢
      simp [f_is_barred, fnD, runF, g_is_barred, e, h1, isBarred, h2, i2, e2, e3]
    · have i2 : ¬ (b.length : Int) ≤ 3 := by omega
      simp only [strsD] at e ⊢
      simp [f_is_barred, fnD, runF, g_is_barred, e, h1, isBarred, h2, i2]
theorem whole_s (i lo hi : Int) : f_is_whole [.int i, .int lo, .int hi] = .ok (.bool (decide (lo ≤ i) && decide (i ≤ hi))) := by
  by_cases h : lo ≤ i <;> simp [f_is_whole, fnD, runF, g_is_whole, h]
theorem atI_neg1 {α : Type} (xs : List α) (x : α) (h : xs.getLast? = some x) : atI xs (-1) = some x := by
  obtain ⟨ys, rfl⟩ := List.getLast?_eq_some_iff.mp h
  exact DL.atI_last ys x
theorem part_s (p : Part) (h : match p with
  | .word w => w.length ≤ lim
  | .one g b => g.length ≤ lim ∧ b.length ≤ 3000 ∧ ∀ x ∈ b, x.length ≤ lim
  | .some g _ b => g.length ≤ lim ∧ b.length ≤ 3000 ∧ ∀ x ∈ b, x.length ≤ lim) : f_is_part [p.d] = .ok (.bool p.ok) := by
  have a0 : ∀ (x : D) (xs : List D), atI (x :: xs) 0 = some x := fun x xs => atI_n (x :: xs) 0
  have a1 : ∀ (x y : D) (xs : List D), atI (x :: y :: xs) 1 = some y := fun x y xs => atI_n (x :: y :: xs) 1
  have a2 : ∀ (x y z : D) (xs : List D), atI (x :: y :: z :: xs) 2 = some z := fun x y z xs => atI_n (x :: y :: z :: xs) 2
  cases p with
  | word w =>
    have e := word_s w h
    cases hw : isWord w <;> simp [f_is_part, fnD, runF, g_is_part, Part.d, Part.ok, a0, a1, e, hw]
  | one g b =>
    have e := word_s g h.1
    have e2 := barred_s b h.2.2 h.2.1
    have a3 : atI [PyData.str "one", .str g, strsD b] (-1) = some (strsD b) := atI_neg1 _ _ rfl
    cases hw : isWord g <;> simp [f_is_part, fnD, runF, g_is_part, Part.d, Part.ok, a0, a1, a3, e, e2, hw]
  | some g n b =>
    have e := word_s g h.1
    have e2 := barred_s b h.2.2 h.2.1
    have e3 := whole_s n 0 2
    have a3 : atI [PyData.str "some", .str g, .int n, strsD b] (-1) = some (strsD b) := atI_neg1 _ _ rfl
    cases hw : isWord g
    · simp [f_is_part, fnD, runF, g_is_part, Part.d, Part.ok, a0, a1, e, hw]
    · by_cases h0 : 0 ≤ n
      · by_cases h2 : n ≤ 2 <;> simp [f_is_part, fnD, runF, g_is_part, Part.d, Part.ok, a0, a1, a2, a3, e, e2, e3, hw, h0, h2]
      · simp [f_is_part, fnD, runF, g_is_part, Part.d, Part.ok, a0, a1, a2, a3, e, e2, e3, hw, h0]
theorem lenSet_strs (b : List Str) (h : b.length < 4000) : oLenSet (.list (b.map .str)) = some (.int ((uniq b).length : Nat)) := by
  simp [oLenSet, seqD, keysD, h]
theorem kind_of (p : Part) : ∃ k r, p.d = .tuple (.str k :: .str p.name :: r) ∧ (k == Str.ofString "word") = !p.isGap := by
  cases p with
  | word w => exact ⟨_, _, rfl, beq_self_eq_true _⟩
  | one g b => exact ⟨_, _, rfl, k_ow⟩
  | some g n b => exact ⟨_, _, rfl, k_sw⟩
theorem gaps_lc (ps : List Part) (hl : ps.length ≤ lim) (ρ : DL.Env) (i : Nat) (hi : i < ρ.length) (hw : wipeE ρ [i] = ρ) : lcD [i] (bName i) (mBool (m2 oNe (m2 oIx (mV i) (mC (.int 0))) (mC (.str "word")))) (m2 oIx (mV i) (mC (.int 1))) (ps.map Part.d) [] ρ = .ok ((gapsOf ps).map .str, ρ) := by
  have hw' : ρ.set i .un = ρ := hw
  have e := lcD_map (ix := [i]) (bd := bName i) (t := mBool (m2 oNe (m2 oIx (mV i) (mC (.int 0))) (mC (.str "word")))) (f := m2 oIx (mV i) (mC (.int 1))) (ρ := ρ) Part.d Part.isGap (fun p => .str p.name) ps [] (by simpa using hl) fun p hp => by
    obtain ⟨k, r, e1, e2⟩ := kind_of p
    have a0 : atI (PyData.str k :: .str p.name :: r) 0 = some (.str k) := atI_n _ 0
    have a1 : atI (PyData.str k :: .str p.name :: r) 1 = some (.str p.name) := atI_n _ 1
    refine ⟨ρ.set i (.d p.d), rfl, ?_, fun _ => ?_, by simp [wipeE, hw']⟩
    · simp [List.getElem?_set_self hi, e1, a0, e2]
    · simp [List.getElem?_set_self hi, e1, a1]
  rw [e, List.nil_append, gapsOf, List.map_map]
  rfl
theorem tmpl_s (ps : List Part) (hs : Small ps) (hl : ps.length ≤ 3000) : f_is_template [tmplD ps] = .ok (.bool (isTmpl ps)) := by
  have hl2 : ps.length ≤ lim := Nat.le_trans hl (by decide)
  have e := lcD_map (ix := [1]) (bd := bName 1) (t := mYes) (f := e_is_template_1) (ρ := [Slot.d (tmplD ps), .un, .un]) Part.d (fun _ => true) (fun p => .bool p.ok) ps [] (by simpa using hl2) fun p hp => by
    refine ⟨_, rfl, rfl, fun _ => ?_, rfl⟩
    simp [e_is_template_1, part_s p (hs p hp)]
  rw [filter_all, List.nil_append] at e
  have e2 : lcD [1] (bName 1) t_is_template_2 e_is_template_3 (ps.map Part.d) [] [Slot.d (tmplD ps), .un, .un] = _ := gaps_lc ps hl2 [Slot.d (tmplD ps), .un, .un] 1 (by simp) rfl
  have hg : (gapsOf ps).length ≤ ps.length := by
    unfold gapsOf
    rw [List.length_map]
    exact List.length_filter_le _ _
  have e3 := lenSet_strs (gapsOf ps) (by omega)
  simp only [tmplD] at e e2 ⊢
  by_cases h6 : ps.length ≤ 6
  · have i6 : ¬ (6 : Int) < ps.length := by omega
    cases ha : ps.all Part.ok with
    | false =>
      have ha' : (List.map Part.ok ps).all id = false := by rw [List.all_map]; exact ha
      simp [f_is_template, fnD, runF, g_is_template, i6, plainAt, Slot.mutb, wipeE, e, backE, ha', ha, isTmpl]
    | true =>
      have ha' : (List.map Part.ok ps).all id = true := by rw [List.all_map]; exact ha
      simp [f_is_template, fnD, runF, g_is_template, i6, plainAt, Slot.mutb, wipeE, e, backE, ha', ha, e2, e3, isTmpl, h6]
      by_cases hu : (uniq (gapsOf ps)).length = (gapsOf ps).length
      · simp [hu]
      · have hu' : ¬ (((uniq (gapsOf ps)).length : Nat) : Int) = ((gapsOf ps).length : Nat) := by omega
        simp [hu, hu']
  · have i6 : (6 : Int) < ps.length := by omega
    simp [f_is_template, fnD, runF, g_is_template, i6, isTmpl, h6]
end HD

set_option maxHeartbeats 4000000
/-! PL3: what the laws draw: barred words, templates. -/
namespace HD
open PySem PySem.Spec L2 DL
def bars : List Str := ["a", "b", "c"]
theorem rangeD_get {lo : Int} {n j : Nat} {x : D} (h : (rangeD lo n)[j]? = some x) : x = .int (lo + j) ∧ j < n := by
  unfold rangeD at h
  rw [List.getElem?_map] at h
  cases e : (List.range n)[j]? with
  | none => rw [e] at h; cases h
  | some k =>
    rw [e] at h
    have hj : j < n := by simpa using (List.getElem?_eq_some_iff.mp e).1
    have : k = j := by
      rw [List.getElem?_range hj] at e
      exact (Option.some.inj e).symm
    subst this
    exact ⟨by simpa using h.symm, hj⟩
theorem l3000 : 3000 ≤ lim := by decide
theorem l3 : 3 ≤ lim := by decide
theorem barred_draw (ns : List Int) (t : Nat) (ht : t + 10 < lim) : ∃ zs t', f__law_barred ns [] t = .ok (strsD (sortS zs), t') ∧ zs.length ≤ 2 ∧ (∀ z ∈ zs, z ∈ bars) ∧ t ≤ t' ∧ t' ≤ t + 3 := by
  obtain ⟨r, e, hr⟩ := drawn_nat ns t (m := 3) (by omega)
  have e1 := draw_s ns t 3 (by omega) (by omega)
  have e' : drawn ns t 3 = (r : Int) := e
  rw [e'] at e1
  obtain ⟨acc, ρ', e2, zs, t', h1, h2, h3, h4, h5, h6⟩ := lcD_inv (ix := [3]) (bd := bName 3) (t := mYes) (f := e__law_barred_1)
    (fun j acc ρ => ∃ zs t', acc = zs.map PyData.str ∧ zs.length = j ∧ (∀ z ∈ zs, z ∈ bars) ∧ ρ = [Slot.s ns, .t t', .un, .un] ∧ t + 1 ≤ t' ∧ t' ≤ t + 1 + j) (rangeD 0 r) 0 [] [Slot.s ns, .t (t + 1), .un, .un] ⟨[], t + 1, rfl, rfl, by simp, rfl, by omega, by omega⟩ (by have := l3000; rw [rangeD_len, List.length_nil]; omega) fun j x acc ρ hx ⟨zs, t', h1, h2, h3, h4, h5, h6⟩ => by
      obtain ⟨rfl, hj⟩ := rangeD_get hx
      subst h1 h4
      obtain ⟨d, hd, ep⟩ := pick_s ns t' [.str "a", .str "b", .str "c"] (by simp) (by omega)
      refine ⟨_, _, rfl, .inr ⟨[Slot.s ns, .t (t' + 1), .un, .d (.int (0 + j))], d, rfl, ?_, ?_⟩⟩
      · simp [e__law_barred_1, l3, ep]
      · simp at hd
        have key : ∃ z, d = .str z ∧ z ∈ bars := by
          rcases hd with rfl | rfl | rfl
          · exact ⟨_, rfl, by simp [bars]⟩
          · exact ⟨_, rfl, by simp [bars]⟩
          · exact ⟨_, rfl, by simp [bars]⟩
        obtain ⟨z, rfl, hz⟩ := key
        exact ⟨zs ++ [z], t' + 1, by simp, by simp; omega, by simpa using fun y hy => hy.elim (h3 y) fun e => e ▸ hz, rfl, by omega, by omega⟩
  rw [rangeD_len] at h2 h6
  subst h1 h4
  refine ⟨zs, t', ?_, by omega, h3, by omega, by omega⟩
  have hr2 : (r : Int) < 3 := by omega
  have e4 := sortSet_lst zs (by omega)
  have hb : rangeOk (r : Int) = true := rangeOk_of (by omega) (by omega)
  simp [f__law_barred, fnT, runF, g__law_barred, e1, hb, plainAt, Slot.mutb, wipeE, e2, backE, e4, strsD]
def gapNames : List Str := ["x", "y", "z", "what", "rest", "name"]
def BarOk (b : List Str) : Prop := ∃ zs : List Str, b = sortS zs ∧ zs.length ≤ 2 ∧ ∀ z ∈ zs, z ∈ bars
def WordOk (w : Str) : Prop := w = "a" ∨ w = "b" ∨ w = "get"
def PartAt (j : Nat) : Part → Prop
  | .word w => WordOk w
  | .one g b => gapNames[j]? = some g ∧ BarOk b
  | .some g n b => gapNames[j]? = some g ∧ (n = 0 ∨ n = 1 ∨ n = 2) ∧ BarOk b
/-- what a law draws -/
def Drawn (ps : List Part) : Prop := ∀ (j : Nat) p, ps[j]? = some p → PartAt j p
theorem Drawn.snoc {ps : List Part} {p : Part} (h : Drawn ps) (hp : PartAt ps.length p) : Drawn (ps ++ [p]) := fun j q hq => by
  by_cases hj : j < ps.length
  · rw [List.getElem?_append_left hj] at hq
    exact h j q hq
  · rw [List.getElem?_append_right (by omega)] at hq
    have : j - ps.length = 0 := by
      have := (List.getElem?_eq_some_iff.mp hq).1
      simp at this
      omega
    rw [this] at hq
    cases hq
    rwa [show j = ps.length by omega]
theorem l1 : 1 ≤ lim := by decide
theorem l2' : 2 ≤ lim := by decide
theorem l4 : 4 ≤ lim := by decide
theorem l6 : 6 ≤ lim := by decide
theorem l0 : 0 ≤ lim := by decide
def gapsV : D := .list [.str "x", .str "y", .str "z", .str "what", .str "rest", .str "name"]
theorem gap_at {j : Nat} (h : j < 6) : ∃ g, gapNames[j]? = some g ∧ atI [PyData.str "x", .str "y", .str "z", .str "what", .str "rest", .str "name"] (j : Int) = some (.str g) := by
  have e : [PyData.str "x", .str "y", .str "z", .str "what", .str "rest", .str "name"] = gapNames.map PyData.str := rfl
  have hl : gapNames.length = 6 := rfl
  have hj : j < gapNames.length := by omega
  refine ⟨gapNames[j]'hj, List.getElem?_eq_getElem hj, ?_⟩
  rw [e, atI_n, List.getElem?_map, List.getElem?_eq_getElem hj]
  rfl
theorem template_draw (ns : List Int) (t m : Nat) (hm : m ≤ 6) (ht : t + 100 < lim) : ∃ ps t', f__law_template ns [.int m] t = .ok (tmplD ps, t') ∧ Drawn ps ∧ ps.length ≤ m ∧ t ≤ t' ∧ t' ≤ t + 60 := by
  obtain ⟨r, e, hr⟩ := drawn_nat ns t (m := m + 1) (by omega)
  have e1 := draw_s ns t (m + 1) (by omega) (by omega)
  have e' : drawn ns t ((m : Int) + 1) = (r : Int) := e
  rw [e'] at e1
  have L := l3000
  obtain ⟨ρ', e2, ps, t', s5, s6, s7, h1, h2, h3, h4, h5⟩ := forD_nx (bd := bName 5) (g := b__law_template_1)
    (fun j ρ => ∃ ps t' s5 s6 s7, ρ = [Slot.s ns, .t t', .d (.int m), .d (tmplD ps), .d gapsV, s5, s6, s7] ∧ Drawn ps ∧ ps.length = j ∧ t + 1 ≤ t' ∧ t' ≤ t + 1 + 8 * j)
    (rangeD 0 r) 0 [Slot.s ns, .t (t + 1), .d (.int m), .d (tmplD []), .d gapsV, .un, .un, .un] ⟨[], t + 1, .un, .un, .un, rfl, fun j p h => by simp at h, rfl, by omega, by omega⟩ fun j x ρ hx ⟨ps, t', s5, s6, s7, h1, h2, h3, h4, h5⟩ => by
      obtain ⟨rfl, hj⟩ := rangeD_get hx
      subst h1
      rw [Nat.zero_add] at h3
      have hj6 : j < 6 := by omega
      obtain ⟨g, hg, ga⟩ := gap_at hj6
      rw [show (0 : Int) + (j : Int) = (j : Int) by omega]
      refine ⟨[Slot.s ns, .t t', .d (.int m), .d (tmplD ps), .d gapsV, .d (.int j), s6, s7], ?_⟩
      obtain ⟨k, ek, hk⟩ := drawn_nat ns t' (m := 3) (by omega)
      have d1 := draw_s ns t' 3 (by omega) (by omega)
      have ek' : drawn ns t' 3 = (k : Int) := ek
      rw [ek'] at d1
      have lp : ps.length + 1 ≤ lim := by omega
      have snocD : ∀ p : Part, PyData.tuple (ps.map Part.d ++ [p.d]) = tmplD (ps ++ [p]) := fun p => by simp [tmplD]
      have step : ∃ p ρ2 t2 u5 u6 u7, b__law_template_1 [Slot.s ns, .t t', .d (.int m), .d (tmplD ps), .d gapsV, .d (.int j), s6, s7] = .ok (.nx, ρ2) ∧ ρ2 = [Slot.s ns, .t t2, .d (.int m), .d (.tuple (ps.map Part.d ++ [p.d])), .d gapsV, u5, u6, u7] ∧ PartAt j p ∧ t' ≤ t2 ∧ t2 ≤ t' + 8 := by
        have hk3 : k = 0 ∨ k = 1 ∨ k = 2 := by omega
        rcases hk3 with rfl | rfl | rfl
        · obtain ⟨d, hd, ep⟩ := pick_s ns (t' + 1) [.str "a", .str "b", .str "get"] (by simp) (by omega)
          have key : ∃ w, d = .str w ∧ WordOk w := by
            simp at hd
            rcases hd with rfl | rfl | rfl
            · exact ⟨_, rfl, .inl rfl⟩
            · exact ⟨_, rfl, .inr (.inl rfl)⟩
            · exact ⟨_, rfl, .inr (.inr rfl)⟩
          obtain ⟨w, rfl, hw⟩ := key
          refine ⟨.word w, _, t' + 2, .d (.int j), .d (.int 0), s7, ?_, rfl, hw, by omega, by omega⟩
          simp [b__law_template_1, d1, tmplD, l1, l2', l3, ep, lp, Part.d]
        · obtain ⟨zs, t2, eb, hb1, hb2, hb3, hb4⟩ := barred_draw ns (t' + 1) (by omega)
          refine ⟨.one g (sortS zs), _, t2, .d (.int j), .d (.int 1), s7, ?_, rfl, ⟨hg, zs, rfl, hb1, hb2⟩, by omega, by omega⟩
          simp [b__law_template_1, d1, tmplD, l1, l2', l3, eb, lp, Part.d, gapsV, ga]
        · obtain ⟨d, hd, ep⟩ := pick_s ns (t' + 1) [.int 0, .int 0, .int 1, .int 2] (by simp) (by omega)
          obtain ⟨zs, t2, eb, hb1, hb2, hb3, hb4⟩ := barred_draw ns (t' + 1 + 1) (by omega)
          have key : ∃ n, d = .int n ∧ (n = 0 ∨ n = 1 ∨ n = 2) := by
            simp at hd
            rcases hd with rfl | rfl | rfl
            · exact ⟨_, rfl, .inl rfl⟩
            · exact ⟨_, rfl, .inr (.inl rfl)⟩
            · exact ⟨_, rfl, .inr (.inr rfl)⟩
          obtain ⟨n, rfl, hn⟩ := key
          refine ⟨.some g n (sortS zs), _, t2, .d (.int j), .d (.int 2), .d (.int n), ?_, rfl, ⟨hg, hn, zs, rfl, hb1, hb2⟩, by omega, by omega⟩
          simp [b__law_template_1, d1, tmplD, l1, l2', l3, l4, ep, eb, lp, Part.d, gapsV, ga]
      obtain ⟨p, ρ2, t2, u5, u6, u7, q1, q2, q3, q4, q5⟩ := step
      refine ⟨ρ2, rfl, q1, ps ++ [p], t2, u5, u6, u7, by rw [q2, snocD], h2.snoc (by rw [h3]; exact q3), by simp; omega, by omega, by omega⟩
  rw [rangeD_len] at h3 h5
  subst h1
  refine ⟨ps, t', ?_, h2, by omega, by omega, by omega⟩
  have hb : rangeOk (r : Int) = true := rangeOk_of (by omega) (by omega)
  have e2' := e2
  simp only [tmplD, List.map_nil, gapsV] at e2'
  simp [f__law_template, fnT, runF, g__law_template, l0, l6, e1, hb, e2', tmplD]
end HD

set_option maxHeartbeats 4000000
/-! PL4: what is drawn is a template; the program's defs over templates. -/
namespace HD
open PySem PySem.Spec L2 DL
/-! ### once each -/
section
variable {κ : Type} [DecidableEq κ]
theorem mem_addK {ks : List κ} {k x : κ} : x ∈ addK ks k ↔ x ∈ ks ∨ x = k := by
  unfold addK
  split
  · exact ⟨.inl, fun h => h.elim id fun e => e ▸ (by assumption)⟩
  · simp
theorem foldl_addK_mem : ∀ (xs ks : List κ) (x : κ), x ∈ xs.foldl addK ks ↔ x ∈ ks ∨ x ∈ xs
  | [], ks, x => by simp
  | y :: xs, ks, x => by
    rw [List.foldl_cons, foldl_addK_mem xs, mem_addK, List.mem_cons, or_assoc]
theorem mem_uniq {xs : List κ} {x : κ} : x ∈ uniq xs ↔ x ∈ xs := by
  unfold uniq
  rw [foldl_addK_mem]
  simp
theorem foldl_addK_nodup : ∀ (xs ks : List κ), ks.Nodup → (xs.foldl addK ks).Nodup
  | [], _, h => h
  | x :: xs, ks, h => foldl_addK_nodup xs (addK ks x) (addK_nodup h)
theorem nodup_uniq (xs : List κ) : (uniq xs).Nodup := foldl_addK_nodup xs [] .nil
theorem foldl_addK_of : ∀ (xs ks : List κ), (ks ++ xs).Nodup → xs.foldl addK ks = ks ++ xs
  | [], ks, _ => by simp
  | x :: xs, ks, h => by
    have hx : x ∉ ks := fun hm => by
      have := (List.nodup_append.mp h).2.2 x hm x List.mem_cons_self
      exact this rfl
    have e : addK ks x = ks ++ [x] := by unfold addK; rw [if_neg hx]
    rw [List.foldl_cons, e, foldl_addK_of xs (ks ++ [x]) (by simpa using h)]
    simp
theorem uniq_of_nodup {xs : List κ} (h : xs.Nodup) : uniq xs = xs := by
  unfold uniq
  rw [foldl_addK_of xs [] (by simpa using h), List.nil_append]
theorem foldl_addK_lt : ∀ (xs ks : List κ), ks.Nodup → ¬ (ks ++ xs).Nodup → (xs.foldl addK ks).length < ks.length + xs.length
  | [], ks, h, n => absurd (by simpa using h) n
  | x :: xs, ks, h, n => by
    rw [List.foldl_cons]
    by_cases hx : x ∈ ks
    · have e : addK ks x = ks := by unfold addK; rw [if_pos hx]
      rw [e]
      have := foldl_addK_len xs ks
      simp only [List.length_cons]
      omega
    · have e : addK ks x = ks ++ [x] := by unfold addK; rw [if_neg hx]
      rw [e]
      have := foldl_addK_lt xs (ks ++ [x]) (e ▸ addK_nodup h) (by simpa using n)
      simp only [List.length_cons, List.length_append, List.length_nil] at *
      omega
theorem uniq_len_iff {xs : List κ} : (uniq xs).length = xs.length ↔ xs.Nodup := by
  constructor
  · intro h
    by_cases n : xs.Nodup
    · exact n
    · have := foldl_addK_lt xs [] .nil (by simpa using n)
      unfold uniq at h
      simp only [List.length_nil] at this
      omega
  · intro h
    rw [uniq_of_nodup h]
end
/-! ### sorted, once each -/
theorem mem_sortS {zs : List Str} {z : Str} : z ∈ sortS zs ↔ z ∈ zs := by
  unfold sortS
  rw [List.mem_mergeSort, mem_uniq]
theorem nodup_sortS (zs : List Str) : (sortS zs).Nodup := (List.mergeSort_perm (uniq zs) strLe).nodup_iff.mpr (nodup_uniq zs)
theorem len_sortS (zs : List Str) : (sortS zs).length ≤ zs.length := by
  unfold sortS
  rw [List.length_mergeSort]
  exact uniq_len zs
theorem sorted_sortS (zs : List Str) : (sortS zs).Pairwise (fun a b => strLe a b = true) := List.pairwise_mergeSort strLe_trans strLe_total (uniq zs)
theorem sortS_of {b : List Str} (h1 : b.Nodup) (h2 : b.Pairwise (fun a b => strLe a b = true)) : sortS b = b := by
  unfold sortS
  rw [uniq_of_nodup h1]
  exact List.mergeSort_of_pairwise h2
theorem sortS_sortS (zs : List Str) : sortS (sortS zs) = sortS zs := sortS_of (nodup_sortS zs) (sorted_sortS zs)
/-! ### what is drawn is a template -/
theorem w_a : isWord "a" = true := by decide +kernel
theorem w_b : isWord "b" = true := by decide +kernel
theorem w_c : isWord "c" = true := by decide +kernel
theorem w_get : isWord "get" = true := by decide +kernel
theorem wordOk_is {w : Str} (h : WordOk w) : isWord w = true := by
  rcases h with rfl | rfl | rfl
  · exact w_a
  · exact w_b
  · exact w_get
theorem bars_is {w : Str} (h : w ∈ bars) : isWord w = true := by
  unfold bars at h
  simp at h
  rcases h with rfl | rfl | rfl
  · exact w_a
  · exact w_b
  · exact w_c
theorem word_small {w : Str} (h : isWord w = true) : w.length ≤ lim := by
  unfold isWord at h
  simp only [Bool.and_eq_true, decide_eq_true_eq] at h
  have := l4
  omega
theorem gapNames_is {j : Nat} {g : Str} (h : gapNames[j]? = some g) : isWord g = true := by
  have hm := List.mem_of_getElem? h
  have key : ∀ g ∈ gapNames, isWord g = true := by decide +kernel
  exact key g hm
theorem barOk_is {b : List Str} (h : BarOk b) : isBarred b = true ∧ b.length ≤ 2 ∧ ∀ x ∈ b, x.length ≤ lim := by
  obtain ⟨zs, rfl, hl, hz⟩ := h
  have h1 : ∀ x ∈ sortS zs, isWord x = true := fun x hx => bars_is (hz x (mem_sortS.mp hx))
  have h2 := len_sortS zs
  refine ⟨?_, by omega, fun x hx => word_small (h1 x hx)⟩
  unfold isBarred
  rw [List.all_eq_true.mpr h1, sortS_sortS]
  simp
  omega
theorem partAt_ok {j : Nat} {p : Part} (h : PartAt j p) : p.ok = true := by
  cases p with
  | word w => exact wordOk_is h
  | one g b => simp [Part.ok, gapNames_is h.1, (barOk_is h.2).1]
  | some g n b =>
    obtain ⟨h1, h2, h3⟩ := h
    have : 0 ≤ n ∧ n ≤ 2 := by omega
    simp [Part.ok, gapNames_is h1, (barOk_is h3).1, this]
theorem drawn_ok {ps : List Part} (h : Drawn ps) : ps.all Part.ok = true := List.all_eq_true.mpr fun p hp => by
  obtain ⟨j, hj⟩ := List.mem_iff_getElem?.mp hp
  exact partAt_ok (h j p hj)
theorem small_of {ps : List Part} (h : ps.all Part.ok = true) : Small ps := fun p hp => by
  have q := List.all_eq_true.mp h p hp
  have bs : ∀ b, isBarred b = true → b.length ≤ 3000 ∧ ∀ x ∈ b, x.length ≤ lim := fun b hb => by
    unfold isBarred at hb
    simp only [Bool.and_eq_true, decide_eq_true_eq] at hb
    exact ⟨by omega, fun x hx => word_small (List.all_eq_true.mp hb.1 x hx)⟩
  cases p with
  | word w => exact word_small q
  | one g b =>
    simp only [Part.ok, Bool.and_eq_true] at q
    exact ⟨word_small q.1, bs b q.2⟩
  | some g n b =>
    simp only [Part.ok, Bool.and_eq_true] at q
    exact ⟨word_small q.1, bs b q.2.2.2⟩
theorem nodup_names : gapNames.Nodup := by decide +kernel
theorem drawn_name {ps : List Part} (h : Drawn ps) {j : Nat} {p : Part} (hp : ps[j]? = some p) (hg : p.isGap = true) : gapNames[j]? = some p.name := by
  have q := h j p hp
  cases p with
  | word w => cases hg
  | one g b => exact q.1
  | some g n b => exact q.1
/-- gaps at growing places have unlike names -/
theorem drawn_gaps : ∀ (ps : List Part) (i : Nat), (∀ (j : Nat) p, ps[j]? = some p → p.isGap = true → gapNames[i + j]? = some p.name) → (gapsOf ps).Nodup ∧ ∀ g ∈ gapsOf ps, ∃ j, i ≤ j ∧ gapNames[j]? = some g
  | [], i, _ => ⟨.nil, fun g hg => by simp [gapsOf] at hg⟩
  | p :: ps, i, h => by
    obtain ⟨h1, h2⟩ := drawn_gaps ps (i + 1) fun j q hq hg => by
      have := h (j + 1) q (by simpa using hq) hg
      rwa [show i + (j + 1) = i + 1 + j by omega] at this
    cases hg : p.isGap with
    | false =>
      have e : gapsOf (p :: ps) = gapsOf ps := by simp [gapsOf, hg]
      rw [e]
      exact ⟨h1, fun g hg => by obtain ⟨j, h3, h4⟩ := h2 g hg; exact ⟨j, by omega, h4⟩⟩
    | true =>
      have e : gapsOf (p :: ps) = p.name :: gapsOf ps := by simp [gapsOf, hg]
      have h0 : gapNames[i]? = some p.name := h 0 p rfl hg
      rw [e]
      refine ⟨List.nodup_cons.mpr ⟨fun hm => ?_, h1⟩, fun g hm => ?_⟩
      · obtain ⟨j, h3, h4⟩ := h2 _ hm
        obtain ⟨l1, e1⟩ := List.getElem?_eq_some_iff.mp h0
        obtain ⟨l2, e2⟩ := List.getElem?_eq_some_iff.mp h4
        exact List.pairwise_iff_getElem.mp nodup_names i j l1 l2 (by omega) (e1.trans e2.symm)
      · rcases List.mem_cons.mp hm with rfl | hm
        · exact ⟨i, Nat.le_refl _, h0⟩
        · obtain ⟨j, h3, h4⟩ := h2 _ hm
          exact ⟨j, by omega, h4⟩
/-- a template -/
structure Tm (ps : List Part) : Prop where
  ok : ps.all Part.ok = true
  gaps : (gapsOf ps).Nodup
  len : ps.length ≤ 6
theorem drawn_tm {ps : List Part} (h : Drawn ps) (hl : ps.length ≤ 6) : Tm ps :=
  ⟨drawn_ok h, (drawn_gaps ps 0 fun j p hp hg => by rw [Nat.zero_add]; exact drawn_name h hp hg).1, hl⟩
theorem Tm.is {ps : List Part} (h : Tm ps) : isTmpl ps = true := by
  unfold isTmpl
  rw [h.ok, uniq_of_nodup h.gaps]
  simp [h.len]
theorem Tm.iff {ps : List Part} : isTmpl ps = true ↔ Tm ps := by
  refine ⟨fun h => ?_, Tm.is⟩
  unfold isTmpl at h
  simp only [Bool.and_eq_true, decide_eq_true_eq] at h
  exact ⟨h.2.1, uniq_len_iff.mp h.2.2, h.1⟩
theorem Tm.sub {ps qs : List Part} (h : Tm ps) (s : qs.Sublist ps) : Tm qs :=
  ⟨List.all_eq_true.mpr fun p hp => List.all_eq_true.mp h.ok p (s.subset hp), h.gaps.sublist ((s.filter _).map _), Nat.le_trans s.length_le h.len⟩
theorem Tm.t {ps : List Part} (h : Tm ps) : f_is_template [tmplD ps] = .ok (.bool true) := by
  rw [tmpl_s ps (small_of h.ok) (by have := h.len; omega), h.is]
theorem need_s {ps : List Part} (h : Tm ps) : f_need_template [tmplD ps] = .ok .none := by
  simp [f_need_template, fnD, runF, g_need_template, h.t]
/-- a thing that is no template is refused -/
theorem need_x {d : D} (h : f_is_template [d] = .ok (.bool false)) : f_need_template [d] = .exc "NoTemplate" := by
  simp [f_need_template, fnD, runF, g_need_template, h]
theorem joined_s {a b : List Part} (ha : Tm a) (hb : Tm b) (h : Tm (a ++ b)) : f_joined [tmplD a, tmplD b] = .ok (tmplD (a ++ b)) := by
  have e1 := need_s ha
  have e2 := need_s hb
  have e3 := h.t
  have hl := h.len
  rw [List.length_append] at hl
  have L := l6
  have l : a.length + b.length ≤ lim := by omega
  have l6' : ¬ (6 : Int) < (a.length : Int) + (b.length : Int) := by omega
  simp only [tmplD, List.map_append] at *
  simp [f_joined, fnD, runF, g_joined, e1, e2, e3, l, l6']
def wordsOf (ps : List Part) : List Str := (ps.filter fun p => !p.isGap).map Part.name
theorem words_of_s {ps : List Part} (h : Tm ps) : f_words_of [tmplD ps] = .ok (.list ((wordsOf ps).map .str)) := by
  have e1 := need_s h
  have L := l6
  have e := lcD_map (ix := [1]) (bd := bName 1) (t := t_words_of_1) (f := e_words_of_2) (ρ := [Slot.d (tmplD ps), .un]) Part.d (fun p => !p.isGap) (fun p => .str p.name) ps [] (by have := h.len; simp; omega) fun p hp => by
    obtain ⟨k, r, q1, q2⟩ := kind_of p
    have a0 : atI (PyData.str k :: .str p.name :: r) 0 = some (.str k) := atI_n _ 0
    have a1 : atI (PyData.str k :: .str p.name :: r) 1 = some (.str p.name) := atI_n _ 1
    exact ⟨_, rfl, by simp [t_words_of_1, q1, a0, q2], fun _ => by simp [e_words_of_2, q1, a1], rfl⟩
  rw [List.nil_append] at e
  simp only [tmplD] at *
  simp [f_words_of, fnD, runF, g_words_of, e1, plainAt, Slot.mutb, wipeE, e, backE, wordsOf]
theorem is_plain_s {ps : List Part} (h : Tm ps) : f_is_plain [tmplD ps] = .ok (.bool (ps.all fun p => !p.isGap)) := by
  have e1 := need_s h
  have L := l6
  have e := lcD_map (ix := [1]) (bd := bName 1) (t := mYes) (f := e_is_plain_1) (ρ := [Slot.d (tmplD ps), .un]) Part.d (fun _ => true) (fun p => .bool (!p.isGap)) ps [] (by have := h.len; simp; omega) fun p hp => by
    obtain ⟨k, r, q1, q2⟩ := kind_of p
    have a0 : atI (PyData.str k :: .str p.name :: r) 0 = some (.str k) := atI_n _ 0
    exact ⟨_, rfl, rfl, fun _ => by simp [e_is_plain_1, q1, a0, q2], rfl⟩
  rw [filter_all, List.nil_append] at e
  simp only [tmplD] at *
  simp [f_is_plain, fnD, runF, g_is_plain, e1, plainAt, Slot.mutb, wipeE, e, backE, List.all_map]
/-! ### the parts around a word -/
def enP (q : Part × Nat) : D := .tuple [.int (q.2 : Nat), q.1.d]
theorem enumD_zip : ∀ (ps : List Part) (i : Nat), enumD i (ps.map Part.d) = (ps.zipIdx i).map enP
  | [], _ => rfl
  | p :: ps, i => by simp [enumD, enumD_zip ps (i + 1), enP]
def hitW (d : D) (q : Part × Nat) : Bool := PyData.eqv q.1.d (.tuple [.str "word", d])
def aroundD (ps : List Part) (q : Part × Nat) : D := .tuple [tmplD (ps.take q.2), tmplD (ps.drop (q.2 + 1))]
def around (ps : List Part) (d : D) : List D := (ps.zipIdx.filter (hitW d)).map (aroundD ps)
theorem part_depth (p : Part) : p.d.depth ≤ 2 := by
  cases p <;> simp [Part.d, strsD, PyData.depth, PyData.depthAll, depth_strs]
theorem oEq_part (p : Part) (e : D) : oEq p.d e = some (.bool (PyData.eqv p.d e)) := by
  unfold oEq
  rw [if_pos (Nat.le_trans (Nat.min_le_left _ _) (Nat.le_trans (part_depth p) (by decide)))]
theorem cutD_take (xs : List D) (i : Nat) (h : i ≤ xs.length) : cutD xs none (some (i : Int)) = xs.take i := by
  have h0 : HT.sIx xs.length 0 none = 0 := rfl
  have h1 : HT.sIx xs.length xs.length (some (i : Int)) = i := by
    rw [HT.sIx_nat]
    omega
  unfold cutD
  rw [h0, h1]
  simp
theorem cutD_drop (xs : List D) (i : Nat) (h : i ≤ xs.length) : cutD xs (some (i : Int)) none = xs.drop i := by
  have h0 : HT.sIx xs.length 0 (some (i : Int)) = i := by
    rw [HT.sIx_nat]
    omega
  have h1 : HT.sIx xs.length xs.length none = xs.length := rfl
  unfold cutD
  rw [h0, h1, List.take_of_length_le (by rw [List.length_drop]; omega)]
theorem l2lim : 2 ≤ lim := by decide
theorem zip_get {ps : List Part} {j : Nat} {q : Part × Nat} (h : ps.zipIdx[j]? = some q) : q.2 = j ∧ ps[j]? = some q.1 := by
  rw [List.getElem?_zipIdx] at h
  cases e : ps[j]? with
  | none => rw [e] at h; cases h
  | some p =>
    rw [e] at h
    cases h
    simp
theorem around_s {ps : List Part} (h : Tm ps) (d : D) : f_parts_around [tmplD ps, d] = .ok (.list (around ps d)) := by
  have e1 := need_s h
  have L := l3000
  have L2 := l2lim
  have hl := h.len
  obtain ⟨ρ', e2, s3, s4, h1⟩ := forD_nx (bd := bTup 2 (bCons (bName 3) (bCons (bName 4) bNil))) (g := b_parts_around_1)
    (fun j ρ => ∃ s3 s4, ρ = [Slot.d (tmplD ps), .d d, .l (((ps.zipIdx.take j).filter (hitW d)).map (aroundD ps)), s3, s4])
    (ps.zipIdx.map enP) 0 [Slot.d (tmplD ps), .d d, .l [], .un, .un] ⟨.un, .un, rfl⟩ fun j x ρ hx ⟨s3, s4, h1⟩ => by
      rw [List.getElem?_map] at hx
      cases eq : ps.zipIdx[j]? with
      | none => rw [eq] at hx; cases hx
      | some q =>
        rw [eq] at hx
        cases hx
        obtain ⟨q2, q3⟩ := zip_get eq
        have hj : j < ps.length := (List.getElem?_eq_some_iff.mp q3).1
        subst h1
        rw [Nat.zero_add]
        have tk : ps.zipIdx.take (j + 1) = ps.zipIdx.take j ++ [q] := by rw [List.take_add_one, eq]; rfl
        have c1 : cutD (ps.map Part.d) none (some ((q.2 : Nat) : Int)) = (ps.take q.2).map Part.d := by
          rw [cutD_take _ _ (by rw [List.length_map]; omega), List.map_take]
        have c2 : cutD (ps.map Part.d) (some (((q.2 : Nat) : Int) + 1)) none = (ps.drop (q.2 + 1)).map Part.d := by
          rw [show ((q.2 : Nat) : Int) + 1 = ((q.2 + 1 : Nat) : Int) by omega, cutD_drop _ _ (by rw [List.length_map]; omega), List.map_drop]
        have few : (((ps.zipIdx.take j).filter (hitW d)).map (aroundD ps)).length < lim := by
          rw [List.length_map]
          have a1 := List.length_filter_le (hitW d) (ps.zipIdx.take j)
          have a2 : (ps.zipIdx.take j).length ≤ ps.length := by rw [List.length_take, List.length_zipIdx]; omega
          omega
        have oe := oEq_part q.1 (.tuple [.str "word", d])
        refine ⟨[Slot.d (tmplD ps), .d d, .l (((ps.zipIdx.take j).filter (hitW d)).map (aroundD ps)), .d (.int (q.2 : Nat)), .d q.1.d], ?_⟩
        rw [tk]
        cases hh : hitW d q with
        | false =>
          have hh' : PyData.eqv q.1.d (.tuple [.str "word", d]) = false := hh
          refine ⟨_, by simp [enP], ?_, .d (.int (q.2 : Nat)), .d q.1.d, rfl⟩
          simp [b_parts_around_1, L2, oe, hh', List.filter_append, hh]
        | true =>
          have hh' : PyData.eqv q.1.d (.tuple [.str "word", d]) = true := hh
          refine ⟨_, by simp [enP], ?_, .d (.int (q.2 : Nat)), .d q.1.d, rfl⟩
          simp only [List.length_map] at few
          simp [b_parts_around_1, L2, oe, hh', List.filter_append, hh, tmplD, c1, c2, few, aroundD]
  rw [Nat.zero_add, List.length_map, List.length_zipIdx, List.take_of_length_le (by rw [List.length_zipIdx]; exact Nat.le_refl _)] at h1
  subst h1
  have en := enumD_zip ps 0
  simp only [tmplD] at *
  simp [f_parts_around, fnD, runF, g_parts_around, e1, l0, en, e2, around]
end HD

set_option maxHeartbeats 4000000
/-! PLG: equal things of any kind; nothing. -/
namespace HD
open PySem PySem.Spec L2 DL
theorem eqv_refl' {d : D} (h : d.plain = true) : PyData.eqv d d = true := SeqAt.eqv_refl_plain d h
theorem plain_strs : ∀ b : List Str, PyData.plainAll (b.map .str) = true
  | [] => rfl
  | x :: b => by simp [PyData.plainAll, PyData.plain, plain_strs b]
theorem plain_part (p : Part) : p.d.plain = true := by
  cases p <;> simp [Part.d, strsD, PyData.plain, PyData.plainAll, plain_strs]
theorem plain_parts : ∀ ps : List Part, PyData.plainAll (ps.map Part.d) = true
  | [] => rfl
  | p :: ps => by simp [PyData.plainAll, plain_part p, plain_parts ps]
theorem plain_tmpl (ps : List Part) : (tmplD ps).plain = true := by
  show PyData.plainAll (ps.map Part.d) = true
  exact plain_parts ps
theorem depth_parts : ∀ ps : List Part, PyData.depthAll (ps.map Part.d) ≤ 2
  | [] => by simp [PyData.depthAll]
  | p :: ps => by
    have h1 := part_depth p
    have h2 := depth_parts ps
    simp only [List.map_cons, PyData.depthAll]
    omega
theorem depth_tmpl (ps : List Part) : (tmplD ps).depth ≤ 3 := by
  have := depth_parts ps
  simp only [tmplD, PyData.depth]
  omega
theorem plain_around (ps : List Part) : ∀ l : List (Part × Nat), PyData.plainAll (l.map (aroundD ps)) = true
  | [] => rfl
  | q :: l => by
    simp only [List.map_cons, PyData.plainAll, Bool.and_eq_true]
    refine ⟨?_, plain_around ps l⟩
    simp [aroundD, PyData.plain, PyData.plainAll, plain_tmpl]
theorem depth_around (ps : List Part) : ∀ l : List (Part × Nat), PyData.depthAll (l.map (aroundD ps)) ≤ 4
  | [] => by simp [PyData.depthAll]
  | q :: l => by
    have h1 := depth_around ps l
    have h2 := depth_tmpl (ps.take q.2)
    have h3 := depth_tmpl (ps.drop (q.2 + 1))
    simp only [List.map_cons, PyData.depthAll, aroundD, PyData.depth]
    omega
theorem oNe_same {d : D} (h : d.plain = true) (hd : d.depth ≤ 64) : oNe d d = some (.bool false) := by
  unfold oNe
  rw [if_pos (by unfold deep; omega), eqv_refl' h]
  rfl
theorem eqv_lists (a b : List D) : PyData.eqv (.list a) (.list b) = PyData.eqvAll a b := rfl
theorem oEq_nil (a : List D) : oEq (.list a) (.list []) = some (.bool a.isEmpty) := by
  unfold oEq
  rw [if_pos (by simp [PyData.depth, PyData.depthAll, deep])]
  cases a <;> rfl
theorem oNe_nil (a : List D) : oNe (.list a) (.list []) = some (.bool (!a.isEmpty)) := by
  unfold oNe
  rw [if_pos (by simp [PyData.depth, PyData.depthAll, deep])]
  cases a <;> rfl
theorem oEq_same {d : D} (h : d.plain = true) (hd : d.depth ≤ 64) : oEq d d = some (.bool true) := by
  unfold oEq
  rw [if_pos (by unfold deep; omega), eqv_refl' h]
end HD

namespace HD
open PySem PySem.Spec L2 DL
noncomputable def g__law_odd : S :=
    (sSeq (sSet 2 (mFr (mLst (mCons (mC .none) (mCons (mC (.int 5)) (mCons (mFr (mLst mNil)) (mCons (mTup (mCons (mC (.int 5)) mNil)) (mCons (mTup (mCons (mTup (mCons (mC (.str "word")) mNil)) mNil)) (mCons (mTup (mCons (mTup (mCons (mC (.str "word")) (mCons (mC (.str "A")) mNil))) mNil)) (mCons (mTup (mCons (mTup (mCons (mC (.str "word")) (mCons (mC (.str "toolong")) mNil))) mNil)) (mCons (mTup (mCons (mTup (mCons (mC (.str "one")) (mCons (mC (.str "x")) mNil))) mNil)) (mCons (mC (.str "get <x>")) mNil))))))))))))
    (sSeq (sSet 2 (m2 oAdd (mV 2) (mFr (mLst (mCons (mTup (mCons (mTup (mCons (mC (.str "one")) (mCons (mC (.str "x")) (mCons (mFr (mLst (mCons (mC (.str "a")) mNil))) mNil)))) mNil)) (mCons (mTup (mCons (mTup (mCons (mC (.str "one")) (mCons (mC (.str "x")) (mCons (mTup (mCons (mC (.str "b")) (mCons (mC (.str "a")) mNil))) mNil)))) mNil)) (mCons (mTup (mCons (mTup (mCons (mC (.str "some")) (mCons (mC (.str "x")) (mCons (mC (.int 3)) (mCons (mTup mNil) mNil))))) mNil)) (mCons (mTup (mCons (mTup (mCons (mC (.str "gap")) (mCons (mC (.str "x")) (mCons (mTup mNil) mNil)))) mNil)) mNil))))))))
    (sSeq (sSet 2 (m2 oAdd (mV 2) (mFr (mLst (mCons (mTup (mCons (mTup (mCons (mC (.str "one")) (mCons (mC (.str "x")) (mCons (mTup mNil) mNil)))) (mCons (mTup (mCons (mC (.str "some")) (mCons (mC (.str "x")) (mCons (mC (.int 0)) (mCons (mTup mNil) mNil))))) mNil))) (mCons (m2 oMulX (mTup (mCons (mTup (mCons (mC (.str "word")) (mCons (mC (.str "a")) mNil))) mNil)) (mC (.int 7))) (mCons (mTup (mCons (mTup (mCons (mC (.str "some")) (mCons (mC (.str "x")) (mCons (mC (.bool true)) (mCons (mTup mNil) mNil))))) mNil)) mNil)))))))
    (sRet (mTown 0 1 1 f__law_pick (mCons (m2 oAdd (mV 2) (mFr (mLst (mCons (mTup (mCons (mTup (mCons (mC (.str "one")) (mCons (mC (.str "x")) (mCons (mTup (mCons (mC (.str "a")) (mCons (mC (.str "b")) (mCons (mC (.str "c")) (mCons (mC (.str "d")) mNil))))) mNil)))) mNil)) (mCons (mTup (mCons (mTup (mCons (mC (.str "one")) (mCons (mC (.str "x")) (mCons (mTup (mCons (mC (.str "a")) (mCons (mC (.str "a")) mNil))) mNil)))) mNil)) mNil))))) mNil))))))
noncomputable def f__law_odd := fnT 3 g__law_odd

noncomputable def g__law_which : S :=
    (sSeq (sOwn 1 (mLst (mCons (mIsE excsA 0 "NoTemplate") (mCons (mIsE excsA 0 "NoText") (mCons (mIsE excsA 0 "NoWorths") (mCons (mIsE excsA 0 "NoStand") mNil))))))
    (sSeq (sDrop (mExtend 1 (mFr (mLst (mCons (mIsE excsA 0 "NoWord") (mCons (mIsE excsA 0 "NoBook") (mCons (mIsE excsA 0 "NoRows") (mCons (mIsE excsA 0 "NoPair") mNil))))))))
    (sSeq (sDrop (mExtend 1 (mFr (mLst (mCons (mIsE excsA 0 "Unsure") (mCons (mIsE excsA 0 "NoForm") (mCons (mIsE excsA 0 "NoNumber") (mCons (mIsE excsA 0 "NoName") mNil))))))))
    (sSeq (sDrop (mExtend 1 (mFr (mLst (mCons (mIsE excsA 0 "TooGreat") (mCons (mIsE excsA 0 "NoDeed") mNil))))))
    (sSeq (sIf (mOrB (mBool (m2 oNe (mMeth isL oCount (mV 1) (mCons (mC (.bool true)) mNil)) (mC (.int 1)))) (mNotB (mBool (mIsV excsA 0)))) (sRet (mTup (mCons (mC (.str "refused")) (mCons (mNeg (mC (.int 1))) mNil)))) sNil)
    (sRet (mTup (mCons (mC (.str "refused")) (mCons (mMeth isL oIndex (mV 1) (mCons (mC (.bool true)) mNil)) mNil)))))))))
noncomputable def f__law_which := fnX 2 g__law_which

noncomputable def g_from_the_end : S :=
    (sSeq (sDrop (mDef 1 f_need_template (mCons (mV 0) mNil)))
    (sRet (m1 oRev (mV 0))))
noncomputable def f_from_the_end := fnD 1 g_from_the_end

end HD

set_option maxHeartbeats 4000000
/-! PL5: refusals: which one; what is no template. -/
namespace HD
open PySem PySem.Spec L2 DL
def refD (i : Int) : D := .tuple [.str "refused", .int i]
theorem which_NoTemplate : f__law_which "NoTemplate" = .ok (refD 0) := by simp [f__law_which, fnX, runF, g__law_which, excsA, refD, List.countP_cons, SeqAt.dataPlace, List.findIdx?_cons]
theorem which_NoText : f__law_which "NoText" = .ok (refD 1) := by simp [f__law_which, fnX, runF, g__law_which, excsA, refD, List.countP_cons, SeqAt.dataPlace, List.findIdx?_cons]
theorem which_NoWorths : f__law_which "NoWorths" = .ok (refD 2) := by simp [f__law_which, fnX, runF, g__law_which, excsA, refD, List.countP_cons, SeqAt.dataPlace, List.findIdx?_cons]
theorem which_NoStand : f__law_which "NoStand" = .ok (refD 3) := by simp [f__law_which, fnX, runF, g__law_which, excsA, refD, List.countP_cons, SeqAt.dataPlace, List.findIdx?_cons]
theorem which_NoWord : f__law_which "NoWord" = .ok (refD 4) := by simp [f__law_which, fnX, runF, g__law_which, excsA, refD, List.countP_cons, SeqAt.dataPlace, List.findIdx?_cons]
theorem which_NoForm : f__law_which "NoForm" = .ok (refD 9) := by simp [f__law_which, fnX, runF, g__law_which, excsA, refD, List.countP_cons, SeqAt.dataPlace, List.findIdx?_cons]
theorem which_NoNumber : f__law_which "NoNumber" = .ok (refD 10) := by simp [f__law_which, fnX, runF, g__law_which, excsA, refD, List.countP_cons, SeqAt.dataPlace, List.findIdx?_cons]
theorem which_NoName : f__law_which "NoName" = .ok (refD 11) := by simp [f__law_which, fnX, runF, g__law_which, excsA, refD, List.countP_cons, SeqAt.dataPlace, List.findIdx?_cons]
theorem which_TooGreat : f__law_which "TooGreat" = .ok (refD 12) := by simp [f__law_which, fnX, runF, g__law_which, excsA, refD, List.countP_cons, SeqAt.dataPlace, List.findIdx?_cons]
theorem which_NoDeed : f__law_which "NoDeed" = .ok (refD 13) := by simp [f__law_which, fnX, runF, g__law_which, excsA, refD, List.countP_cons, SeqAt.dataPlace, List.findIdx?_cons]
/-! ### what is no template -/
def sevenA : D := .tuple (List.replicate 7 (.tuple [.str "word", .str "a"]))
def odds : List D := [.none, .int 5, .list [], .tuple [.int 5], .tuple [.tuple [.str "word"]], .tuple [.tuple [.str "word", .str "A"]], .tuple [.tuple [.str "word", .str "toolong"]], .tuple [.tuple [.str "one", .str "x"]], .str "get <x>",
  .tuple [.tuple [.str "one", .str "x", .list [.str "a"]]], .tuple [.tuple [.str "one", .str "x", .tuple [.str "b", .str "a"]]], .tuple [.tuple [.str "some", .str "x", .int 3, .tuple []]], .tuple [.tuple [.str "gap", .str "x", .tuple []]],
  .tuple [.tuple [.str "one", .str "x", .tuple []], .tuple [.str "some", .str "x", .int 0, .tuple []]], sevenA, .tuple [.tuple [.str "some", .str "x", .bool true, .tuple []]],
  .tuple [.tuple [.str "one", .str "x", .tuple [.str "a", .str "b", .str "c", .str "d"]]], .tuple [.tuple [.str "one", .str "x", .tuple [.str "a", .str "a"]]]]
theorem odd_draw (ns : List Int) (t : Nat) (ht : t < lim) : ∃ d ∈ odds, f__law_odd ns [] t = .ok (d, t + 1) := by
  obtain ⟨d, hd, e⟩ := pick_s ns t odds (by simp [odds]) ht
  refine ⟨d, hd, ?_⟩
  simp [odds, sevenA] at e
  simp [f__law_odd, fnT, runF, g__law_odd, e]
theorem no_tmpl (ps : List Part) (hs : Small ps) (hl : ps.length ≤ 3000) (h : isTmpl ps = false) : f_is_template [tmplD ps] = .ok (.bool false) := by rw [tmpl_s ps hs hl, h]
/-- a tuple of one thing that is no part -/
theorem no_part {d : D} (h : f_is_part [d] = .ok (.bool false)) : f_is_template [.tuple [d]] = .ok (.bool false) := by
  have e : lcD [1] (bName 1) mYes e_is_template_1 [d] [] [Slot.d (.tuple [d]), .un, .un] = .ok ([.bool false], [Slot.d (.tuple [d]), .un, .un]) := by
    simp [lcD, e_is_template_1, h, wipeE]
  simp [f_is_template, fnD, runF, g_is_template, plainAt, Slot.mutb, wipeE, e, backE, asBls]
theorem w_x : f_is_word [.str "x"] = .ok (.bool true) := by rw [word_s "x" (by decide), show isWord "x" = true by decide +kernel]
theorem t_gap : tabKv.lookup (Str.ofString "gap") = none := by decide +kernel
theorem no_barred {d : D} (h : d.isTuple = false) : f_is_barred [d] = .ok (.bool false) := by
  have e : f_are_words [d] = .ok (.bool false) := by simp [f_are_words, fnD, runF, g_are_words, h]
  simp [f_is_barred, fnD, runF, g_is_barred, e]
theorem no_whole_b (b : Bool) (i j : Int) : f_is_whole [.bool b, .int i, .int j] = .ok (.bool false) := by simp [f_is_whole, fnD, runF, g_is_whole, PyData.isInt]
theorem no_bar {b : List Str} (h : ¬ b.Pairwise (fun x y => strLe x y = true)) : isBarred b = false := by
  have : decide (b = sortS b) = false := decide_eq_false fun e => h (by rw [e]; exact sorted_sortS b)
  unfold isBarred
  rw [this, Bool.and_false, Bool.and_false]
theorem no_bar2 {b : List Str} (h : ¬ b.Nodup) : isBarred b = false := by
  have : decide (b = sortS b) = false := decide_eq_false fun e => h (by rw [e]; exact nodup_sortS b)
  unfold isBarred
  rw [this, Bool.and_false, Bool.and_false]
theorem odd_no {d : D} (hd : d ∈ odds) : f_is_template [d] = .ok (.bool false) := by
  simp only [odds, List.mem_cons, List.not_mem_nil, or_false] at hd
  rcases hd with rfl | rfl | rfl | rfl | rfl | rfl | rfl | rfl | rfl | rfl | rfl | rfl | rfl | rfl | rfl | rfl | rfl | rfl
  · simp [f_is_template, fnD, runF, g_is_template]
  · simp [f_is_template, fnD, runF, g_is_template]
  · simp [f_is_template, fnD, runF, g_is_template]
  · exact no_part (by simp [f_is_part, fnD, runF, g_is_part, w_x, t_gap, no_barred, no_whole_b])
  · exact no_part (by simp [f_is_part, fnD, runF, g_is_part, w_x, t_gap, no_barred, no_whole_b])
  · exact no_tmpl [.word "A"] (by simp [Small]; decide) (by simp) (by decide +kernel)
  · exact no_tmpl [.word "toolong"] (by simp [Small]; decide) (by simp) (by decide +kernel)
  · exact no_part (by simp [f_is_part, fnD, runF, g_is_part, w_x, t_gap, no_barred, no_whole_b])
  · simp [f_is_template, fnD, runF, g_is_template]
  · exact no_part (by simp [f_is_part, fnD, runF, g_is_part, w_x, t_gap, no_barred, no_whole_b])
  · exact no_tmpl [.one "x" ["b", "a"]] (by simp [Small]; decide) (by simp) (by rw [isTmpl, List.all_cons, Part.ok, no_bar (by decide +kernel)]; simp)
  · exact no_tmpl [.some "x" 3 []] (by simp [Small]; decide) (by simp) (by decide +kernel)
  · exact no_part (by simp [f_is_part, fnD, runF, g_is_part, w_x, t_gap, no_barred, no_whole_b])
  · exact no_tmpl [.one "x" [], .some "x" 0 []] (by simp [Small]; decide) (by simp) (by decide +kernel)
  · exact no_tmpl (List.replicate 7 (.word "a")) (by simp [Small]; decide) (by simp) (by decide +kernel)
  · exact no_part (by simp [f_is_part, fnD, runF, g_is_part, w_x, t_gap, no_barred, no_whole_b])
  · exact no_tmpl [.one "x" ["a", "b", "c", "d"]] (by simp [Small]; decide) (by simp) (by decide +kernel)
  · exact no_tmpl [.one "x" ["a", "a"]] (by simp [Small]; decide) (by simp) (by rw [isTmpl, List.all_cons, Part.ok, no_bar2 (by decide +kernel)]; simp)
end HD

set_option maxHeartbeats 4000000
/-! PLX: stepping through the mirrors of dicts, zip, least and greatest. -/
namespace DL
open PySem PySem.Spec L2
section
variable (ρ : Env) (d e : D) (f g h : M D) (t u : M Bool) (fs : M (List D)) (i j n : Nat) (a b : S)
@[simp] theorem mInM_s (ng : Bool) : mInM ng i f ρ = (f ρ).bind fun x => if keyOk x.1 = true then (match dictAt x.2[i]? with
  | some kvs => .ok (.bool (ng != (mapGet kvs x.1).isSome), x.2)
  | none => .bad) else .bad := id rfl
@[simp] theorem mIxM_s : mIxM i f ρ = if (dictAt ρ[i]?).isSome = true then (f ρ).bind fun y => if keyOk y.1 = true then (match dictAt y.2[i]? with
  | some kvs => (ofO (mapGet kvs y.1)).map fun z => (z, y.2)
  | none => .bad) else .bad else .bad := id rfl
@[simp] theorem mGetM_s : mGetM i f g ρ = if (dictAt ρ[i]?).isSome = true then (f ρ).bind fun x => (g x.2).bind fun y => if keyOk x.1 = true then (match dictAt y.2[i]? with
  | some kvs => .ok ((mapGet kvs x.1).getD y.1, y.2)
  | none => .bad) else .bad else .bad := id rfl
@[simp] theorem sPutM_s : sPutM i f g ρ = (g ρ).bind fun y => if (dictAt y.2[i]?).isSome = true then (f y.2).bind fun x => if keyOk x.1 = true then (match x.2[i]? with
  | some (.m kvs) => if kvs.length < lim then .ok (.nx, x.2.set i (.m (mapPut kvs x.1 y.1))) else .bad
  | _ => .bad) else .bad else .bad := id rfl
@[simp] theorem dictAt_m (kvs : List (D × D)) : dictAt (some (.m kvs)) = some kvs := id rfl
@[simp] theorem dictAt_f (kvs : List (D × D)) : dictAt (some (.f kvs)) = some kvs := id rfl
@[simp] theorem mMNil_s : mMNil ρ = .ok ([], ρ) := id rfl
@[simp] theorem mMOne_s : mMOne f g ρ = (f ρ).bind fun x => (g x.2).bind fun y => if keyOk x.1 = true then .ok ([(x.1, y.1)], y.2) else .bad := id rfl
@[simp] theorem sOwnM_s (k : M (List (D × D))) : sOwnM i k ρ = (k ρ).bind fun x => .ok (.nx, x.2.set i (.m x.1)) := id rfl
@[simp] theorem sMoveM_s : sMoveM i j ρ = match ρ[j]? with | some (.m kvs) => .ok (.nx, (ρ.set j .un).set i (.m kvs)) | _ => .bad := id rfl
@[simp] theorem mKeysL_s : mKeysL i ρ = match dictAt ρ[i]? with | some kvs => if kvs.length ≤ lim then .ok (kvs.map (·.1), ρ) else .bad | none => .bad := id rfl
@[simp] theorem mKeysW_s : mKeysW i ρ = match ρ[i]? with | some (.m kvs) => .ok (kvs.map (·.1), ρ.set i (.f kvs)) | some (.f kvs) => .ok (kvs.map (·.1), ρ) | _ => .bad := id rfl
@[simp] theorem mNeNilS_s : mNeNilS i ρ = match ρ[i]? with | some (.s ns) => .ok (!ns.isEmpty, ρ) | some (.l xs) => .ok (!xs.isEmpty, ρ) | _ => .bad := id rfl
@[simp] theorem mListOf_s : mListOf f ρ = (f ρ).bind fun x => match itemsOf x.1 with | some ds => .ok (ds, x.2) | none => .bad := id rfl
@[simp] theorem itemsOf_t (xs : List D) : itemsOf (.tuple xs) = some xs := id rfl
@[simp] theorem itemsOf_l (xs : List D) : itemsOf (.list xs) = some xs := id rfl
@[simp] theorem sPar_s : sPar i j fs ρ = (fs ρ).bind fun x => match x.1 with | [d, e] => .ok (.nx, (x.2.set i (.d d)).set j (.d e)) | _ => .bad := id rfl
@[simp] theorem mZip2_s : mZip2 f g ρ = (mCons f (mCons g mNil) ρ).bind fun x => match x.1 with
  | [d1, d2] => (match itemsOf d1, itemsOf d2 with
    | some ds1, some ds2 => .ok (zip2D ds1 ds2, x.2)
    | _, _ => .bad)
  | _ => .bad := id rfl
@[simp] theorem mZip3_s : mZip3 f g h ρ = (mCons f (mCons g (mCons h mNil)) ρ).bind fun x => match x.1 with
  | [d1, d2, d3] => (match itemsOf d1, itemsOf d2, itemsOf d3 with
    | some ds1, some ds2, some ds3 => .ok (zip3D ds1 ds2 ds3, x.2)
    | _, _, _ => .bad)
  | _ => .bad := id rfl
@[simp] theorem oMin2_s (i j : Int) : oMin2 [.int i, .int j] = some (.int (if j < i then j else i)) := id rfl
@[simp] theorem oMax2_s (i j : Int) : oMax2 [.int i, .int j] = some (.int (if j > i then j else i)) := id rfl
@[simp] theorem oAny_s (xs : List D) : oAny [.list xs] = (asBls xs).map fun bs => .bool (bs.any id) := id rfl
@[simp] theorem oSum_s (xs : List D) : oSum [.list xs] = (asInts xs).map fun ns => .int ns.sum := id rfl
end
@[simp] theorem mutb_d (x : D) : (Slot.d x).mutb = false := id rfl
@[simp] theorem mutb_un : Slot.un.mutb = false := id rfl
@[simp] theorem mutb_f (x : List (D × D)) : (Slot.f x).mutb = false := id rfl
@[simp] theorem mutb_s (x : List Int) : (Slot.s x).mutb = false := id rfl
/-! ### things as keys -/
structure Enc {α : Type} [DecidableEq α] (enc : α → D) : Prop where
  key : ∀ a, keyOk (enc a) = true
  eqv : ∀ a b, PyData.eqv (enc a) (enc b) = decide (a = b)
def marks {α : Type} (enc : α → D) (ks : List α) : List (D × D) := ks.map fun a => (enc a, .bool true)
section
variable {α : Type} [DecidableEq α] {enc : α → D}
theorem marks_keys (ks : List α) : (marks enc ks).map (·.1) = ks.map enc := by
  simp [marks, List.map_map, Function.comp_def]
@[simp] theorem marks_len (ks : List α) : (marks enc ks).length = ks.length := by simp [marks]
theorem marks_get (E : Enc enc) (ks : List α) (a : α) : (mapGet (marks enc ks) (enc a)).isSome = decide (a ∈ ks) := by
  induction ks with
  | nil => rfl
  | cons k ks ih =>
    unfold mapGet marks at ih ⊢
    rw [List.map_cons, List.find?_cons]
    simp only [E.eqv]
    by_cases h : k = a
    · simp [h]
    · have h' : ¬ a = k := fun z => h z.symm
      simp only [h, decide_false, List.mem_cons, h', false_or]
      exact ih
theorem marks_put (E : Enc enc) (ks : List α) (a : α) : mapPut (marks enc ks) (enc a) (.bool true) = marks enc (addK ks a) := by
  unfold mapPut addK
  rw [marks_get E]
  by_cases h : a ∈ ks
  · simp only [h, decide_true, if_true]
    unfold marks
    rw [List.map_map]
    apply List.map_congr_left
    intro b hb
    simp only [Function.comp]
    split <;> rfl
  · simp [h, marks]
theorem marks_in (E : Enc enc) (ks : List α) (a : α) (ng : Bool) : (ng != (mapGet (marks enc ks) (enc a)).isSome) = (ng != decide (a ∈ ks)) := by rw [marks_get E]
/-- sorted things -/
def encLe (enc : α → D) (a b : α) : Bool := PySem.W.dataLe false (fun d : D => d) (enc a) (enc b)
theorem sortD_map (enc : α → D) (xs : List α) : sortD (xs.map enc) = (xs.mergeSort (encLe enc)).map enc := by
  unfold sortD
  rw [← List.map_mergeSort]
  intro a _ b _
  rfl
end
end DL

set_option maxHeartbeats 4000000
/-! PL6: templates changed. -/
namespace HD
open PySem PySem.Spec L2 DL
/-! ### words and texts, of any things -/
def isWordD : D → Bool
  | .str x => isWord x
  | _ => false
/-- texts within are short -/
def ShortD (d : D) : Prop := ∀ x, d = .str x → x.length ≤ lim
theorem wordD_s {d : D} (h : ShortD d) : f_is_word [d] = .ok (.bool (isWordD d)) := by
  cases d with
  | str x => exact word_s x (h x rfl)
  | _ => simp [f_is_word, fnD, runF, g_is_word, PyData.isStr, isWordD]
theorem wordsD_s (ds : List D) (h : ∀ d ∈ ds, ShortD d) (hl : ds.length ≤ lim) : f_are_words [.tuple ds] = .ok (.bool (ds.all isWordD)) := by
  have e := lc_all (ix := [1]) (bd := bName 1) (t := mYes) (f := e_are_words_1) (ρ := [Slot.d (.tuple ds), .un]) id (fun d => .bool (isWordD d)) ds hl fun d hd => by
    simp [lcStep, e_are_words_1, wordD_s (h d hd), wipeE]
  rw [List.map_id] at e
  simp [f_are_words, fnD, runF, g_are_words, plainAt, Slot.mutb, wipeE, e, backE, List.all_map]
theorem wordsD_x {d : D} (h : d.isTuple = false) : f_are_words [d] = .ok (.bool false) := by simp [f_are_words, fnD, runF, g_are_words, h]
theorem textD_s (ds : List D) (h : ∀ d ∈ ds, ShortD d) (hl : ds.length ≤ lim) : f_is_text [.tuple ds] = .ok (.bool (ds.all isWordD && decide (ds.length ≤ 12))) := by
  have e := wordsD_s ds h hl
  have i : ((ds.length : Int) ≤ 12) = (ds.length ≤ 12) := propext (by omega)
  cases hw : ds.all isWordD <;> simp [f_is_text, fnD, runF, g_is_text, e, hw, i]
theorem textD_x {d : D} (h : d.isTuple = false) : f_is_text [d] = .ok (.bool false) := by simp [f_is_text, fnD, runF, g_is_text, wordsD_x h]
theorem text_s (b : List Str) (hb : ∀ x ∈ b, x.length ≤ lim) (hl : b.length ≤ lim) : f_is_text [strsD b] = .ok (.bool (b.all isWord && decide (b.length ≤ 12))) := by
  have e := textD_s (b.map .str) (fun d hd x hx => by
    obtain ⟨y, hy, e⟩ := List.mem_map.mp hd
    rw [← e] at hx
    cases hx
    exact hb x hy) (by simpa using hl)
  rw [List.length_map, List.all_map] at e
  exact e
/-! ### what a part takes -/
def Part.bars : Part → List Str
  | .word _ => []
  | .one _ b => b
  | .some _ _ b => b
def takes (p : Part) (x : Str) : Bool := match p with
  | .word w => x == w
  | .one _ b => !b.contains x
  | .some _ _ b => !b.contains x
theorem any_eqv (b : List Str) (x : Str) : ((b.map PyData.str).any fun y => PyData.eqv y (.str x)) = b.contains x := by
  induction b with
  | nil => rfl
  | cons y b ih =>
    rw [List.map_cons, List.any_cons, ih, List.contains_cons]
    simp only [eqv_ss]
    rw [show (y == x) = (x == y) by rw [Bool.eq_iff_iff, beq_iff_eq, beq_iff_eq]; exact eq_comm]
theorem oIn_strs (b : List Str) (x : Str) : oIn (.str x) (strsD b) = some (.bool (b.contains x)) := by
  unfold oIn strsD
  simp only
  rw [if_pos (by rw [depth_strs]; simp), any_eqv]
theorem oNotIn_strs (b : List Str) (x : Str) : oNotIn (.str x) (strsD b) = some (.bool (!b.contains x)) := by
  unfold oNotIn strsD
  simp only
  rw [if_pos (by rw [depth_strs]; simp), any_eqv]
theorem takes_s (p : Part) (x : Str) : f_takes [p.d, .str x] = .ok (.bool (takes p x)) := by
  cases p with
  | word w => simp [f_takes, fnD, runF, g_takes, Part.d, takes]
  | one g b => simp [f_takes, fnD, runF, g_takes, Part.d, takes, oNotIn_strs]
  | some g n b => simp [f_takes, fnD, runF, g_takes, Part.d, takes, oNotIn_strs]
/-! ### where a gap stands -/
def gapHit (d : D) (q : Part × Nat) : Bool := q.1.isGap && PyData.eqv (.str q.1.name) d
def gapIx (ps : List Part) (d : D) : List Nat := (ps.zipIdx.filter (gapHit d)).map (·.2)
theorem place_lc (ps : List Part) (d : D) (hl : ps.length ≤ lim) (s2 : Slot) : lcD [3, 4] (bTup 2 (bCons (bName 3) (bCons (bName 4) bNil))) t_place_of_1 e_place_of_2 (ps.zipIdx.map enP) [] [.d (tmplD ps), .d d, s2, .un, .un] = .ok ((gapIx ps d).map fun i => .int (i : Nat), [.d (tmplD ps), .d d, s2, .un, .un]) := by
  rw [lc_if enP (gapHit d) (fun q => .int (q.2 : Nat)) ps.zipIdx (by rw [List.length_zipIdx]; exact hl) fun q hq => ?_]
  · simp [gapIx, List.map_map, Function.comp_def]
  · obtain ⟨k, r, e1, e2⟩ := kind_of q.1
    cases hg : q.1.isGap with
    | false =>
      rw [hg] at e2
      simp [lcStep, enP, t_place_of_1, e1, e2, gapHit, hg, wipeE]
    | true =>
      rw [hg] at e2
      cases hh : PyData.eqv (.str q.1.name) d <;> simp [lcStep, enP, t_place_of_1, e_place_of_2, e1, e2, gapHit, hg, hh, wipeE]
theorem place_s (ps : List Part) (d : D) (hl : ps.length ≤ lim) : f_place_of [tmplD ps, d] = if d.isStr = true then (match gapIx ps d with | i :: _ => .ok (.int (i : Nat)) | [] => .exc "NoName") else .exc "NoName" := by
  have e := place_lc ps d hl .un
  have en := enumD_zip ps 0
  simp only [tmplD] at *
  cases hs : d.isStr with
  | false => simp [f_place_of, fnD, runF, g_place_of, en, plainAt, Slot.mutb, wipeE, e, backE, hs]
  | true =>
    cases hg : gapIx ps d with
    | nil =>
      rw [hg] at e
      simp [f_place_of, fnD, runF, g_place_of, en, plainAt, Slot.mutb, wipeE, e, backE, hs, oEq_nil]
    | cons i r =>
      rw [hg] at e
      simp [f_place_of, fnD, runF, g_place_of, en, plainAt, Slot.mutb, wipeE, e, backE, hs, oEq_nil]
/-! ### worths of a gap -/
def fitsD (p : Part) (d : D) : Bool := match p, d with
  | .one _ b, .str x => isWord x && !b.contains x
  | .some _ n b, .tuple ds => (ds.all isWordD && decide (ds.length ≤ 12)) && (decide (n ≤ ds.length) && ds.all fun e => match e with | .str x => !b.contains x | _ => false)
  | _, _ => false
theorem words_strs : ∀ {ds : List D}, ds.all isWordD = true → ∃ ws : List Str, ds = ws.map .str
  | [], _ => ⟨[], rfl⟩
  | d :: ds, h => by
    rw [List.all_cons, Bool.and_eq_true] at h
    obtain ⟨ws, rfl⟩ := words_strs h.2
    cases d <;> (try (cases h.1; done))
    exact ⟨_ :: ws, rfl⟩
theorem one_s (g : Str) (b : List Str) {d : D} (h : ShortD d) : f_fits_gap [(Part.one g b).d, d] = .ok (.bool (fitsD (.one g b) d)) := by
  have e := wordD_s h
  cases d with
  | str x =>
    have e2 := takes_s (.one g b) x
    simp only [isWordD] at e
    cases hw : isWord x <;> rw [hw] at e <;> simp [f_fits_gap, fnD, runF, g_fits_gap, Part.d, e, fitsD, hw]
    rw [show PyData.tuple [.str "one", .str g, strsD b] = (Part.one g b).d from rfl, e2]
    simp [takes]
  | _ => simp [f_fits_gap, fnD, runF, g_fits_gap, Part.d, e, fitsD, isWordD]
theorem some_s (g : Str) (n : Int) (b : List Str) {d : D} (h : ∀ ds, d = .tuple ds → ds.length ≤ lim ∧ ∀ e ∈ ds, ShortD e) : f_fits_gap [(Part.some g n b).d, d] = .ok (.bool (fitsD (.some g n b) d)) := by
  by_cases ht : d.isTuple = true
  · cases d <;> (try (cases ht; done))
    rename_i ds
    obtain ⟨h1, h2⟩ := h ds rfl
    have e := textD_s ds h2 h1
    cases hw : ds.all isWordD with
    | false =>
      rw [hw] at e
      simp [f_fits_gap, fnD, runF, g_fits_gap, Part.d, e, fitsD, hw]
    | true =>
      rw [hw] at e
      obtain ⟨ws, rfl⟩ := words_strs hw
      rw [List.length_map] at e h1
      by_cases h12 : ws.length ≤ 12
      · by_cases hn : n ≤ (ws.length : Int)
        · have lc := lc_all (ix := [2]) (bd := bName 2) (t := mYes) (f := e_fits_gap_1) (ρ := [Slot.d (Part.some g n b).d, .d (.tuple (ws.map .str)), .un]) PyData.str (fun x => .bool (takes (.some g n b) x)) ws h1 fun x hx => by
            have e2 := takes_s (.some g n b) x
            simp [lcStep, e_fits_gap_1, e2, wipeE]
          simp only [Part.d] at lc
          simp [f_fits_gap, fnD, runF, g_fits_gap, Part.d, e, fitsD, hw, h12, hn, plainAt, Slot.mutb, wipeE, lc, backE, takes, List.all_map, Function.comp_def]
        · simp [f_fits_gap, fnD, runF, g_fits_gap, Part.d, e, fitsD, hw, h12, hn]
      · simp [f_fits_gap, fnD, runF, g_fits_gap, Part.d, e, fitsD, hw, h12]
  · have hf : d.isTuple = false := by simpa using ht
    have e := textD_x hf
    have : fitsD (.some g n b) d = false := by cases d <;> first | rfl | (exact absurd rfl ht)
    simp [f_fits_gap, fnD, runF, g_fits_gap, Part.d, e, this]
end HD

set_option maxHeartbeats 4000000
/-! PL7: which texts a template has; stands, in plain Lean. -/
namespace HD
open PySem PySem.Spec L2 DL
/-! ### the texts of a template -/
def Fit (p : Part) (u : List Str) : Prop := match p with
  | .some _ n _ => n ≤ u.length ∧ ∀ x ∈ u, takes p x = true
  | _ => ∃ x, u = [x] ∧ takes p x = true
def Has : List Part → List Str → Prop
  | [], w => w = []
  | p :: ps, w => ∃ u v, w = u ++ v ∧ Fit p u ∧ Has ps v
/-- a gap that is filled on from m words -/
def Cont (p : Part) (m : Nat) (u : List Str) : Prop := match p with
  | .some _ n _ => n ≤ m + u.length ∧ ∀ x ∈ u, takes p x = true
  | _ => u = []
def skip (p : Part) : Bool := match p with
  | .some _ n _ => decide (n = 0)
  | _ => false
def Low (p : Part) : Prop := match p with
  | .some _ n _ => 0 ≤ n ∧ n ≤ 2
  | _ => True
abbrev Std := Nat × Nat
def Rem (ps : List Part) : Std → List Str → Prop
  | (0, _), w => Has ps w
  | (i + 1, m), w => ∃ p, ps[i]? = some p ∧ ∃ u v, w = u ++ v ∧ Cont p m u ∧ Has (ps.drop (i + 1)) v
def isDone (ps : List Part) : Std → Bool
  | (0, _) => true
  | (i + 1, m) => match ps[i]? with
    | some (.some _ n _) => decide (n ≤ m)
    | _ => true
def maySkip (ps : List Part) (i j : Nat) : Bool := ((ps.take j).drop i).all skip
def endNow (ps : List Part) (s : Std) : Bool := isDone ps s && maySkip ps s.1 ps.length
def mostOf (p : Part) : Nat := match p with
  | .some _ n _ => max 1 n.toNat
  | _ => 1
def stay (ps : List Part) (x : Str) : Std → List Std
  | (0, _) => []
  | (i + 1, m) => match ps[i]? with
    | some (.some g n b) => if takes (.some g n b) x = true then [(i + 1, min (mostOf (.some g n b)) (m + 1))] else []
    | _ => []
def goalOk (ps : List Part) (x : Str) (i g : Nat) : Bool := maySkip ps i g && match ps[g]? with
  | some p => takes p x
  | none => false
def ahead (ps : List Part) (x : Str) (s : Std) : List Std := if isDone ps s = true then ((List.range (ps.length - s.1)).filter fun j => goalOk ps x s.1 (s.1 + j)).map fun j => (s.1 + j + 1, 1) else []
def moves (ps : List Part) (x : Str) (s : Std) : List Std := stay ps x s ++ ahead ps x s

theorem fit_nil {p : Part} (hp : Low p) : Fit p [] ↔ skip p = true := by
  cases p with
  | word w => simp [Fit, skip]
  | one g b => simp [Fit, skip]
  | some g n b =>
    simp only [Low] at hp
    simp [Fit, skip]
    omega
theorem fit_cons {p : Part} {x : Str} {u : List Str} : Fit p (x :: u) ↔ takes p x = true ∧ Cont p 1 u := by
  cases p with
  | word w =>
    simp only [Fit, Cont]
    constructor
    · rintro ⟨y, h, k⟩; cases h; exact ⟨k, rfl⟩
    · rintro ⟨k, rfl⟩; exact ⟨x, rfl, k⟩
  | one g b =>
    simp only [Fit, Cont]
    constructor
    · rintro ⟨y, h, k⟩; cases h; exact ⟨k, rfl⟩
    · rintro ⟨k, rfl⟩; exact ⟨x, rfl, k⟩
  | some g n b =>
    simp only [Fit, Cont, List.length_cons, List.mem_cons, forall_eq_or_imp]
    constructor
    · rintro ⟨h, k, r⟩; exact ⟨k, by omega, r⟩
    · rintro ⟨k, h, r⟩; exact ⟨by omega, k, r⟩
theorem has_nil : ∀ {ps : List Part}, (∀ p ∈ ps, Low p) → (Has ps [] ↔ ps.all skip = true)
  | [], _ => by simp [Has]
  | p :: ps, h => by
    have ih := has_nil (ps := ps) fun q hq => h q (List.mem_cons_of_mem _ hq)
    simp only [Has, List.all_cons, Bool.and_eq_true]
    rw [← ih, ← fit_nil (h p List.mem_cons_self)]
    constructor
    · rintro ⟨u, v, e, k, r⟩
      have e := e.symm
      rw [List.append_eq_nil_iff] at e
      rw [e.1] at k; rw [e.2] at r
      exact ⟨k, r⟩
    · rintro ⟨k, r⟩; exact ⟨[], [], rfl, k, r⟩
theorem has_cons : ∀ {ps : List Part} {x : Str} {w : List Str}, (∀ p ∈ ps, Low p) → (Has ps (x :: w) ↔ ∃ j p, ps[j]? = some p ∧ (ps.take j).all skip = true ∧ takes p x = true ∧ ∃ u v, w = u ++ v ∧ Cont p 1 u ∧ Has (ps.drop (j + 1)) v)
  | [], x, w, _ => by simp [Has]
  | q :: ps, x, w, h => by
    have ih := has_cons (ps := ps) (x := x) (w := w) fun q hq => h q (List.mem_cons_of_mem _ hq)
    constructor
    · rintro ⟨u, v, e, k, r⟩
      cases u with
      | nil =>
        have e := e.symm
        rw [List.nil_append] at e
        rw [e] at r
        obtain ⟨j, p, h1, h2, h3, h4⟩ := ih.mp r
        exact ⟨j + 1, p, by simpa using h1, by simp [(fit_nil (h q List.mem_cons_self)).mp k, h2], h3, by simpa using h4⟩
      | cons y u =>
        have e := e
        rw [List.cons_append, List.cons.injEq] at e
        obtain ⟨e1, e2⟩ := e
        subst e1 e2
        obtain ⟨k1, k2⟩ := fit_cons.mp k
        exact ⟨0, q, rfl, rfl, k1, u, v, rfl, k2, by simpa using r⟩
    · rintro ⟨j, p, h1, h2, h3, u, v, h4, h5, h6⟩
      cases j with
      | zero =>
        simp at h1; subst h1
        exact ⟨x :: u, v, by rw [h4]; rfl, fit_cons.mpr ⟨h3, h5⟩, by simpa using h6⟩
      | succ j =>
        simp only [List.take_succ_cons, List.all_cons, Bool.and_eq_true] at h2
        refine ⟨[], x :: w, rfl, (fit_nil (h q List.mem_cons_self)).mpr h2.1, ih.mpr ⟨j, p, by simpa using h1, h2.2, h3, u, v, h4, h5, by simpa using h6⟩⟩
theorem rem_nil {ps : List Part} (h : ∀ p ∈ ps, Low p) {s : Std} (hs : s.1 ≤ ps.length) : Rem ps s [] ↔ endNow ps s = true := by
  obtain ⟨i, m⟩ := s
  cases i with
  | zero => simp [Rem, endNow, isDone, maySkip, has_nil h]
  | succ i =>
    have hi : i < ps.length := hs
    have e : ps[i]? = some ps[i] := List.getElem?_eq_getElem hi
    have hd : ∀ p ∈ ps.drop (i + 1), Low p := fun p hp => h p (List.mem_of_mem_drop hp)
    have e2 : maySkip ps (i + 1) ps.length = (ps.drop (i + 1)).all skip := by simp [maySkip]
    have e3 : Cont ps[i] m [] ↔ isDone ps (i + 1, m) = true := by
      simp only [isDone, e]
      cases ps[i] <;> simp [Cont]
    simp only [Rem, endNow, Bool.and_eq_true, e2]
    rw [← has_nil hd, ← e3]
    constructor
    · rintro ⟨p, e1, u, v, e4, k, r⟩
      have e4 := e4.symm
      rw [List.append_eq_nil_iff] at e4
      rw [e4.1] at k; rw [e4.2] at r
      rw [e] at e1; cases e1
      exact ⟨k, r⟩
    · rintro ⟨k, r⟩; exact ⟨_, e, [], [], rfl, k, r⟩
theorem take_drop_all (ps : List Part) (i j : Nat) : ((ps.drop i).take j).all skip = maySkip ps i (i + j) := by
  unfold maySkip
  rw [List.drop_take]
  congr 2
  omega
theorem mem_ahead {ps : List Part} {x : Str} {s s' : Std} : s' ∈ ahead ps x s ↔ isDone ps s = true ∧ ∃ j p, ps[s.1 + j]? = some p ∧ maySkip ps s.1 (s.1 + j) = true ∧ takes p x = true ∧ s' = (s.1 + j + 1, 1) := by
  unfold ahead
  split
  · rename_i hd
    simp only [List.mem_map, List.mem_filter, List.mem_range, goalOk, Bool.and_eq_true]
    constructor
    · rintro ⟨j, ⟨h1, h2, h3⟩, rfl⟩
      refine ⟨hd, j, ?_⟩
      have hl : s.1 + j < ps.length := by omega
      rw [List.getElem?_eq_getElem hl] at h3
      exact ⟨_, List.getElem?_eq_getElem hl, h2, h3, rfl⟩
    · rintro ⟨_, j, p, h1, h2, h3, rfl⟩
      have hl := (List.getElem?_eq_some_iff.mp h1).1
      exact ⟨j, ⟨by omega, h2, by rw [h1]; exact h3⟩, rfl⟩
  · rename_i hd
    simp [hd]
theorem has_ahead {ps : List Part} (h : ∀ p ∈ ps, Low p) (i : Nat) {x : Str} {w : List Str} : Has (ps.drop i) (x :: w) ↔ ∃ j p, ps[i + j]? = some p ∧ maySkip ps i (i + j) = true ∧ takes p x = true ∧ Rem ps (i + j + 1, 1) w := by
  rw [has_cons fun p hp => h p (List.mem_of_mem_drop hp)]
  constructor
  · rintro ⟨j, p, h1, h2, h3, u, v, h4, h5, h6⟩
    rw [List.getElem?_drop] at h1
    rw [take_drop_all] at h2
    rw [List.drop_drop] at h6
    exact ⟨j, p, h1, h2, h3, p, h1, u, v, h4, h5, h6⟩
  · rintro ⟨j, p, h1, h2, h3, q, h0, u, v, h4, h5, h6⟩
    rw [h1] at h0; cases h0
    refine ⟨j, p, by rw [List.getElem?_drop]; exact h1, by rw [take_drop_all]; exact h2, h3, u, v, h4, h5, ?_⟩
    rw [List.drop_drop]
    exact h6
theorem rem_cons {ps : List Part} (h : ∀ p ∈ ps, Low p) {s : Std} (hs : s.1 ≤ ps.length) {x : Str} {w : List Str} : Rem ps s (x :: w) ↔ ∃ s' ∈ moves ps x s, Rem ps s' w := by
  have key : (∃ s' ∈ moves ps x s, Rem ps s' w) ↔ (∃ s' ∈ stay ps x s, Rem ps s' w) ∨ (isDone ps s = true ∧ Has (ps.drop s.1) (x :: w)) := by
    rw [has_ahead h]
    unfold moves
    constructor
    · rintro ⟨s', h1, h2⟩
      rcases List.mem_append.mp h1 with h1 | h1
      · exact .inl ⟨s', h1, h2⟩
      · obtain ⟨k, j, p, q1, q2, q3, rfl⟩ := mem_ahead.mp h1
        exact .inr ⟨k, j, p, q1, q2, q3, h2⟩
    · rintro (⟨s', h1, h2⟩ | ⟨k, j, p, q1, q2, q3, h2⟩)
      · exact ⟨s', List.mem_append_left _ h1, h2⟩
      · exact ⟨_, List.mem_append_right _ (mem_ahead.mpr ⟨k, j, p, q1, q2, q3, rfl⟩), h2⟩
  rw [key]
  obtain ⟨i, m⟩ := s
  cases i with
  | zero => simp [Rem, stay, isDone]
  | succ i =>
    have hi : i < ps.length := hs
    have e : ps[i]? = some ps[i] := List.getElem?_eq_getElem hi
    have hl := h ps[i] (List.getElem_mem hi)
    simp only [Rem]
    constructor
    · rintro ⟨p, e1, u, v, e4, k, r⟩
      have e1' := e1
      rw [e] at e1; cases e1
      cases u with
      | nil =>
        rw [List.nil_append] at e4
        refine .inr ⟨?_, by rw [e4]; exact r⟩
        simp only [isDone, e]
        generalize ps[i] = p at k
        cases p <;> simp [Cont] at k ⊢
        exact k
      | cons y u =>
        rw [List.cons_append, List.cons.injEq] at e4
        obtain ⟨e4, e5⟩ := e4
        subst e4
        refine .inl ?_
        simp only [stay, e]
        generalize ps[i] = p at k hl e
        cases p with
        | word w => simp [Cont] at k
        | one g b => simp [Cont] at k
        | some g n b =>
          simp only [Cont, List.length_cons, List.mem_cons, forall_eq_or_imp] at k
          simp only [Low] at hl
          refine ⟨(i + 1, min (mostOf (.some g n b)) (m + 1)), by simp [k.2.1], _, e, u, v, e5, ?_, r⟩
          simp only [Cont, mostOf]
          exact ⟨by omega, k.2.2⟩
    · rintro (⟨s', h1, h2⟩ | ⟨k, r⟩)
      · simp only [stay, e] at h1
        generalize hp : ps[i] = p at h1 hl e
        cases p with
        | word w => simp at h1
        | one g b => simp at h1
        | some g n b =>
          simp only at h1
          split at h1
          · rename_i ht
            simp at h1
            subst h1
            obtain ⟨q, e1, u, v, e4, c, r⟩ := h2
            rw [e] at e1; cases e1
            simp only [Low] at hl
            simp only [Cont, mostOf] at c
            refine ⟨_, e, x :: u, v, by rw [e4]; rfl, ?_, r⟩
            simp only [Cont, List.length_cons, List.mem_cons, forall_eq_or_imp]
            exact ⟨by omega, ht, c.2⟩
          · simp at h1
      · refine ⟨_, e, [], x :: w, rfl, ?_, r⟩
        simp only [isDone, e] at k
        generalize ps[i] = p at k
        cases p <;> simp [Cont] at k ⊢
        exact k
theorem moves_ok {ps : List Part} {x : Str} {s s' : Std} (h : s' ∈ moves ps x s) : s'.1 ≤ ps.length := by
  rcases List.mem_append.mp h with h | h
  · obtain ⟨i, m⟩ := s
    cases i with
    | zero => simp [stay] at h
    | succ i =>
      cases e : ps[i]? with
      | none => simp [stay, e] at h
      | some p =>
        have hl := (List.getElem?_eq_some_iff.mp e).1
        simp only [stay, e] at h
        cases p <;> simp at h
        rw [h.2]; exact hl
  · obtain ⟨_, j, p, q1, _, _, rfl⟩ := mem_ahead.mp h
    have hl := (List.getElem?_eq_some_iff.mp q1).1
    show s.1 + j + 1 ≤ _
    omega
end HD

set_option maxHeartbeats 4000000
/-! PL8: the program's stands: what its defs tell. -/
namespace HD
open PySem PySem.Spec L2 DL
def stD : Std → D
  | (0, m) => .tuple [.int (-1), .int (m : Nat)]
  | (i + 1, m) => .tuple [.int (i : Nat), .int (m : Nat)]
theorem tm_low {ps : List Part} (h : Tm ps) : ∀ p ∈ ps, Low p := fun p hp => by
  have hok := (List.all_eq_true.mp h.ok) p hp
  cases p with
  | word w => trivial
  | one g b => trivial
  | some g n b =>
    simp [Part.ok] at hok
    exact ⟨hok.2.1, hok.2.2.1⟩
theorem most_s {p : Part} (h : Low p) : f_most_of [p.d] = .ok (.int (mostOf p : Nat)) := by
  cases p with
  | word w => simp [f_most_of, fnD, runF, g_most_of, Part.d, mostOf]
  | one g b => simp [f_most_of, fnD, runF, g_most_of, Part.d, mostOf]
  | some g n b =>
    obtain ⟨h1, h2⟩ := h
    have e : (if n > 1 then n else 1) = ((max 1 n.toNat : Nat) : Int) := by split <;> omega
    simp only [mostOf, ← e]
    simp [f_most_of, fnD, runF, g_most_of, Part.d]
theorem part_at {ps : List Part} {i : Nat} (h : i < ps.length) : atI (ps.map Part.d) (i : Int) = some ps[i].d := by
  rw [atI_n, List.getElem?_map, List.getElem?_eq_getElem h]; rfl
theorem done_s {ps : List Part} {s : Std} (hs : s.1 ≤ ps.length) : f_is_done [tmplD ps, stD s] = .ok (.bool (isDone ps s)) := by
  obtain ⟨i, m⟩ := s
  cases i with
  | zero => simp [f_is_done, fnD, runF, g_is_done, stD, isDone]
  | succ i =>
    have hi : i < ps.length := hs
    have e := part_at hi
    have e0 : ¬ (i : Int) < 0 := by omega
    simp only [isDone, List.getElem?_eq_getElem hi]
    generalize ps[i] = p at e
    cases p with
    | word w => simp [f_is_done, fnD, runF, g_is_done, stD, e0, tmplD, e, Part.d]
    | one g b => simp [f_is_done, fnD, runF, g_is_done, stD, e0, tmplD, e, Part.d]
    | some g n b => simp [f_is_done, fnD, runF, g_is_done, stD, e0, tmplD, e, Part.d]
theorem cutD_mid (xs : List D) (i j : Nat) (h : i ≤ xs.length) (h2 : j ≤ xs.length) : cutD xs (some (i : Int)) (some (j : Int)) = (xs.take j).drop i := by
  have h0 : HT.sIx xs.length 0 (some (i : Int)) = i := by rw [HT.sIx_nat]; omega
  have h1 : HT.sIx xs.length xs.length (some (j : Int)) = j := by rw [HT.sIx_nat]; omega
  unfold cutD
  rw [h0, h1, List.drop_take]
theorem skip_s {ps : List Part} {i j : Nat} (hi : i ≤ ps.length) (hj : j ≤ ps.length) (hl : ps.length ≤ lim) : f_may_skip [tmplD ps, .int i, .int j] = .ok (.bool (maySkip ps i j)) := by
  obtain ⟨qs, hq⟩ : ∃ qs, qs = (ps.take j).drop i := ⟨_, rfl⟩
  have e0 : cutD (ps.map Part.d) (some (i : Int)) (some (j : Int)) = qs.map Part.d := by
    rw [cutD_mid _ _ _ (by simpa using hi) (by simpa using hj), hq, ← List.map_take, ← List.map_drop]
  have hql : qs.length ≤ lim := by rw [hq]; simp; omega
  have hm : maySkip ps i j = qs.all skip := by rw [hq]; rfl
  rw [hm]
  clear hq hm
  have e := lc_all (ix := [3]) (bd := bName 3) (t := mYes) (f := e_may_skip_1) (ρ := [Slot.d (tmplD ps), .d (.int i), .d (.int j), .un]) Part.d (fun p => .bool (skip p)) qs hql fun p hp => by
    cases p with
    | word w => simp [lcStep, e_may_skip_1, Part.d, skip, wipeE]
    | one g b => simp [lcStep, e_may_skip_1, Part.d, skip, wipeE]
    | some g n b =>
      have e1 : (n == 0) = decide (n = 0) := rfl
      simp [lcStep, e_may_skip_1, Part.d, skip, wipeE, e1]
  simp only [tmplD] at e ⊢
  simp [f_may_skip, fnD, runF, g_may_skip, e0, plainAt, Slot.mutb, wipeE, e, backE, List.all_map]
theorem end_s {ps : List Part} {s : Std} (hs : s.1 ≤ ps.length) (hl : ps.length ≤ lim) : f_end_now [tmplD ps, stD s] = .ok (.bool (endNow ps s)) := by
  have e1 := done_s hs
  have e2 := skip_s (ps := ps) (i := s.1) (j := ps.length) hs (Nat.le_refl _) hl
  obtain ⟨i, m⟩ := s
  cases i with
  | zero =>
    simp only [stD] at e1
    have e2 : f_may_skip [tmplD ps, .int 0, .int ps.length] = .ok (.bool (maySkip ps 0 ps.length)) := e2
    simp only [tmplD] at e1 e2
    cases h : isDone ps (0, m) <;> simp [f_end_now, fnD, runF, g_end_now, stD, e1, e2, endNow, h, tmplD]
  | succ i =>
    simp only [stD] at e1
    have e2 : f_may_skip [tmplD ps, .int ((i : Int) + 1), .int ps.length] = .ok (.bool (maySkip ps (i + 1) ps.length)) := by simpa using e2
    simp only [tmplD] at e1 e2
    cases h : isDone ps (i + 1, m) <;> simp [f_end_now, fnD, runF, g_end_now, stD, e1, e2, endNow, h, tmplD]
theorem range_map (i n : Nat) : rangeD (i : Int) n = (List.range n).map fun j => PyData.int ((i + j : Nat) : Int) := by
  unfold rangeD
  apply List.map_congr_left
  intro j _
  simp
theorem ahead_loop {ps : List Part} (hl : ps.length ≤ 6) (x : Str) (i : Nat) (hi : i ≤ ps.length) (s : D) (a m : Slot) (g0 : Slot) (acc : List Std) (hacc : acc.length ≤ 1) : ∃ ρ', forD (bName 6) b_moves_at_1 (rangeD (i : Int) (ps.length - i)) [.d (tmplD ps), .d s, .d (.str x), .d (.int ((i : Int) - 1)), m, .l (acc.map stD), g0] = .ok (.nx, ρ') ∧
    ∃ g1, ρ' = [.d (tmplD ps), .d s, .d (.str x), .d (.int ((i : Int) - 1)), m, .l ((acc ++ ((List.range (ps.length - i)).filter fun j => goalOk ps x i (i + j)).map fun j => (i + j + 1, 1)).map stD), g1] := by
  have hlim : ps.length ≤ lim := by have := lm6; omega
  rw [range_map]
  obtain ⟨ρ', h1, h2⟩ := for_s (bd := bName 6) (g := b_moves_at_1) (fun j : Nat => PyData.int ((i + j : Nat) : Int)) (fun k (zs : List Std) ρ => zs.length ≤ 1 + k ∧ ∃ g1, ρ = [.d (tmplD ps), .d s, .d (.str x), .d (.int ((i : Int) - 1)), m, .l (zs.map stD), g1])
    (fun zs j => zs ++ if goalOk ps x i (i + j) = true then [(i + j + 1, 1)] else []) (List.range (ps.length - i)) 0 acc [.d (tmplD ps), .d s, .d (.str x), .d (.int ((i : Int) - 1)), m, .l (acc.map stD), g0] ⟨by omega, g0, rfl⟩ fun k j zs ρ hk ⟨hz, g1, hρ⟩ => by
      have hkl := (List.getElem?_eq_some_iff.mp hk).1
      rw [List.getElem?_range (by simpa using hkl)] at hk
      cases hk
      simp at hkl
      subst hρ
      have hg : i + k < ps.length := by omega
      have e1 := skip_s (ps := ps) (i := i) (j := i + k) hi (by omega) hlim
      have e2 := takes_s ps[i + k] x
      have e3 := part_at hg
      have e4 : (i : Int) - 1 + 1 = i := by omega
      push_cast at e1 e3
      have hzl : zs.length < lim := by have := lm12; omega
      simp only [tmplD] at e1 e3 ⊢
      cases q1 : maySkip ps i (i + k) with
      | false =>
        refine ⟨[.d (tmplD ps), .d s, .d (.str x), .d (.int ((i : Int) - 1)), m, .l (zs.map stD), .d (.int ((i : Int) + k))], ?_, by simp [goalOk, q1]; omega, .d (.int ((i : Int) + k)), by simp [goalOk, q1, tmplD]⟩
        simp [b_moves_at_1, e1, e4, q1, tmplD]
      | true =>
        cases q2 : takes ps[i + k] x with
        | false =>
          refine ⟨[.d (tmplD ps), .d s, .d (.str x), .d (.int ((i : Int) - 1)), m, .l (zs.map stD), .d (.int ((i : Int) + k))], ?_, by simp [goalOk, q1, List.getElem?_eq_getElem hg, q2]; omega, .d (.int ((i : Int) + k)), by simp [goalOk, q1, tmplD, List.getElem?_eq_getElem hg, q2]⟩
          simp [b_moves_at_1, e1, e4, q1, tmplD, e3, e2, q2]
        | true =>
          refine ⟨[.d (tmplD ps), .d s, .d (.str x), .d (.int ((i : Int) - 1)), m, .l ((zs ++ [(i + k + 1, 1)]).map stD), .d (.int ((i : Int) + k))], ?_, by simp [goalOk, q1, List.getElem?_eq_getElem hg, q2]; omega, .d (.int ((i : Int) + k)), by simp [goalOk, q1, tmplD, List.getElem?_eq_getElem hg, q2]⟩
          simp [b_moves_at_1, e1, e4, q1, tmplD, e3, e2, q2, hzl, stD]
  refine ⟨ρ', h1, ?_⟩
  obtain ⟨_, g1, h2⟩ := h2
  refine ⟨g1, ?_⟩
  rw [h2]
  congr 7
  have fold : ∀ (l : List Nat) (z : List Std), l.foldl (fun zs j => zs ++ if goalOk ps x i (i + j) = true then [(i + j + 1, 1)] else []) z = z ++ (l.filter fun j => goalOk ps x i (i + j)).map fun j => (i + j + 1, 1) := by
    intro l
    induction l with
    | nil => intro z; simp
    | cons j l ih =>
      intro z
      rw [List.foldl_cons, ih, List.filter_cons]
      cases goalOk ps x i (i + j) <;> simp
  rw [fold]
end HD
namespace HD
open PySem PySem.Spec L2 DL
theorem moves_s {ps : List Part} (h : Tm ps) {s : Std} (hs : s.1 ≤ ps.length) (x : Str) : f_moves_at [tmplD ps, stD s, .str x] = .ok (.list ((moves ps x s).map stD)) := by
  have h6 := h.len
  have hd := done_s hs
  obtain ⟨i, m⟩ := s
  have stl : (stay ps x (i, m)).length ≤ 1 := by
    unfold stay
    split
    · simp
    · split
      · split <;> simp
      · simp
  have rg : ∀ z : Int, z = (i : Int) → ∀ y : Int, y = (ps.length : Int) → (rangeOk z = true ∧ rangeOk y = true) := fun z hz y hy => ⟨rangeOk_of (by have : i ≤ ps.length := hs; omega) (by have : i ≤ ps.length := hs; omega), rangeOk_of (by omega) (by omega)⟩
  have rn : ((ps.length : Int) - (i : Int)).toNat = ps.length - i := by omega
  cases i with
  | zero =>
    obtain ⟨ρ', e1, g1, e2⟩ := ahead_loop h6 x 0 (Nat.zero_le _) (.tuple [.int (-1), .int (m : Nat)]) .un (.d (.int (m : Nat))) .un [] (by simp)
    simp only [stD] at hd ⊢
    obtain ⟨r1, r2⟩ := rg 0 rfl _ rfl
    subst e2
    simp only [tmplD] at hd e1 ⊢
    simp at e1
    simp [f_moves_at, fnD, runF, g_moves_at, hd, isDone, r1, r2, e1, moves, stay, ahead]
  | succ i =>
    have hi : i < ps.length := hs
    have ep := part_at hi
    obtain ⟨ρ', e1, g1, e2⟩ := ahead_loop h6 x (i + 1) hs (.tuple [.int (i : Nat), .int (m : Nat)]) .un (.d (.int (m : Nat))) .un (stay ps x (i + 1, m)) stl
    simp only [stD] at hd ⊢
    subst e2
    obtain ⟨r1, r2⟩ := rg ((i : Int) + 1) (by simp) _ rfl
    have hge : (0 : Int) ≤ (i : Int) := by omega
    have hrn : ((ps.length : Int) - ((i : Int) + 1)).toNat = ps.length - (i + 1) := by omega
    have e3 := takes_s ps[i] x
    have e4 := most_s (tm_low h ps[i] (List.getElem_mem hi))
    have e5 : ps[i]? = some ps[i] := List.getElem?_eq_getElem hi
    have hst : stay ps x (i + 1, m) = match ps[i]? with
      | some (.some g n b) => if takes (.some g n b) x = true then [(i + 1, min (mostOf (.some g n b)) (m + 1))] else []
      | _ => [] := rfl
    rw [e5] at hst
    have hmv : moves ps x (i + 1, m) = stay ps x (i + 1, m) ++ ahead ps x (i + 1, m) := rfl
    have hah : ahead ps x (i + 1, m) = if isDone ps (i + 1, m) = true then ((List.range (ps.length - (i + 1))).filter fun j => goalOk ps x (i + 1) (i + 1 + j)).map fun j => (i + 1 + j + 1, 1) else [] := rfl
    rw [hmv, hah]
    have hc : (((i + 1 : Nat) : Int)) - 1 = (i : Int) := by omega
    have hc2 : (((i + 1 : Nat) : Int)) = (i : Int) + 1 := by omega
    rw [hc, hc2] at e1
    clear hmv hah
    generalize ps[i] = p at ep e3 e4 hst
    generalize stay ps x (i + 1, m) = sy at hst e1 stl ⊢
    cases p with
    | word w =>
      simp only at hst
      subst hst
      simp only [Part.d, tmplD] at ep e3 e4 hd e1 ⊢
      simp at e1
      cases hq : isDone ps (i + 1, m)
      · rw [hq] at hd
        simp [f_moves_at, fnD, runF, g_moves_at, hd, r1, r2, ep, hge]
      · rw [hq] at hd
        simp [f_moves_at, fnD, runF, g_moves_at, hd, r1, r2, ep, hge, hrn, e1]
    | one g b =>
      simp only at hst
      subst hst
      simp only [Part.d, tmplD] at ep e3 e4 hd e1 ⊢
      simp at e1
      cases hq : isDone ps (i + 1, m)
      · rw [hq] at hd
        simp [f_moves_at, fnD, runF, g_moves_at, hd, r1, r2, ep, hge]
      · rw [hq] at hd
        simp [f_moves_at, fnD, runF, g_moves_at, hd, r1, r2, ep, hge, hrn, e1]
    | some g n b =>
      simp only at hst
      have hmin : ∀ k : Nat, (if (m : Int) + 1 < (k : Int) then (m : Int) + 1 else (k : Int)) = ((min k (m + 1) : Nat) : Int) := fun k => by split <;> omega
      cases ht : takes (.some g n b) x with
      | false =>
        rw [ht] at hst e3
        simp only [Bool.false_eq_true, if_false] at hst
        subst hst
        simp only [Part.d, tmplD] at ep e3 e4 hd e1 ⊢
        simp at e1
        cases hq : isDone ps (i + 1, m)
        · rw [hq] at hd
          simp [f_moves_at, fnD, runF, g_moves_at, hd, r1, r2, ep, hge, e3]
        · rw [hq] at hd
          simp [f_moves_at, fnD, runF, g_moves_at, hd, r1, r2, ep, hge, hrn, e1, e3]
      | true =>
        rw [ht] at hst e3
        simp only [if_true] at hst
        subst hst
        generalize mostOf (.some g n b) = k at e4 e1 ⊢
        simp only [Part.d, tmplD] at ep e3 e4 hd e1 ⊢
        simp only [List.map_cons, List.map_nil, stD] at e1
        cases hq : isDone ps (i + 1, m)
        · rw [hq] at hd
          simp [f_moves_at, fnD, runF, g_moves_at, hd, r1, r2, ep, hge, e3, e4, stD]
          omega
        · rw [hq] at hd
          have hmk := hmin k
          simp [f_moves_at, fnD, runF, g_moves_at, hd, r1, r2, ep, hge, hrn, e3, e4, hmk, e1, stD]
end HD

set_option maxHeartbeats 4000000
/-! PL9: the sets of stands; has. -/
namespace HD
open PySem PySem.Spec L2 DL
theorem stD_pair (s : Std) : ∃ a : Int, stD s = .tuple [.int a, .int (s.2 : Nat)] ∧ a = (s.1 : Int) - 1 := by
  obtain ⟨i, m⟩ := s
  cases i with
  | zero => exact ⟨-1, rfl, rfl⟩
  | succ i => exact ⟨i, rfl, by simp⟩
theorem encS : Enc stD where
  key := fun s => by
    obtain ⟨a, e, _⟩ := stD_pair s
    rw [e]
    simp [keyOk, keyD, keyDs, PyData.isTuple, NestedKey.depth, NestedKey.depthAll]
  eqv := fun s t => by
    obtain ⟨a, e, ha⟩ := stD_pair s
    obtain ⟨b, e2, hb⟩ := stD_pair t
    rw [e, e2]
    show ((a == b) && ((((s.2 : Nat) : Int) == ((t.2 : Nat) : Int)) && true)) = _
    rw [Bool.eq_iff_iff]
    simp only [Bool.and_true, Bool.and_eq_true, beq_iff_eq, decide_eq_true_eq]
    rw [Prod.ext_iff]
    omega
theorem sorted_std (ks : List Std) (hl : ks.length ≤ lim) : oSorted [.list (ks.map stD)] = some (.list ((ks.mergeSort (encLe stD)).map stD)) := by
  have h1 : alikeB (ks.map stD) = true := by
    unfold alikeB
    rw [List.all_eq_true]
    intro d hd
    rw [List.all_eq_true]
    intro d' hd'
    obtain ⟨s, _, rfl⟩ := List.mem_map.mp hd
    obtain ⟨t, _, rfl⟩ := List.mem_map.mp hd'
    obtain ⟨a, e, _⟩ := stD_pair s
    obtain ⟨b, e2, _⟩ := stD_pair t
    rw [e, e2]
    rfl
  have h2 : sortableB (ks.map stD) = true := by
    simp only [sortableB, Bool.or_eq_true, List.all_map, List.all_eq_true]
    refine .inl fun s _ => ?_
    obtain ⟨a, e, _⟩ := stD_pair s
    simp only [Function.comp, e]
  have h3 : (ks.map stD).all (fun d => decide (d.depth ≤ deep)) = true := by
    simp only [List.all_map, List.all_eq_true]
    intro s _
    obtain ⟨a, e, _⟩ := stD_pair s
    simp [Function.comp, e, PyData.depth, PyData.depthAll, deep]
  unfold oSorted
  simp only
  rw [if_pos ⟨by rw [h1, h2, h3]; rfl, by simpa using hl⟩, sortD_map]
def behind (ps : List Part) (ss : List Std) (x : Str) : List Std := (uniq (ss.flatMap (moves ps x))).mergeSort (encLe stD)
def grid : List Std := (List.range 7).flatMap fun i => (List.range 3).map fun m => (i, m)
theorem mem_grid {s : Std} : s ∈ grid ↔ s.1 < 7 ∧ s.2 < 3 := by
  obtain ⟨i, m⟩ := s
  simp only [grid, List.mem_flatMap, List.mem_range, List.mem_map, Prod.mk.injEq]
  constructor
  · rintro ⟨a, h1, b, h2, rfl, rfl⟩; exact ⟨h1, h2⟩
  · rintro ⟨h1, h2⟩; exact ⟨i, h1, m, h2, rfl, rfl⟩
theorem nodup_len {α : Type} [DecidableEq α] : ∀ (g l : List α), l.Nodup → (∀ x ∈ l, x ∈ g) → l.length ≤ g.length
  | g, [], _, _ => by simp
  | g, x :: l, hn, h => by
    have hx := h x List.mem_cons_self
    have hn' := List.nodup_cons.mp hn
    have ih := nodup_len (g.erase x) l hn'.2 fun y hy => (List.mem_erase_of_ne (fun z => hn'.1 (by rw [← z]; exact hy))).mpr (h y (List.mem_cons_of_mem _ hy))
    rw [List.length_erase_of_mem hx] at ih
    have := List.length_pos_of_mem hx
    simp only [List.length_cons]
    omega
theorem moves_grid {ps : List Part} (h : Tm ps) {x : Str} {s s' : Std} (hm : s' ∈ moves ps x s) : s' ∈ grid := by
  have h1 := moves_ok hm
  have h6 := h.len
  rw [mem_grid]
  refine ⟨by omega, ?_⟩
  rcases List.mem_append.mp hm with hm | hm
  · obtain ⟨i, m⟩ := s
    cases i with
    | zero => simp [stay] at hm
    | succ i =>
      cases e : ps[i]? with
      | none => simp [stay, e] at hm
      | some p =>
        have hp := tm_low h p (List.mem_of_getElem? e)
        simp only [stay, e] at hm
        cases p <;> simp at hm
        rw [hm.2]
        obtain ⟨q1, q2⟩ := hp
        simp only [mostOf]
        omega
  · obtain ⟨_, j, p, q1, _, _, rfl⟩ := mem_ahead.mp hm
    show 1 < 3
    omega
theorem moves_len {ps : List Part} (h : Tm ps) (x : Str) (s : Std) : (moves ps x s).length ≤ 7 := by
  have h6 := h.len
  have a1 : (stay ps x s).length ≤ 1 := by
    unfold stay
    split
    · simp
    · split
      · split <;> simp
      · simp
  have a2 : (ahead ps x s).length ≤ 6 := by
    unfold ahead
    split
    · rw [List.length_map]
      refine Nat.le_trans (List.length_filter_le _ _) ?_
      rw [List.length_range]; omega
    · simp
  unfold moves
  rw [List.length_append]
  omega
theorem mem_behind {ps : List Part} {ss : List Std} {x : Str} {s : Std} : s ∈ behind ps ss x ↔ ∃ t ∈ ss, s ∈ moves ps x t := by
  unfold behind
  rw [List.mem_mergeSort, mem_uniq, List.mem_flatMap]
theorem behind_nodup (ps : List Part) (ss : List Std) (x : Str) : (behind ps ss x).Nodup := (List.mergeSort_perm _ _).nodup_iff.mpr (nodup_uniq _)
theorem behind_len {ps : List Part} (h : Tm ps) (ss : List Std) (x : Str) : (behind ps ss x).length ≤ 21 := by
  have := nodup_len grid (behind ps ss x) (behind_nodup ps ss x) fun s hs => by
    obtain ⟨t, _, ht⟩ := mem_behind.mp hs
    exact moves_grid h ht
  exact this
/-- stands of a template -/
def StOk (ps : List Part) (ss : List Std) : Prop := ss.length ≤ 1000 ∧ ∀ s ∈ ss, s.1 ≤ ps.length
theorem behind_ok {ps : List Part} (h : Tm ps) (ss : List Std) (x : Str) : StOk ps (behind ps ss x) :=
  ⟨Nat.le_trans (behind_len h ss x) (by decide), fun s hs => by obtain ⟨t, _, ht⟩ := mem_behind.mp hs; exact moves_ok ht⟩
theorem begin_ok (ps : List Part) : StOk ps [(0, 0)] := ⟨by decide, fun s hs => by simp at hs; subst hs; exact Nat.zero_le _⟩
theorem l8000 : 8000 ≤ lim := by decide
theorem behind_s {ps : List Part} (h : Tm ps) {ss : List Std} (hs : StOk ps ss) (x : Str) : f_stands_behind [tmplD ps, .tuple (ss.map stD), .str x] = .ok (.tuple ((behind ps ss x).map stD)) := by
  have L := l8000
  obtain ⟨ρ', h1, h2, h3, s4, s5, e⟩ := for_s (bd := bName 4) (g := b_stands_behind_2) stD (fun j (ks : List Std) ρ => ks.length ≤ 7 * j ∧ (∀ k ∈ ks, k ∈ grid) ∧ ∃ s4 s5, ρ = [.d (tmplD ps), .d (.tuple (ss.map stD)), .d (.str x), .m (marks stD ks), s4, s5])
    (fun ks s => (moves ps x s).foldl addK ks) ss 0 [] [.d (tmplD ps), .d (.tuple (ss.map stD)), .d (.str x), .m [], .un, .un] ⟨by simp, by simp, .un, .un, rfl⟩ fun j s ks ρ hj ⟨q1, q2, s4, s5, q3⟩ => by
      subst q3
      have hjl := (List.getElem?_eq_some_iff.mp hj).1
      have hsl := hs.1
      have e1 := moves_s h (hs.2 s (List.mem_of_getElem? hj)) x
      have ml := moves_len h x s
      obtain ⟨ρ', k1, k2, k3, s5', k4⟩ := for_s (bd := bName 5) (g := b_stands_behind_1) stD (fun i (ks : List Std) ρ => ks.length ≤ 7 * j + i ∧ True ∧ ∃ s5, ρ = [.d (tmplD ps), .d (.tuple (ss.map stD)), .d (.str x), .m (marks stD ks), .d (stD s), s5])
        addK (moves ps x s) 0 ks [.d (tmplD ps), .d (.tuple (ss.map stD)), .d (.str x), .m (marks stD ks), .d (stD s), s5] ⟨by omega, trivial, s5, rfl⟩ fun i t ks ρ hi ⟨q1, _, s5, q3⟩ => by
          subst q3
          have hil := (List.getElem?_eq_some_iff.mp hi).1
          have hk : ks.length < lim := by omega
          have hadd := addK_len ks t
          refine ⟨[.d (tmplD ps), .d (.tuple (ss.map stD)), .d (.str x), .m (marks stD (addK ks t)), .d (stD s), .d (stD t)], ?_, ⟨by omega, trivial, _, rfl⟩⟩
          simp [b_stands_behind_1, encS.key, marks_put encS, hk]
      refine ⟨ρ', ?_, by omega, fun k hk => ?_, .d (stD s), s5', k4⟩
      · simp [b_stands_behind_2, e1, k1]
      · rcases (foldl_addK_mem _ _ _).mp hk with hk | hk
        · exact q2 k hk
        · exact moves_grid h hk
  have hf : ss.foldl (fun ks s => (moves ps x s).foldl addK ks) [] = uniq (ss.flatMap (moves ps x)) := by
    unfold uniq
    rw [List.foldl_flatMap]
  rw [hf] at h2 h3 e
  subst e
  have hul : (uniq (ss.flatMap (moves ps x))).length ≤ lim := by have := hs.1; omega
  have es := sorted_std _ hul
  unfold behind
  simp only [tmplD] at h1 ⊢
  simp [f_stands_behind, fnD, runF, g_stands_behind, h1, hul, marks_keys, es]
def stands (ps : List Part) (w : List Str) : List Std := w.foldl (behind ps) [(0, 0)]
def hasB (ps : List Part) (w : List Str) : Bool := (stands ps w).any (endNow ps)
theorem stands_ok {ps : List Part} (h : Tm ps) : ∀ (w : List Str) (ss : List Std), StOk ps ss → StOk ps (w.foldl (behind ps) ss)
  | [], ss, hs => hs
  | x :: w, ss, _ => stands_ok h w _ (behind_ok h ss x)
theorem fold_has {ps : List Part} (h : Tm ps) : ∀ (w : List Str) (ss : List Std), StOk ps ss → ((w.foldl (behind ps) ss).any (endNow ps) = true ↔ ∃ s ∈ ss, Rem ps s w)
  | [], ss, hs => by
    rw [List.foldl_nil, List.any_eq_true]
    constructor
    · rintro ⟨s, h1, h2⟩; exact ⟨s, h1, (rem_nil (tm_low h) (hs.2 s h1)).mpr h2⟩
    · rintro ⟨s, h1, h2⟩; exact ⟨s, h1, (rem_nil (tm_low h) (hs.2 s h1)).mp h2⟩
  | x :: w, ss, hs => by
    rw [List.foldl_cons, fold_has h w _ (behind_ok h ss x)]
    constructor
    · rintro ⟨s, h1, h2⟩
      obtain ⟨t, ht, hm⟩ := mem_behind.mp h1
      exact ⟨t, ht, (rem_cons (tm_low h) (hs.2 t ht)).mpr ⟨s, hm, h2⟩⟩
    · rintro ⟨t, ht, h2⟩
      obtain ⟨s, hm, h3⟩ := (rem_cons (tm_low h) (hs.2 t ht)).mp h2
      exact ⟨s, mem_behind.mpr ⟨t, ht, hm⟩, h3⟩
theorem hasB_iff {ps : List Part} (h : Tm ps) (w : List Str) : hasB ps w = true ↔ Has ps w := by
  unfold hasB stands
  rw [fold_has h w _ (begin_ok ps)]
  simp [Rem]
theorem hasIt_s {ps : List Part} (h : Tm ps) (w : List Str) (hw : w.length ≤ lim) : f_has_it [tmplD ps, strsD w] = .ok (.bool (hasB ps w)) := by
  have h6 := h.len
  have hl : ps.length ≤ lim := by have := lm6; omega
  obtain ⟨ρ', h1, h2, s3, e⟩ := for_s (bd := bName 3) (g := b_has_it_1) PyData.str (fun j (ss : List Std) ρ => StOk ps ss ∧ ∃ s3, ρ = [.d (tmplD ps), .d (strsD w), .d (.tuple (ss.map stD)), s3, .un])
    (behind ps) w 0 [(0, 0)] [.d (tmplD ps), .d (strsD w), .d (.tuple [stD (0, 0)]), .un, .un] ⟨begin_ok ps, .un, rfl⟩ fun j x ss ρ hj ⟨q1, s3, q3⟩ => by
      subst q3
      have e1 := behind_s h q1 x
      refine ⟨[.d (tmplD ps), .d (strsD w), .d (.tuple ((behind ps ss x).map stD)), .d (.str x), .un], ?_, behind_ok h ss x, _, rfl⟩
      simp [b_has_it_1, e1]
  have hll : (w.foldl (behind ps) [(0, 0)]).length ≤ lim := by have := h2.1; have := l8000; omega
  have e2 := lc_all (ix := [4]) (bd := bName 4) (t := mYes) (f := e_has_it_2) (ρ := [Slot.d (tmplD ps), .d (strsD w), .d (.tuple ((w.foldl (behind ps) [(0, 0)]).map stD)), s3, .un]) stD (fun s => .bool (endNow ps s)) (w.foldl (behind ps) [(0, 0)]) hll fun s hs => by
    have := end_s (h2.2 s hs) hl
    simp [lcStep, e_has_it_2, this, wipeE]
  subst e
  have hu : hasB ps w = (w.foldl (behind ps) [(0, 0)]).any (endNow ps) := rfl
  rw [hu]
  generalize w.foldl (behind ps) [(0, 0)] = zs at h1 e2 ⊢
  simp only [strsD, stD, show ((0 : Nat) : Int) = 0 from rfl] at h1 e2 ⊢
  simp [f_has_it, fnD, runF, g_has_it, h1, plainAt, Slot.mutb, wipeE, e2, backE, hasB, stands, List.any_map]
theorem needText_s {b : List Str} (hb : ∀ x ∈ b, x.length ≤ lim) (hl : b.length ≤ lim) : f_need_text [strsD b] = if (b.all isWord && decide (b.length ≤ 12)) = true then .ok .none else .exc "NoText" := by
  have e := text_s b hb hl
  cases h : (b.all isWord && decide (b.length ≤ 12)) <;> simp only [h] at e <;> simp [f_need_text, fnD, runF, g_need_text, e]
theorem has_s {ps : List Part} (h : Tm ps) {w : List Str} (hw : w.all isWord = true) (hl : w.length ≤ 12) : f_has [tmplD ps, strsD w] = .ok (.bool (hasB ps w)) := by
  have hl2 : w.length ≤ lim := by have := lm12; omega
  have e1 := need_s h
  have e2 := needText_s (b := w) (fun x hx => word_small (List.all_eq_true.mp hw x hx)) hl2
  rw [hw, decide_eq_true hl] at e2
  have e3 := hasIt_s h w hl2
  simp [f_has, fnD, runF, g_has, e1, e2, e3]
end HD

set_option maxHeartbeats 4000000
/-! PLO: the order of things that are sorted. -/
namespace DL
open PySem PySem.Spec L2
open PySem.W (keyToks keyToksAll sortLe_total)
section
variable {α : Type} {enc : α → D}
theorem encLe_total (enc : α → D) : PySem.W.TotalLe (encLe enc) where
  trans := fun a b c h1 h2 => (sortLe_total (PyProof.Rows.listOrd PyProof.Rows.itemOrd) false (fun x : α => keyToks (enc x))).trans a b c h1 h2
  total := fun a b => (sortLe_total (PyProof.Rows.listOrd PyProof.Rows.itemOrd) false (fun x : α => keyToks (enc x))).total a b
theorem encLe_anti {a b : α} (h1 : encLe enc a b = true) (h2 : encLe enc b a = true) : keyToks (enc a) = keyToks (enc b) := by
  have h1' : (!PyProof.Rows.lexLt PyProof.Rows.itemOrd (keyToks (enc b)) (keyToks (enc a))) = true := h1
  have h2' : (!PyProof.Rows.lexLt PyProof.Rows.itemOrd (keyToks (enc a)) (keyToks (enc b))) = true := h2
  rw [Bool.not_eq_true'] at h1' h2'
  exact PyProof.Rows.lex_total _ _ h2' h1'
theorem enc_trans (a b c : α) (h1 : encLe enc a b = true) (h2 : encLe enc b c = true) : encLe enc a c = true := (encLe_total enc).trans a b c h1 h2
theorem enc_tot (a b : α) : (encLe enc a b || encLe enc b a) = true := by
  rcases (encLe_total enc).total a b with h | h <;> simp [h]
/-- things that are told apart by their signs -/
def Told (enc : α → D) : Prop := ∀ a b, keyToks (enc a) = keyToks (enc b) → a = b
theorem rising_eq (T : Told enc) {l m : List α} (p : l.Perm m) (h1 : l.Pairwise fun a b => encLe enc a b = true) (h2 : m.Pairwise fun a b => encLe enc a b = true) : l = m :=
  p.eq_of_pairwise (fun a b _ _ h1 h2 => T a b (encLe_anti h1 h2)) h1 h2
theorem sort_rising (l : List α) : (l.mergeSort (encLe enc)).Pairwise fun a b => encLe enc a b = true := List.pairwise_mergeSort enc_trans enc_tot l
theorem sort_perm_eq (T : Told enc) {l m : List α} (p : l.Perm m) : l.mergeSort (encLe enc) = m.mergeSort (encLe enc) :=
  rising_eq T (((List.mergeSort_perm l _).trans p).trans (List.mergeSort_perm m _).symm) (sort_rising l) (sort_rising m)
theorem sort_of_rising (T : Told enc) {l : List α} (h : l.Pairwise fun a b => encLe enc a b = true) : l.mergeSort (encLe enc) = l :=
  rising_eq T (List.mergeSort_perm l _) (sort_rising l) h
end
theorem str_toks {x y : Str} (h : x.cps.toList = y.cps.toList) : x = y := PySem.W.str_of_cps h
theorem strs_toks : ∀ (a b : List Str), keyToksAll (a.map .str) = keyToksAll (b.map .str) → a = b
  | [], [], _ => rfl
  | [], _ :: _, h => by simp [keyToksAll] at h
  | _ :: _, [], h => by simp [keyToksAll] at h
  | x :: a, y :: b, h => by
    simp only [List.map_cons, keyToksAll, keyToks, List.cons_append, List.nil_append, List.cons.injEq, true_and] at h
    obtain ⟨h1, h2⟩ := h
    rw [str_toks (Sum.inr.inj h1), strs_toks a b h2]
end DL
namespace HD
open PySem PySem.Spec L2 DL
open PySem.W (keyToks keyToksAll)
theorem told_std : Told stD := fun s t h => by
  obtain ⟨a, e, ha⟩ := stD_pair s
  obtain ⟨b, e2, hb⟩ := stD_pair t
  rw [e, e2] at h
  simp only [keyToks, keyToksAll, List.cons_append, List.nil_append, List.cons.injEq, true_and, Sum.inl.injEq] at h
  rw [Prod.ext_iff]
  omega
theorem told_strs : Told strsD := fun a b h => strs_toks a b h
/-! ### how many sets of stands there are -/
def subs {α : Type} : List α → List (List α)
  | [] => [[]]
  | x :: l => subs l ++ (subs l).map (x :: ·)
theorem subs_len {α : Type} : ∀ l : List α, (subs l).length = 2 ^ l.length
  | [] => rfl
  | x :: l => by simp [subs, subs_len l, Nat.pow_succ]; omega
theorem filter_subs {α : Type} (p : α → Bool) : ∀ l : List α, l.filter p ∈ subs l
  | [] => by simp [subs]
  | x :: l => by
    rw [List.filter_cons]
    simp only [subs, List.mem_append, List.mem_map]
    split
    · exact .inr ⟨_, filter_subs p l, rfl⟩
    · exact .inl (filter_subs p l)
def grid2 : List Std := (List.range 6).flatMap fun i => (List.range 2).map fun m => (i + 1, m + 1)
theorem mem_grid2 {s : Std} : s ∈ grid2 ↔ 1 ≤ s.1 ∧ s.1 ≤ 6 ∧ 1 ≤ s.2 ∧ s.2 ≤ 2 := by
  obtain ⟨i, m⟩ := s
  simp only [grid2, List.mem_flatMap, List.mem_range, List.mem_map, Prod.mk.injEq]
  constructor
  · rintro ⟨a, h1, b, h2, rfl, rfl⟩; omega
  · rintro ⟨h1, h2, h3, h4⟩; exact ⟨i - 1, by omega, m - 1, by omega, by omega, by omega⟩
theorem grid2_nodup : grid2.Nodup := by decide +kernel
theorem moves_grid2 {ps : List Part} (h : Tm ps) {x : Str} {s s' : Std} (hm : s' ∈ moves ps x s) : s' ∈ grid2 := by
  have h6 := h.len
  rw [mem_grid2]
  rcases List.mem_append.mp hm with hm' | hm'
  · have h1 := moves_ok hm
    obtain ⟨i, m⟩ := s
    cases i with
    | zero => simp [stay] at hm'
    | succ i =>
      cases e : ps[i]? with
      | none => simp [stay, e] at hm'
      | some p =>
        have hp := tm_low h p (List.mem_of_getElem? e)
        simp only [stay, e] at hm'
        cases p <;> simp at hm'
        rw [hm'.2] at h1 ⊢
        obtain ⟨q1, q2⟩ := hp
        simp only [mostOf] at *
        omega
  · obtain ⟨_, j, p, q1, _, _, rfl⟩ := mem_ahead.mp hm'
    have hl := (List.getElem?_eq_some_iff.mp q1).1
    show 1 ≤ s.1 + j + 1 ∧ s.1 + j + 1 ≤ 6 ∧ 1 ≤ 1 ∧ 1 ≤ 2
    omega
def gridS : List Std := grid2.mergeSort (encLe stD)
def sets : List (List Std) := [(0, 0)] :: subs gridS
theorem sets_len : sets.length = 4097 := by
  unfold sets gridS
  rw [List.length_cons, subs_len, List.length_mergeSort]
  decide +kernel
theorem behind_sets {ps : List Part} (h : Tm ps) (ss : List Std) (x : Str) : behind ps ss x ∈ sets := by
  have e : behind ps ss x = gridS.filter fun s => decide (s ∈ behind ps ss x) := by
    refine rising_eq told_std ?_ (sort_rising _) ((sort_rising grid2).filter _)
    refine (List.perm_ext_iff_of_nodup (behind_nodup ps ss x) (((List.mergeSort_perm grid2 _).nodup_iff.mpr grid2_nodup).filter _)).mpr fun s => ?_
    rw [List.mem_filter, decide_eq_true_eq]
    constructor
    · intro hs
      refine ⟨?_, hs⟩
      obtain ⟨t, _, ht⟩ := mem_behind.mp hs
      exact List.mem_mergeSort.mpr (moves_grid2 h ht)
    · exact fun hs => hs.2
  rw [e]
  exact List.mem_cons_of_mem _ (filter_subs _ _)
end HD

set_option maxHeartbeats 4000000
/-! PL10: the law's own runs. -/
namespace HD
open PySem PySem.Spec L2 DL
theorem has_append : ∀ {a b : List Part} {w : List Str}, Has (a ++ b) w ↔ ∃ u v, w = u ++ v ∧ Has a u ∧ Has b v
  | [], b, w => by
    constructor
    · intro h; exact ⟨[], w, rfl, rfl, h⟩
    · rintro ⟨u, v, e, h1, h2⟩
      rw [show u = [] from h1] at e
      rw [e]; exact h2
  | p :: a, b, w => by
    constructor
    · rintro ⟨u, v, e, h1, h2⟩
      obtain ⟨u2, v2, e2, h3, h4⟩ := has_append.mp h2
      exact ⟨u ++ u2, v2, by rw [e, e2, List.append_assoc], ⟨u, u2, rfl, h1, h3⟩, h4⟩
    · rintro ⟨u, v, e, ⟨u2, v2, e2, h1, h2⟩, h3⟩
      exact ⟨u2, v2 ++ v, by rw [e, e2, List.append_assoc], h1, has_append.mpr ⟨v2, v, rfl, h2, h3⟩⟩
theorem has_one {p : Part} {w : List Str} : Has [p] w ↔ Fit p w := by
  constructor
  · rintro ⟨u, v, e, h1, h2⟩
    rw [show v = [] from h2, List.append_nil] at e
    rw [e]; exact h1
  · intro h; exact ⟨w, [], by simp, h, rfl⟩
theorem fit_rev {p : Part} {u : List Str} : Fit p u.reverse ↔ Fit p u := by
  cases p with
  | word w => simp only [Fit]; constructor <;> (rintro ⟨x, h, k⟩; exact ⟨x, by simpa [List.reverse_eq_iff] using h, k⟩)
  | one g b => simp only [Fit]; constructor <;> (rintro ⟨x, h, k⟩; exact ⟨x, by simpa [List.reverse_eq_iff] using h, k⟩)
  | some g n b => simp [Fit]
theorem has_rev1 : ∀ {ps : List Part} {w : List Str}, Has ps w → Has ps.reverse w.reverse
  | [], w, h => by rw [show w = [] from h]; rfl
  | p :: ps, w, ⟨u, v, e, h1, h2⟩ => by
    rw [List.reverse_cons, e, List.reverse_append]
    exact has_append.mpr ⟨v.reverse, u.reverse, rfl, has_rev1 h2, has_one.mpr (fit_rev.mpr h1)⟩
theorem has_rev {ps : List Part} {w : List Str} : Has ps.reverse w.reverse ↔ Has ps w := by
  constructor
  · intro h
    have := has_rev1 h
    rwa [List.reverse_reverse, List.reverse_reverse] at this
  · exact has_rev1
theorem gapsOf_rev (ps : List Part) : gapsOf ps.reverse = (gapsOf ps).reverse := by simp [gapsOf, List.filter_reverse]
theorem Tm.rev {ps : List Part} (h : Tm ps) : Tm ps.reverse :=
  ⟨by rw [List.all_reverse]; exact h.ok, by rw [gapsOf_rev]; exact (List.reverse_perm _).nodup_iff.mpr h.gaps, by rw [List.length_reverse]; exact h.len⟩
/-! ### fits -/
def fitB (p : Part) (u : List Str) : Bool := match p with
  | .word w => decide (u = [w])
  | .one _ b => decide (u.length = 1) && (u.filter fun x => b.contains x).isEmpty
  | .some _ n b => decide (n ≤ u.length) && (u.filter fun x => b.contains x).isEmpty
theorem fitB_iff {p : Part} {u : List Str} : fitB p u = true ↔ Fit p u := by
  cases p with
  | word w =>
    simp only [fitB, Fit, takes, decide_eq_true_eq, beq_iff_eq]
    constructor
    · rintro rfl; exact ⟨w, rfl, rfl⟩
    · rintro ⟨x, h, rfl⟩; exact h
  | one g b =>
    simp only [fitB, Fit, takes, Bool.and_eq_true, decide_eq_true_eq, List.isEmpty_iff, List.filter_eq_nil_iff]
    constructor
    · rintro ⟨h1, h2⟩
      match u, h1 with
      | [x], _ => exact ⟨x, rfl, by simpa using h2 x⟩
    · rintro ⟨x, rfl, h⟩
      exact ⟨rfl, by simpa using h⟩
  | some g n b =>
    simp only [fitB, Fit, takes, Bool.and_eq_true, decide_eq_true_eq, List.isEmpty_iff, List.filter_eq_nil_iff]
    simp
theorem fits_lc (p : D) (b u : List Str) (k : D) (hl : u.length ≤ lim) (hp : oIx k (.int (-1)) = some (strsD b)) (r : D) : lcD [2] (bName 2) t__law_fits_1 e__law_fits_2 (u.map .str) [] [.d k, .d r, .un] = .ok ((u.filter fun x => b.contains x).map .str, [.d k, .d r, .un]) := by
  refine lc_if PyData.str (fun x => b.contains x) PyData.str u hl fun x hx => ?_
  by_cases hc : x ∈ b <;> simp [lcStep, t__law_fits_1, e__law_fits_2, hp, oIn_strs, hc, wipeE]
theorem eqv_strs (u v : List Str) : PyData.eqv (.tuple (u.map .str)) (.tuple (v.map .str)) = decide (u = v) := eqvAll_strs u v
theorem fits_s (p : Part) (u : List Str) (hl : u.length ≤ lim) : f__law_fits [p.d, strsD u] = .ok (.bool (fitB p u)) := by
  cases p with
  | word w =>
    have e : oEq (strsD u) (.tuple [.str w]) = some (.bool (decide (u = [w]))) := by
      have := eqv_strs u [w]
      simp only [List.map_cons, List.map_nil] at this
      simp [oEq, strsD, this, PyData.depth, PyData.depthAll, depth_strs, deep]
    simp [f__law_fits, fnD, runF, g__law_fits, Part.d, e, fitB]
  | one g b =>
    have e := fits_lc (.tuple []) b u (.tuple [.str "one", .str g, strsD b]) hl rfl (strsD u)
    by_cases h1 : u.length = 1
    · have h1' : (u.length : Int) = 1 := by omega
      simp only [strsD] at e ⊢
      simp [f__law_fits, fnD, runF, g__law_fits, Part.d, strsD, h1', plainAt, Slot.mutb, wipeE, e, backE, oEq_nil, fitB, h1]
    · have h1' : ¬ (u.length : Int) = 1 := by omega
      simp only [strsD] at e ⊢
      simp [f__law_fits, fnD, runF, g__law_fits, Part.d, strsD, h1', fitB, h1]
  | some g n b =>
    have e := fits_lc (.tuple []) b u (.tuple [.str "some", .str g, .int n, strsD b]) hl rfl (strsD u)
    by_cases h1 : n ≤ u.length
    · have h1' : ¬ (u.length : Int) < n := by omega
      simp only [strsD] at e ⊢
      simp [f__law_fits, fnD, runF, g__law_fits, Part.d, strsD, h1', plainAt, Slot.mutb, wipeE, e, backE, oEq_nil, fitB, h1]
    · have h1' : (u.length : Int) < n := by omega
      simp only [strsD] at e ⊢
      simp [f__law_fits, fnD, runF, g__law_fits, Part.d, strsD, h1', fitB, h1]
/-! ### rows of cuts -/
def lastN (r : List Nat) : Nat := r.getLast?.getD 0
def cut (w : List Str) (i j : Nat) : List Str := (w.take j).drop i
def stopsOf (p : Part) (w : List Str) (i : Nat) : List Nat := ((List.range (w.length + 1 - i)).filter fun j => fitB p (cut w i (i + j))).map (i + ·)
def ext (p : Part) (w : List Str) (r : List Nat) : List (List Nat) := (stopsOf p w (lastN r)).map fun e => r ++ [e]
def rowsOf (ps : List Part) (w : List Str) (rows : List (List Nat)) : List (List Nat) := ps.foldl (fun rows p => rows.flatMap (ext p w)) rows
def runsL (ps : List Part) (w : List Str) : List (List Nat) := (rowsOf ps w [[0]]).filter fun r => decide (lastN r = w.length)
def RowOf (w : List Str) : List Part → Nat → List Nat → Prop
  | [], _, es => es = []
  | p :: ps, s, es => ∃ e r, es = e :: r ∧ s ≤ e ∧ e ≤ w.length ∧ Fit p (cut w s e) ∧ RowOf w ps e r
theorem mem_stops {p : Part} {w : List Str} {i e : Nat} : e ∈ stopsOf p w i ↔ i ≤ e ∧ e ≤ w.length ∧ Fit p (cut w i e) := by
  simp only [stopsOf, List.mem_map, List.mem_filter, List.mem_range, fitB_iff]
  constructor
  · rintro ⟨j, ⟨h1, h2⟩, rfl⟩; exact ⟨by omega, by omega, h2⟩
  · rintro ⟨h1, h2, h3⟩; exact ⟨e - i, ⟨by omega, by rw [show i + (e - i) = e by omega]; exact h3⟩, by omega⟩
theorem lastN_snoc (r : List Nat) (e : Nat) : lastN (r ++ [e]) = e := by simp [lastN]
theorem mem_rows : ∀ {ps : List Part} {w : List Str} {rows : List (List Nat)} {r : List Nat}, r ∈ rowsOf ps w rows ↔ ∃ q ∈ rows, ∃ es, r = q ++ es ∧ RowOf w ps (lastN q) es
  | [], w, rows, r => by
    simp only [rowsOf, List.foldl_nil, RowOf]
    constructor
    · intro h; exact ⟨r, h, [], by simp, rfl⟩
    · rintro ⟨q, h, es, e, rfl⟩; rw [e, List.append_nil]; exact h
  | p :: ps, w, rows, r => by
    have ih := mem_rows (ps := ps) (w := w) (rows := rows.flatMap (ext p w)) (r := r)
    unfold rowsOf at ih ⊢
    rw [List.foldl_cons, ih]
    constructor
    · rintro ⟨q, hq, es, e, h⟩
      rw [List.mem_flatMap] at hq
      obtain ⟨q0, h0, hx⟩ := hq
      simp only [ext, List.mem_map] at hx
      obtain ⟨e0, hs, rfl⟩ := hx
      rw [lastN_snoc] at h
      obtain ⟨k1, k2, k3⟩ := mem_stops.mp hs
      exact ⟨q0, h0, e0 :: es, by rw [e]; simp, e0, es, rfl, k1, k2, k3, h⟩
    · rintro ⟨q, hq, es, e, e0, r0, h1, k1, k2, k3, h⟩
      refine ⟨q ++ [e0], ?_, r0, by rw [e, h1]; simp, by rw [lastN_snoc]; exact h⟩
      rw [List.mem_flatMap]
      refine ⟨q, hq, ?_⟩
      simp only [ext, List.mem_map]
      exact ⟨e0, mem_stops.mpr ⟨k1, k2, k3⟩, rfl⟩
theorem cut_self (w : List Str) (i : Nat) : cut w i i = [] := by simp [cut]
theorem cut_drop (w : List Str) (s e : Nat) (h : s ≤ e) : w.drop s = cut w s e ++ w.drop e := by
  unfold cut
  rw [List.drop_take, show w.drop e = (w.drop s).drop (e - s) by rw [List.drop_drop]; congr 1; omega]
  exact (List.take_append_drop _ _).symm
theorem rowOf_has : ∀ {ps : List Part} {w : List Str} {s : Nat}, s ≤ w.length → (Has ps (w.drop s) ↔ ∃ es, RowOf w ps s es ∧ lastN (s :: es) = w.length)
  | [], w, s, hs => by
    simp only [Has, RowOf]
    rw [List.drop_eq_nil_iff]
    constructor
    · intro h; exact ⟨[], rfl, by simp [lastN]; omega⟩
    · rintro ⟨es, rfl, h⟩; simp [lastN] at h; omega
  | p :: ps, w, s, hs => by
    constructor
    · rintro ⟨u, v, e, h1, h2⟩
      have hl : u.length + v.length = w.length - s := by rw [← List.length_append, ← e, List.length_drop]
      have hle : s + u.length ≤ w.length := by omega
      have hu : u = cut w s (s + u.length) := by
        unfold cut
        rw [List.drop_take, e, show s + u.length - s = u.length by omega]
        simp
      have hv : v = w.drop (s + u.length) := by rw [← List.drop_drop, e]; simp
      rw [hv] at h2
      obtain ⟨es, k1, k2⟩ := (rowOf_has hle).mp h2
      exact ⟨(s + u.length) :: es, ⟨_, _, rfl, by omega, hle, by rw [← hu]; exact h1, k1⟩, by
        simp only [lastN, List.getLast?_cons_cons] at k2 ⊢; exact k2⟩
    · rintro ⟨es, ⟨e, r, rfl, h1, h2, h3, h4⟩, hl⟩
      refine ⟨cut w s e, w.drop e, cut_drop w s e h1, h3, (rowOf_has h2).mpr ⟨r, h4, ?_⟩⟩
      simp only [lastN, List.getLast?_cons_cons] at hl ⊢; exact hl
theorem runs_iff {ps : List Part} {w : List Str} : runsL ps w ≠ [] ↔ Has ps w := by
  have k := rowOf_has (ps := ps) (w := w) (s := 0) (Nat.zero_le _)
  rw [List.drop_zero] at k
  rw [k]
  constructor
  · intro h
    obtain ⟨r, hr⟩ := List.exists_mem_of_ne_nil _ h
    simp only [runsL, List.mem_filter, decide_eq_true_eq] at hr
    obtain ⟨h1, h2⟩ := hr
    obtain ⟨q, hq, es, e, h3⟩ := mem_rows.mp h1
    simp at hq
    subst hq
    exact ⟨es, h3, by rw [← h2, e]; rfl⟩
  · rintro ⟨es, h1, h2⟩ h
    have : [0] ++ es ∈ runsL ps w := by
      simp only [runsL, List.mem_filter, decide_eq_true_eq]
      exact ⟨mem_rows.mpr ⟨[0], by simp, es, rfl, h1⟩, h2⟩
    rw [h] at this
    simp at this
end HD

set_option maxHeartbeats 4000000
/-! PL11: the law's runs and texts: what its defs tell. -/
namespace HD
open PySem PySem.Spec L2 DL
def rowD (r : List Nat) : D := .list (r.map fun e => .int (e : Nat))
def hky : Nat → Nat → Nat
  | 0, _ => 1
  | r + 1, d => ((List.range (d + 1)).map (hky r)).sum
theorem hky_bound : hky 6 12 ≤ 20000 := by decide +kernel
theorem sum_ge {α : Type} (f : α → Nat) : ∀ (l : List α) (x : α), x ∈ l → f x ≤ (l.map f).sum
  | y :: l, x, h => by
    rw [List.map_cons, List.sum_cons]
    rcases List.mem_cons.mp h with rfl | h
    · omega
    · have := sum_ge f l x h; omega
theorem hky_pos : ∀ (r d : Nat), 1 ≤ hky r d
  | 0, _ => Nat.le_refl _
  | r + 1, d => Nat.le_trans (hky_pos r d) (sum_ge (hky r) (List.range (d + 1)) d (by simp))
theorem hky_up (r d : Nat) : hky r d ≤ hky (r + 1) d := sum_ge (hky r) (List.range (d + 1)) d (by simp)
theorem hky_succ (r d : Nat) : hky r d ≤ hky r (d + 1) := by
  cases r with
  | zero => exact Nat.le_refl _
  | succ r =>
    simp only [hky]
    rw [List.range_succ (n := d + 1), List.map_append, List.sum_append]
    omega
theorem hky_mono {r r' d d' : Nat} (h1 : r ≤ r') (h2 : d ≤ d') : hky r d ≤ hky r' d' := by
  have a : ∀ k, hky r d ≤ hky (r + k) d := fun k => by
    induction k with
    | zero => exact Nat.le_refl _
    | succ k ih => exact Nat.le_trans ih (hky_up (r + k) d)
  have b : ∀ k, hky r' d ≤ hky r' (d + k) := fun k => by
    induction k with
    | zero => exact Nat.le_refl _
    | succ k ih => exact Nat.le_trans ih (hky_succ r' (d + k))
  have a1 := a (r' - r)
  have b1 := b (d' - d)
  rw [show r + (r' - r) = r' by omega] at a1
  rw [show d + (d' - d) = d' by omega] at b1
  exact Nat.le_trans a1 b1
def phi (r n : Nat) (rows : List (List Nat)) : Nat := (rows.map fun q => hky r (n - lastN q)).sum
theorem phi_append (r n : Nat) (a b : List (List Nat)) : phi r n (a ++ b) = phi r n a + phi r n b := by simp [phi]
theorem phi_len (r n : Nat) : ∀ rows : List (List Nat), rows.length ≤ phi r n rows
  | [] => Nat.zero_le _
  | q :: rows => by
    have := phi_len r n rows
    have := hky_pos r (n - lastN q)
    simp only [phi, List.map_cons, List.sum_cons, List.length_cons] at *
    omega
theorem sum_filter_le {α : Type} (f : α → Nat) (p : α → Bool) : ∀ l : List α, ((l.filter p).map f).sum ≤ (l.map f).sum
  | [] => Nat.le_refl _
  | x :: l => by
    have := sum_filter_le f p l
    rw [List.filter_cons]
    split <;> simp only [List.map_cons, List.sum_cons] <;> omega
theorem sum_rev (f : Nat → Nat) : ∀ d : Nat, ((List.range (d + 1)).map fun j => f (d - j)).sum = ((List.range (d + 1)).map f).sum := fun d => by
  have e : (List.range (d + 1)).map (fun j => f (d - j)) = ((List.range (d + 1)).map f).reverse := by
    apply List.ext_getElem
    · simp
    · intro i h1 h2
      simp at h1
      simp [List.getElem_reverse]
  rw [e, List.sum_reverse]
theorem ext_phi (r : Nat) (p : Part) (w : List Str) (q : List Nat) (hq : lastN q ≤ w.length) : phi r w.length (ext p w q) ≤ hky (r + 1) (w.length - lastN q) := by
  unfold phi ext stopsOf
  rw [List.map_map, List.map_map]
  refine Nat.le_trans (sum_filter_le _ _ _) ?_
  simp only [hky]
  rw [← sum_rev (hky r) (w.length - lastN q), show w.length + 1 - lastN q = w.length - lastN q + 1 by omega]
  apply Nat.le_of_eq
  congr 1
  apply List.map_congr_left
  intro j _
  simp only [Function.comp, lastN_snoc]
  congr 1
  omega
theorem flat_phi (r : Nat) (p : Part) (w : List Str) : ∀ rows : List (List Nat), (∀ q ∈ rows, lastN q ≤ w.length) → phi r w.length (rows.flatMap (ext p w)) ≤ phi (r + 1) w.length rows
  | [], _ => Nat.le_refl _
  | q :: rows, h => by
    have ih := flat_phi r p w rows fun y hy => h y (List.mem_cons_of_mem _ hy)
    have := ext_phi r p w q (h q List.mem_cons_self)
    rw [List.flatMap_cons, phi_append]
    simp only [phi, List.map_cons, List.sum_cons] at *
    omega
theorem ext_mem {p : Part} {w : List Str} {q r : List Nat} (h : r ∈ ext p w q) : r.length = q.length + 1 ∧ lastN r ≤ w.length := by
  simp only [ext, List.mem_map] at h
  obtain ⟨e, he, rfl⟩ := h
  exact ⟨by simp, by rw [lastN_snoc]; exact (mem_stops.mp he).2.1⟩
/-- rows behind k parts, where r more come -/
def RowsOk (w : List Str) (k r : Nat) (rows : List (List Nat)) : Prop := (∀ q ∈ rows, q.length = k + 1 ∧ lastN q ≤ w.length) ∧ phi r w.length rows ≤ 20000
theorem rowsOk_next {p : Part} {w : List Str} {k r : Nat} {rows : List (List Nat)} (h : RowsOk w k (r + 1) rows) : RowsOk w (k + 1) r (rows.flatMap (ext p w)) := by
  refine ⟨fun q hq => ?_, Nat.le_trans (flat_phi r p w rows fun q hq => (h.1 q hq).2) h.2⟩
  rw [List.mem_flatMap] at hq
  obtain ⟨q0, h0, h1⟩ := hq
  have := ext_mem h1
  have h2 := h.1 q0 h0
  exact ⟨by omega, this.2⟩
theorem rowsOk_begin (w : List Str) (r : Nat) (hr : r ≤ 6) (hw : w.length ≤ 12) : RowsOk w 0 r [[0]] := by
  refine ⟨fun q hq => by simp at hq; subst hq; exact ⟨rfl, Nat.zero_le _⟩, ?_⟩
  simp only [phi, List.map_cons, List.map_nil, List.sum_cons, List.sum_nil]
  have := hky_mono (r := r) (r' := 6) (d := w.length - lastN [0]) (d' := 12) hr (by omega)
  have := hky_bound
  omega
theorem l30000 : 30000 ≤ lim := by decide
theorem rowD_last {q : List Nat} (h : 0 < q.length) : (q.map fun e => PyData.int ((e : Nat) : Int)).getLast? = some (.int (lastN q : Nat)) := by
  rw [List.getLast?_map]
  obtain ⟨y, hy⟩ : ∃ y, q.getLast? = some y := by
    cases q with
    | nil => simp at h
    | cons a q => exact ⟨_, List.getLast?_eq_some_getLast (by simp)⟩
  simp [lastN, hy]
theorem cut_lc (w : List Str) (i j : Nat) (h : i ≤ w.length) (h2 : j ≤ w.length) : cutD (w.map .str) (some (i : Int)) (some (j : Int)) = (cut w i j).map .str := by
  rw [cutD_mid _ _ _ (by simpa using h) (by simpa using h2), cut, List.map_drop, List.map_take]
theorem runs_s {ps : List Part} (h6 : ps.length ≤ 6) {w : List Str} (hw : w.length ≤ 12) : f__law_runs [tmplD ps, strsD w] = .ok (.list ((runsL ps w).map rowD)) := by
  have L := l30000
  have hwl : (w.length : Int) + 1 = ((w.length + 1 : Nat) : Int) := by omega
  obtain ⟨ρ', h1, h2, s3, s4, s5, s6, m5, e⟩ := for_s (bd := bName 3) (g := b__law_runs_5) Part.d (fun k (rows : List (List Nat)) ρ => RowsOk w k (ps.length - k) rows ∧ ∃ s3 s4 s5 s6, s5.mutb = false ∧ ρ = [.d (tmplD ps), .d (strsD w), .d (.list (rows.map rowD)), s3, s4, s5, s6, .un])
    (fun rows p => rows.flatMap (ext p w)) ps 0 [[0]] [.d (tmplD ps), .d (strsD w), .d (.list [rowD [0]]), .un, .un, .un, .un, .un] ⟨rowsOk_begin w _ (by omega) hw, .un, .un, .un, .un, rfl, rfl⟩ fun k p rows ρ hky ⟨ok, s3, s4, s5, s6, m5, hρ⟩ => by
      subst hρ
      have hkl := (List.getElem?_eq_some_iff.mp hky).1
      rw [Nat.zero_add] at ok ⊢
      have ok' : RowsOk w k (ps.length - (k + 1) + 1) rows := by rw [show ps.length - (k + 1) + 1 = ps.length - k by omega]; exact ok
      have nx := rowsOk_next (p := p) ok'
      have tot : (rows.flatMap (ext p w)).length ≤ 20000 := Nat.le_trans (phi_len _ _ _) nx.2
      obtain ⟨ρ', k1, k2, k3, s5', s6', m5', k4⟩ := for_s (bd := bName 5) (g := b__law_runs_4) rowD (fun j (acc : List (List Nat)) ρ => acc = (rows.take j).flatMap (ext p w) ∧ True ∧ ∃ s5 s6, s5.mutb = false ∧ ρ = [.d (tmplD ps), .d (strsD w), .d (.list (rows.map rowD)), .d p.d, .l (acc.map rowD), s5, s6, .un])
        (fun acc q => acc ++ ext p w q) rows 0 [] [.d (tmplD ps), .d (strsD w), .d (.list (rows.map rowD)), .d p.d, .l [], s5, s6, .un] ⟨rfl, trivial, s5, s6, m5, rfl⟩ fun j q acc ρ hj ⟨q1, _, s5, s6, m5, q3⟩ => by
          subst q3
          rw [Nat.zero_add] at q1 ⊢
          have hq := List.mem_of_getElem? hj
          obtain ⟨g1, g2⟩ := ok.1 q hq
          have hql := rowD_last (q := q) (by omega)
          have hacc : acc ++ ext p w q = (rows.take (j + 1)).flatMap (ext p w) := by
            rw [List.take_add_one, hj, q1]
            simp
          have hle : ((rows.take (j + 1)).flatMap (ext p w)).length ≤ 20000 := by
            refine Nat.le_trans ?_ tot
            conv => rhs; rw [← List.take_append_drop (j + 1) rows]
            rw [List.flatMap_append, List.length_append]
            omega
          rw [← hacc, List.length_append] at hle
          have hn : w.length + 1 - lastN q ≤ lim := by omega
          have e1 := lc_if (ix := [7]) (bd := bName 7) (t := t__law_runs_1) (f := e__law_runs_2) (ρ := [Slot.d (tmplD ps), .d (strsD w), .d (.list (rows.map rowD)), .d p.d, .l (acc.map rowD), .d (rowD q), s6, .un]) (fun j : Nat => PyData.int ((lastN q + j : Nat) : Int)) (fun j => fitB p (cut w (lastN q) (lastN q + j))) (fun j : Nat => PyData.int ((lastN q + j : Nat) : Int)) (List.range (w.length + 1 - lastN q)) (by rw [List.length_range]; exact hn) fun j hj => by
            have hj2 : j < w.length + 1 - lastN q := by simpa using hj
            have ec := cut_lc w (lastN q) (lastN q + j) g2 (by omega)
            have ef := fits_s p (cut w (lastN q) (lastN q + j)) (by simp [cut]; omega)
            simp only [strsD] at ef
            push_cast at ec
            cases hf : fitB p (cut w (lastN q) (lastN q + j)) <;> rw [hf] at ef <;> simp [lcStep, t__law_runs_1, e__law_runs_2, rowD, hql, strsD, ec, ef, wipeE]
          have e2 := lc_all (ix := [7]) (bd := bName 7) (t := mYes) (f := e__law_runs_3) (ρ := [Slot.d (tmplD ps), .d (strsD w), .d (.list (rows.map rowD)), .d p.d, .l (acc.map rowD), .d (rowD q), .d (.list ((stopsOf p w (lastN q)).map fun e => PyData.int ((e : Nat) : Int))), .un]) (fun e : Nat => PyData.int (e : Int)) (fun e => rowD (q ++ [e])) (stopsOf p w (lastN q)) (by
              have : (ext p w q).length = (stopsOf p w (lastN q)).length := by simp [ext]
              omega) fun e he => by
            have hq8 : q.length + 1 ≤ lim := by omega
            simp [lcStep, e__law_runs_3, rowD, hq8, wipeE]
          have hst : (stopsOf p w (lastN q)).map (fun e => PyData.int ((e : Nat) : Int)) = ((List.range (w.length + 1 - lastN q)).filter fun j => fitB p (cut w (lastN q) (lastN q + j))).map fun j : Nat => PyData.int ((lastN q + j : Nat) : Int) := by
            unfold stopsOf
            rw [List.map_map]
            rfl
          have hex : (ext p w q).map rowD = (stopsOf p w (lastN q)).map fun e => rowD (q ++ [e]) := by
            unfold ext
            rw [List.map_map]
            rfl
          have hr := range_map (lastN q) (w.length + 1 - lastN q)
          have r1 : rangeOk (lastN q : Int) = true := rangeOk_of (by omega) (by omega)
          have r2 : rangeOk ((w.length : Int) + 1) = true := rangeOk_of (by omega) (by omega)
          have r3 : ((w.length : Int) + 1 - (lastN q : Int)).toNat = w.length + 1 - lastN q := by omega
          refine ⟨[.d (tmplD ps), .d (strsD w), .d (.list (rows.map rowD)), .d p.d, .l ((acc ++ ext p w q).map rowD), .d (rowD q), .d (.list ((stopsOf p w (lastN q)).map fun e => PyData.int ((e : Nat) : Int))), .un], ?_, by rw [hacc], trivial, _, _, rfl, rfl⟩
          rw [← hst] at e1
          rw [← hr] at e1
          have hlen2 : acc.length + (stopsOf p w (lastN q)).length ≤ lim := by
            have : (ext p w q).length = (stopsOf p w (lastN q)).length := by simp [ext]
            omega
          rw [List.map_append, hex]
          simp only [rowD, strsD] at e1 e2 ⊢
          simp [b__law_runs_4, hql, r1, r2, r3, plainAt, Slot.mutb, wipeE, e1, backE, e2, hlen2]
      rw [Nat.zero_add] at k2
      rw [List.take_of_length_le (Nat.le_refl _)] at k2
      refine ⟨[.d (tmplD ps), .d (strsD w), .d (.list ((rows.flatMap (ext p w)).map rowD)), .d p.d, .d (.list ((rows.flatMap (ext p w)).map rowD)), s5', s6', .un], ?_, nx, .d p.d, _, s5', s6', m5', rfl⟩
      subst k4
      rw [k2] at k1
      simp [b__law_runs_5, k1]
  subst e
  have hfin : rowsOf ps w [[0]] = ps.foldl (fun rows p => rows.flatMap (ext p w)) [[0]] := rfl
  rw [← hfin] at h1 h2
  have hrl : (rowsOf ps w [[0]]).length ≤ lim := by have := phi_len (ps.length - (0 + ps.length)) w.length (rowsOf ps w [[0]]); have := h2.2; omega
  have e3 := lc_if (ix := [5]) (bd := bName 5) (t := t__law_runs_6) (f := e__law_runs_7) (ρ := [Slot.d (tmplD ps), .d (strsD w), .d (.list ((rowsOf ps w [[0]]).map rowD)), s3, s4, .un, s6, .un]) rowD (fun r => decide (lastN r = w.length)) rowD (rowsOf ps w [[0]]) hrl fun q hq => by
    have hql := rowD_last (q := q) (by have := (h2.1 q hq).1; omega)
    by_cases hc : lastN q = w.length
    · have hc' : ((lastN q : Nat) : Int) = (w.length : Int) := by omega
      simp [lcStep, t__law_runs_6, e__law_runs_7, rowD, hql, strsD, hc, hc', wipeE]
    · have hc' : ¬ ((lastN q : Nat) : Int) = (w.length : Int) := by omega
      simp [lcStep, t__law_runs_6, e__law_runs_7, rowD, hql, strsD, hc, hc', wipeE]
  have hb : rowD [0] = .list [.int 0] := rfl
  unfold runsL
  rw [hb] at h1
  simp only [strsD, tmplD] at h1 e3 ⊢
  have pl : plainAt [Slot.d (.tuple (ps.map Part.d)), .d (.tuple (w.map .str)), .d (.list ((rowsOf ps w [[0]]).map rowD)), s3, s4, s5, s6, .un] [5] = true := by simp [plainAt, m5]
  simp [f__law_runs, fnD, runF, g__law_runs, h1, pl, wipeE, e3, backE]
end HD

set_option maxHeartbeats 4000000
/-! PL12: texts drawn. -/
namespace HD
open PySem PySem.Spec L2 DL
def lawWords : List Str := ["a", "b", "c", "get"]
def lawWordsV : D := .list [.str "a", .str "b", .str "c", .str "get"]
theorem lawWordsV_eq : lawWordsV = .list (lawWords.map .str) := rfl
theorem lawWord_is {w : Str} (h : w ∈ lawWords) : isWord w = true := by
  simp [lawWords] at h
  rcases h with rfl | rfl | rfl | rfl
  · exact w_a
  · exact w_b
  · exact w_c
  · exact w_get
/-- there is a word that no part bars -/
def Open (ps : List Part) : Prop := ∀ p ∈ ps, ("get" : Str) ∉ p.bars
theorem pick_strs (ns : List Int) (t : Nat) (xs : List Str) (hx : xs ≠ []) (ht : t < lim) : ∃ z ∈ xs, f__law_pick ns [.list (xs.map .str)] t = .ok (.str z, t + 1) := by
  obtain ⟨d, hd, e⟩ := pick_s ns t (xs.map .str) (by simpa using hx) ht
  obtain ⟨z, hz, rfl⟩ := List.mem_map.mp hd
  exact ⟨z, hz, e⟩
theorem all_snoc {w : List Str} {z : Str} (h : w.all isWord = true) (hz : isWord z = true) : (w ++ [z]).all isWord = true := by simp [h, hz]
theorem many_loop (ns : List Int) (P : D) (p : D) (m : Slot) (s8 : Slot) (fr : List Str) (hf : fr ≠ []) (hfw : ∀ z ∈ fr, isWord z = true) (n : Nat) (hn : n ≤ 4) (t : Nat) (ht : t + 10 < lim) (w : List Str) (hw : w.all isWord = true) (hl : w.length ≤ 1000) (s9 : Slot) :
    ∃ ρ', forD (bName 9) b__law_text_3 (rangeD 0 n) [Slot.s ns, .t t, .d P, .d lawWordsV, .d (strsD w), .d p, m, .d (.list (fr.map .str)), s8, s9] = .ok (.nx, ρ') ∧
    ∃ w2 t2 s9', ρ' = [Slot.s ns, .t t2, .d P, .d lawWordsV, .d (strsD w2), .d p, m, .d (.list (fr.map .str)), s8, s9'] ∧ w2.all isWord = true ∧ w2.length = w.length + n ∧ t2 = t + n := by
  have L := l3000
  obtain ⟨ρ', h1, w2, t2, s9', h2, h3, h4, h5⟩ := forD_nx (bd := bName 9) (g := b__law_text_3) (fun j ρ => ∃ w2 t2 s9', ρ = [Slot.s ns, .t t2, .d P, .d lawWordsV, .d (strsD w2), .d p, m, .d (.list (fr.map .str)), s8, s9'] ∧ w2.all isWord = true ∧ w2.length = w.length + j ∧ t2 = t + j)
    (rangeD 0 n) 0 _ ⟨w, t, s9, rfl, hw, rfl, rfl⟩ fun j x ρ hx ⟨w2, t2, s9', h2, h3, h4, h5⟩ => by
      obtain ⟨rfl, hj⟩ := rangeD_get hx
      subst h2
      obtain ⟨z, hz, ep⟩ := pick_strs ns t2 fr hf (by omega)
      have hl2 : w2.length + 1 ≤ lim := by omega
      refine ⟨_, [Slot.s ns, .t (t2 + 1), .d P, .d lawWordsV, .d (strsD (w2 ++ [z])), .d p, m, .d (.list (fr.map .str)), s8, .d (.int (0 + j))], rfl, ?_, w2 ++ [z], t2 + 1, _, rfl, all_snoc h3 (hfw z hz), by simp; omega, by omega⟩
      simp [b__law_text_3, ep, strsD, hl2]
  rw [rangeD_len] at h4 h5
  exact ⟨ρ', h1, w2, t2, s9', h2, h3, by omega, by omega⟩
theorem free_lc (ns : List Int) (t : Nat) (P : D) (wd : D) (p : D) (b : List Str) (m s7 s9 : Slot) (hp : oIx p (.int (-1)) = some (strsD b)) : lcD [8] (bName 8) t__law_text_1 e__law_text_2 (lawWords.map .str) [] [Slot.s ns, .t t, .d P, .d lawWordsV, .d wd, .d p, m, s7, .un, s9] = .ok ((lawWords.filter fun x => !b.contains x).map .str, [Slot.s ns, .t t, .d P, .d lawWordsV, .d wd, .d p, m, s7, .un, s9]) := by
  refine lc_if PyData.str (fun x => !b.contains x) PyData.str lawWords (by decide) fun x hx => ?_
  by_cases hc : x ∈ b <;> simp [lcStep, t__law_text_1, e__law_text_2, hp, oNotIn_strs, hc, wipeE]
theorem text_draw (ns : List Int) (t : Nat) {ps : List Part} (h : Tm ps) (ho : Open ps) (ht : t + 100 < lim) : ∃ w t', f__law_text ns [tmplD ps] t = .ok (strsD w, t') ∧ w.all isWord = true ∧ w.length ≤ 12 ∧ t ≤ t' ∧ t' ≤ t + 50 := by
  have L := l3000
  have h6 := h.len
  obtain ⟨ρ', h1, w2, t2, s5, s6, s7, s9, h2, h3, h4, h5, h6'⟩ := forD_nx (bd := bName 5) (g := b__law_text_4) (fun j ρ => ∃ w t2 s5 s6 s7 s9, ρ = [Slot.s ns, .t t2, .d (tmplD ps), .d lawWordsV, .d (strsD w), s5, s6, s7, .un, s9] ∧ w.all isWord = true ∧ w.length ≤ 4 * j ∧ t ≤ t2 ∧ t2 ≤ t + 6 * j)
    (ps.map Part.d) 0 [Slot.s ns, .t t, .d (tmplD ps), .d lawWordsV, .d (.tuple []), .un, .un, .un, .un, .un] ⟨[], t, .un, .un, .un, .un, rfl, rfl, by simp, by omega, by omega⟩ fun j x ρ hx ⟨w, t2, s5, s6, s7, s9, h2, h3, h4, h5, h7⟩ => by
      subst h2
      rw [List.getElem?_map] at hx
      cases hp : ps[j]? with
      | none => rw [hp] at hx; cases hx
      | some p =>
        rw [hp] at hx
        cases hx
        have hj := (List.getElem?_eq_some_iff.mp hp).1
        have hmem := List.mem_of_getElem? hp
        have hok := (List.all_eq_true.mp h.ok) p hmem
        have hopen := ho p hmem
        have hlow := tm_low h p hmem
        have hfree : ∀ b : List Str, ("get" : Str) ∉ b → (lawWords.filter fun x => !b.contains x) ≠ [] := fun b hb e => by
          have := List.filter_eq_nil_iff.mp e "get" (by simp [lawWords])
          simp [hb] at this
        have hfw : ∀ b : List Str, ∀ z ∈ lawWords.filter (fun x => !b.contains x), isWord z = true := fun b z hz => lawWord_is (List.mem_filter.mp hz).1
        have hwl : w.length + 1 ≤ lim := by omega
        cases p with
        | word x =>
          simp only [Part.ok] at hok
          refine ⟨_, [Slot.s ns, .t t2, .d (tmplD ps), .d lawWordsV, .d (strsD (w ++ [x])), .d (Part.word x).d, s6, s7, .un, s9], rfl, ?_, w ++ [x], t2, _, _, _, _, rfl, all_snoc h3 hok, by simp; omega, by omega, by omega⟩
          simp [b__law_text_4, Part.d, strsD, hwl]
        | one g b =>
          obtain ⟨ρ', k1, w3, t3, s9', k2, k3, k4, k5⟩ := many_loop ns (tmplD ps) (Part.one g b).d (.d (.int 1)) .un (lawWords.filter fun x => !b.contains x) (hfree b hopen) (hfw b) 1 (by omega) t2 (by omega) w h3 (by omega) s9
          subst k2
          refine ⟨_, [Slot.s ns, .t t3, .d (tmplD ps), .d lawWordsV, .d (strsD w3), .d (Part.one g b).d, .d (.int 1), .d (.list ((lawWords.filter fun x => !b.contains x).map .str)), .un, s9'], rfl, ?_, w3, t3, _, _, _, _, rfl, k3, by omega, by omega, by omega⟩
          have e1 := free_lc ns t2 (tmplD ps) (strsD w) (Part.one g b).d b (.d (.int 1)) s7 s9 rfl
          have r1 : rangeOk (1 : Int) = true := rangeOk_of (by omega) (by omega)
          rw [show lawWords.map PyData.str = [.str "a", .str "b", .str "c", .str "get"] from rfl] at e1
          generalize (lawWords.filter fun x => !b.contains x) = fr at e1 k1 ⊢
          simp only [Part.d, lawWordsV] at e1 k1 ⊢
          simp [b__law_text_4, Slot.mutb, plainAt, wipeE, e1, backE, r1, k1]
        | some g n b =>
          obtain ⟨hn0, hn2⟩ := hlow
          obtain ⟨r, er, hr⟩ := drawn_nat ns t2 (m := 3) (by omega)
          have d1 := draw_s ns t2 3 (by omega) (by omega)
          have er' : drawn ns t2 3 = (r : Int) := er
          rw [er'] at d1
          obtain ⟨m, hm⟩ : ∃ m : Nat, n + r = (m : Int) := ⟨(n + r).toNat, by omega⟩
          obtain ⟨ρ', k1, w3, t3, s9', k2, k3, k4, k5⟩ := many_loop ns (tmplD ps) (Part.some g n b).d (.d (.int m)) .un (lawWords.filter fun x => !b.contains x) (hfree b hopen) (hfw b) m (by omega) (t2 + 1) (by omega) w h3 (by omega) s9
          subst k2
          refine ⟨_, [Slot.s ns, .t t3, .d (tmplD ps), .d lawWordsV, .d (strsD w3), .d (Part.some g n b).d, .d (.int m), .d (.list ((lawWords.filter fun x => !b.contains x).map .str)), .un, s9'], rfl, ?_, w3, t3, _, _, _, _, rfl, k3, by omega, by omega, by omega⟩
          have e1 := free_lc ns (t2 + 1) (tmplD ps) (strsD w) (Part.some g n b).d b (.d (.int m)) s7 s9 rfl
          have r1 : rangeOk (m : Int) = true := rangeOk_of (by omega) (by omega)
          rw [show lawWords.map PyData.str = [.str "a", .str "b", .str "c", .str "get"] from rfl] at e1
          generalize (lawWords.filter fun x => !b.contains x) = fr at e1 k1 ⊢
          simp only [Part.d, lawWordsV] at e1 k1 ⊢
          simp [b__law_text_4, d1, hm, Slot.mutb, plainAt, wipeE, e1, backE, r1, k1]
  rw [List.length_map] at h4 h6'
  subst h2
  have d1 := draw_s ns t2 4 (by omega) (by omega)
  have hwl : w2.length + 1 ≤ lim := by omega
  have fin : ∀ (w : List Str), w.all isWord = true → (w.take 12).all isWord = true ∧ (w.take 12).length ≤ 12 := fun w hw => ⟨List.all_eq_true.mpr fun x hx => List.all_eq_true.mp hw x (List.mem_of_mem_take hx), by rw [List.length_take]; omega⟩
  have cut12 : ∀ (w : List Str), cutD (w.map PyData.str) none (some 12) = (w.take 12).map .str := fun w => by
    unfold cutD
    rw [show HT.sIx (w.map PyData.str).length 0 none = 0 from rfl, show (some (12 : Int)) = some ((12 : Nat) : Int) from rfl, HT.sIx_nat, List.length_map, List.drop_zero, Nat.sub_zero, List.map_take]
    by_cases h : w.length ≤ 12
    · rw [show min 12 w.length = w.length by omega, List.take_of_length_le (by simp), List.take_of_length_le (by simpa using h)]
    · rw [show min 12 w.length = 12 by omega]
  by_cases h0 : drawn ns t2 4 = 0
  · obtain ⟨z, hz, ep⟩ := pick_strs ns (t2 + 1) lawWords (by decide) (by omega)
    have hw3 := all_snoc h3 (lawWord_is hz)
    refine ⟨(w2 ++ [z]).take 12, t2 + 2, ?_, (fin _ hw3).1, (fin _ hw3).2, by omega, by omega⟩
    have c := cut12 (w2 ++ [z])
    rw [List.map_append] at c
    rw [h0] at d1
    rw [show lawWords.map PyData.str = [.str "a", .str "b", .str "c", .str "get"] from rfl] at ep
    simp only [lawWordsV, strsD, tmplD] at h1 ⊢
    simp [f__law_text, fnT, runF, g__law_text, h1, d1, ep, hwl]
    simpa using c
  · refine ⟨w2.take 12, t2 + 1, ?_, (fin _ h3).1, (fin _ h3).2, by omega, by omega⟩
    have c := cut12 w2
    simp only [lawWordsV, strsD, tmplD] at h1 ⊢
    simp [f__law_text, fnT, runF, g__law_text, h1, d1, h0, hwl]
    simpa using c
end HD

set_option maxHeartbeats 4000000
/-! PL13: small things that many laws need. -/
namespace HD
open PySem PySem.Spec L2 DL
theorem from_end_s {ps : List Part} (h : Tm ps) : f_from_the_end [tmplD ps] = .ok (tmplD ps.reverse) := by
  have e := need_s h
  simp only [tmplD] at e ⊢
  simp [f_from_the_end, fnD, runF, g_from_the_end, e, oRev]
theorem drawn_in {ps : List Part} (h : Drawn ps) : ∀ g ∈ gapsOf ps, g ∈ gapNames := fun g hg => by
  obtain ⟨_, h2⟩ := drawn_gaps ps 0 fun j p hp hq => by rw [Nat.zero_add]; exact drawn_name h hp hq
  obtain ⟨j, _, hj⟩ := h2 g hg
  exact List.mem_of_getElem? hj
theorem nodup_map_on {α β : Type} (f : α → β) : ∀ (l : List α), l.Nodup → (∀ x ∈ l, ∀ y ∈ l, f x = f y → x = y) → (l.map f).Nodup
  | [], _, _ => .nil
  | x :: l, h, k => by
    have h' := List.nodup_cons.mp h
    rw [List.map_cons, List.nodup_cons]
    refine ⟨fun hm => ?_, nodup_map_on f l h'.2 fun a ha b hb => k a (List.mem_cons_of_mem _ ha) b (List.mem_cons_of_mem _ hb)⟩
    obtain ⟨y, hy, e⟩ := List.mem_map.mp hm
    have := k y (List.mem_cons_of_mem _ hy) x List.mem_cons_self e
    rw [this] at hy
    exact h'.1 hy
theorem mem_gap {ps : List Part} {p : Part} (h : p ∈ ps) (hg : p.isGap = true) : p.name ∈ gapsOf ps := List.mem_map.mpr ⟨p, List.mem_filter.mpr ⟨h, hg⟩, rfl⟩
theorem barOk_open {b : List Str} (h : BarOk b) : ("get" : Str) ∉ b := fun hm => by
  obtain ⟨zs, rfl, _, hz⟩ := h
  have := hz _ (mem_sortS.mp hm)
  exact absurd this (by decide +kernel)
theorem drawn_open {ps : List Part} (h : Drawn ps) : Open ps := fun p hp => by
  obtain ⟨j, hj⟩ := List.getElem?_of_mem hp
  have := h j p hj
  cases p with
  | word w => simp [Part.bars]
  | one g b => exact barOk_open this.2
  | some g n b => exact barOk_open this.2.2
theorem take6 (w : List Str) : cutD (w.map PyData.str) none (some 6) = (w.take 6).map .str := by
  unfold cutD
  rw [show HT.sIx (w.map PyData.str).length 0 none = 0 from rfl, show (some (6 : Int)) = some ((6 : Nat) : Int) from rfl, HT.sIx_nat, List.length_map, List.drop_zero, Nat.sub_zero, List.map_take]
  by_cases h : w.length ≤ 6
  · rw [show min 6 w.length = w.length by omega, List.take_of_length_le (by simp), List.take_of_length_le (by simpa using h)]
  · rw [show min 6 w.length = 6 by omega]
theorem all_take {w : List Str} (n : Nat) (h : w.all isWord = true) : (w.take n).all isWord = true := List.all_eq_true.mpr fun x hx => List.all_eq_true.mp h x (List.mem_of_mem_take hx)
theorem refD_eq (i : Int) : oEq (refD i) (.tuple [.str "refused", .int i]) = some (.bool true) := oEq_same (d := refD i) rfl (by show _ ≤ 64; simp [refD, PyData.depth, PyData.depthAll])
theorem oNe_tmpl (a b : List Part) (h : a = b) : oNe (tmplD a) (tmplD b) = some (.bool false) := by
  subst h
  exact oNe_same (plain_tmpl a) (Nat.le_trans (depth_tmpl a) (by decide))
theorem cut_takeN (w : List D) (n : Nat) : cutD w none (some (n : Int)) = w.take n := by
  unfold cutD
  rw [show HT.sIx w.length 0 none = 0 from rfl, HT.sIx_nat, List.drop_zero, Nat.sub_zero]
  by_cases h : w.length ≤ n
  · rw [show min n w.length = w.length by omega, List.take_of_length_le (by simp), List.take_of_length_le (by simpa using h)]
  · rw [show min n w.length = n by omega]
end HD

namespace HD
open PySem PySem.Spec L2 DL
noncomputable def g_need_words : S :=
    (sIf (mOrB (mNotB (mBool (mDef 1 f_are_words (mCons (mV 0) mNil)))) (mOrB (mNotB (mBool (mChain oLe oLe (mC (.int 1)) (mCall oLen (mCons (mV 0) mNil)) (mC (.int 5))))) (mBool (m2 oNe (mCall oList (mCons (mV 0) mNil)) (m1 oSortSet (mV 0)))))) (sRaise "NoWord") sNil)
noncomputable def f_need_words := fnD 1 g_need_words

noncomputable def g_need_long : S :=
    (sIf (mNotB (mBool (mDef 3 f_is_whole (mCons (mV 0) (mCons (mC (.int 0)) (mCons (mV 1) mNil)))))) (sRaise "NoNumber") sNil)
noncomputable def f_need_long := fnD 2 g_need_long

noncomputable def b_how_many_1 : S :=
    (sSeq (sSet 8 (mDef 3 f_stands_behind (mCons (mV 0) (mCons (mV 6) (mCons (mV 7) mNil)))))
    (sPutM 5 (mV 8) (m2 oAdd (mGetM 5 (mV 8) (mC (.int 0))) (mIxM 3 (mV 6)))))
noncomputable def b_how_many_2 : S :=
    (sFor (mItems (mV 1)) (bName 7) b_how_many_1)
noncomputable def b_how_many_3 : S :=
    (sSeq (sOwnM 5 mMNil)
    (sSeq (sFor (mKeysW 3) (bName 6) b_how_many_2)
    (sMoveM 3 5)))
noncomputable def e_how_many_4 : M D :=
    (mDef 2 f_end_now (mCons (mV 0) (mCons (mV 10) mNil)))
noncomputable def t_how_many_5 : M Bool :=
    (mBool (mCall oAny (mCons (mFr (mLc [10] (mItems (mV 6)) (bName 10) mYes e_how_many_4)) mNil)))
noncomputable def e_how_many_6 : M D :=
    (mV 6)
noncomputable def e_how_many_7 : M D :=
    (mIxM 3 (mV 6))
noncomputable def g_how_many : S :=
    (sSeq (sDrop (mDef 1 f_need_template (mCons (mV 0) mNil)))
    (sSeq (sDrop (mDef 1 f_need_words (mCons (mV 1) mNil)))
    (sSeq (sDrop (mDef 2 f_need_long (mCons (mV 2) (mCons (mC (.int 10)) mNil))))
    (sSeq (sOwnM 3 (mMOne (mTup (mCons (mC (.tuple ([(-1), (0)].map .int))) mNil)) (mC (.int 1))))
    (sSeq (sFor (mRange1 (mV 2)) (bName 4) b_how_many_3)
    (sSeq (sSet 9 (mFr (mLc [6] (mKeysW 3) (bName 6) t_how_many_5 e_how_many_6)))
    (sRet (mCall oSum (mCons (mFr (mLc [6] (mItems (mV 9)) (bName 6) mYes e_how_many_7)) mNil)))))))))
noncomputable def f_how_many := fnD 11 g_how_many

noncomputable def e_texts_of_1 : M D :=
    (mTup (mCons (m2 oAdd (mV 6) (mTup (mCons (mV 8) mNil))) (mCons (mDef 3 f_stands_behind (mCons (mV 0) (mCons (mV 7) (mCons (mV 8) mNil)))) mNil)))
noncomputable def b_texts_of_2 : S :=
    (sDrop (mExtend 5 (mFr (mLc [8] (mItems (mV 1)) (bName 8) mYes e_texts_of_1))))
noncomputable def b_texts_of_3 : S :=
    (sSeq (sOwn 5 (mLst mNil))
    (sSeq (sFor (mItems (mV 3)) (bTup 2 (bCons (bName 6) (bCons (bName 7) bNil))) b_texts_of_2)
    (sSet 3 (mV 5))))
noncomputable def e_texts_of_4 : M D :=
    (mDef 2 f_end_now (mCons (mV 0) (mCons (mV 9) mNil)))
noncomputable def t_texts_of_5 : M Bool :=
    (mBool (mCall oAny (mCons (mFr (mLc [9] (mItems (mV 7)) (bName 9) mYes e_texts_of_4)) mNil)))
noncomputable def e_texts_of_6 : M D :=
    (mV 6)
noncomputable def g_texts_of : S :=
    (sSeq (sDrop (mDef 1 f_need_template (mCons (mV 0) mNil)))
    (sSeq (sDrop (mDef 1 f_need_words (mCons (mV 1) mNil)))
    (sSeq (sDrop (mDef 2 f_need_long (mCons (mV 2) (mCons (mC (.int 4)) mNil))))
    (sSeq (sSet 3 (mFr (mLst (mCons (mTup (mCons (mTup mNil) (mCons (mTup (mCons (mC (.tuple ([(-1), (0)].map .int))) mNil)) mNil))) mNil))))
    (sSeq (sFor (mRange1 (mV 2)) (bName 4) b_texts_of_3)
    (sRet (mFr (mLc [6, 7] (mItems (mV 3)) (bTup 2 (bCons (bName 6) (bCons (bName 7) bNil))) t_texts_of_5 e_texts_of_6))))))))
noncomputable def f_texts_of := fnD 10 g_texts_of

noncomputable def t_lengths_1 : M Bool :=
    (mBool (m2 oGt (mDef 3 f_how_many (mCons (mV 0) (mCons (mV 1) (mCons (mV 2) mNil)))) (mC (.int 0))))
noncomputable def e_lengths_2 : M D :=
    (mV 2)
noncomputable def g_lengths : S :=
    (sSeq (sDrop (mDef 1 f_need_template (mCons (mV 0) mNil)))
    (sSeq (sDrop (mDef 1 f_need_words (mCons (mV 1) mNil)))
    (sRet (mFr (mLc [2] (mRange1 (m2 oAdd (mC (.int 10)) (mC (.int 1)))) (bName 2) t_lengths_1 e_lengths_2)))))
noncomputable def f_lengths := fnD 3 g_lengths

end HD

namespace HD
open PySem PySem.Spec L2 DL
noncomputable def b_bounds_1 : S :=
    (sSeq (sSet 1 (m2 oAdd (mV 1) (mIf (mBool (m2 oEq (m2 oIx (mV 3) (mC (.int 0))) (mC (.str "some")))) (m2 oIx (mV 3) (mC (.int 2))) (mC (.int 1)))))
    (sSet 2 (mOr (mV 2) (m2 oEq (m2 oIx (mV 3) (mC (.int 0))) (mC (.str "some"))))))
noncomputable def g_bounds : S :=
    (sSeq (sDrop (mDef 1 f_need_template (mCons (mV 0) mNil)))
    (sSeq (sSet 1 (mC (.int 0)))
    (sSeq (sSet 2 (mC (.bool false)))
    (sSeq (sFor (mItems (mV 0)) (bName 3) b_bounds_1)
    (sRet (mTup (mCons (mV 1) (mCons (mIf (mBool (mV 2)) (mC .none) (mV 1)) mNil))))))))
noncomputable def f_bounds := fnD 4 g_bounds

end HD

set_option maxHeartbeats 4000000
/-! PL14: how many texts: what the defs tell. -/
namespace DL
open PySem PySem.Spec L2
section
variable {α : Type} [DecidableEq α] {enc : α → D}
def getA {β : Type} (ts : List (α × β)) (a : α) : Option β := (ts.find? fun p => decide (p.1 = a)).map (·.2)
def putA {β : Type} (ts : List (α × β)) (a : α) (v : β) : List (α × β) := if a ∈ ts.map (·.1) then ts.map (fun p => if p.1 = a then (p.1, v) else p) else ts ++ [(a, v)]
def tabD (enc : α → D) (ts : List (α × Int)) : List (D × D) := ts.map fun p => (enc p.1, .int p.2)
@[simp] theorem tabD_len (ts : List (α × Int)) : (tabD enc ts).length = ts.length := by simp [tabD]
theorem tabD_keys (ts : List (α × Int)) : (tabD enc ts).map (·.1) = ts.map fun p => enc p.1 := by simp [tabD, List.map_map, Function.comp_def]
theorem getA_isSome {β : Type} (ts : List (α × β)) (a : α) : (getA ts a).isSome = decide (a ∈ ts.map (·.1)) := by
  induction ts with
  | nil => rfl
  | cons p ts ih =>
    unfold getA at ih ⊢
    rw [List.find?_cons]
    by_cases h : p.1 = a
    · simp [h]
    · have h' : ¬ a = p.1 := fun z => h z.symm
      simp only [h, decide_false, List.map_cons, List.mem_cons, h', false_or]
      exact ih
theorem tabD_get (E : Enc enc) (ts : List (α × Int)) (a : α) : mapGet (tabD enc ts) (enc a) = (getA ts a).map .int := by
  induction ts with
  | nil => rfl
  | cons p ts ih =>
    unfold mapGet getA tabD at ih ⊢
    rw [List.map_cons, List.find?_cons, List.find?_cons]
    simp only [E.eqv]
    by_cases h : p.1 = a
    · simp [h]
    · simp only [h, decide_false]
      exact ih
theorem tabD_put (E : Enc enc) (ts : List (α × Int)) (a : α) (v : Int) : mapPut (tabD enc ts) (enc a) (.int v) = tabD enc (putA ts a v) := by
  unfold mapPut putA
  rw [tabD_get E, Option.isSome_map, getA_isSome]
  by_cases h : a ∈ ts.map (·.1)
  · rw [if_pos (by simpa using h), if_pos h]
    unfold tabD
    rw [List.map_map, List.map_map]
    apply List.map_congr_left
    intro b hb
    simp only [Function.comp, E.eqv, decide_eq_true_eq]
    by_cases hb : b.1 = a <;> simp [hb]
  · rw [if_neg (by simpa using h), if_neg h]
    simp [tabD]
theorem putA_keys {β : Type} (ts : List (α × β)) (a : α) (v : β) : (putA ts a v).map (·.1) = addK (ts.map (·.1)) a := by
  unfold putA addK
  split
  · rw [List.map_map]
    apply List.map_congr_left
    intro b _
    simp only [Function.comp]
    split <;> rfl
  · simp
theorem getA_of_mem {β : Type} : ∀ {ts : List (α × β)}, (ts.map (·.1)).Nodup → ∀ p ∈ ts, getA ts p.1 = some p.2
  | [], _, p, h => by simp at h
  | q :: ts, hn, p, h => by
    rw [List.map_cons, List.nodup_cons] at hn
    unfold getA
    rw [List.find?_cons]
    rcases List.mem_cons.mp h with rfl | h
    · simp
    · have hne : ¬ q.1 = p.1 := fun e => hn.1 (by rw [e]; exact List.mem_map_of_mem h)
      simp only [hne, decide_false]
      exact getA_of_mem hn.2 p h
/-- what the keys with P bear, together -/
def tot (P : α → Bool) : List (α × Int) → Int
  | [] => 0
  | p :: ts => (if P p.1 = true then p.2 else 0) + tot P ts
theorem tot_append (P : α → Bool) : ∀ a b : List (α × Int), tot P (a ++ b) = tot P a + tot P b
  | [], b => by simp [tot]
  | p :: a, b => by rw [List.cons_append, tot, tot, tot_append P a b]; omega
theorem tot_put (P : α → Bool) : ∀ (ts : List (α × Int)), (ts.map (·.1)).Nodup → ∀ (a : α) (c : Int), tot P (putA ts a ((getA ts a).getD 0 + c)) = tot P ts + if P a = true then c else 0
  | ts, hn, a, c => by
    unfold putA
    split
    · rename_i hm
      induction ts with
      | nil => simp at hm
      | cons p ts ih =>
        rw [List.map_cons, List.nodup_cons] at hn
        by_cases h : p.1 = a
        · have hg : getA (p :: ts) a = some p.2 := by simp [getA, h]
          rw [hg]
          have hrest : ts.map (fun q => if q.1 = a then (q.1, p.2 + c) else q) = ts := by
            conv => rhs; rw [← List.map_id ts]
            apply List.map_congr_left
            intro q hq
            have : ¬ q.1 = a := fun e => hn.1 (by rw [h, ← e]; exact List.mem_map_of_mem hq)
            simp [this]
          simp only [Option.getD_some, List.map_cons, h, if_true, tot]
          rw [hrest]
          split <;> omega
        · have hg : getA (p :: ts) a = getA ts a := by simp [getA, h]
          have hm' : a ∈ ts.map (·.1) := by
            rw [List.map_cons] at hm
            rcases List.mem_cons.mp hm with e | hm
            · exact absurd e.symm h
            · exact hm
          rw [hg]
          simp only [List.map_cons, h, if_false, tot]
          rw [ih hn.2 hm']
          omega
    · rename_i hm
      have hg : getA ts a = none := by
        have := getA_isSome ts a
        rw [decide_eq_false hm] at this
        simpa using this
      rw [hg, tot_append]
      simp [tot]
theorem tot_filter (P : α → Bool) : ∀ ts : List (α × Int), tot P ts = ((ts.filter fun p => P p.1).map (·.2)).sum
  | [] => rfl
  | p :: ts => by
    rw [tot, tot_filter P ts, List.filter_cons]
    split <;> simp
theorem tot_count {β : Type} (P : α → Bool) (f : β → α) : ∀ l : List β, tot P (l.map fun t => (f t, 1)) = (l.countP fun t => P (f t) : Nat)
  | [] => rfl
  | x :: l => by
    rw [List.map_cons, tot, tot_count P f l, List.countP_cons]
    split <;> simp <;> omega
/-- over things and words in turn -/
def totW {β : Type} (P : α → Bool) (g : α → β → α) (ws : List β) : List (α × Int) → Int
  | [] => 0
  | p :: ts => p.2 * (ws.countP fun x => P (g p.1 x) : Nat) + totW P g ws ts
theorem totW_swap {β : Type} (P : α → Bool) (g : α → β → α) (ws : List β) : ∀ ts : List (α × Int), totW P g ws ts = (ws.map fun x => tot (fun a => P (g a x)) ts).sum
  | [] => by
    rw [totW]
    induction ws with
    | nil => rfl
    | cons x ws ih => rw [List.map_cons, List.sum_cons, ← ih]; rfl
  | p :: ts => by
    rw [totW, totW_swap P g ws ts]
    induction ws with
    | nil => simp
    | cons x ws ih =>
      rw [List.map_cons, List.sum_cons, List.map_cons, List.sum_cons, List.countP_cons, ← ih, tot]
      by_cases hP : P (g p.1 x) = true
      · simp only [hP, if_true]
        push_cast
        rw [Int.mul_add]
        omega
      · simp only [hP]
        push_cast
        simp
        omega
end
end DL
namespace HD
open PySem PySem.Spec L2 DL
structure WsOk (ws : List Str) : Prop where
  ok : ws.all isWord = true
  few : 1 ≤ ws.length ∧ ws.length ≤ 5
  rise : sortS ws = ws
theorem plain_strsL (b : List Str) : (PyData.list (b.map .str)).plain = true := by simp [PyData.plain, plain_strs]
theorem needWords_s {ws : List Str} (h : WsOk ws) : f_need_words [strsD ws] = .ok .none := by
  obtain ⟨h1, h2⟩ := h.few
  have e := words_s ws (fun x hx => word_small (List.all_eq_true.mp h.ok x hx)) (by have := lm5; omega)
  rw [h.ok] at e
  have e2 := sortSet_tup ws (by omega)
  rw [h.rise] at e2
  have e3 : oNe (.list (ws.map .str)) (.list (ws.map .str)) = some (.bool false) := oNe_same (plain_strsL ws) (by simp [PyData.depth, depth_strs])
  have i1 : (1 : Int) ≤ ws.length := by omega
  have i2 : (ws.length : Int) ≤ 5 := by omega
  simp only [strsD] at e ⊢
  simp [f_need_words, fnD, runF, g_need_words, e, e2, e3, i1, i2]
theorem needLong_s {n m : Nat} (h : n ≤ m) : f_need_long [.int (n : Nat), .int (m : Nat)] = .ok .none := by
  have i0 : (0 : Int) ≤ (n : Int) := by omega
  have i1 : (n : Int) ≤ (m : Int) := by omega
  simp [f_need_long, fnD, runF, g_need_long, f_is_whole, g_is_whole, i0, i1]
/-! ### all texts of so many words -/
def every (ws : List Str) : Nat → List (List Str)
  | 0 => [[]]
  | n + 1 => (every ws n).flatMap fun t => ws.map fun x => t ++ [x]
theorem every_len {ws : List Str} (h : ws.length ≤ 5) : ∀ n, (every ws n).length ≤ 5 ^ n
  | 0 => Nat.le_refl _
  | n + 1 => by
    have ih := every_len h n
    have : ∀ l : List (List Str), (l.flatMap fun t => ws.map fun x => t ++ [x]).length = l.length * ws.length := fun l => by
      induction l with
      | nil => simp
      | cons t l ih => rw [List.flatMap_cons, List.length_append, ih, List.length_map, List.length_cons, Nat.succ_mul, Nat.add_comm]
    rw [every, this, Nat.pow_succ]
    exact Nat.mul_le_mul ih h
theorem every_mem {ws : List Str} : ∀ {n : Nat} {t : List Str}, t ∈ every ws n → t.length = n ∧ ∀ x ∈ t, x ∈ ws
  | 0, t, h => by simp [every] at h; subst h; simp
  | n + 1, t, h => by
    simp only [every, List.mem_flatMap, List.mem_map] at h
    obtain ⟨u, hu, x, hx, rfl⟩ := h
    obtain ⟨h1, h2⟩ := every_mem hu
    refine ⟨by simp [h1], fun y hy => ?_⟩
    rcases List.mem_append.mp hy with hy | hy
    · exact h2 y hy
    · simp at hy; subst hy; exact hx
theorem stands_snoc (ps : List Part) (t : List Str) (x : Str) : stands ps (t ++ [x]) = behind ps (stands ps t) x := by simp [stands]
def setD (ss : List Std) : D := .tuple (ss.map stD)
theorem any_end {ps : List Part} (hl : ps.length ≤ lim) {ss : List Std} (hs : StOk ps ss) (i : Nat) (f : M D) (hf : f = mDef 2 f_end_now (mCons (mV 0) (mCons (mV i) mNil))) (ρ : DL.Env) (h0 : ρ[0]? = some (.d (tmplD ps))) (hi : i < ρ.length) (hi0 : i ≠ 0) (hw : wipeE ρ [i] = ρ) : lcD [i] (bName i) mYes f (ss.map stD) [] ρ = .ok (ss.map fun s => .bool (endNow ps s), ρ) := by
  subst hf
  have hw' : ρ.set i .un = ρ := hw
  refine lc_all stD (fun s => .bool (endNow ps s)) ss (by have := hs.1; have := l8000; omega) fun s hm => ?_
  have e := end_s (hs.2 s hm) hl
  have e0 : (ρ.set i (.d (stD s)))[0]? = some (.d (tmplD ps)) := by rw [List.getElem?_set_ne hi0]; exact h0
  have e1 : (ρ.set i (.d (stD s)))[i]? = some (.d (stD s)) := List.getElem?_set_self hi
  simp [lcStep, e0, e1, e, wipeE, hw']
def pairT (ps : List Part) (t : List Str) : D := .tuple [strsD t, setD (stands ps t)]
theorem stands_stOk {ps : List Part} (h : Tm ps) (t : List Str) : StOk ps (stands ps t) := stands_ok h t _ (begin_ok ps)
theorem texts_s {ps : List Part} (h : Tm ps) {ws : List Str} (hw : WsOk ws) {n : Nat} (hn : n ≤ 4) : f_texts_of [tmplD ps, strsD ws, .int (n : Nat)] = .ok (.list (((every ws n).filter (hasB ps)).map strsD)) := by
  have L := l8000
  have h6 := h.len
  have hl : ps.length ≤ lim := by omega
  obtain ⟨hw1, hw5⟩ := hw.few
  have b4 : ∀ j, j ≤ 4 → (every ws j).length ≤ 625 := fun j hj => Nat.le_trans (every_len hw5 j) (Nat.le_trans (Nat.pow_le_pow_right (by decide) hj) (by decide))
  obtain ⟨ρ', h1, h2, s4, s5, s6, s7, m6, m7, e⟩ := for_s (bd := bName 4) (g := b_texts_of_3) (fun j : Nat => PyData.int (j : Nat)) (fun j (ts : List (List Str)) ρ => ts = every ws j ∧ ∃ s4 s5 s6 s7, s6.mutb = false ∧ s7.mutb = false ∧ ρ = [.d (tmplD ps), .d (strsD ws), .d (.int (n : Nat)), .d (.list (ts.map (pairT ps))), s4, s5, s6, s7, .un, .un])
    (fun ts _ => ts.flatMap fun t => ws.map fun x => t ++ [x]) (List.range n) 0 [[]] [.d (tmplD ps), .d (strsD ws), .d (.int (n : Nat)), .d (.list [pairT ps []]), .un, .un, .un, .un, .un, .un] ⟨rfl, .un, .un, .un, .un, rfl, rfl, rfl⟩ fun j k ts ρ hj ⟨q1, s4, s5, s6, s7, m6, m7, hρ⟩ => by
      subst hρ
      rw [Nat.zero_add] at q1 ⊢
      have hjn : j < n := by simpa using (List.getElem?_eq_some_iff.mp hj).1
      have hb := b4 j (by omega)
      rw [← q1] at hb
      obtain ⟨ρ', k1, k2, k3, s6', s7', m6', m7', k4⟩ := for_s (bd := bTup 2 (bCons (bName 6) (bCons (bName 7) bNil))) (g := b_texts_of_2) (pairT ps) (fun i (acc : List (List Str)) ρ => acc.length ≤ 5 * i ∧ True ∧ ∃ s6 s7, s6.mutb = false ∧ s7.mutb = false ∧ ρ = [.d (tmplD ps), .d (strsD ws), .d (.int (n : Nat)), .d (.list (ts.map (pairT ps))), .d (.int (k : Nat)), .l (acc.map (pairT ps)), s6, s7, .un, .un])
        (fun acc t => acc ++ ws.map fun x => t ++ [x]) ts 0 [] [.d (tmplD ps), .d (strsD ws), .d (.int (n : Nat)), .d (.list (ts.map (pairT ps))), .d (.int (k : Nat)), .l [], s6, s7, .un, .un] ⟨by simp, trivial, s6, s7, m6, m7, rfl⟩ fun i t acc ρ hi ⟨q1', _, s6, s7, m6, m7, hρ⟩ => by
          subst hρ
          rw [Nat.zero_add] at q1' ⊢
          have hil := (List.getElem?_eq_some_iff.mp hi).1
          have ht := List.mem_of_getElem? hi
          rw [q1] at ht
          have htl := (every_mem ht).1
          have e2 := lc_all (ix := [8]) (bd := bName 8) (t := mYes) (f := e_texts_of_1) (ρ := [Slot.d (tmplD ps), .d (strsD ws), .d (.int (n : Nat)), .d (.list (ts.map (pairT ps))), .d (.int (k : Nat)), .l (acc.map (pairT ps)), .d (strsD t), .d (setD (stands ps t)), .un, .un]) PyData.str (fun x => pairT ps (t ++ [x])) ws (by omega) fun x hx => by
            have e3 := behind_s h (stands_stOk h t) x
            have htl2 : t.length + 1 ≤ lim := by omega
            simp only [setD, strsD] at e3 ⊢
            simp [lcStep, e_texts_of_1, htl2, e3, pairT, strsD, setD, stands_snoc, wipeE]
          have hacc : acc.length + ws.length ≤ lim := by omega
          refine ⟨[.d (tmplD ps), .d (strsD ws), .d (.int (n : Nat)), .d (.list (ts.map (pairT ps))), .d (.int (k : Nat)), .l ((acc ++ ws.map fun x => t ++ [x]).map (pairT ps)), .d (strsD t), .d (setD (stands ps t)), .un, .un], ?_, by simp; omega, trivial, _, _, rfl, rfl, rfl⟩
          have hpt : pairT ps t = .tuple [strsD t, setD (stands ps t)] := rfl
          rw [hpt]
          rw [List.map_append, List.map_map]
          simp only [strsD] at e2 ⊢
          simp [b_texts_of_2, Slot.mutb, plainAt, wipeE, e2, backE, hacc, Function.comp_def]
      have hfold : ∀ (l acc : List (List Str)), l.foldl (fun acc t => acc ++ ws.map fun x => t ++ [x]) acc = acc ++ l.flatMap fun t => ws.map fun x => t ++ [x] := by
        intro l
        induction l with
        | nil => intro acc; simp
        | cons t l ih => intro acc; rw [List.foldl_cons, ih, List.flatMap_cons, List.append_assoc]
      rw [hfold, List.nil_append] at k4
      subst k4
      refine ⟨[.d (tmplD ps), .d (strsD ws), .d (.int (n : Nat)), .d (.list ((ts.flatMap fun t => ws.map fun x => t ++ [x]).map (pairT ps))), .d (.int (k : Nat)), .d (.list ((ts.flatMap fun t => ws.map fun x => t ++ [x]).map (pairT ps))), s6', s7', .un, .un], ?_, by rw [q1]; rfl, _, _, s6', s7', m6', m7', rfl⟩
      simp [b_texts_of_3, k1]
  rw [Nat.zero_add, List.length_range] at h2
  rw [h2] at e
  subst e
  have hb := b4 n hn
  have e3 := lc_if (ix := [6, 7]) (bd := bTup 2 (bCons (bName 6) (bCons (bName 7) bNil))) (t := t_texts_of_5) (f := e_texts_of_6) (ρ := [Slot.d (tmplD ps), .d (strsD ws), .d (.int (n : Nat)), .d (.list ((every ws n).map (pairT ps))), s4, s5, .un, .un, .un, .un]) (pairT ps) (hasB ps) strsD (every ws n) (by omega) fun t ht => by
    have e4 := any_end hl (stands_stOk h t) 9 e_texts_of_4 rfl [Slot.d (tmplD ps), .d (strsD ws), .d (.int (n : Nat)), .d (.list ((every ws n).map (pairT ps))), s4, s5, .d (strsD t), .d (setD (stands ps t)), .un, .un] rfl (by simp) (by simp) rfl
    have hB : hasB ps t = (stands ps t).any (endNow ps) := rfl
    simp only [setD, pairT] at e4 ⊢
    cases hc : hasB ps t with
    | false =>
      rw [hB] at hc
      simp [lcStep, t_texts_of_5, Slot.mutb, plainAt, wipeE, e4, backE, List.any_map, hc]
    | true =>
      rw [hB] at hc
      simp [lcStep, t_texts_of_5, e_texts_of_6, Slot.mutb, plainAt, wipeE, e4, backE, List.any_map, hc]
  have e5 := need_s h
  have e6 := needWords_s hw
  have e7 := needLong_s (n := n) (m := 4) hn
  have e7 : f_need_long [.int (n : Nat), .int 4] = .ok .none := e7
  have r1 : rangeOk (n : Int) = true := rangeOk_of (by omega) (by omega)
  have hr : rangeD 0 n = (List.range n).map fun j : Nat => PyData.int (j : Nat) := by simp [rangeD]
  have hp0 : pairT ps [] = .tuple [.tuple [], .tuple [.tuple [.int (-1), .int 0]]] := rfl
  rw [hp0] at h1
  rw [← hr] at h1
  have pl : plainAt [Slot.d (tmplD ps), .d (strsD ws), .d (.int (n : Nat)), .d (.list ((every ws n).map (pairT ps))), s4, s5, s6, s7, .un, .un] [6, 7] = true := by simp [plainAt, m6, m7]
  simp [f_texts_of, fnD, runF, g_texts_of, e5, e6, e7, r1, h1, pl, wipeE, e3, backE]
end HD

set_option maxHeartbeats 4000000
/-! PL15: how_many, lengths, bounds. -/
namespace HD
open PySem PySem.Spec L2 DL
theorem keys_std : ∀ ss : List Std, ∃ ks, keyDs (ss.map stD) = some ks ∧ NestedKey.depthAll ks ≤ 2
  | [] => ⟨[], rfl, by simp [NestedKey.depthAll]⟩
  | s :: ss => by
    obtain ⟨ks, e, h⟩ := keys_std ss
    obtain ⟨a, es, _⟩ := stD_pair s
    refine ⟨_, by rw [List.map_cons, keyDs, es]; simp [keyD, keyDs, e]; rfl, ?_⟩
    simp [NestedKey.depthAll, NestedKey.depth]
    omega
theorem eqv_sets : ∀ a b : List Std, PyData.eqvAll (a.map stD) (b.map stD) = decide (a = b)
  | [], [] => rfl
  | [], _ :: _ => rfl
  | _ :: _, [] => rfl
  | x :: a, y :: b => by
    show (PyData.eqv (stD x) (stD y) && PyData.eqvAll (a.map stD) (b.map stD)) = _
    rw [eqv_sets a b, encS.eqv]
    by_cases h : x = y <;> by_cases h2 : a = b <;> simp [h, h2]
theorem encL : Enc setD where
  key := fun ss => by
    obtain ⟨ks, e, h⟩ := keys_std ss
    simp [keyOk, setD, keyD, e, PyData.isTuple, NestedKey.depth]
    omega
  eqv := fun a b => eqv_sets a b
/-- the table behind some turns -/
structure RowsAt (ps : List Part) (ts : List (List Std × Int)) : Prop where
  nd : (ts.map (·.1)).Nodup
  ok : ∀ k ∈ ts.map (·.1), k ∈ sets ∧ StOk ps k
theorem RowsAt.len {ps : List Part} {ts : List (List Std × Int)} (h : RowsAt ps ts) : ts.length ≤ 4097 := by
  have := nodup_len sets (ts.map (·.1)) h.nd fun k hk => (h.ok k hk).1
  rw [List.length_map, sets_len] at this
  exact this
theorem RowsAt.put {ps : List Part} {ts : List (List Std × Int)} (h : RowsAt ps ts) (k : List Std) (v : Int) (hk : k ∈ sets ∧ StOk ps k) : RowsAt ps (putA ts k v) := by
  refine ⟨by rw [putA_keys]; exact addK_nodup h.nd, fun x hx => ?_⟩
  rw [putA_keys, mem_addK] at hx
  rcases hx with hx | rfl
  · exact h.ok x hx
  · exact hk
theorem tot_foldl {ps : List Part} (h : Tm ps) (P : List Std → Bool) (S : List Std) (c : Int) : ∀ (ws : List Str) (acc : List (List Std × Int)), RowsAt ps acc →
    RowsAt ps (ws.foldl (fun acc x => putA acc (behind ps S x) ((getA acc (behind ps S x)).getD 0 + c)) acc) ∧ tot P (ws.foldl (fun acc x => putA acc (behind ps S x) ((getA acc (behind ps S x)).getD 0 + c)) acc) = tot P acc + c * (ws.countP fun x => P (behind ps S x) : Nat)
  | [], acc, ha => ⟨ha, by simp⟩
  | x :: ws, acc, ha => by
    have hp := ha.put (behind ps S x) ((getA acc (behind ps S x)).getD 0 + c) ⟨behind_sets h S x, behind_ok h S x⟩
    obtain ⟨i1, i2⟩ := tot_foldl h P S c ws _ hp
    rw [List.foldl_cons]
    refine ⟨i1, ?_⟩
    rw [i2, tot_put P acc ha.nd, List.countP_cons]
    by_cases hP : P (behind ps S x) = true
    · simp only [hP, if_true]
      push_cast
      rw [Int.mul_add]
      omega
    · simp only [hP]
      push_cast
      simp
theorem tot_rows {ps : List Part} (h : Tm ps) (P : List Std → Bool) (ws : List Str) : ∀ (ts acc : List (List Std × Int)), RowsAt ps acc →
    RowsAt ps (ts.foldl (fun acc p => ws.foldl (fun acc x => putA acc (behind ps p.1 x) ((getA acc (behind ps p.1 x)).getD 0 + p.2)) acc) acc) ∧ tot P (ts.foldl (fun acc p => ws.foldl (fun acc x => putA acc (behind ps p.1 x) ((getA acc (behind ps p.1 x)).getD 0 + p.2)) acc) acc) = tot P acc + totW P (behind ps) ws ts
  | [], acc, ha => ⟨ha, by simp [totW]⟩
  | p :: ts, acc, ha => by
    obtain ⟨h1, h2⟩ := tot_foldl h P p.1 p.2 ws acc ha
    obtain ⟨i1, i2⟩ := tot_rows h P ws ts _ h1
    rw [List.foldl_cons]
    refine ⟨i1, ?_⟩
    rw [i2, h2, totW]
    omega
/-- the table tells what the texts do -/
def Same (ps : List Part) (ws : List Str) (j : Nat) (ts : List (List Std × Int)) : Prop := RowsAt ps ts ∧ ∀ P, tot P ts = ((every ws j).countP fun t => P (stands ps t) : Nat)
theorem count_flat (ps : List Part) (P : List Std → Bool) (ws : List Str) : ∀ l : List (List Str), (((l.flatMap fun t => ws.map fun x => t ++ [x]).countP fun t => P (stands ps t) : Nat) : Int) = totW P (behind ps) ws (l.map fun t => (stands ps t, 1))
  | [] => rfl
  | t :: l => by
    rw [List.flatMap_cons, List.countP_append, List.map_cons, totW, ← count_flat ps P ws l, List.countP_map]
    have : (ws.countP ((fun t => P (stands ps t)) ∘ fun x => t ++ [x])) = ws.countP fun x => P (behind ps (stands ps t) x) := by
      congr 1
      funext x
      simp only [Function.comp, stands_snoc]
    rw [this]
    push_cast
    omega
theorem Same.next {ps : List Part} (h : Tm ps) {ws : List Str} {j : Nat} {ts : List (List Std × Int)} (hs : Same ps ws j ts) : Same ps ws (j + 1) (ts.foldl (fun acc p => ws.foldl (fun acc x => putA acc (behind ps p.1 x) ((getA acc (behind ps p.1 x)).getD 0 + p.2)) acc) []) := by
  have nil : RowsAt ps [] := ⟨by simp, by simp⟩
  refine ⟨(tot_rows h (fun _ => true) ws ts [] nil).1, fun P => ?_⟩
  rw [(tot_rows h P ws ts [] nil).2, every, count_flat, totW_swap, totW_swap]
  simp only [tot, Int.zero_add]
  congr 1
  apply List.map_congr_left
  intro x _
  rw [hs.2 fun a => P (behind ps a x), tot_count]
theorem Same.begin (ps : List Part) (ws : List Str) : Same ps ws 0 [([(0, 0)], 1)] := by
  refine ⟨⟨by simp, fun k hk => ?_⟩, fun P => ?_⟩
  · simp at hk
    subst hk
    exact ⟨by simp [sets], begin_ok ps⟩
  · simp only [tot, every, List.countP_cons, List.countP_nil]
    rw [show stands ps [] = [(0, 0)] from rfl]
    cases P [(0, 0)] <;> rfl
def howMany (ps : List Part) (ws : List Str) (n : Nat) : Nat := (every ws n).countP (hasB ps)
theorem many_s {ps : List Part} (h : Tm ps) {ws : List Str} (hw : WsOk ws) {n : Nat} (hn : n ≤ 10) : f_how_many [tmplD ps, strsD ws, .int (n : Nat)] = .ok (.int (howMany ps ws n : Nat)) := by
  have L := l8000
  have h6 := h.len
  have hl : ps.length ≤ lim := by omega
  obtain ⟨hw1, hw5⟩ := hw.few
  obtain ⟨ρ', h1, hS, s4, s6, s7, s8, m6, e⟩ := for_s (bd := bName 4) (g := b_how_many_3) (fun j : Nat => PyData.int (j : Nat)) (fun j (ts : List (List Std × Int)) ρ => Same ps ws j ts ∧ ∃ s4 s6 s7 s8, s6.mutb = false ∧ ρ = [.d (tmplD ps), .d (strsD ws), .d (.int (n : Nat)), .m (tabD setD ts), s4, .un, s6, s7, s8, .un, .un])
    (fun ts _ => ts.foldl (fun acc p => ws.foldl (fun acc x => putA acc (behind ps p.1 x) ((getA acc (behind ps p.1 x)).getD 0 + p.2)) acc) []) (List.range n) 0 [([(0, 0)], 1)] [.d (tmplD ps), .d (strsD ws), .d (.int (n : Nat)), .m (tabD setD [([(0, 0)], 1)]), .un, .un, .un, .un, .un, .un, .un] ⟨Same.begin ps ws, .un, .un, .un, .un, rfl, rfl⟩ fun j k ts ρ hj ⟨q1, s4, s6, s7, s8, m6, hρ⟩ => by
      subst hρ
      rw [Nat.zero_add] at q1 ⊢
      have nx := q1.next h
      have tl := q1.1.len
      obtain ⟨ρ', k1, k2, s6', s7', s8', m6', k4⟩ := for_s (bd := bName 6) (g := b_how_many_2) (fun p : List Std × Int => setD p.1) (fun i (acc : List (List Std × Int)) ρ => RowsAt ps acc ∧ ∃ s6 s7 s8, s6.mutb = false ∧ ρ = [.d (tmplD ps), .d (strsD ws), .d (.int (n : Nat)), .f (tabD setD ts), .d (.int (k : Nat)), .m (tabD setD acc), s6, s7, s8, .un, .un])
        (fun acc p => ws.foldl (fun acc x => putA acc (behind ps p.1 x) ((getA acc (behind ps p.1 x)).getD 0 + p.2)) acc) ts 0 [] [.d (tmplD ps), .d (strsD ws), .d (.int (n : Nat)), .f (tabD setD ts), .d (.int (k : Nat)), .m [], s6, s7, s8, .un, .un] ⟨⟨by simp, by simp⟩, s6, s7, s8, m6, rfl⟩ fun i p acc ρ hi ⟨q2, s6, s7, s8, m6, hρ⟩ => by
          subst hρ
          have hp := List.mem_of_getElem? hi
          have hg := getA_of_mem q1.1.nd p hp
          have hpo := (q1.1.ok p.1 (List.mem_map_of_mem hp)).2
          obtain ⟨ρ', k1, k2, s7', s8', k4⟩ := for_s (bd := bName 7) (g := b_how_many_1) PyData.str (fun i (acc : List (List Std × Int)) ρ => RowsAt ps acc ∧ ∃ s7 s8, ρ = [.d (tmplD ps), .d (strsD ws), .d (.int (n : Nat)), .f (tabD setD ts), .d (.int (k : Nat)), .m (tabD setD acc), .d (setD p.1), s7, s8, .un, .un])
            (fun acc x => putA acc (behind ps p.1 x) ((getA acc (behind ps p.1 x)).getD 0 + p.2)) ws 0 acc [.d (tmplD ps), .d (strsD ws), .d (.int (n : Nat)), .f (tabD setD ts), .d (.int (k : Nat)), .m (tabD setD acc), .d (setD p.1), s7, s8, .un, .un] ⟨q2, s7, s8, rfl⟩ fun i x acc ρ hi ⟨q3, s7, s8, hρ⟩ => by
              subst hρ
              have e1 := behind_s h hpo x
              have hal : acc.length < lim := by have := q3.len; omega
              have g1 := tabD_get encL ts p.1
              rw [hg] at g1
              have g2 := tabD_get encL acc (behind ps p.1 x)
              have g3 := tabD_put encL acc (behind ps p.1 x) ((getA acc (behind ps p.1 x)).getD 0 + p.2)
              refine ⟨[.d (tmplD ps), .d (strsD ws), .d (.int (n : Nat)), .f (tabD setD ts), .d (.int (k : Nat)), .m (tabD setD (putA acc (behind ps p.1 x) ((getA acc (behind ps p.1 x)).getD 0 + p.2))), .d (setD p.1), .d (.str x), .d (setD (behind ps p.1 x)), .un, .un], ?_, q3.put _ _ ⟨behind_sets h p.1 x, behind_ok h p.1 x⟩, _, _, rfl⟩
              have hk1 := encL.key p.1
              have hk2 := encL.key (behind ps p.1 x)
              have e1 : f_stands_behind [tmplD ps, setD p.1, .str x] = .ok (setD (behind ps p.1 x)) := e1
              cases hq : getA acc (behind ps p.1 x) with
              | none =>
                rw [hq] at g2 g3
                simp only [Option.getD_none, Option.map_none] at g2 g3
                rw [Int.zero_add] at g3
                simp [b_how_many_1, e1, hk1, hk2, g1, g2, g3, hal]
              | some c =>
                rw [hq] at g2 g3
                simp only [Option.getD_some, Option.map_some] at g2 g3
                simp [b_how_many_1, e1, hk1, hk2, g1, g2, g3, hal]
          refine ⟨ρ', ?_, k2, .d (setD p.1), s7', s8', rfl, k4⟩
          simp only [strsD] at k1 ⊢
          simp [b_how_many_2, k1]
      subst k4
      refine ⟨[.d (tmplD ps), .d (strsD ws), .d (.int (n : Nat)), .m (tabD setD (ts.foldl (fun acc p => ws.foldl (fun acc x => putA acc (behind ps p.1 x) ((getA acc (behind ps p.1 x)).getD 0 + p.2)) acc) [])), .d (.int (k : Nat)), .un, s6', s7', s8', .un, .un], ?_, nx, _, s6', s7', s8', m6', rfl⟩
      simp [b_how_many_3, tabD_keys, k1]
  rw [Nat.zero_add, List.length_range] at hS
  subst e
  generalize (List.range n).foldl (fun (ts : List (List Std × Int)) _ => ts.foldl (fun acc p => ws.foldl (fun acc x => putA acc (behind ps p.1 x) ((getA acc (behind ps p.1 x)).getD 0 + p.2)) acc) []) [([(0, 0)], 1)] = ts at h1 hS
  have tl := hS.1.len
  have e3 := lc_if (ix := [6]) (bd := bName 6) (t := t_how_many_5) (f := e_how_many_6) (ρ := [Slot.d (tmplD ps), .d (strsD ws), .d (.int (n : Nat)), .f (tabD setD ts), s4, .un, .un, s7, s8, .un, .un]) (fun p : List Std × Int => setD p.1) (fun p => p.1.any (endNow ps)) (fun p => setD p.1) ts (by omega) fun p hp => by
    have hpo := (hS.1.ok p.1 (List.mem_map_of_mem hp)).2
    have e4 := any_end hl hpo 10 e_how_many_4 rfl [Slot.d (tmplD ps), .d (strsD ws), .d (.int (n : Nat)), .f (tabD setD ts), s4, .un, .d (setD p.1), s7, s8, .un, .un] rfl (by simp) (by simp) rfl
    simp only [setD] at e4 ⊢
    cases hc : p.1.any (endNow ps) <;> simp [lcStep, t_how_many_5, e_how_many_6, Slot.mutb, plainAt, wipeE, e4, backE, List.any_map, hc]
  have e4 := lc_all (ix := [6]) (bd := bName 6) (t := mYes) (f := e_how_many_7) (ρ := [Slot.d (tmplD ps), .d (strsD ws), .d (.int (n : Nat)), .f (tabD setD ts), s4, .un, .un, s7, s8, .d (.list ((ts.filter fun p => p.1.any (endNow ps)).map fun p => setD p.1)), .un]) (fun p : List Std × Int => setD p.1) (fun p => .int p.2) (ts.filter fun p => p.1.any (endNow ps)) (by have := List.length_filter_le (fun p : List Std × Int => p.1.any (endNow ps)) ts; omega) fun p hp => by
    have hp' := (List.mem_filter.mp hp).1
    have hg := getA_of_mem hS.1.nd p hp'
    have g1 := tabD_get encL ts p.1
    rw [hg] at g1
    simp [lcStep, e_how_many_7, wipeE, encL.key p.1, g1]
  have hsum := hS.2 fun S => S.any (endNow ps)
  rw [tot_filter] at hsum
  have hsum : ((ts.filter fun p => p.1.any (endNow ps)).map (·.2)).sum = (howMany ps ws n : Nat) := hsum
  have hint : asInts ((ts.filter fun p => p.1.any (endNow ps)).map fun p => PyData.int p.2) = some ((ts.filter fun p => p.1.any (endNow ps)).map (·.2)) := by
    generalize ts.filter (fun p => p.1.any (endNow ps)) = l
    induction l with
    | nil => rfl
    | cons x l ih => rw [List.map_cons, asInts, ih]; rfl
  have e5 := need_s h
  have e6 := needWords_s hw
  have e7 := needLong_s (n := n) (m := 10) hn
  have e7 : f_need_long [.int (n : Nat), .int 10] = .ok .none := e7
  have r1 : rangeOk (n : Int) = true := rangeOk_of (by omega) (by omega)
  have hr : rangeD 0 n = (List.range n).map fun j : Nat => PyData.int (j : Nat) := by simp [rangeD]
  have hp0 : tabD setD [([(0, 0)], 1)] = [(.tuple [.tuple [.int (-1), .int 0]], .int 1)] := rfl
  have hk0 : keyOk (.tuple [.tuple [.int (-1), .int 0]]) = true := encL.key [(0, 0)]
  rw [hp0] at h1
  rw [← hr] at h1
  generalize hfl : (ts.filter fun p => p.1.any (endNow ps)) = fl at e3 e4 hsum hint
  simp [f_how_many, fnD, runF, g_how_many, e5, e6, e7, r1, hk0, h1, tabD_keys, plainAt, m6, wipeE, e3, backE, e4, hint, hsum]
end HD
namespace HD
open PySem PySem.Spec L2 DL
/-! ### lengths -/
theorem lengths_s {ps : List Part} (h : Tm ps) {ws : List Str} (hw : WsOk ws) : f_lengths [tmplD ps, strsD ws] = .ok (.list (((List.range 11).filter fun n => decide (0 < howMany ps ws n)).map fun n => .int (n : Nat))) := by
  have L := l8000
  have e := lc_if (ix := [2]) (bd := bName 2) (t := t_lengths_1) (f := e_lengths_2) (ρ := [Slot.d (tmplD ps), .d (strsD ws), .un]) (fun n : Nat => PyData.int (n : Nat)) (fun n => decide (0 < howMany ps ws n)) (fun n => .int (n : Nat)) (List.range 11) (by simp) fun n hn => by
    have hn' : n < 11 := by simpa using hn
    have e1 := many_s h hw (n := n) (by omega)
    by_cases hc : 0 < howMany ps ws n
    · have hc' : (0 : Int) < (howMany ps ws n : Nat) := by omega
      simp [lcStep, t_lengths_1, e_lengths_2, e1, wipeE, hc]
    · have hc' : ¬ (0 : Int) < (howMany ps ws n : Nat) := by omega
      simp [lcStep, t_lengths_1, e_lengths_2, e1, wipeE, hc]
  have e5 := need_s h
  have e6 := needWords_s hw
  have r1 : rangeOk (10 + 1 : Int) = true := rangeOk_of (by omega) (by omega)
  have hr : rangeD 0 11 = (List.range 11).map fun j : Nat => PyData.int (j : Nat) := by simp [rangeD]
  rw [← hr] at e
  have r1 : rangeOk (11 : Int) = true := rangeOk_of (by omega) (by omega)
  simp [f_lengths, fnD, runF, g_lengths, e5, e6, r1, plainAt, Slot.mutb, wipeE, e, backE]
/-! ### bounds -/
def fewest (p : Part) : Int := match p with
  | .some _ n _ => n
  | _ => 1
def isSome (p : Part) : Bool := match p with
  | .some _ _ _ => true
  | _ => false
def least (ps : List Part) : Int := (ps.map fewest).sum
def endless (ps : List Part) : Bool := ps.any isSome
def boundsD (ps : List Part) : D := .tuple [.int (least ps), if endless ps = true then .none else .int (least ps)]
theorem bounds_s {ps : List Part} (h : Tm ps) : f_bounds [tmplD ps] = .ok (boundsD ps) := by
  obtain ⟨ρ', h1, ⟨_, s3, e⟩⟩ := for_s (bd := bName 3) (g := b_bounds_1) Part.d (fun j (z : Int × Bool) ρ => True ∧ ∃ s3, ρ = [.d (tmplD ps), .d (.int z.1), .d (.bool z.2), s3])
    (fun z p => (z.1 + fewest p, z.2 || isSome p)) ps 0 (0, false) [.d (tmplD ps), .d (.int 0), .d (.bool false), .un] ⟨trivial, .un, rfl⟩ fun j p z ρ hj ⟨_, s3, hρ⟩ => by
      subst hρ
      refine ⟨[.d (tmplD ps), .d (.int (z.1 + fewest p)), .d (.bool (z.2 || isSome p)), .d p.d], ?_, trivial, _, rfl⟩
      obtain ⟨a, b⟩ := z
      cases p with
      | word w => cases b <;> simp [b_bounds_1, Part.d, fewest, isSome]
      | one g b' => cases b <;> simp [b_bounds_1, Part.d, fewest, isSome]
      | some g n b' => cases b <;> simp [b_bounds_1, Part.d, fewest, isSome]
  have hf : ∀ (l : List Part) (a : Int) (b : Bool), l.foldl (fun (z : Int × Bool) p => (z.1 + fewest p, z.2 || isSome p)) (a, b) = (a + (l.map fewest).sum, b || l.any isSome) := by
    intro l
    induction l with
    | nil => intro a b; simp
    | cons p l ih =>
      intro a b
      rw [List.foldl_cons, ih]
      simp [Bool.or_assoc]
      omega
  rw [hf] at e
  subst e
  have e5 := need_s h
  simp only [Int.zero_add, Bool.false_or] at h1
  have h1 : forD (bName 3) b_bounds_1 (ps.map Part.d) [.d (tmplD ps), .d (.int 0), .d (.bool false), .un] = .ok (.nx, [.d (tmplD ps), .d (.int (least ps)), .d (.bool (endless ps)), s3]) := h1
  unfold boundsD
  generalize least ps = a at h1 ⊢
  generalize endless ps = b at h1 ⊢
  simp only [tmplD] at e5 h1 ⊢
  cases b <;> simp [f_bounds, fnD, runF, g_bounds, e5, h1]
end HD

set_option maxHeartbeats 4000000
/-! PL16: words drawn; lists of texts, of numbers held against one another. -/
namespace HD
open PySem PySem.Spec L2 DL
theorem words_lc (ns : List Int) (i : Nat) (f : M D) (hf : f = mTown 0 1 1 f__law_pick (mCons (mFr (mLst (mCons (mC (.str "a")) (mCons (mC (.str "b")) (mCons (mC (.str "c")) (mCons (mC (.str "get")) mNil)))))) mNil)) :
    ∀ (xs acc : List D) (ρ : DL.Env) (t : Nat), ρ[0]? = some (.s ns) → ρ[1]? = some (.t t) → 2 ≤ i → i < ρ.length → t + xs.length < lim → acc.length + xs.length ≤ lim → ρ.set i .un = ρ →
    ∃ zs : List Str, lcD [i] (bName i) mYes f xs acc ρ = .ok (acc ++ zs.map .str, ρ.set 1 (.t (t + xs.length))) ∧ zs.length = xs.length ∧ ∀ z ∈ zs, z ∈ lawWords
  | [], acc, ρ, t, h0, h1, h2, h3, h4, h5, h6 => ⟨[], by
      have : ρ.set 1 (.t t) = ρ := by
        apply List.ext_getElem?
        intro j
        by_cases hj : 1 = j
        · subst hj
          rw [List.getElem?_set_self (by omega), h1]
        · rw [List.getElem?_set_ne hj]
      simp [lcD, this], rfl, by simp⟩
  | x :: xs, acc, ρ, t, h0, h1, h2, h3, h4, h5, h6 => by
    simp only [List.length_cons] at h4 h5
    obtain ⟨z, hz, ep⟩ := pick_strs ns t lawWords (by decide) (by omega)
    rw [show lawWords.map PyData.str = [.str "a", .str "b", .str "c", .str "get"] from rfl] at ep
    have i0 : i ≠ 0 := by omega
    have i1 : i ≠ 1 := by omega
    have h0' : (ρ.set 1 (.t (t + 1)))[0]? = some (.s ns) := by rw [List.getElem?_set_ne (by decide)]; exact h0
    have h1' : (ρ.set 1 (.t (t + 1)))[1]? = some (.t (t + 1)) := List.getElem?_set_self (by omega)
    have h6' : (ρ.set 1 (.t (t + 1))).set i .un = ρ.set 1 (.t (t + 1)) := by rw [List.set_comm _ _ (Ne.symm i1), h6]
    have ih := words_lc ns i f hf xs (acc ++ [.str z]) (ρ.set 1 (.t (t + 1))) (t + 1) h0' h1' h2 (by simpa using h3) (by omega) (by simp; omega) h6'
    obtain ⟨zs, e, hl, hm⟩ := ih
    refine ⟨z :: zs, ?_, by simp [hl], fun y hy => ?_⟩
    · rw [lcD_step x xs acc ρ (by omega)]
      have hs : lcStep [i] (bName i) mYes f x ρ = .ok (some (.str z), ρ.set 1 (.t (t + 1))) := by
        subst hf
        have g0 : (ρ.set i (.d x))[0]? = some (.s ns) := by rw [List.getElem?_set_ne i0]; exact h0
        have g1 : (ρ.set i (.d x))[1]? = some (.t t) := by rw [List.getElem?_set_ne i1]; exact h1
        have g2 : ((ρ.set i (.d x)).set 1 (.t (t + 1))).set i .un = ρ.set 1 (.t (t + 1)) := by
          rw [List.set_comm _ _ i1, List.set_set, List.set_comm _ _ (Ne.symm i1)]
          first | rw [h6] | rw [List.set_comm _ _ i1, h6] | rw [List.set_comm _ _ (Ne.symm i1), h6]
        simp [lcStep, g0, g1, ep, wipeE, g2]
      rw [hs]
      simp only [Res.bind_ok]
      rw [e]
      simp [Nat.add_assoc, Nat.add_comm 1]
    · rcases List.mem_cons.mp hy with rfl | hy
      · exact hz
      · exact hm y hy
theorem wsOk_of {zs : List Str} (h : zs ≠ []) (hm : ∀ z ∈ zs, isWord z = true) (hl : zs.length ≤ 5) : WsOk (sortS zs) where
  ok := List.all_eq_true.mpr fun z hz => hm z (mem_sortS.mp hz)
  few := by
    refine ⟨?_, Nat.le_trans (len_sortS zs) hl⟩
    obtain ⟨z, hz⟩ := List.exists_mem_of_ne_nil _ h
    exact List.length_pos_of_mem (mem_sortS.mpr hz)
  rise := sortS_sortS zs
theorem plain_strsD (b : List Str) : (strsD b).plain = true := by simp [strsD, PyData.plain, plain_strs]
theorem depth_strsD (b : List Str) : (strsD b).depth ≤ 1 := by simp [strsD, PyData.depth, depth_strs]
theorem plain_texts : ∀ l : List (List Str), PyData.plainAll (l.map strsD) = true
  | [] => rfl
  | t :: l => by rw [List.map_cons, PyData.plainAll, plain_strsD, plain_texts l]; rfl
theorem depth_texts : ∀ l : List (List Str), PyData.depthAll (l.map strsD) ≤ 1
  | [] => by simp [PyData.depthAll]
  | t :: l => by
    rw [List.map_cons, PyData.depthAll]
    exact Nat.max_le.mpr ⟨depth_strsD t, depth_texts l⟩
theorem eqv_textsAll : ∀ a b : List (List Str), PyData.eqvAll (a.map strsD) (b.map strsD) = decide (a = b)
  | [], [] => rfl
  | [], _ :: _ => rfl
  | _ :: _, [] => rfl
  | x :: a, y :: b => by
    show (PyData.eqv (strsD x) (strsD y) && PyData.eqvAll (a.map strsD) (b.map strsD)) = _
    rw [eqv_textsAll a b, show PyData.eqv (strsD x) (strsD y) = decide (x = y) from eqv_strs x y]
    by_cases h : x = y <;> by_cases h2 : a = b <;> simp [h, h2]
theorem oNe_texts (a b : List (List Str)) : oNe (.list (a.map strsD)) (.list (b.map strsD)) = some (.bool (!decide (a = b))) := by
  have h1 := depth_texts a
  have h2 := depth_texts b
  have e : PyData.eqv (.list (a.map strsD)) (.list (b.map strsD)) = decide (a = b) := eqv_textsAll a b
  unfold oNe
  rw [e, if_pos (by simp only [PyData.depth, deep]; omega)]
theorem oEq_texts (a b : List (List Str)) : oEq (.list (a.map strsD)) (.list (b.map strsD)) = some (.bool (decide (a = b))) := by
  have h1 := depth_texts a
  have h2 := depth_texts b
  have e : PyData.eqv (.list (a.map strsD)) (.list (b.map strsD)) = decide (a = b) := eqv_textsAll a b
  unfold oEq
  rw [e, if_pos (by simp only [PyData.depth, deep]; omega)]
theorem depth_ints : ∀ a : List Nat, PyData.depthAll (a.map fun n => PyData.int (n : Nat)) = 0
  | [] => rfl
  | x :: a => by simp [PyData.depthAll, PyData.depth, depth_ints a]
theorem eqv_ints : ∀ a b : List Nat, PyData.eqvAll (a.map fun n => PyData.int (n : Nat)) (b.map fun n => PyData.int (n : Nat)) = decide (a = b)
  | [], [] => rfl
  | [], _ :: _ => rfl
  | _ :: _, [] => rfl
  | x :: a, y :: b => by
    show (((x : Int) == (y : Int)) && PyData.eqvAll (a.map fun n => PyData.int (n : Nat)) (b.map fun n => PyData.int (n : Nat))) = _
    rw [eqv_ints a b]
    have : ((x : Int) == (y : Int)) = decide (x = y) := by rw [Bool.eq_iff_iff]; simp; omega
    rw [this]
    by_cases h : x = y <;> by_cases h2 : a = b <;> simp [h, h2]
theorem oEq_ints (a b : List Nat) : oEq (.list (a.map fun n => .int (n : Nat))) (.list (b.map fun n => .int (n : Nat))) = some (.bool (decide (a = b))) := by
  have e : PyData.eqv (.list (a.map fun n => .int (n : Nat))) (.list (b.map fun n => .int (n : Nat))) = decide (a = b) := eqv_ints a b
  unfold oEq
  rw [e, if_pos (by simp only [PyData.depth, depth_ints, deep]; omega)]
theorem oIn_ints (a : List Nat) (m : Nat) : oIn (.int (m : Nat)) (.list (a.map fun n => .int (n : Nat))) = some (.bool (decide (m ∈ a))) := by
  unfold oIn
  simp only
  rw [if_pos (by simp only [PyData.depth, depth_ints, deep]; omega)]
  congr 2
  induction a with
  | nil => rfl
  | cons x a ih =>
    rw [List.map_cons, List.any_cons, ih]
    have : PyData.eqv (.int (x : Nat)) (.int (m : Nat)) = decide (m = x) := by
      show ((x : Int) == (m : Int)) = _
      rw [Bool.eq_iff_iff]; simp; omega
    rw [this]
    by_cases h : m = x <;> by_cases h2 : m ∈ a <;> simp [h, h2]
/-! ### one word again and again -/
theorem every_one (x : Str) : ∀ n, every [x] n = [List.replicate n x]
  | 0 => rfl
  | n + 1 => by
    rw [every, every_one x n]
    simp [List.replicate_succ']
theorem many_one (ps : List Part) (x : Str) (n : Nat) : howMany ps [x] n = if hasB ps (List.replicate n x) = true then 1 else 0 := by
  rw [howMany, every_one]
  cases h : hasB ps (List.replicate n x) <;> simp [h]
end HD

set_option maxHeartbeats 4000000
/-! PL17: all texts, rising. -/
namespace HD
open PySem PySem.Spec L2 DL
open PySem.W (keyToks keyToksAll)
abbrev kt (t : List Str) : List (Int ⊕ List Nat) := keyToksAll (t.map .str)
abbrev lx (a b : List (Int ⊕ List Nat)) : Bool := PyProof.Rows.lexLt PyProof.Rows.itemOrd a b
theorem kt_cons (a : Str) (r : List Str) : kt (a :: r) = .inl 1 :: .inr a.cps.toList :: kt r := by simp [kt, keyToksAll, keyToks]
theorem encLe_kt (a b : List Str) : encLe strsD a b = !lx (kt b) (kt a) := rfl
theorem lx_one (x y : Str) : lx (kt [y]) (kt [x]) = !strLe x y := by
  have h : PySem.W.dataLe false PyData.str x y = strLe x y := by rw [strLe_eq]
  have h2 : PySem.W.dataLe false PyData.str x y = !lx [.inr y.cps.toList] [.inr x.cps.toList] := rfl
  rw [h2] at h
  rw [← h, Bool.not_not, kt_cons, kt_cons]
  show lx _ _ = _
  rw [show lx (.inl 1 :: .inr y.cps.toList :: kt []) (.inl 1 :: .inr x.cps.toList :: kt []) = lx (.inr y.cps.toList :: kt []) (.inr x.cps.toList :: kt []) from PyProof.Rows.lex_self _ _ _]
  by_cases e : y.cps.toList = x.cps.toList
  · rw [e, show lx (.inr x.cps.toList :: kt []) (.inr x.cps.toList :: kt []) = lx (kt []) (kt []) from PyProof.Rows.lex_self _ _ _]
    rw [show lx (kt []) (kt []) = false from PyProof.Rows.lex_irrefl _, show lx [.inr x.cps.toList] [.inr x.cps.toList] = false from PyProof.Rows.lex_irrefl _]
  · have hne : (Sum.inr y.cps.toList : Int ⊕ List Nat) ≠ .inr x.cps.toList := fun q => e (Sum.inr.inj q)
    exact PySem.W.lex_atom hne _ _
theorem lx_cons (a b : Str) (u u' : List Str) : lx (kt (b :: u')) (kt (a :: u)) = lx (.inr b.cps.toList :: kt u') (.inr a.cps.toList :: kt u) := by
  rw [kt_cons, kt_cons]
  exact PyProof.Rows.lex_self _ _ _
theorem lx_same (a : Str) (u u' : List Str) : lx (kt (a :: u')) (kt (a :: u)) = lx (kt u') (kt u) := by
  rw [lx_cons]
  exact PyProof.Rows.lex_self _ _ _
theorem lx_ne {a b : Str} (h : b ≠ a) (u u' : List Str) : lx (kt (b :: u')) (kt (a :: u)) = lx [.inr b.cps.toList] [.inr a.cps.toList] := by
  rw [lx_cons]
  exact PySem.W.lex_atom (fun q => h (str_toks (Sum.inr.inj q))) _ _
theorem lx_snoc : ∀ (t t' : List Str) (x y : Str), t.length = t'.length → lx (kt (t' ++ [y])) (kt (t ++ [x])) = if t' = t then lx (kt [y]) (kt [x]) else lx (kt t') (kt t)
  | [], [], x, y, _ => by simp
  | [], _ :: _, _, _, h => by simp at h
  | _ :: _, [], _, _, h => by simp at h
  | a :: t, b :: t', x, y, h => by
    have ih := lx_snoc t t' x y (by simpa using h)
    rw [List.cons_append, List.cons_append]
    by_cases e : b = a
    · subst e
      rw [lx_same, lx_same, ih]
      simp
    · have hne2 : ¬ (b :: t') = (a :: t) := fun q => e (List.cons.inj q).1
      rw [if_neg hne2, lx_ne e, lx_ne e]
/-- words that rise, each once -/
def Rise (ws : List Str) : Prop := ws.Pairwise fun a b => strLe a b = true ∧ a ≠ b
theorem WsOk.rises {ws : List Str} (h : WsOk ws) : Rise ws := by
  have h1 := sorted_sortS ws
  have h2 := nodup_sortS ws
  rw [h.rise] at h1 h2
  exact List.Pairwise.and h1 h2
def RiseT (l : List (List Str)) : Prop := l.Pairwise fun a b => encLe strsD a b = true ∧ a ≠ b
theorem every_rise {ws : List Str} (h : Rise ws) : ∀ n, RiseT (every ws n)
  | 0 => by simp [every, RiseT]
  | n + 1 => by
    have ih := every_rise h n
    have key : ∀ l : List (List Str), (∀ t ∈ l, t.length = n) → RiseT l → RiseT (l.flatMap fun t => ws.map fun x => t ++ [x]) := by
      intro l
      induction l with
      | nil => intro _ _; simp [RiseT]
      | cons t l ih =>
        intro hl hr
        have hr' := List.pairwise_cons.mp hr
        unfold RiseT
        rw [List.flatMap_cons, List.pairwise_append]
        refine ⟨?_, ih (fun u hu => hl u (List.mem_cons_of_mem _ hu)) hr'.2, ?_⟩
        · rw [List.pairwise_map]
          refine List.Pairwise.imp ?_ h
          rintro x y ⟨h1, h2⟩
          refine ⟨?_, fun e => h2 (by simpa using e)⟩
          rw [encLe_kt, lx_snoc t t x y rfl, if_pos rfl, lx_one, h1]; rfl
        · intro a ha b hb
          obtain ⟨x, hx, rfl⟩ := List.mem_map.mp ha
          obtain ⟨u, hu, hb⟩ := List.mem_flatMap.mp hb
          obtain ⟨y, hy, rfl⟩ := List.mem_map.mp hb
          obtain ⟨h1, h2⟩ := hr'.1 u hu
          have hlen : t.length = u.length := by rw [hl t List.mem_cons_self, hl u (List.mem_cons_of_mem _ hu)]
          refine ⟨?_, fun e => h2 (List.append_inj_left' e rfl)⟩
          rw [encLe_kt, lx_snoc t u x y hlen, if_neg (Ne.symm h2)]
          exact h1
    exact key _ (fun t ht => (every_mem ht).1) ih
theorem mem_every {ws : List Str} : ∀ {n : Nat} {t : List Str}, t ∈ every ws n ↔ t.length = n ∧ ∀ x ∈ t, x ∈ ws := by
  intro n
  induction n with
  | zero => intro t; simp only [every, List.mem_singleton, List.length_eq_zero_iff]; constructor
            · rintro rfl; simp
            · exact fun h => h.1
  | succ n ih =>
    intro t
    constructor
    · exact every_mem
    · rintro ⟨h1, h2⟩
      have hne : t ≠ [] := by intro e; rw [e] at h1; simp at h1
      have e := List.dropLast_concat_getLast hne
      rw [every, List.mem_flatMap]
      refine ⟨t.dropLast, ih.mpr ⟨by rw [List.length_dropLast]; omega, fun x hx => h2 x ((List.dropLast_subset _ hx))⟩, ?_⟩
      rw [List.mem_map]
      exact ⟨t.getLast hne, h2 _ (List.getLast_mem hne), e⟩
theorem RiseT.nodup {l : List (List Str)} (h : RiseT l) : l.Nodup := List.Pairwise.imp (fun h => h.2) h
theorem RiseT.rising {l : List (List Str)} (h : RiseT l) : l.Pairwise fun a b => encLe strsD a b = true := List.Pairwise.imp (fun h => h.1) h
theorem RiseT.filter {l : List (List Str)} (h : RiseT l) (p : List Str → Bool) : RiseT (l.filter p) := List.Pairwise.filter p h
/-- rising lists of the same texts are one -/
theorem rise_eq {l m : List (List Str)} (h1 : RiseT l) (h2 : RiseT m) (h : ∀ t, t ∈ l ↔ t ∈ m) : l = m :=
  rising_eq told_strs ((List.perm_ext_iff_of_nodup h1.nodup h2.nodup).mpr h) h1.rising h2.rising
/-- what rises is the sorted list of the same texts -/
theorem rise_sort {l m : List (List Str)} (h1 : RiseT l) (h2 : m.Nodup) (h : ∀ t, t ∈ l ↔ t ∈ m) : m.mergeSort (encLe strsD) = l :=
  rising_eq told_strs ((List.mergeSort_perm m _).trans ((List.perm_ext_iff_of_nodup h1.nodup h2).mpr h).symm) (sort_rising m) h1.rising
theorem alike_strs : ∀ a b : List Str, PySem.W.alikeAll (a.map .str) (b.map .str) = true
  | [], _ => by simp [PySem.W.alikeAll]
  | _ :: _, [] => by simp [PySem.W.alikeAll]
  | x :: a, y :: b => by simp [PySem.W.alikeAll, PySem.W.alike, alike_strs a b]
theorem sorted_texts (l : List (List Str)) (hl : l.length ≤ lim) (h : (∀ t ∈ l, t ≠ []) ∨ l = [[]]) : oSorted [.list (l.map strsD)] = some (.list ((l.mergeSort (encLe strsD)).map strsD)) := by
  have h1 : alikeB (l.map strsD) = true := by
    unfold alikeB
    rw [List.all_eq_true]
    intro d hd
    rw [List.all_eq_true]
    intro d' hd'
    obtain ⟨s, _, rfl⟩ := List.mem_map.mp hd
    obtain ⟨t, _, rfl⟩ := List.mem_map.mp hd'
    simp [strsD, PySem.W.alike, alike_strs]
  have h2 : (sortableB (l.map strsD) || nilT (l.map strsD)) = true := by
    rcases h with h | rfl
    · rw [Bool.or_eq_true]
      refine .inl ?_
      simp only [sortableB, Bool.or_eq_true, List.all_map, List.all_eq_true]
      refine .inl fun t ht => ?_
      cases t with
      | nil => exact absurd rfl (h _ ht)
      | cons x r => rfl
    · rfl
  have h3 : (l.map strsD).all (fun d => decide (d.depth ≤ deep)) = true := by
    simp only [List.all_map, List.all_eq_true]
    intro t _
    simp only [Function.comp, decide_eq_true_eq]
    exact Nat.le_trans (depth_strsD t) (by decide)
  unfold oSorted
  simp only
  rw [if_pos ⟨by rw [h1, h2, h3]; rfl, by simpa using hl⟩, sortD_map]
/-! ### how many words at the least -/
theorem fit_least {p : Part} {u : List Str} (h : Fit p u) : fewest p ≤ u.length := by
  cases p with
  | word w => obtain ⟨x, rfl, _⟩ := h; simp [fewest]
  | one g b => obtain ⟨x, rfl, _⟩ := h; simp [fewest]
  | some g n b => exact h.1
theorem has_least : ∀ {ps : List Part} {w : List Str}, Has ps w → least ps ≤ w.length
  | [], w, h => by rw [show w = [] from h]; simp [least]
  | p :: ps, w, ⟨u, v, e, h1, h2⟩ => by
    have a := fit_least h1
    have b := has_least h2
    rw [e, List.length_append]
    simp only [least, List.map_cons, List.sum_cons] at *
    omega
theorem least_rev (ps : List Part) : least ps.reverse = least ps := by unfold least; rw [List.map_reverse, List.sum_reverse]
theorem endless_rev (ps : List Part) : endless ps.reverse = endless ps := by unfold endless; rw [List.any_reverse]
theorem bounds_rev (ps : List Part) : boundsD ps.reverse = boundsD ps := by unfold boundsD; rw [least_rev, endless_rev]
theorem plain_bounds (ps : List Part) : (boundsD ps).plain = true := by unfold boundsD; split <;> rfl
theorem depth_bounds (ps : List Part) : (boundsD ps).depth ≤ 2 := by unfold boundsD; split <;> simp [PyData.depth, PyData.depthAll]
end HD

set_option maxHeartbeats 4000000
/-! PL18: a gap opened again; texts as short as can be. -/
namespace HD
open PySem PySem.Spec L2 DL
def openP : Part → Part
  | .word w => .word w
  | .one g _ => .one g []
  | .some g n _ => .some g n []
theorem with_s {ps qs : List Part} {i : Nat} (hi : i < ps.length) (h6 : ps.length + qs.length ≤ 1000) : f_with_part [tmplD ps, .int (i : Nat), tmplD qs] = .ok (tmplD (ps.take i ++ qs ++ ps.drop (i + 1))) := by
  have L := l3000
  have c1 : cutD (ps.map Part.d) none (some (i : Int)) = (ps.take i).map Part.d := by rw [cut_takeN, List.map_take]
  have c2 : cutD (ps.map Part.d) (some ((i : Int) + 1)) none = (ps.drop (i + 1)).map Part.d := by
    have := cutD_drop (ps.map Part.d) (i + 1) (by simp; omega)
    rw [List.map_drop]
    simpa using this
  have l1 : min i ps.length + qs.length ≤ lim := by omega
  have l2 : min i ps.length + qs.length + (ps.length - (i + 1)) ≤ lim := by omega
  have l2' : min i ps.length + (qs.length + (ps.length - (i + 1))) ≤ lim := by omega
  simp only [tmplD]
  simp [f_with_part, fnD, runF, g_with_part, c1, c2, l1, l2, l2']
theorem open_d (p : Part) (h : p.isGap = true) : ∃ r, p.d = .tuple r ∧ oAdd (.tuple (cutD r none (some (-1)))) (.tuple [.tuple []]) = some (openP p).d := by
  have c : ∀ r : List D, r.length ≤ 4 → 0 < r.length → cutD r none (some (-1)) = r.take (r.length - 1) := fun r h1 h2 => by
    have L := lm4
    unfold cutD
    rw [show HT.sIx r.length 0 none = 0 from rfl, List.drop_zero, Nat.sub_zero]
    have : HT.sIx r.length r.length (some (-1)) = r.length - 1 := by
      simp [HT.sIx]
      omega
    rw [this]
  cases p with
  | word w => cases h
  | one g b => exact ⟨_, rfl, by rw [c _ (by simp) (by simp)]; simp [openP, Part.d, strsD]⟩
  | some g n b => exact ⟨_, rfl, by rw [c _ (by simp) (by simp)]; simp [openP, Part.d, strsD]⟩
theorem gapIx_at {ps : List Part} (h : (gapsOf ps).Nodup) {i : Nat} {p : Part} (hi : ps[i]? = some p) (hg : p.isGap = true) : gapIx ps (.str p.name) = [i] := by
  have key : ∀ (ps : List Part) (k i : Nat), (gapsOf ps).Nodup → ps[i]? = some p → ((ps.zipIdx k).filter (gapHit (.str p.name))).map (·.2) = [k + i] := by
    intro ps
    induction ps with
    | nil => intro k i _ h; simp at h
    | cons q ps ih =>
      intro k i hn hi
      rw [List.zipIdx_cons, List.filter_cons]
      have gc : gapsOf (q :: ps) = if q.isGap = true then q.name :: gapsOf ps else gapsOf ps := by
        unfold gapsOf
        rw [List.filter_cons]
        split <;> simp
      cases i with
      | zero =>
        simp at hi
        subst hi
        rw [gc, if_pos hg, List.nodup_cons] at hn
        have : gapHit (.str q.name) (q, k) = true := by simp [gapHit, hg]
        rw [if_pos this, List.map_cons]
        have no : ((ps.zipIdx (k + 1)).filter (gapHit (.str q.name))) = [] := by
          rw [List.filter_eq_nil_iff]
          intro z hz hh
          simp [gapHit] at hh
          have hm : z.1 ∈ ps := (List.mem_zipIdx hz).2.2 ▸ List.getElem_mem _
          exact hn.1 (by rw [← hh.2]; exact mem_gap hm hh.1)
        rw [no]
        simp
      | succ i =>
        have hi' : ps[i]? = some p := by simpa using hi
        have hn' : (gapsOf ps).Nodup := by
          rw [gc] at hn
          split at hn
          · exact (List.nodup_cons.mp hn).2
          · exact hn
        have : gapHit (.str p.name) (q, k) = false := by
          cases hh : gapHit (.str p.name) (q, k) with
          | false => rfl
          | true =>
            simp [gapHit] at hh
            rw [gc, if_pos hh.1, List.nodup_cons] at hn
            exact absurd (by rw [hh.2]; exact mem_gap (List.mem_of_getElem? hi') hg) hn.1
        rw [if_neg (by rw [this]; decide), ih (k + 1) i hn' hi']
        congr 1
        omega
  have := key ps 0 i h hi
  rw [Nat.zero_add] at this
  exact this
theorem again_s {ps : List Part} (h : Tm ps) {i : Nat} {p : Part} (hi : ps[i]? = some p) (hg : p.isGap = true) : f_open_again [tmplD ps, .str p.name] = .ok (tmplD (ps.take i ++ [openP p] ++ ps.drop (i + 1))) := by
  have L := l3000
  have h6 := h.len
  have hil := (List.getElem?_eq_some_iff.mp hi).1
  have e1 := need_s h
  have e2 := place_s ps (.str p.name) (by omega)
  rw [gapIx_at h.gaps hi hg] at e2
  simp only [isStr_str, if_true] at e2
  have e3 := part_at hil
  have hpp : ps[i] = p := by
    have := List.getElem?_eq_getElem hil
    rw [hi] at this; exact (Option.some.inj this).symm
  rw [hpp] at e3
  obtain ⟨r, er, eo⟩ := open_d p hg
  rw [er] at e3
  have e4 := with_s (qs := [openP p]) hil (by simp; omega)
  have e4 : f_with_part [tmplD ps, .int (i : Nat), .tuple [(openP p).d]] = .ok (tmplD (ps.take i ++ [openP p] ++ ps.drop (i + 1))) := e4
  simp only [tmplD] at e1 e2 e4 ⊢
  generalize PyData.tuple (List.map Part.d (ps.take i ++ [openP p] ++ ps.drop (i + 1))) = z at e4 ⊢
  have eo' : oAdd (.tuple (cutD r none (some (-1)))) (.tuple [.tuple []]) = some (openP p).d := eo
  simp only [oAdd_tup, List.length_cons, List.length_nil, Nat.zero_add] at eo'
  simp [f_open_again, fnD, runF, g_open_again, e1, e2, e3, eo', e4]
theorem open_ok {p : Part} (h : p.ok = true) : (openP p).ok = true := by
  have hb : isBarred [] = true := by decide +kernel
  cases p with
  | word w => exact h
  | one g b => simp [Part.ok] at h; simp [openP, Part.ok, h.1, hb]
  | some g n b => simp [Part.ok] at h; simp [openP, Part.ok, h.1, h.2.1, h.2.2.1, hb]
theorem open_name (p : Part) : (openP p).name = p.name ∧ (openP p).isGap = p.isGap := by cases p <;> exact ⟨rfl, rfl⟩
theorem gaps_map {f : Part → Part} (hf : ∀ p, (f p).name = p.name ∧ (f p).isGap = p.isGap) (ps : List Part) : gapsOf (ps.map f) = gapsOf ps := by
  induction ps with
  | nil => rfl
  | cons p ps ih =>
    unfold gapsOf at ih ⊢
    rw [List.map_cons, List.filter_cons, List.filter_cons, (hf p).2]
    split
    · rw [List.map_cons, List.map_cons, (hf p).1, ih]
    · exact ih
theorem gapsOf_append (a b : List Part) : gapsOf (a ++ b) = gapsOf a ++ gapsOf b := by simp [gapsOf]
theorem half_tm {ps : List Part} (h : Tm ps) (j : Nat) : Tm ((ps.take j).map openP ++ ps.drop j) := by
  refine ⟨?_, ?_, ?_⟩
  · rw [List.all_append, Bool.and_eq_true, List.all_map, List.all_eq_true, List.all_eq_true]
    exact ⟨fun p hp => open_ok (List.all_eq_true.mp h.ok p (List.mem_of_mem_take hp)), fun p hp => List.all_eq_true.mp h.ok p (List.mem_of_mem_drop hp)⟩
  · rw [gapsOf_append, gaps_map open_name, ← gapsOf_append, List.take_append_drop]
    exact h.gaps
  · have := h.len
    rw [List.length_append, List.length_map, ← List.length_append, List.take_append_drop]
    exact this
/-! ### texts as short as can be -/
def shortest : List Part → List Str
  | [] => []
  | .word w :: ps => w :: shortest ps
  | .one _ _ :: ps => Str.ofString "c" :: shortest ps
  | .some _ n _ :: ps => List.replicate n.toNat (Str.ofString "c") ++ shortest ps
theorem short_len : ∀ {ps : List Part}, (∀ p ∈ ps, Low p) → ((shortest ps).length : Int) = least ps
  | [], _ => rfl
  | p :: ps, h => by
    have ih := short_len (ps := ps) fun q hq => h q (List.mem_cons_of_mem _ hq)
    have hp := h p List.mem_cons_self
    cases p with
    | word w => simp only [shortest, least, List.map_cons, List.sum_cons, fewest, List.length_cons] at *; omega
    | one g b => simp only [shortest, least, List.map_cons, List.sum_cons, fewest, List.length_cons] at *; omega
    | some g n b =>
      obtain ⟨h1, h2⟩ := hp
      simp only [shortest, least, List.map_cons, List.sum_cons, fewest, List.length_append, List.length_replicate] at *
      omega
/-- no gap bars a word -/
def Bare (ps : List Part) : Prop := ∀ p ∈ ps, p.bars = []
theorem short_has : ∀ {ps : List Part}, Bare ps → (∀ p ∈ ps, Low p) → Has ps (shortest ps)
  | [], _, _ => rfl
  | p :: ps, hb, h => by
    have ih := short_has (ps := ps) (fun q hq => hb q (List.mem_cons_of_mem _ hq)) fun q hq => h q (List.mem_cons_of_mem _ hq)
    have hp := hb p List.mem_cons_self
    have hl := h p List.mem_cons_self
    cases p with
    | word w => exact ⟨[w], shortest ps, rfl, ⟨w, rfl, by simp [takes]⟩, ih⟩
    | one g b =>
      simp only [Part.bars] at hp
      exact ⟨[Str.ofString "c"], shortest ps, rfl, ⟨_, rfl, by simp [takes, hp]⟩, ih⟩
    | some g n b =>
      simp only [Part.bars] at hp
      obtain ⟨h1, h2⟩ := hl
      refine ⟨List.replicate n.toNat (Str.ofString "c"), shortest ps, rfl, ⟨by rw [List.length_replicate]; omega, fun x hx => by simp [takes, hp]⟩, ih⟩
theorem more_has : ∀ {ps : List Part}, Bare ps → (∀ p ∈ ps, Low p) → endless ps = true → ∃ t, Has ps t ∧ t.length = (shortest ps).length + 1 ∧ ∀ x ∈ t, x = Str.ofString "c" ∨ x ∈ wordsOf ps
  | [], _, _, he => by simp [endless] at he
  | p :: ps, hb, h, he => by
    have hb' : Bare ps := fun q hq => hb q (List.mem_cons_of_mem _ hq)
    have hl' : ∀ p ∈ ps, Low p := fun q hq => h q (List.mem_cons_of_mem _ hq)
    have sh := short_has hb' hl'
    have ih := more_has hb' hl'
    have hp := hb p List.mem_cons_self
    have hl := h p List.mem_cons_self
    have wo : ∀ x, x ∈ wordsOf ps → x ∈ wordsOf (p :: ps) := fun x hx => by
      unfold wordsOf at *
      rw [List.filter_cons]
      split
      · exact List.mem_cons_of_mem _ hx
      · exact hx
    have ends : isSome p = false → endless ps = true := fun hs => by
      unfold endless at he ⊢
      rw [List.any_cons, hs, Bool.false_or] at he
      exact he
    cases p with
    | word w =>
      obtain ⟨t, h1, h2, h3⟩ := ih (ends rfl)
      refine ⟨w :: t, ⟨[w], t, rfl, ⟨w, rfl, by simp [takes]⟩, h1⟩, by simp [shortest, h2], fun x hx => ?_⟩
      rcases List.mem_cons.mp hx with rfl | hx
      · exact .inr (by simp [wordsOf, Part.isGap, Part.name])
      · exact (h3 x hx).imp id (wo x)
    | one g b =>
      obtain ⟨t, h1, h2, h3⟩ := ih (ends rfl)
      simp only [Part.bars] at hp
      refine ⟨Str.ofString "c" :: t, ⟨[Str.ofString "c"], t, rfl, ⟨_, rfl, by simp [takes, hp]⟩, h1⟩, by simp [shortest, h2], fun x hx => ?_⟩
      rcases List.mem_cons.mp hx with rfl | hx
      · exact .inl rfl
      · exact (h3 x hx).imp id (wo x)
    | some g n b =>
      simp only [Part.bars] at hp
      obtain ⟨h1, h2⟩ := hl
      have sw : ∀ (ps : List Part), ∀ x ∈ shortest ps, x = Str.ofString "c" ∨ x ∈ wordsOf ps := by
        intro ps
        induction ps with
        | nil => intro x hx; simp [shortest] at hx
        | cons q ps ih =>
          intro x hx
          cases q with
          | word w =>
            simp only [shortest, List.mem_cons] at hx
            rcases hx with rfl | hx
            · exact .inr (by simp [wordsOf, Part.isGap, Part.name])
            · exact (ih x hx).imp id fun h => by simp [wordsOf, Part.isGap, Part.name] at h ⊢; exact .inr h
          | one g b =>
            simp only [shortest, List.mem_cons] at hx
            rcases hx with rfl | hx
            · exact .inl rfl
            · exact (ih x hx).imp id fun h => by simpa [wordsOf, Part.isGap, Part.name] using h
          | some g n b =>
            simp only [shortest, List.mem_append] at hx
            rcases hx with hx | hx
            · exact .inl (List.eq_of_mem_replicate hx)
            · exact (ih x hx).imp id fun h => by simpa [wordsOf, Part.isGap, Part.name] using h
      refine ⟨List.replicate (n.toNat + 1) (Str.ofString "c") ++ shortest ps, ⟨_, shortest ps, rfl, ⟨by rw [List.length_replicate]; omega, fun x hx => by simp [takes, hp]⟩, sh⟩, by simp [shortest]; omega, fun x hx => ?_⟩
      rcases List.mem_append.mp hx with hx | hx
      · exact .inl (List.eq_of_mem_replicate hx)
      · exact (sw ps x hx).imp id (wo x)
theorem short_words : ∀ (ps : List Part), ∀ x ∈ shortest ps, x = Str.ofString "c" ∨ x ∈ wordsOf ps := by
  intro ps
  induction ps with
  | nil => intro x hx; simp [shortest] at hx
  | cons q ps ih =>
    intro x hx
    cases q with
    | word w =>
      simp only [shortest, List.mem_cons] at hx
      rcases hx with rfl | hx
      · exact .inr (by simp [wordsOf, Part.isGap, Part.name])
      · exact (ih x hx).imp id fun h => by simp [wordsOf, Part.isGap, Part.name] at h ⊢; exact .inr h
    | one g b =>
      simp only [shortest, List.mem_cons] at hx
      rcases hx with rfl | hx
      · exact .inl rfl
      · exact (ih x hx).imp id fun h => by simpa [wordsOf, Part.isGap, Part.name] using h
    | some g n b =>
      simp only [shortest, List.mem_append] at hx
      rcases hx with hx | hx
      · exact .inl (List.eq_of_mem_replicate hx)
      · exact (ih x hx).imp id fun h => by simpa [wordsOf, Part.isGap, Part.name] using h
theorem fit_exact {p : Part} {u : List Str} (h : Fit p u) (hs : isSome p = false) : (u.length : Int) = fewest p := by
  cases p with
  | word w => obtain ⟨x, rfl, _⟩ := h; simp [fewest]
  | one g b => obtain ⟨x, rfl, _⟩ := h; simp [fewest]
  | some g n b => cases hs
theorem has_exact : ∀ {ps : List Part} {w : List Str}, Has ps w → endless ps = false → (w.length : Int) = least ps
  | [], w, h, _ => by rw [show w = [] from h]; rfl
  | p :: ps, w, ⟨u, v, e, h1, h2⟩, he => by
    unfold endless at he
    rw [List.any_cons, Bool.or_eq_false_iff] at he
    have a := fit_exact h1 he.1
    have b := has_exact h2 he.2
    rw [e, List.length_append]
    simp only [least, List.map_cons, List.sum_cons] at *
    push_cast
    omega
end HD

set_option maxHeartbeats 4000000
/-! PL19: a search in widening rounds, in plain Lean. -/
namespace HD
section
variable {σ : Type} [DecidableEq σ] (succs : σ → List (PySem.Str × σ)) (goal : σ → Bool) (s0 : σ)
open PySem
def grow (t : List Str) (z : List σ × List (σ × List Str)) (q : Str × σ) : List σ × List (σ × List Str) := if q.2 ∈ z.1 then z else (z.1 ++ [q.2], z.2 ++ [(q.2, t ++ [q.1])])
def expand (p : σ × List Str) (z : List σ × List (σ × List Str)) : List σ × List (σ × List Str) := (succs p.1).foldl (grow p.2) z
def level : List (σ × List Str) → List σ × List (σ × List Str) → List Str ⊕ (List σ × List (σ × List Str))
  | [], z => .inr z
  | p :: row, z => if goal p.1 = true then .inl p.2 else level row (expand succs p z)
def bfs : Nat → List σ → List (σ × List Str) → Option (Option (List Str))
  | 0, _, _ => none
  | n + 1, met, row => if row = [] then some none else match level succs goal row (met, []) with
    | .inl t => some (some t)
    | .inr z => bfs n z.1 z.2
inductive Path : σ → List Str → Prop
  | nil : Path s0 []
  | snoc {s s' : σ} {t : List Str} {x : Str} : Path s t → (x, s') ∈ succs s → Path s' (t ++ [x])
variable {succs goal s0}
theorem path_inv {s : σ} {t : List Str} (h : Path succs s0 s t) : (t = [] ∧ s = s0) ∨ ∃ r u x, t = u ++ [x] ∧ Path succs s0 r u ∧ (x, s) ∈ succs r := by
  cases h with
  | nil => exact .inl ⟨rfl, rfl⟩
  | snoc h1 h2 => exact .inr ⟨_, _, _, rfl, h1, h2⟩
/-- how far the rounds are -/
structure Rnd (k : Nat) (met : List σ) (row : List (σ × List Str)) : Prop where
  a : ∀ p ∈ row, Path succs s0 p.1 p.2 ∧ p.2.length = k
  b : ∀ s ∈ met, ∃ t, Path succs s0 s t ∧ t.length ≤ k
  c : ∀ s t, Path succs s0 s t → t.length ≤ k → s ∈ met
  d : ∀ s t, Path succs s0 s t → t.length < k → goal s = false
  e : ∀ s ∈ met, (∃ t, (s, t) ∈ row) ∨ ∃ t, Path succs s0 s t ∧ t.length < k
  f : met.Nodup
theorem grow_spec (t : List Str) : ∀ (qs : List (Str × σ)) (z : List σ × List (σ × List Str)), z.1.Nodup →
    (qs.foldl (grow t) z).1.Nodup ∧ (∀ s, s ∈ (qs.foldl (grow t) z).1 ↔ s ∈ z.1 ∨ ∃ x, (x, s) ∈ qs) ∧ (∀ p ∈ (qs.foldl (grow t) z).2, p ∈ z.2 ∨ ∃ x, (x, p.1) ∈ qs ∧ p.2 = t ++ [x]) ∧ (∀ p ∈ z.2, p ∈ (qs.foldl (grow t) z).2) ∧
    (∀ s ∈ (qs.foldl (grow t) z).1, s ∈ z.1 ∨ ∃ u, (s, u) ∈ (qs.foldl (grow t) z).2) ∧ (qs.foldl (grow t) z).1.length + z.2.length = z.1.length + (qs.foldl (grow t) z).2.length
  | [], z, h => ⟨h, fun s => by simp, fun p hp => .inl hp, fun p hp => hp, fun s hs => .inl hs, by simp⟩
  | q :: qs, z, h => by
    rw [List.foldl_cons]
    by_cases hq : q.2 ∈ z.1
    · have e : grow t z q = z := by unfold grow; rw [if_pos hq]
      rw [e]
      obtain ⟨h1, h2, h3, h4, h5, h6⟩ := grow_spec t qs z h
      refine ⟨h1, fun s => ?_, fun p hp => ?_, h4, h5, h6⟩
      · rw [h2]
        constructor
        · rintro (h | ⟨x, hx⟩)
          · exact .inl h
          · exact .inr ⟨x, List.mem_cons_of_mem _ hx⟩
        · rintro (h | ⟨x, hx⟩)
          · exact .inl h
          · rcases List.mem_cons.mp hx with e | hx
            · rw [← e] at hq; exact .inl hq
            · exact .inr ⟨x, hx⟩
      · rcases h3 p hp with h | ⟨x, hx, e⟩
        · exact .inl h
        · exact .inr ⟨x, List.mem_cons_of_mem _ hx, e⟩
    · have e : grow t z q = (z.1 ++ [q.2], z.2 ++ [(q.2, t ++ [q.1])]) := by unfold grow; rw [if_neg hq]
      rw [e]
      have hn : (z.1 ++ [q.2]).Nodup := by
        rw [List.nodup_append]
        refine ⟨h, by simp, fun a ha b hb => ?_⟩
        simp at hb
        subst hb
        rintro rfl
        exact hq ha
      obtain ⟨h1, h2, h3, h4, h5, h6⟩ := grow_spec t qs (z.1 ++ [q.2], z.2 ++ [(q.2, t ++ [q.1])]) hn
      refine ⟨h1, fun s => ?_, fun p hp => ?_, fun p hp => h4 p (List.mem_append_left _ hp), fun s hs => ?_, ?_⟩
      · rw [h2]
        simp only [List.mem_append, List.mem_cons, List.not_mem_nil, or_false]
        constructor
        · rintro ((h | h) | ⟨x, hx⟩)
          · exact .inl h
          · exact .inr ⟨q.1, .inl (by rw [h])⟩
          · exact .inr ⟨x, .inr hx⟩
        · rintro (h | ⟨x, hx | hx⟩)
          · exact .inl (.inl h)
          · exact .inl (.inr (congrArg Prod.snd hx))
          · exact .inr ⟨x, hx⟩
      · rcases h3 p hp with h | ⟨x, hx, e⟩
        · rcases List.mem_append.mp h with h | h
          · exact .inl h
          · simp at h
            subst h
            exact .inr ⟨q.1, List.mem_cons_self, rfl⟩
        · exact .inr ⟨x, List.mem_cons_of_mem _ hx, e⟩
      · rcases h5 s hs with h | h
        · rcases List.mem_append.mp h with h | h
          · exact .inl h
          · simp at h
            subst h
            exact .inr ⟨_, h4 _ (List.mem_append_right _ (by simp; rfl))⟩
        · exact .inr h
      · simp only [List.length_append, List.length_cons, List.length_nil] at h6
        omega
/-- one round -/
theorem level_spec {k : Nat} {met : List σ} : ∀ (row : List (σ × List Str)) (z : List σ × List (σ × List Str)), z.1.Nodup →
    match level succs goal row z with
    | .inl t => ∃ s, (s, t) ∈ row ∧ goal s = true
    | .inr z' => z'.1.Nodup ∧ (∀ p ∈ row, goal p.1 = false) ∧ (∀ s, s ∈ z'.1 ↔ s ∈ z.1 ∨ ∃ p ∈ row, ∃ x, (x, s) ∈ succs p.1) ∧ (∀ p ∈ z'.2, p ∈ z.2 ∨ ∃ q ∈ row, ∃ x, (x, p.1) ∈ succs q.1 ∧ p.2 = q.2 ++ [x]) ∧ (∀ p ∈ z.2, p ∈ z'.2) ∧
      (∀ s ∈ z'.1, s ∈ z.1 ∨ ∃ u, (s, u) ∈ z'.2) ∧ z'.1.length + z.2.length = z.1.length + z'.2.length
  | [], z, h => ⟨h, by simp, fun s => by simp, fun p hp => .inl hp, fun p hp => hp, fun s hs => .inl hs, by omega⟩
  | p :: row, z, h => by
    unfold level
    by_cases hg : goal p.1 = true
    · rw [if_pos hg]
      exact ⟨p.1, List.mem_cons_self, hg⟩
    · rw [if_neg hg]
      have hg' : goal p.1 = false := by simpa using hg
      obtain ⟨g1, g2, g3, g4, g5, g6⟩ := grow_spec p.2 (succs p.1) z h
      have ih := level_spec (k := k) (met := met) row (expand succs p z) g1
      cases hL : level succs goal row (expand succs p z) with
      | inl t =>
        rw [hL] at ih
        obtain ⟨s, h1, h2⟩ := ih
        exact ⟨s, List.mem_cons_of_mem _ h1, h2⟩
      | inr z' =>
        rw [hL] at ih
        obtain ⟨i1, i0, i2, i3, i4, i5, i6⟩ := ih
        have g2' : ∀ s, s ∈ (expand succs p z).1 ↔ s ∈ z.1 ∨ ∃ x, (x, s) ∈ succs p.1 := g2
        have g3' : ∀ q ∈ (expand succs p z).2, q ∈ z.2 ∨ ∃ x, (x, q.1) ∈ succs p.1 ∧ q.2 = p.2 ++ [x] := g3
        have g4' : ∀ q ∈ z.2, q ∈ (expand succs p z).2 := g4
        have g5' : ∀ s ∈ (expand succs p z).1, s ∈ z.1 ∨ ∃ u, (s, u) ∈ (expand succs p z).2 := g5
        have g6' : (expand succs p z).1.length + z.2.length = z.1.length + (expand succs p z).2.length := g6
        refine ⟨i1, fun q hq => ?_, fun s => ?_, fun q hq => ?_, fun q hq => i4 q (g4' q hq), fun s hs => ?_, by omega⟩
        · rcases List.mem_cons.mp hq with rfl | hq
          · exact hg'
          · exact i0 q hq
        · rw [i2, g2']
          constructor
          · rintro ((h | ⟨x, hx⟩) | ⟨q, hq, x, hx⟩)
            · exact .inl h
            · exact .inr ⟨p, List.mem_cons_self, x, hx⟩
            · exact .inr ⟨q, List.mem_cons_of_mem _ hq, x, hx⟩
          · rintro (h | ⟨q, hq, x, hx⟩)
            · exact .inl (.inl h)
            · rcases List.mem_cons.mp hq with rfl | hq
              · exact .inl (.inr ⟨x, hx⟩)
              · exact .inr ⟨q, hq, x, hx⟩
        · rcases i3 q hq with h | ⟨r, hr, x, hx, e⟩
          · rcases g3' q h with h | ⟨x, hx, e⟩
            · exact .inl h
            · exact .inr ⟨p, List.mem_cons_self, x, hx, e⟩
          · exact .inr ⟨r, List.mem_cons_of_mem _ hr, x, hx, e⟩
        · rcases i5 s hs with h | h
          · rcases g5' s h with h | ⟨u, hu⟩
            · exact .inl h
            · exact .inr ⟨u, i4 _ hu⟩
          · exact .inr h
theorem Rnd.next {k : Nat} {met : List σ} {row : List (σ × List Str)} (I : Rnd (succs := succs) (goal := goal) (s0 := s0) k met row) {z : List σ × List (σ × List Str)} (h : level succs goal row (met, []) = .inr z) :
    Rnd (succs := succs) (goal := goal) (s0 := s0) (k + 1) z.1 z.2 ∧ z.1.length = met.length + z.2.length := by
  have L := level_spec (succs := succs) (goal := goal) (k := k) (met := met) row (met, []) I.f
  rw [h] at L
  obtain ⟨l1, l0, l2, l3, l4, l5, l6⟩ := L
  refine ⟨⟨fun p hp => ?_, fun s hs => ?_, fun s t ht hl => ?_, fun s t ht hl => ?_, fun s hs => ?_, l1⟩, by simpa using l6⟩
  · rcases l3 p hp with h | ⟨q, hq, x, hx, e⟩
    · simp at h
    · obtain ⟨h1, h2⟩ := I.a q hq
      exact ⟨by rw [e]; exact .snoc h1 hx, by rw [e]; simp [h2]⟩
  · rcases (l2 s).mp hs with h | ⟨p, hp, x, hx⟩
    · obtain ⟨t, h1, h2⟩ := I.b s h
      exact ⟨t, h1, by omega⟩
    · obtain ⟨h1, h2⟩ := I.a p hp
      exact ⟨p.2 ++ [x], .snoc h1 hx, by simp [h2]⟩
  · rw [l2]
    rcases Nat.lt_or_ge t.length (k + 1) with h | h
    · exact .inl (I.c s t ht (by omega))
    · rcases path_inv ht with ⟨e, _⟩ | ⟨r, u, x, e, hu, hx⟩
      · rw [e] at h; simp at h
      · have hul : u.length = k := by rw [e] at h hl; simp at h hl; omega
        have hr := I.c r u hu (by omega)
        rcases I.e r hr with ⟨v, hv⟩ | ⟨v, hv, hvl⟩
        · exact .inr ⟨_, hv, x, hx⟩
        · exact .inl (I.c s (v ++ [x]) (.snoc hv hx) (by simp; omega))
  · rcases Nat.lt_or_ge t.length k with h | h
    · exact I.d s t ht h
    · have hs := I.c s t ht (by omega)
      rcases I.e s hs with ⟨v, hv⟩ | ⟨v, hv, hvl⟩
      · exact l0 _ hv
      · exact I.d s v hv hvl
  · rcases l5 s hs with h | ⟨u, hu⟩
    · obtain ⟨t, h1, h2⟩ := I.b s h
      exact .inr ⟨t, h1, by omega⟩
    · exact .inl ⟨u, hu⟩
theorem Rnd.first : Rnd (succs := succs) (goal := goal) (s0 := s0) 0 [s0] [(s0, [])] where
  a := fun p hp => by simp at hp; subst hp; exact ⟨.nil, rfl⟩
  b := fun s hs => by simp at hs; subst hs; exact ⟨[], .nil, by simp⟩
  c := fun s t ht hl => by
    rcases path_inv ht with ⟨_, e⟩ | ⟨r, u, x, e, _, _⟩
    · simp [e]
    · rw [e] at hl; simp at hl
  d := fun s t ht hl => by omega
  e := fun s hs => by simp at hs; subst hs; exact .inl ⟨[], by simp⟩
  f := by simp
theorem Rnd.stops {k : Nat} {met : List σ} (I : Rnd (succs := succs) (goal := goal) (s0 := s0) k met []) : ∀ s t, Path succs s0 s t → goal s = false := by
  have key : ∀ s t, Path succs s0 s t → s ∈ met := by
    intro s t h
    induction h with
    | nil => exact I.c s0 [] .nil (by simp)
    | snoc h1 h2 ih =>
      rcases I.e _ ih with ⟨v, hv⟩ | ⟨v, hv, hvl⟩
      · simp at hv
      · exact I.c _ _ (.snoc hv h2) (by simp; omega)
  intro s t h
  rcases I.e s (key s t h) with ⟨v, hv⟩ | ⟨v, hv, hvl⟩
  · simp at hv
  · exact I.d s v hv hvl
theorem Rnd.found {k : Nat} {met : List σ} {row : List (σ × List Str)} (I : Rnd (succs := succs) (goal := goal) (s0 := s0) k met row) {t : List Str} (h : level succs goal row (met, []) = .inl t) :
    (∃ s, Path succs s0 s t ∧ goal s = true) ∧ ∀ s u, Path succs s0 s u → goal s = true → t.length ≤ u.length := by
  have L := level_spec (succs := succs) (goal := goal) (k := k) (met := met) row (met, []) I.f
  rw [h] at L
  obtain ⟨s, h1, h2⟩ := L
  obtain ⟨p1, p2⟩ := I.a _ h1
  refine ⟨⟨s, p1, h2⟩, fun r u hu hg => ?_⟩
  rcases Nat.lt_or_ge u.length t.length with hl | hl
  · rw [I.d r u hu (by simp at p2; omega)] at hg
    cases hg
  · exact hl
/-- all that is met is among U -/
theorem Rnd.few {k : Nat} {met : List σ} {row : List (σ × List Str)} (I : Rnd (succs := succs) (goal := goal) (s0 := s0) k met row) (U : List σ) (hU : ∀ s t, Path succs s0 s t → s ∈ U) : met.length ≤ U.length :=
  nodup_len U met I.f fun s hs => by obtain ⟨t, h, _⟩ := I.b s hs; exact hU s t h
end
end HD

namespace HD
open PySem PySem.Spec L2 DL
noncomputable def t_fresh_1 : M Bool :=
    (mBool (m2 oNotIn (mV 2) (mV 0)))
noncomputable def e_fresh_2 : M D :=
    (mV 2)
noncomputable def t_fresh_3 : M Bool :=
    (mBool (m2 oNotIn (m2 oAdd (mV 3) (mV 2)) (mV 0)))
noncomputable def e_fresh_4 : M D :=
    (m2 oAdd (mV 3) (mV 2))
noncomputable def b_fresh_5 : S :=
    (sDrop (mExtend 1 (mFr (mLc [2] (mSigns (mC (.str "abcdefghijklmnopqrstuvwxyz"))) (bName 2) t_fresh_3 e_fresh_4))))
noncomputable def g_fresh : S :=
    (sSeq (sOwn 1 (mLc [2] (mSigns (mC (.str "abcdefghijklmnopqrstuvwxyz"))) (bName 2) t_fresh_1 e_fresh_2))
    (sSeq (sFor (mSigns (mC (.str "abcdefghijklmnopqrstuvwxyz"))) (bName 3) b_fresh_5)
    (sRet (m2 oIx (mV 1) (mC (.int 0))))))
noncomputable def f_fresh := fnD 4 g_fresh

noncomputable def b_words_in_1 : S :=
    (sIf (mBool (m2 oEq (m2 oIx (mV 3) (mC (.int 0))) (mC (.str "word")))) (sDrop (mAppend 1 (m2 oIx (mV 3) (mC (.int 1))))) (sDrop (mExtend 1 (mCall oList (mCons (m2 oIx (mV 3) (mNeg (mC (.int 1)))) mNil)))))
noncomputable def b_words_in_2 : S :=
    (sFor (mItems (mV 2)) (bName 3) b_words_in_1)
noncomputable def g_words_in : S :=
    (sSeq (sOwn 1 (mLst mNil))
    (sSeq (sFor (mItems (mV 0)) (bName 2) b_words_in_2)
    (sSeq (sSet 4 (m1 oSortSet (mV 1)))
    (sRet (m2 oAdd (mV 4) (mFr (mLst (mCons (mDef 1 f_fresh (mCons (mV 4) mNil)) mNil))))))))
noncomputable def f_words_in := fnD 5 g_words_in

noncomputable def b_common_1 : S :=
    (sIf (mBool (mInM true 3 (mTup (mCons (mV 10) (mCons (mV 11) mNil))))) (sSeq (sPutM 3 (mTup (mCons (mV 10) (mCons (mV 11) mNil))) (mC (.bool true)))
    (sDrop (mAppend 5 (mTup (mCons (mTup (mCons (mV 10) (mCons (mV 11) mNil))) (mCons (m2 oAdd (mV 8) (mTup (mCons (mV 9) mNil))) mNil)))))) sNil)
noncomputable def b_common_2 : S :=
    (sFor (mItems (mDef 3 f_moves_at (mCons (mV 1) (mCons (mV 7) (mCons (mV 9) mNil))))) (bName 11) b_common_1)
noncomputable def b_common_3 : S :=
    (sFor (mItems (mDef 3 f_moves_at (mCons (mV 0) (mCons (mV 6) (mCons (mV 9) mNil))))) (bName 10) b_common_2)
noncomputable def b_common_4 : S :=
    (sSeq (sIf (mAndB (mBool (mDef 2 f_end_now (mCons (mV 0) (mCons (mV 6) mNil)))) (mBool (mDef 2 f_end_now (mCons (mV 1) (mCons (mV 7) mNil))))) (sRet (mV 8)) sNil)
    (sFor (mItems (mV 2)) (bName 9) b_common_3))
noncomputable def b_common_5 : S :=
    (sSeq (sOwn 5 (mLst mNil))
    (sSeq (sFor (mItems (mV 4)) (bTup 2 (bCons (bTup 2 (bCons (bName 6) (bCons (bName 7) bNil))) (bCons (bName 8) bNil))) b_common_4)
    (sSet 4 (mV 5))))
noncomputable def g_common : S :=
    (sSeq (sDrop (mDef 1 f_need_template (mCons (mV 0) mNil)))
    (sSeq (sDrop (mDef 1 f_need_template (mCons (mV 1) mNil)))
    (sSeq (sSet 2 (mDef 1 f_words_in (mCons (mFr (mLst (mCons (mV 0) (mCons (mV 1) mNil)))) mNil)))
    (sSeq (sOwnM 3 (mMOne (mTup (mCons (mC (.tuple ([(-1), (0)].map .int))) (mCons (mC (.tuple ([(-1), (0)].map .int))) mNil))) (mC (.bool true))))
    (sSeq (sSet 4 (mFr (mLst (mCons (mTup (mCons (mTup (mCons (mC (.tuple ([(-1), (0)].map .int))) (mCons (mC (.tuple ([(-1), (0)].map .int))) mNil))) (mCons (mTup mNil) mNil))) mNil))))
    (sSeq (sWhile 1000000 (mBool (m2 oNe (mV 4) (mFr (mLst mNil)))) b_common_5)
    (sRet (mC .none))))))))
noncomputable def f_common := fnD 12 g_common

noncomputable def e_all_behind_1 : M D :=
    (mDef 3 f_stands_behind (mCons (mV 3) (mCons (mV 4) (mCons (mV 2) mNil))))
noncomputable def g_all_behind : S :=
    (sRet (mCall oTuple (mCons (mFr (mLc [3, 4] (mZip2 (mV 0) (mV 1)) (bTup 2 (bCons (bName 3) (bCons (bName 4) bNil))) mYes e_all_behind_1)) mNil)))
noncomputable def f_all_behind := fnD 5 g_all_behind

noncomputable def e_ends_1 : M D :=
    (mDef 2 f_end_now (mCons (mV 2) (mCons (mV 4) mNil)))
noncomputable def b_ends_2 : S :=
    (sIf (mBool (mCall oAny (mCons (mFr (mLc [4] (mItems (mV 3)) (bName 4) mYes e_ends_1)) mNil))) (sRet (mC (.bool true))) sNil)
noncomputable def g_ends : S :=
    (sSeq (sFor (mZip2 (mV 0) (mV 1)) (bTup 2 (bCons (bName 2) (bCons (bName 3) bNil))) b_ends_2)
    (sRet (mC (.bool false))))
noncomputable def f_ends := fnD 5 g_ends

noncomputable def b_escape_1 : S :=
    (sIf (mBool (mInM true 4 (mTup (mCons (mV 12) (mCons (mV 11) mNil))))) (sSeq (sPutM 4 (mTup (mCons (mV 12) (mCons (mV 11) mNil))) (mC (.bool true)))
    (sDrop (mAppend 6 (mTup (mCons (mTup (mCons (mV 12) (mCons (mV 11) mNil))) (mCons (m2 oAdd (mV 9) (mTup (mCons (mV 10) mNil))) mNil)))))) sNil)
noncomputable def b_escape_2 : S :=
    (sSeq (sSet 11 (mDef 3 f_all_behind (mCons (mV 1) (mCons (mV 8) (mCons (mV 10) mNil)))))
    (sFor (mItems (mDef 3 f_moves_at (mCons (mV 0) (mCons (mV 7) (mCons (mV 10) mNil))))) (bName 12) b_escape_1))
noncomputable def b_escape_3 : S :=
    (sSeq (sIf (mAndB (mBool (mDef 2 f_end_now (mCons (mV 0) (mCons (mV 7) mNil)))) (mNotB (mBool (mDef 2 f_ends (mCons (mV 1) (mCons (mV 8) mNil)))))) (sRet (mV 9)) sNil)
    (sFor (mItems (mV 2)) (bName 10) b_escape_2))
noncomputable def b_escape_4 : S :=
    (sSeq (sOwn 6 (mLst mNil))
    (sSeq (sFor (mItems (mV 5)) (bTup 2 (bCons (bTup 2 (bCons (bName 7) (bCons (bName 8) bNil))) (bCons (bName 9) bNil))) b_escape_3)
    (sSet 5 (mV 6))))
noncomputable def g_escape : S :=
    (sSeq (sSet 2 (mDef 1 f_words_in (mCons (m2 oAdd (mFr (mLst (mCons (mV 0) mNil))) (mV 1)) mNil)))
    (sSeq (sSet 3 (mTup (mCons (mC (.tuple ([(-1), (0)].map .int))) (mCons (m2 oMulX (mTup (mCons (mTup (mCons (mC (.tuple ([(-1), (0)].map .int))) mNil)) mNil)) (mCall oLen (mCons (mV 1) mNil))) mNil))))
    (sSeq (sOwnM 4 (mMOne (mV 3) (mC (.bool true))))
    (sSeq (sSet 5 (mFr (mLst (mCons (mTup (mCons (mV 3) (mCons (mTup mNil) mNil))) mNil))))
    (sSeq (sWhile 1000000 (mBool (m2 oNe (mV 5) (mFr (mLst mNil)))) b_escape_4)
    (sRet (mC .none)))))))
noncomputable def f_escape := fnD 13 g_escape

noncomputable def g_covers : S :=
    (sSeq (sDrop (mDef 1 f_need_template (mCons (mV 0) mNil)))
    (sSeq (sDrop (mDef 1 f_need_template (mCons (mV 1) mNil)))
    (sRet (m2 oIs (mDef 2 f_escape (mCons (mV 1) (mCons (mFr (mLst (mCons (mV 0) mNil))) mNil))) (mC .none)))))
noncomputable def f_covers := fnD 2 g_covers

noncomputable def g_same : S :=
    (sSeq (sDrop (mDef 1 f_need_template (mCons (mV 0) mNil)))
    (sSeq (sDrop (mDef 1 f_need_template (mCons (mV 1) mNil)))
    (sRet (mAnd (m2 oIs (mDef 2 f_escape (mCons (mV 0) (mCons (mFr (mLst (mCons (mV 1) mNil))) mNil))) (mC .none)) (m2 oIs (mDef 2 f_escape (mCons (mV 1) (mCons (mFr (mLst (mCons (mV 0) mNil))) mNil))) (mC .none))))))
noncomputable def f_same := fnD 2 g_same

end HD

set_option maxHeartbeats 4000000
/-! PL20: the words of templates and one more. -/
namespace DL
open PySem PySem.Spec L2
theorem mSigns_s (f : M D) (ρ : Env) : mSigns f ρ = (f ρ).bind fun x => match x.1 with | .str z => .ok (signsD z, x.2) | _ => .bad := id rfl
end DL
namespace HD
open PySem PySem.Spec L2 DL
def letters : List Str := ["a", "b", "c", "d", "e", "f", "g", "h", "i", "j", "k", "l", "m", "n", "o", "p", "q", "r", "s", "t", "u", "v", "w", "x", "y", "z"]
def abc : Str := "abcdefghijklmnopqrstuvwxyz"
theorem signs_abc : signsD abc = letters.map .str := by
  have h : abc.cps.toList.map (fun c => (⟨#[c]⟩ : Str)) = letters := by decide +kernel
  unfold signsD
  rw [← h, List.map_map]
  rfl
def pairsOf : List Str := letters.flatMap fun a => letters.map fun b => a ++ b
def cands : List Str := letters ++ pairsOf
theorem cands_word : cands.all isWord = true := by decide +kernel
def cands3 : List Str := letters ++ (letters.take 3).flatMap fun a => letters.map fun b => a ++ b
theorem cands_nodup : cands3.Nodup := by decide +kernel
theorem cands_len : cands3.length = 104 := by decide +kernel
theorem cands_sub : ∀ x ∈ cands3, x ∈ cands := fun x hx => by
  unfold cands3 at hx
  unfold cands pairsOf
  rcases List.mem_append.mp hx with h | h
  · exact List.mem_append_left _ h
  · obtain ⟨a, ha, h⟩ := List.mem_flatMap.mp h
    exact List.mem_append_right _ (List.mem_flatMap.mpr ⟨a, List.mem_of_mem_take ha, h⟩)
theorem letters_len : ∀ a ∈ letters, a.length = 1 := by decide +kernel
theorem fresh_lc1 (K : List Str) (hK : (strsD K).depth ≤ 64) : lcD [2] (bName 2) t_fresh_1 e_fresh_2 (letters.map .str) [] [.d (.list (K.map .str)), .un, .un, .un] = .ok ((letters.filter fun x => !K.contains x).map .str, [.d (.list (K.map .str)), .un, .un, .un]) := by
  refine lc_if PyData.str (fun x => !K.contains x) PyData.str letters (by decide +kernel) fun x hx => ?_
  have e : oNotIn (.str x) (.list (K.map .str)) = some (.bool (!K.contains x)) := oNotIn_strs K x
  by_cases hc : x ∈ K <;> simp [hc] at e <;> simp [lcStep, t_fresh_1, e_fresh_2, e, hc, wipeE]
theorem fresh_lc2 (K : List Str) (xs : List D) (a : Str) (ha : a.length = 1) : lcD [2] (bName 2) t_fresh_3 e_fresh_4 (letters.map .str) [] [.d (.list (K.map .str)), .l xs, .un, .d (.str a)] = .ok (((letters.map fun b => a ++ b).filter fun x => !K.contains x).map .str, [.d (.list (K.map .str)), .l xs, .un, .d (.str a)]) := by
  have L := lm2
  rw [List.filter_map, List.map_map]
  refine lc_if PyData.str ((fun x => !K.contains x) ∘ fun b => a ++ b) (PyData.str ∘ fun b => a ++ b) letters (by decide +kernel) fun b hb => ?_
  have hbl := letters_len b hb
  have e : oNotIn (.str (a ++ b)) (.list (K.map .str)) = some (.bool (!K.contains (a ++ b))) := oNotIn_strs K (a ++ b)
  have hs : a.length + b.length ≤ lim := by omega
  by_cases hc : (a ++ b) ∈ K <;> simp [hc] at e <;> simp [lcStep, t_fresh_3, e_fresh_4, e, hc, wipeE, oAdd, hs]
theorem fresh_s (K : List Str) (hK : K.length ≤ 100) : ∃ f, f_fresh [.list (K.map .str)] = .ok (.str f) ∧ isWord f = true ∧ f ∉ K := by
  have L := l3000
  have hd : (strsD K).depth ≤ 64 := Nat.le_trans (by simp [strsD, PyData.depth, depth_strs]) (by decide : 1 ≤ 64)
  have e1 := fresh_lc1 K hd
  have lf : (letters.filter fun x => !K.contains x).length ≤ 26 := Nat.le_trans (List.length_filter_le _ _) (by decide +kernel)
  obtain ⟨ρ', h1, h2, h3, s3, e⟩ := for_s (bd := bName 3) (g := b_fresh_5) PyData.str (fun j (acc : List Str) ρ => acc.length ≤ 26 + 26 * j ∧ True ∧ ∃ s3, ρ = [.d (.list (K.map .str)), .l (acc.map .str), .un, s3])
    (fun acc a => acc ++ (letters.map fun b => a ++ b).filter fun x => !K.contains x) letters 0 (letters.filter fun x => !K.contains x) [.d (.list (K.map .str)), .l ((letters.filter fun x => !K.contains x).map .str), .un, .un] ⟨by omega, trivial, .un, rfl⟩ fun j a acc ρ hj ⟨q1, _, s3, hρ⟩ => by
      subst hρ
      have hjl := (List.getElem?_eq_some_iff.mp hj).1
      have hj26 : j < 26 := by rw [show letters.length = 26 by decide +kernel] at hjl; exact hjl
      have ha := letters_len a (List.mem_of_getElem? hj)
      have e2 := fresh_lc2 K (acc.map .str) a ha
      have l2 : ((letters.map fun b => a ++ b).filter fun x => !K.contains x).length ≤ 26 := Nat.le_trans (List.length_filter_le _ _) (by rw [List.length_map]; decide +kernel)
      refine ⟨[.d (.list (K.map .str)), .l ((acc ++ (letters.map fun b => a ++ b).filter fun x => !K.contains x).map .str), .un, .d (.str a)], ?_, by rw [List.length_append]; omega, trivial, _, rfl⟩
      have sg : signsD (Str.ofString "abcdefghijklmnopqrstuvwxyz") = letters.map .str := signs_abc
      have hb : acc.length + ((letters.map fun b => a ++ b).filter fun x => !K.contains x).length ≤ lim := by omega
      rw [List.map_append]
      generalize (letters.map fun b => a ++ b).filter (fun x => !K.contains x) = w at e2 hb
      simp [b_fresh_5, mSigns_s, sg, plainAt, Slot.mutb, wipeE, e2, backE, hb]
  have hf : ∀ (l acc : List Str), l.foldl (fun acc a => acc ++ (letters.map fun b => a ++ b).filter fun x => !K.contains x) acc = acc ++ (l.flatMap fun a => letters.map fun b => a ++ b).filter fun x => !K.contains x := by
    intro l
    induction l with
    | nil => intro acc; simp
    | cons a l ih => intro acc; rw [List.foldl_cons, ih, List.flatMap_cons, List.filter_append, List.append_assoc]
  rw [hf, show (letters.filter fun x => !K.contains x) ++ (letters.flatMap fun a => letters.map fun b => a ++ b).filter (fun x => !K.contains x) = cands.filter (fun x => !K.contains x) by rw [cands, pairsOf, List.filter_append]] at e
  have ne : cands.filter (fun x => !K.contains x) ≠ [] := fun h0 => by
    have := nodup_len K cands3 cands_nodup fun x hx => by
      have := List.filter_eq_nil_iff.mp h0 x (cands_sub x hx)
      simpa using this
    rw [cands_len] at this
    omega
  have hm : ∀ f ∈ cands.filter (fun x => !K.contains x), isWord f = true ∧ f ∉ K := fun f hf => by
    rw [List.mem_filter] at hf
    exact ⟨List.all_eq_true.mp cands_word f hf.1, by simpa using hf.2⟩
  generalize cands.filter (fun x => !K.contains x) = cs at e ne hm
  subst e
  cases cs with
  | nil => exact absurd rfl ne
  | cons f cs =>
    refine ⟨f, ?_, hm f List.mem_cons_self⟩
    have sg : signsD (Str.ofString "abcdefghijklmnopqrstuvwxyz") = letters.map .str := signs_abc
    generalize (letters.filter fun x => !K.contains x) = l1 at e1 h1
    simp [f_fresh, fnD, runF, g_fresh, mSigns_s, sg, plainAt, Slot.mutb, wipeE, e1, backE, h1]
/-! ### the words that templates name -/
def named1 (p : Part) : List Str := match p with
  | .word w => [w]
  | .one _ b => b
  | .some _ _ b => b
def named (ps : List Part) : List Str := ps.flatMap named1
theorem named_len {ps : List Part} (h : Tm ps) : (named ps).length ≤ 18 := by
  have h6 := h.len
  have : ∀ l : List Part, (∀ p ∈ l, p.ok = true) → (named l).length ≤ 3 * l.length := by
    intro l
    induction l with
    | nil => intro _; simp [named]
    | cons p l ih =>
      intro hl
      have ihl := ih fun q hq => hl q (List.mem_cons_of_mem _ hq)
      have hp := hl p List.mem_cons_self
      have h1 : (named1 p).length ≤ 3 := by
        cases p with
        | word w => simp [named1]
        | one g b => simp [Part.ok, isBarred] at hp; simp [named1, hp.2.2.1]
        | some g n b => simp [Part.ok, isBarred] at hp; simp [named1, hp.2.2.2.2.1]
      unfold named at *
      rw [List.flatMap_cons, List.length_append, List.length_cons]
      omega
  have := this ps fun p hp => List.all_eq_true.mp h.ok p hp
  omega
theorem named_word {ps : List Part} (h : Tm ps) : ∀ x ∈ named ps, isWord x = true := fun x hx => by
  obtain ⟨p, hp, hx⟩ := List.mem_flatMap.mp hx
  have hok := List.all_eq_true.mp h.ok p hp
  cases p with
  | word w => simp [named1] at hx; subst hx; simpa [Part.ok] using hok
  | one g b => simp [Part.ok, isBarred] at hok; exact hok.2.1 x hx
  | some g n b => simp [Part.ok, isBarred] at hok; exact hok.2.2.2.1 x hx
def alpha (Ts : List (List Part)) : List Str := sortS (Ts.flatMap named)
theorem words_in_s (Ts : List (List Part)) (hT : ∀ ps ∈ Ts, Tm ps) (hl : Ts.length ≤ 5) : ∃ f, f_words_in [.list (Ts.map tmplD)] = .ok (.list ((alpha Ts ++ [f]).map .str)) ∧ isWord f = true ∧ f ∉ alpha Ts := by
  have L := l3000
  obtain ⟨ρ', h1, h2, h3, s2, s3, e⟩ := for_s (bd := bName 2) (g := b_words_in_2) tmplD (fun j (acc : List Str) ρ => acc.length ≤ 18 * j ∧ True ∧ ∃ s2 s3, ρ = [.d (.list (Ts.map tmplD)), .l (acc.map .str), s2, s3, .un])
    (fun acc ps => acc ++ named ps) Ts 0 [] [.d (.list (Ts.map tmplD)), .l [], .un, .un, .un] ⟨by simp, trivial, .un, .un, rfl⟩ fun j ps acc ρ hj ⟨q1, _, s2, s3, hρ⟩ => by
      subst hρ
      have hjl := (List.getElem?_eq_some_iff.mp hj).1
      have ht := hT ps (List.mem_of_getElem? hj)
      have nl := named_len ht
      have h6 := ht.len
      obtain ⟨ρ', k1, k2, k3, s3', k4⟩ := for_s (bd := bName 3) (g := b_words_in_1) Part.d (fun i (a2 : List Str) ρ => a2.length ≤ 18 * j + 3 * i ∧ True ∧ ∃ s3, ρ = [.d (.list (Ts.map tmplD)), .l (a2.map .str), .d (tmplD ps), s3, .un])
        (fun a2 p => a2 ++ named1 p) ps 0 acc [.d (.list (Ts.map tmplD)), .l (acc.map .str), .d (tmplD ps), s3, .un] ⟨by omega, trivial, s3, rfl⟩ fun i p a2 ρ hi ⟨q2, _, s3, hρ⟩ => by
          subst hρ
          have hil := (List.getElem?_eq_some_iff.mp hi).1
          have hok := List.all_eq_true.mp ht.ok p (List.mem_of_getElem? hi)
          have hal : a2.length + 4 ≤ lim := by omega
          have hal1 : a2.length < lim := by omega
          cases p with
          | word w =>
            refine ⟨[.d (.list (Ts.map tmplD)), .l ((a2 ++ named1 (.word w)).map .str), .d (tmplD ps), .d (Part.word w).d, .un], ?_, by simp [named1]; omega, trivial, _, rfl⟩
            simp [b_words_in_1, Part.d, named1, hal1]
          | one g b =>
            simp [Part.ok, isBarred] at hok
            have hb3 : b.length ≤ 3 := hok.2.2.1
            have hs : a2.length + b.length ≤ lim := by omega
            refine ⟨[.d (.list (Ts.map tmplD)), .l ((a2 ++ named1 (.one g b)).map .str), .d (tmplD ps), .d (Part.one g b).d, .un], ?_, by simp [named1]; omega, trivial, _, rfl⟩
            simp [b_words_in_1, Part.d, named1, strsD, hs]
          | some g n b =>
            simp [Part.ok, isBarred] at hok
            have hb3 : b.length ≤ 3 := hok.2.2.2.2.1
            have hs : a2.length + b.length ≤ lim := by omega
            refine ⟨[.d (.list (Ts.map tmplD)), .l ((a2 ++ named1 (.some g n b)).map .str), .d (tmplD ps), .d (Part.some g n b).d, .un], ?_, by simp [named1]; omega, trivial, _, rfl⟩
            simp [b_words_in_1, Part.d, named1, strsD, hs]
      have hf : ∀ (l : List Part) (acc : List Str), l.foldl (fun a2 p => a2 ++ named1 p) acc = acc ++ named l := by
        intro l
        induction l with
        | nil => intro acc; simp [named]
        | cons p l ih => intro acc; rw [List.foldl_cons, ih]; simp [named]
      rw [hf] at k4
      refine ⟨ρ', ?_, by rw [List.length_append]; omega, trivial, .d (tmplD ps), s3', k4⟩
      simp only [tmplD] at k1 ⊢
      simp [b_words_in_2, k1]
  have hf : ∀ (l : List (List Part)) (acc : List Str), l.foldl (fun acc ps => acc ++ named ps) acc = acc ++ l.flatMap named := by
    intro l
    induction l with
    | nil => intro acc; simp
    | cons p l ih => intro acc; rw [List.foldl_cons, ih]; simp
  rw [hf, List.nil_append] at e h2
  have hs := sortSet_lst (Ts.flatMap named) (by omega)
  have sl : (alpha Ts).length ≤ 90 := Nat.le_trans (len_sortS _) (by omega)
  obtain ⟨f, e2, f1, f2⟩ := fresh_s (alpha Ts) (by omega)
  refine ⟨f, ?_, f1, f2⟩
  subst e
  have hal : (alpha Ts).length + 1 ≤ lim := by omega
  unfold alpha at *
  generalize sortS (Ts.flatMap named) = A at hs e2 hal ⊢
  simp [f_words_in, fnD, runF, g_words_in, h1, hs, e2, hal]
/-! ### words that no template names are all alike -/
def subW (A : List Str) (f : Str) (x : Str) : Str := if x ∈ A then x else f
theorem takes_sub {A : List Str} {f : Str} (hf : f ∉ A) {p : Part} (hp : ∀ y ∈ named1 p, y ∈ A) (x : Str) : takes p (subW A f x) = takes p x := by
  unfold subW
  split
  · rfl
  · rename_i hx
    cases p with
    | word w =>
      have hw := hp w (by simp [named1])
      have h1 : ¬ f = w := fun e => hf (e ▸ hw)
      have h2 : ¬ x = w := fun e => hx (e ▸ hw)
      simp [takes, beq_false_of_ne h1, beq_false_of_ne h2]
    | one g b =>
      have h1 : f ∉ b := fun e => hf (hp f e)
      have h2 : x ∉ b := fun e => hx (hp x e)
      simp [takes, h1, h2]
    | some g n b =>
      have h1 : f ∉ b := fun e => hf (hp f e)
      have h2 : x ∉ b := fun e => hx (hp x e)
      simp [takes, h1, h2]
theorem fit_sub {A : List Str} {f : Str} (hf : f ∉ A) {p : Part} (hp : ∀ y ∈ named1 p, y ∈ A) (u : List Str) : Fit p (u.map (subW A f)) ↔ Fit p u := by
  cases p with
  | some g n b => simp [Fit, takes_sub hf hp]
  | word w =>
    simp only [Fit]
    constructor
    · rintro ⟨x, h, k⟩
      match u, h with
      | [y], h =>
        simp at h
        exact ⟨y, rfl, by rw [← takes_sub hf hp, h]; exact k⟩
    · rintro ⟨x, rfl, k⟩
      exact ⟨subW A f x, rfl, by rw [takes_sub hf hp]; exact k⟩
  | one g b =>
    simp only [Fit]
    constructor
    · rintro ⟨x, h, k⟩
      match u, h with
      | [y], h =>
        simp at h
        exact ⟨y, rfl, by rw [← takes_sub hf hp, h]; exact k⟩
    · rintro ⟨x, rfl, k⟩
      exact ⟨subW A f x, rfl, by rw [takes_sub hf hp]; exact k⟩
theorem has_sub {A : List Str} {f : Str} (hf : f ∉ A) : ∀ {ps : List Part}, (∀ y ∈ named ps, y ∈ A) → ∀ u : List Str, Has ps (u.map (subW A f)) ↔ Has ps u
  | [], _, u => by simp [Has]
  | p :: ps, hp, u => by
    have h1 : ∀ y ∈ named1 p, y ∈ A := fun y hy => hp y (by unfold named; rw [List.flatMap_cons]; exact List.mem_append_left _ hy)
    have h2 : ∀ y ∈ named ps, y ∈ A := fun y hy => hp y (by unfold named at *; rw [List.flatMap_cons]; exact List.mem_append_right _ hy)
    constructor
    · rintro ⟨v, w, e, k1, k2⟩
      obtain ⟨a, b, rfl, rfl, rfl⟩ := List.map_eq_append_iff.mp e
      exact ⟨a, b, rfl, (fit_sub hf h1 a).mp k1, (has_sub hf h2 b).mp k2⟩
    · rintro ⟨v, w, rfl, k1, k2⟩
      exact ⟨v.map (subW A f), w.map (subW A f), by rw [List.map_append], (fit_sub hf h1 v).mpr k1, (has_sub hf h2 w).mpr k2⟩
theorem sub_mem (A : List Str) (f : Str) (u : List Str) : ∀ x ∈ u.map (subW A f), x ∈ A ++ [f] := fun x hx => by
  obtain ⟨y, _, rfl⟩ := List.mem_map.mp hx
  unfold subW
  split
  · rename_i h; exact List.mem_append_left _ h
  · exact List.mem_append_right _ (by simp)
end HD

set_option maxHeartbeats 4000000
/-! what the older laws draw: words, barred words, templates -/
namespace HD
open PySem PySem.Spec L2 DL
def mixV (ns : List Int) (k : Nat) : Int := (cellAt ns k + 7919 * k + 1) * 48271 % 2147483647
def mixedV (ns : List Int) (k : Nat) (m : Int) : Int := (mixV ns k * mixV ns k + 7 * mixV ns k + k) % 2147483629 % m
theorem mixedV_lt (ns : List Int) (k : Nat) {m : Int} (hm : 0 < m) : 0 ≤ mixedV ns k m ∧ mixedV ns k m < m := ⟨Int.emod_nonneg _ (by omega), Int.emod_lt_of_pos _ hm⟩
theorem mixedV_s (ns : List Int) (k : Nat) (m : Int) (hm : 0 < m) : f__law_mixed_v ns [.int k, .int m] = .ok (.int (mixedV ns k m)) := by
  have h1 : 0 ≤ (cellAt ns k + 7919 * k + 1) * 48271 % 2147483647 := Int.emod_nonneg _ (by omega)
  have h2 : (cellAt ns k + 7919 * k + 1) * 48271 % 2147483647 < 2147483647 := Int.emod_lt_of_pos _ (by omega)
  have m1 : mulOk (cellAt ns k + 7919 * k + 1) 48271 = true := mulOk_r (by omega) (by omega)
  have m2 : mulOk 7919 (k : Int) = true := mulOk_l (by omega) (by omega)
  have m3 : mulOk ((cellAt ns k + 7919 * k + 1) * 48271 % 2147483647) ((cellAt ns k + 7919 * k + 1) * 48271 % 2147483647) = true := mulOk_l (by omega) (by omega)
  have m4 : mulOk 7 ((cellAt ns k + 7919 * k + 1) * 48271 % 2147483647) = true := mulOk_l (by omega) (by omega)
  simp [f__law_mixed_v, fnS, runF, g__law_mixed_v, cell_s, hm, mixedV, mixV, m1, m2, m3, m4]
def drawnV (ns : List Int) (t : Nat) (m : Int) : Int := mixedV ns (t + 1) m
theorem drawV_s (ns : List Int) (t : Nat) (m : Int) (hm : 0 < m) (ht : t < lim) : f__law_draw_v ns [.int m] t = .ok (.int (drawnV ns t m), t + 1) := by
  have e := mixedV_s ns (t + 1) m hm
  simp [f__law_draw_v, fnT, runF, g__law_draw_v, ht, drawnV] at e ⊢
  simp [e]
theorem drawV_nat (ns : List Int) (t : Nat) {m : Nat} (hm : 0 < m) (ht : t < lim) : ∃ r : Nat, f__law_draw_v ns [.int m] t = .ok (.int (r : Nat), t + 1) ∧ r < m := by
  obtain ⟨h1, h2⟩ := mixedV_lt ns (t + 1) (m := m) (by omega)
  refine ⟨(drawnV ns t m).toNat, ?_, by unfold drawnV; omega⟩
  rw [drawV_s ns t m (by omega) ht]
  have : (((drawnV ns t m).toNat : Nat) : Int) = drawnV ns t m := by unfold drawnV; omega
  rw [this]
theorem pickV_s (ns : List Int) (t : Nat) (xs : List D) (hx : xs ≠ []) (ht : t < lim) : ∃ d ∈ xs, f__law_pick_v ns [.list xs] t = .ok (d, t + 1) := by
  have hp : 0 < xs.length := List.length_pos_iff.mpr hx
  obtain ⟨r, e, hr⟩ := drawV_nat ns t hp ht
  refine ⟨xs[r], List.getElem_mem hr, ?_⟩
  simp [f__law_pick_v, fnT, runF, g__law_pick_v, e, atI_n, hr]
def abcS : Str := "abcdefghijklmnopqrstuvwxyz"
theorem tw_all {p : Nat → Bool} : ∀ (l : List Nat), (∀ c ∈ l, p c = true) → l.takeWhile p = l
  | [], _ => rfl
  | c :: l, h => by rw [List.takeWhile_cons, h c List.mem_cons_self, if_pos rfl, tw_all l fun d hd => h d (List.mem_cons_of_mem _ hd)]
theorem abc_strip {w : Str} (h : ∀ c ∈ w.cps.toList, abcS.cps.contains c = true) : (Txt.stripChars w abcS == "") = true := by
  unfold Txt.stripChars
  rw [W.stripBy_eq]
  have e : (w.cps.toList.takeWhile abcS.cps.contains) = w.cps.toList := tw_all _ h
  have e2 : W.stripped abcS.cps.contains true true w = PySem.Builtin.Str.strSub w w.length w.length := by
    unfold W.stripped
    simp only [if_true, e]
    have : w.cps.toList.drop w.cps.toList.length = [] := List.drop_length
    rw [this]
    rfl
  rw [e2]
  have e3 : PySem.Builtin.Str.strSub w w.length w.length = (⟨#[]⟩ : Str) := by
    unfold PySem.Builtin.Str.strSub
    congr 1
    simp
    exact Nat.min_le_left _ _
  rw [e3]
  decide +kernel
theorem isWord_of {w : Str} (h1 : 1 ≤ w.length) (h2 : w.length ≤ 4) (h : ∀ c ∈ w.cps.toList, abcS.cps.contains c = true) : isWord w = true := by
  unfold isWord
  have := abc_strip h
  unfold abcS at this
  rw [this]
  simp [h1, h2]
theorem letter_at {r : Nat} (h : r < 26) : ∃ c, oIx (.str abcS) (.int (r : Nat)) = some (.str ⟨#[c]⟩) ∧ abcS.cps.contains c = true := by
  have hl : abcS.cps.toList.length = 26 := by decide +kernel
  have hs : abcS.length ≤ lim := by decide +kernel
  refine ⟨abcS.cps.toList[r]'(by omega), ?_, ?_⟩
  · show (if abcS.length ≤ lim then (atI abcS.cps.toList (r : Nat)).map fun c => PyData.str ⟨#[c]⟩ else none) = _
    rw [if_pos hs, atI_n, List.getElem?_eq_getElem (by omega)]; rfl
  · rw [← Array.contains_toList, List.contains_iff_mem]
    exact List.getElem_mem _
theorem word_draw (ns : List Int) (t : Nat) (ht : t + 20 < lim) : ∃ w t', f__law_word ns [] t = .ok (.str w, t') ∧ isWord w = true ∧ t ≤ t' ∧ t' ≤ t + 7 := by
  obtain ⟨r, e1, hr⟩ := drawV_nat ns t (m := 12) (by omega) (by omega)
  have e1 : f__law_draw_v ns [.int 12] t = .ok (.int (r : Nat), t + 1) := e1
  by_cases h0 : 0 < r
  · obtain ⟨d, hd, e2⟩ := pickV_s ns (t + 1) [.str "a", .str "b", .str "c", .str "x"] (by simp) (by omega)
    have key : ∃ w, d = .str w ∧ isWord w = true := by
      simp at hd
      rcases hd with rfl | rfl | rfl | rfl
      · exact ⟨_, rfl, by decide +kernel⟩
      · exact ⟨_, rfl, by decide +kernel⟩
      · exact ⟨_, rfl, by decide +kernel⟩
      · exact ⟨_, rfl, by decide +kernel⟩
    obtain ⟨w, rfl, hw⟩ := key
    refine ⟨w, t + 2, ?_, hw, by omega, by omega⟩
    have h0' : (0 : Int) < (r : Nat) := by omega
    simp [f__law_word, fnT, runF, g__law_word, e1, h0, h0', e2]
  · have h0' : ¬ (0 : Int) < (r : Nat) := by omega
    obtain ⟨k, e2, hk⟩ := drawV_nat ns (t + 1) (m := 4) (by omega) (by omega)
    have e2 : f__law_draw_v ns [.int 4] (t + 1) = .ok (.int (k : Nat), t + 2) := e2
    have L := l3000
    obtain ⟨ρ', e3, w, t', s3, h1, h2, h3, h4, h5⟩ := forD_nx (bd := bName 3) (g := b__law_word_1)
      (fun j ρ => ∃ w t' s3, ρ = [Slot.s ns, .t t', .d (.str w), s3] ∧ w.length = j ∧ (∀ c ∈ w.cps.toList, abcS.cps.contains c = true) ∧ t + 2 ≤ t' ∧ t' ≤ t + 2 + j)
      (rangeD 0 (1 + k)) 0 [Slot.s ns, .t (t + 2), .d (.str ""), .un] ⟨_, t + 2, .un, rfl, by decide +kernel, by decide +kernel, by omega, by omega⟩ fun j x ρ hx ⟨w, t', s3, h1, h2, h3, h4, h5⟩ => by
        obtain ⟨rfl, hj⟩ := rangeD_get hx
        subst h1
        obtain ⟨q, e4, hq⟩ := drawV_nat ns t' (m := 26) (by omega) (by omega)
        have e4 : f__law_draw_v ns [.int 26] t' = .ok (.int (q : Nat), t' + 1) := e4
        obtain ⟨c, e5, hc⟩ := letter_at hq
        refine ⟨_, _, rfl, ?_, w ++ ⟨#[c]⟩, t' + 1, .d (.int (0 + j)), rfl, ?_, ?_, by omega, by omega⟩
        · have e5' : oIx (.str (Str.ofString "abcdefghijklmnopqrstuvwxyz")) (.int (q : Nat)) = some (.str ⟨#[c]⟩) := e5
          have c1 : (⟨#[c]⟩ : Str).length = 1 := rfl
          have ll : w.length + (⟨#[c]⟩ : Str).length ≤ lim := by rw [c1]; omega
          have ea : oAdd (.str w) (.str ⟨#[c]⟩) = some (.str (w ++ ⟨#[c]⟩)) := if_pos ll
          simp [b__law_word_1, e4, e5', ea]
        · show (w.cps ++ #[c]).size = _
          rw [Array.size_append]; show w.length + 1 = _; omega
        · intro y hy
          have : (w ++ (⟨#[c]⟩ : Str)).cps.toList = w.cps.toList ++ [c] := by show (w.cps ++ #[c]).toList = _; simp
          rw [this, List.mem_append, List.mem_singleton] at hy
          rcases hy with hy | rfl
          · exact h3 y hy
          · exact hc
    rw [rangeD_len] at h2 h5
    subst h1
    refine ⟨w, t', ?_, isWord_of (by omega) (by omega) h3, by omega, by omega⟩
    have rk : rangeOk (1 + (k : Int)) = true := rangeOk_of (by omega) (by omega)
    have rn : ((1 : Int) + (k : Nat)).toNat = 1 + k := by omega
    simp [f__law_word, fnT, runF, g__law_word, e1, h0, h0', e2, rk, rn, e3]
def BarV (b : List Str) : Prop := ∃ zs : List Str, b = sortS zs ∧ zs.length ≤ 3 ∧ ∀ z ∈ zs, isWord z = true
theorem barV_is {b : List Str} (h : BarV b) : isBarred b = true := by
  obtain ⟨zs, rfl, hl, hz⟩ := h
  have h1 : ∀ x ∈ sortS zs, isWord x = true := fun x hx => hz x (mem_sortS.mp hx)
  have h2 := len_sortS zs
  unfold isBarred
  rw [List.all_eq_true.mpr h1, sortS_sortS]
  simp
  omega
theorem barredV_draw (ns : List Int) (t : Nat) (ht : t + 60 < lim) : ∃ b t', f__law_barred_v ns [] t = .ok (strsD b, t') ∧ BarV b ∧ t ≤ t' ∧ t' ≤ t + 22 := by
  obtain ⟨d, hd, e1⟩ := pickV_s ns t [.int 0, .int 0, .int 1, .int 1, .int 2, .int 3] (by simp) (by omega)
  have key : ∃ n : Nat, d = .int (n : Nat) ∧ n ≤ 3 := by
    simp at hd
    rcases hd with rfl | rfl | rfl | rfl
    · exact ⟨0, rfl, by omega⟩
    · exact ⟨1, rfl, by omega⟩
    · exact ⟨2, rfl, by omega⟩
    · exact ⟨3, rfl, by omega⟩
  obtain ⟨n, rfl, hn⟩ := key
  have L := l3000
  obtain ⟨acc, ρ', e2, zs, t', h1, h2, h3, h4, h5, h6⟩ := lcD_inv (ix := [3]) (bd := bName 3) (t := mYes) (f := e__law_barred_v_1)
    (fun j acc ρ => ∃ zs t', acc = zs.map PyData.str ∧ zs.length = j ∧ (∀ z ∈ zs, isWord z = true) ∧ ρ = [Slot.s ns, .t t', .d (.int (n : Nat)), .un] ∧ t + 1 ≤ t' ∧ t' ≤ t + 1 + 7 * j) (rangeD 0 n) 0 [] [Slot.s ns, .t (t + 1), .d (.int (n : Nat)), .un] ⟨[], t + 1, rfl, rfl, by simp, rfl, by omega, by omega⟩ (by rw [rangeD_len, List.length_nil]; omega) fun j x acc ρ hx ⟨zs, t', h1, h2, h3, h4, h5, h6⟩ => by
      obtain ⟨rfl, hj⟩ := rangeD_get hx
      subst h1 h4
      obtain ⟨w, t2, e3, hw, k1, k2⟩ := word_draw ns t' (by omega)
      refine ⟨_, _, rfl, .inr ⟨[Slot.s ns, .t t2, .d (.int (n : Nat)), .d (.int (0 + j))], .str w, rfl, ?_, ?_⟩⟩
      · simp [e__law_barred_v_1, e3]
      · exact ⟨zs ++ [w], t2, by simp, by simp; omega, fun y hy => by
          rcases List.mem_append.mp hy with h | h
          · exact h3 y h
          · rw [List.mem_singleton.mp h]; exact hw, rfl, by omega, by omega⟩
  rw [rangeD_len] at h2 h6
  subst h1 h4
  refine ⟨sortS zs, t', ?_, ⟨zs, rfl, by omega, h3⟩, by omega, by omega⟩
  have e4 := sortSet_lst zs (by omega)
  have hb : rangeOk (n : Int) = true := rangeOk_of (by omega) (by omega)
  generalize zs.map PyData.str = Z at e2 e4
  simp [f__law_barred_v, fnT, runF, g__law_barred_v, e1, hb, plainAt, Slot.mutb, wipeE, e2, backE, e4, strsD]
def sixes : List Str := ["ghijkl", "lkjihg", "hkgjli"]
def sixL (s : Str) : List Str := s.cps.toList.map fun c => ⟨#[c]⟩
def sixAll : List Str := ["g", "h", "i", "j", "k", "l"]
theorem six_ok : (sixes.all fun s => decide (s.length ≤ 6) && decide ((sixL s).length = 6) && (sixL s).all isWord && decide (sixL s).Nodup && (sixL s).all fun x => sixAll.contains x) = true := by decide +kernel
theorem six_facts {s : Str} (h : s ∈ sixes) : s.length ≤ 6 ∧ (sixL s).length = 6 ∧ (∀ x ∈ sixL s, isWord x = true) ∧ (sixL s).Nodup ∧ ∀ x ∈ sixL s, x ∈ sixAll := by
  have := List.all_eq_true.mp six_ok s h
  simp only [Bool.and_eq_true, decide_eq_true_eq] at this
  obtain ⟨⟨⟨⟨h1, h2⟩, h3⟩, h4⟩, h5⟩ := this
  exact ⟨h1, h2, List.all_eq_true.mp h3, h4, fun x hx => by have := List.all_eq_true.mp h5 x hx; simpa using this⟩
theorem six_at {s : Str} (h : s ∈ sixes) {g : Nat} (hg : g < 6) : ∃ x, (sixL s)[g]? = some x ∧ oIx (.str s) (.int (g : Nat)) = some (.str x) := by
  obtain ⟨h1, h2, _⟩ := six_facts h
  have hl : s.cps.toList.length = 6 := by unfold sixL at h2; rwa [List.length_map] at h2
  have L := l3000
  refine ⟨_, List.getElem?_eq_getElem (by omega), ?_⟩
  show (if s.length ≤ lim then (atI s.cps.toList (g : Nat)).map fun c => PyData.str ⟨#[c]⟩ else none) = _
  rw [if_pos (by omega), atI_n, List.getElem?_eq_getElem (by omega)]
  simp [sixL]
theorem gaps_snoc (ps : List Part) (p : Part) : gapsOf (ps ++ [p]) = gapsOf ps ++ if p.isGap then [p.name] else [] := by
  unfold gapsOf
  rw [List.filter_append, List.map_append]
  cases h : p.isGap <;> simp [h]
theorem take_snoc {l : List Str} {g : Nat} {x : Str} (h : l[g]? = some x) : l.take (g + 1) = l.take g ++ [x] := by
  rw [List.take_add_one, h]; rfl
theorem templateV_draw (ns : List Int) (t m : Nat) (hm : m ≤ 6) (ht : t + 1000 < lim) : ∃ ps t', f__law_template_v ns [.int m] t = .ok (tmplD ps, t') ∧ Tm ps ∧ ps.length ≤ m ∧ (∀ g ∈ gapsOf ps, g ∈ sixAll) ∧ t ≤ t' ∧ t' ≤ t + 200 := by
  have L := l3000
  obtain ⟨d, hd, e0⟩ := pickV_s ns t [.str "ghijkl", .str "lkjihg", .str "hkgjli"] (by simp) (by omega)
  have key : ∃ s, d = .str s ∧ s ∈ sixes := by
    simp at hd
    rcases hd with rfl | rfl | rfl
    · exact ⟨_, rfl, by simp [sixes]⟩
    · exact ⟨_, rfl, by simp [sixes]⟩
    · exact ⟨_, rfl, by simp [sixes]⟩
  obtain ⟨s, rfl, hs⟩ := key
  obtain ⟨s1, s2, s3, s4, s5⟩ := six_facts hs
  obtain ⟨r, e1, hr⟩ := drawV_nat ns (t + 1) (m := m + 1) (by omega) (by omega)
  have e1 : f__law_draw_v ns [.int ((m : Nat) + 1)] (t + 1) = .ok (.int (r : Nat), t + 2) := e1
  obtain ⟨ρ', e2, ps, g, t', s6, s7, s8, h1, h2, h3, h4, h5, h6, h7⟩ := forD_nx (bd := bName 6) (g := b__law_template_v_1)
    (fun j ρ => ∃ ps g t' s6 s7 s8, ρ = [Slot.s ns, .t t', .d (.int m), .d (.str s), .l (ps.map Part.d), .d (.int (g : Nat)), s6, s7, s8] ∧ ps.all Part.ok = true ∧ ps.length = j ∧ gapsOf ps = (sixL s).take g ∧ g ≤ j ∧ t + 2 ≤ t' ∧ t' ≤ t + 2 + 25 * j)
    (rangeD 0 r) 0 [Slot.s ns, .t (t + 2), .d (.int m), .d (.str s), .l [], .d (.int 0), .un, .un, .un] ⟨[], 0, t + 2, .un, .un, .un, rfl, rfl, rfl, rfl, Nat.le_refl _, by omega, by omega⟩ fun j x ρ hx ⟨ps, g, t', s6, s7, s8, h1, h2, h3, h4, h5, h6, h7⟩ => by
      obtain ⟨rfl, hj⟩ := rangeD_get hx
      subst h1
      rw [Nat.zero_add] at h3 h5 h7
      have hg6 : g < 6 := by omega
      obtain ⟨x, hx1, hx2⟩ := six_at hs hg6
      have xw : isWord x = true := s3 x (List.mem_of_getElem? hx1)
      refine ⟨[Slot.s ns, .t t', .d (.int m), .d (.str s), .l (ps.map Part.d), .d (.int (g : Nat)), .d (.int (0 + j)), s7, s8], ?_⟩
      obtain ⟨k, e3, hk⟩ := drawV_nat ns t' (m := 5) (by omega) (by omega)
      have e3 : f__law_draw_v ns [.int 5] t' = .ok (.int (k : Nat), t' + 1) := e3
      have al : (ps.map Part.d).length < lim := by rw [List.length_map]; omega
      have allS : ∀ p : Part, p.ok = true → (ps ++ [p]).all Part.ok = true := fun p hp => by rw [List.all_append, h2]; simp [hp]
      have i0 : oInt [.bool false] = some (.int 0) := rfl
      have i1 : oInt [.bool true] = some (.int 1) := rfl
      have step : ∃ (p : Part) (g2 t2 : Nat), b__law_template_v_1 [Slot.s ns, .t t', .d (.int m), .d (.str s), .l (ps.map Part.d), .d (.int (g : Nat)), .d (.int (0 + j)), s7, s8] = .ok (.nx, [Slot.s ns, .t t2, .d (.int m), .d (.str s), .l (ps.map Part.d ++ [p.d]), .d (.int (g2 : Nat)), .d (.int (0 + j)), .d (.int (k : Nat)), .d (.str x)]) ∧ p.ok = true ∧ (sixL s).take g2 = (sixL s).take g ++ (if p.isGap then [p.name] else []) ∧ g2 ≤ g + 1 ∧ t' ≤ t2 ∧ t2 ≤ t' + 25 := by
        generalize hP : ps.map Part.d = P at al
        by_cases k2 : k < 2
        · obtain ⟨w, t2, e4, hw, q1, q2⟩ := word_draw ns (t' + 1) (by omega)
          refine ⟨.word w, g, t2, ?_, hw, by simp [Part.isGap], by omega, by omega, by omega⟩
          have c1 : ((k : Nat) : Int) < 2 := by omega
          have c2 : ¬ (1 : Int) < (k : Nat) := by omega
          simp [b__law_template_v_1, e3, hx2, c1, c2, k2, e4, al, Part.d, i0]
        · have c1 : ¬ ((k : Nat) : Int) < 2 := by omega
          have c2 : (1 : Int) < (k : Nat) := by omega
          have k3 : 1 < k := by omega
          by_cases k4 : k = 2
          · subst k4
            obtain ⟨b, t2, e4, hb, q1, q2⟩ := barredV_draw ns (t' + 1) (by omega)
            refine ⟨.one x b, g + 1, t2, ?_, ?_, ?_, by omega, by omega, by omega⟩
            · simp [b__law_template_v_1, e3, hx2, e4, al, Part.d, i1]
            · simp [Part.ok, xw, barV_is hb]
            · rw [take_snoc hx1]; rfl
          · have c3 : ¬ ((k : Nat) : Int) = 2 := by omega
            obtain ⟨n, e5, hn⟩ := drawV_nat ns (t' + 1) (m := 3) (by omega) (by omega)
            have e5 : f__law_draw_v ns [.int 3] (t' + 1) = .ok (.int (n : Nat), t' + 2) := e5
            obtain ⟨b, t2, e4, hb, q1, q2⟩ := barredV_draw ns (t' + 2) (by omega)
            refine ⟨.some x (n : Nat) b, g + 1, t2, ?_, ?_, ?_, by omega, by omega, by omega⟩
            · simp [b__law_template_v_1, e3, hx2, c1, c2, c3, k2, k3, k4, e5, e4, al, Part.d, i1]
            · have n1 : ((n : Nat) : Int) ≤ 2 := by omega
              have n2 : n ≤ 2 := by omega
              simp [Part.ok, xw, barV_is hb, n1, n2]
            · rw [take_snoc hx1]; rfl
      obtain ⟨p, g2, t2, q1, q2, q3, q4, q5, q6⟩ := step
      refine ⟨_, rfl, q1, ps ++ [p], g2, t2, _, _, _, by rw [List.map_append]; rfl, allS p q2, by simp; omega, ?_, by omega, by omega, by omega⟩
      rw [gaps_snoc, h4, q3]
  rw [rangeD_len] at h3 h7
  subst h1
  refine ⟨ps, t', ?_, ⟨h2, by rw [h4]; exact List.Nodup.sublist (List.take_sublist _ _) s4, by omega⟩, by omega, fun y hy => by rw [h4] at hy; exact s5 y (List.mem_of_mem_take hy), by omega, by omega⟩
  have hb : rangeOk (r : Int) = true := rangeOk_of (by omega) (by omega)
  generalize hP : ps.map Part.d = P at e2
  simp [f__law_template_v, fnT, runF, g__law_template_v, e0, e1, hb, e2, tmplD, hP]
end HD

set_option maxHeartbeats 4000000
/-! PL26: a gap renamed, a word more barred. -/
namespace HD
open PySem PySem.Spec L2 DL
def renP (g : Str) : Part → Part
  | .word w => .word w
  | .one _ b => .one g b
  | .some _ n b => .some g n b
def setB (b : List Str) : Part → Part
  | .word w => .word w
  | .one g _ => .one g b
  | .some g n _ => .some g n b
/-- one part exchanged -/
def putAt (ps : List Part) (i : Nat) (p : Part) : List Part := ps.take i ++ [p] ++ ps.drop (i + 1)
theorem putAt_get {ps : List Part} {i : Nat} (h : i < ps.length) (p : Part) : (putAt ps i p)[i]? = some p := by
  unfold putAt
  rw [List.append_assoc, List.getElem?_append_right (by simp; omega), List.length_take, show i - min i ps.length = 0 by omega]
  rfl
theorem putAt_len {ps : List Part} {i : Nat} (h : i < ps.length) (p : Part) : (putAt ps i p).length = ps.length := by simp [putAt]; omega
theorem putAt_self {ps : List Part} {i : Nat} {p : Part} (h : ps[i]? = some p) : putAt ps i p = ps := by
  obtain ⟨hl, hq⟩ := List.getElem?_eq_some_iff.mp h
  unfold putAt
  rw [List.append_assoc, List.singleton_append, ← hq, ← List.drop_eq_getElem_cons hl, List.take_append_drop]
theorem putAt_twice {ps : List Part} {i : Nat} (h : i < ps.length) (p q : Part) : putAt (putAt ps i p) i q = putAt ps i q := by
  have t1 : (putAt ps i p).take i = ps.take i := by
    unfold putAt
    rw [List.append_assoc, List.take_append_of_le_length (by simp; omega)]
    exact List.take_of_length_le (by simp; omega)
  have t2 : (putAt ps i p).drop (i + 1) = ps.drop (i + 1) := by
    unfold putAt
    rw [List.drop_append, List.drop_eq_nil_of_le (by simp; omega), List.nil_append]
    have : (ps.take i ++ [p]).length = i + 1 := by simp; omega
    rw [this, Nat.sub_self, List.drop_zero]
  unfold putAt at t1 t2 ⊢
  rw [t1, t2]
theorem place_at {ps : List Part} (h : Tm ps) {i : Nat} {p : Part} (hi : ps[i]? = some p) (hg : p.isGap = true) : f_place_of [tmplD ps, .str p.name] = .ok (.int (i : Nat)) := by
  have L := l3000
  have h6 := h.len
  have e2 := place_s ps (.str p.name) (by omega)
  rw [gapIx_at h.gaps hi hg] at e2
  simpa using e2
theorem at_s {ps : List Part} {i : Nat} {p : Part} (hi : ps[i]? = some p) : atI (ps.map Part.d) (i : Int) = some p.d := by
  obtain ⟨hl, hq⟩ := List.getElem?_eq_some_iff.mp hi
  rw [part_at hl, hq]
theorem put_s {ps : List Part} (h : Tm ps) {i : Nat} (hi : i < ps.length) (q : Part) : f_with_part [tmplD ps, .int (i : Nat), .tuple [q.d]] = .ok (tmplD (putAt ps i q)) := with_s (qs := [q]) hi (by have := h.len; simp; omega)
theorem ren_d (p : Part) (g : Str) (h : p.isGap = true) : ∃ k r, p.d = .tuple (.str k :: r) ∧ oAdd (.tuple [.str k, .str g]) (.tuple (cutD (.str k :: r) (some 2) none)) = some (renP g p).d := by
  have c : ∀ r : List D, 2 ≤ r.length → cutD r (some 2) none = r.drop 2 := fun r h => cutD_drop r 2 h
  have L := lm4
  cases p with
  | word w => cases h
  | one g' b =>
    refine ⟨_, _, rfl, ?_⟩
    rw [c _ (by simp)]
    simp [renP, Part.d]
  | some g' n b =>
    refine ⟨_, _, rfl, ?_⟩
    rw [c _ (by simp)]
    simp [renP, Part.d]
theorem renamed_s {ps : List Part} (h : Tm ps) {i : Nat} {p : Part} (hi : ps[i]? = some p) (hg : p.isGap = true) {g : Str} (hw : isWord g = true) (hn : g ∉ gapsOf ps) : f_renamed [tmplD ps, .str p.name, .str g] = .ok (tmplD (putAt ps i (renP g p))) := by
  have L := l3000
  have h6 := h.len
  have hil := (List.getElem?_eq_some_iff.mp hi).1
  have e1 := need_s h
  have e2 := place_at h hi hg
  have e3 := gaps_lc ps (by omega) [.d (tmplD ps), .d (.str p.name), .d (.str g), .d (.int (i : Nat)), .un, .un] 5 (by simp) rfl
  have e3 : lcD [5] (bName 5) t_renamed_1 e_renamed_2 (ps.map Part.d) [] [.d (tmplD ps), .d (.str p.name), .d (.str g), .d (.int (i : Nat)), .un, .un] = _ := e3
  have e4 := word_s g (word_small hw)
  rw [hw] at e4
  have e5 : oIn (.str g) (.list ((gapsOf ps).map .str)) = some (.bool ((gapsOf ps).contains g)) := oIn_strs (gapsOf ps) g
  have hc : (gapsOf ps).contains g = false := by simpa using hn
  rw [hc] at e5
  have e6 := at_s hi
  obtain ⟨k, r, er, eo⟩ := ren_d p g hg
  have e7 := put_s h hil (renP g p)
  rw [er] at e6
  simp only [tmplD] at e1 e2 e3 e7 ⊢
  generalize PyData.tuple (List.map Part.d (putAt ps i (renP g p))) = z at e7 ⊢
  generalize (renP g p).d = q at eo e7
  simp at eo
  obtain ⟨eo1, eo2⟩ := eo
  simp [f_renamed, fnD, runF, g_renamed, e1, e2, plainAt, Slot.mutb, wipeE, e3, backE, e4, e5, e6, eo1, eo2, e7]
theorem bar_d (p : Part) (b : List Str) (h : p.isGap = true) : ∃ r, p.d = .tuple r ∧ r.getLast? = some (strsD p.bars) ∧ oAdd (.tuple (cutD r none (some (-1)))) (.tuple [strsD b]) = some (setB b p).d := by
  have c : ∀ r : List D, 0 < r.length → cutD r none (some (-1)) = r.take (r.length - 1) := fun r h2 => by
    unfold cutD
    rw [show HT.sIx r.length 0 none = 0 from rfl, List.drop_zero, Nat.sub_zero]
    have : HT.sIx r.length r.length (some (-1)) = r.length - 1 := by
      simp [HT.sIx]
      omega
    rw [this]
  have L := lm4
  cases p with
  | word w => cases h
  | one g b' => exact ⟨_, rfl, rfl, by rw [c _ (by simp)]; simp [setB, Part.d, strsD]⟩
  | some g n b' => exact ⟨_, rfl, rfl, by rw [c _ (by simp)]; simp [setB, Part.d, strsD]⟩
theorem bars_small {p : Part} (h : p.ok = true) : p.bars.length ≤ 3 ∧ (∀ x ∈ p.bars, isWord x = true) ∧ sortS p.bars = p.bars := by
  cases p with
  | word w => exact ⟨by simp [Part.bars], by simp [Part.bars], (by decide +kernel : sortS [] = [])⟩
  | one g b =>
    simp [Part.ok, isBarred] at h
    exact ⟨h.2.2.1, h.2.1, h.2.2.2.symm⟩
  | some g n b =>
    simp [Part.ok, isBarred] at h
    exact ⟨h.2.2.2.2.1, h.2.2.2.1, h.2.2.2.2.2.symm⟩
theorem barring_s {ps : List Part} (h : Tm ps) {i : Nat} {p : Part} (hi : ps[i]? = some p) (hg : p.isGap = true) {w : Str} (hw : isWord w = true) (hb : (sortS (p.bars ++ [w])).length ≤ 3) : f_barring [tmplD ps, .str p.name, .str w] = .ok (tmplD (putAt ps i (setB (sortS (p.bars ++ [w])) p))) := by
  have L := l3000
  have h6 := h.len
  have hil := (List.getElem?_eq_some_iff.mp hi).1
  have e1 := need_s h
  have e2 := place_at h hi hg
  have e4 := word_s w (word_small hw)
  rw [hw] at e4
  have e6 := at_s hi
  obtain ⟨b3, _, _⟩ := bars_small (List.all_eq_true.mp h.ok p (List.mem_of_getElem? hi))
  obtain ⟨r, er, el, eo⟩ := bar_d p (sortS (p.bars ++ [w])) hg
  have e7 := put_s h hil (setB (sortS (p.bars ++ [w])) p)
  have e8 : oSortSet (.tuple (p.bars.map .str ++ [.str w])) = some (.list ((sortS (p.bars ++ [w])).map .str)) := by
    have := sortSet_tup (p.bars ++ [w]) (by simp; omega)
    simpa using this
  have hb3 : ¬ (3 : Int) < ((sortS (p.bars ++ [w])).length : Int) := by omega
  have bl : p.bars.length + 1 ≤ lim := by omega
  rw [er] at e6
  simp only [strsD] at el eo
  simp only [oAdd_tup, List.length_cons, List.length_nil, Nat.zero_add] at eo
  simp only [tmplD] at e1 e2 e7 ⊢
  generalize PyData.tuple (List.map Part.d (putAt ps i (setB (sortS (p.bars ++ [w])) p))) = z at e7 ⊢
  generalize (setB (sortS (p.bars ++ [w])) p).d = q at eo e7
  generalize sortS (p.bars ++ [w]) = sb at e8 hb3 eo
  simp [f_barring, fnD, runF, g_barring, e1, e2, e4, e6, el, bl, e8, hb3, eo, e7]
end HD

set_option maxHeartbeats 4000000
/-! PLS: a def's statements one by one (the kernel never looks into what comes behind). -/
namespace DL
open PySem PySem.Spec L2
theorem seq_nx {a b : S} {ρ ρ' : Env} (h : a ρ = .ok (.nx, ρ')) : sSeq a b ρ = b ρ' := by rw [sSeq_s, h]; rfl
theorem seq_rt {a b : S} {ρ ρ' : Env} {d : D} (h : a ρ = .ok (.rt d, ρ')) : sSeq a b ρ = .ok (.rt d, ρ') := by rw [sSeq_s, h]; rfl
theorem seq_exc {a b : S} {ρ : Env} {c : Str} (h : a ρ = .exc c) : sSeq a b ρ = .exc c := by rw [sSeq_s, h]; rfl
theorem seq_if {t : M Bool} {a b : S} {ρ ρ' : Env} (h : t ρ = .ok (false, ρ')) (hb : b = sNil) {r : S} : sSeq (sIf t a b) r ρ = r ρ' := seq_nx (by rw [sIf_s, h, hb]; rfl)
theorem if_f {t : M Bool} {a : S} {ρ ρ' : Env} (h : t ρ = .ok (false, ρ')) : sIf t a sNil ρ = .ok (.nx, ρ') := by rw [sIf_s, h]; rfl
theorem if_t {t : M Bool} {a b : S} {ρ ρ' : Env} (h : t ρ = .ok (true, ρ')) : sIf t a b ρ = a ρ' := by rw [sIf_s, h]; rfl
theorem if_e {t : M Bool} {a b : S} {ρ ρ' : Env} (h : t ρ = .ok (false, ρ')) : sIf t a b ρ = b ρ' := by rw [sIf_s, h]; rfl
theorem ret_s {f : M D} {ρ ρ' : Env} {d : D} (h : f ρ = .ok (d, ρ')) : sRet f ρ = .ok (.rt d, ρ') := by rw [sRet_s, h]; rfl
theorem set_s {i : Nat} {f : M D} {ρ ρ' : Env} {d : D} (h : f ρ = .ok (d, ρ')) : sSet i f ρ = .ok (.nx, ρ'.set i (.d d)) := by rw [sSet_s, h]; rfl
theorem fnS_ok {N : Nat} {g : S} {ns : List Int} {ds : List D} {full ρ' : Env} {d : D} (hf : (Slot.s ns :: ds.map .d) ++ List.replicate (N - (Slot.s ns :: ds.map .d).length) .un = full) (h : g full = .ok (.rt d, ρ')) : fnS N g ns ds = .ok d := by
  unfold fnS runF; rw [hf, h]; rfl
theorem fnD_ok {N : Nat} {g : S} {ds : List D} {full ρ' : Env} {d : D} (hf : ds.map .d ++ List.replicate (N - (ds.map Slot.d).length) .un = full) (h : g full = .ok (.rt d, ρ')) : fnD N g ds = .ok d := by
  unfold fnD runF; rw [hf, h]; rfl
theorem fnD_nx {N : Nat} {g : S} {ds : List D} {full ρ' : Env} (hf : ds.map .d ++ List.replicate (N - (ds.map Slot.d).length) .un = full) (h : g full = .ok (.nx, ρ')) : fnD N g ds = .ok .none := by
  unfold fnD runF; rw [hf, h]; rfl
theorem fnD_exc {N : Nat} {g : S} {ds : List D} {full : Env} {c : Str} (hf : ds.map .d ++ List.replicate (N - (ds.map Slot.d).length) .un = full) (h : g full = .exc c) : fnD N g ds = .exc c := by
  unfold fnD runF; rw [hf, h]; rfl
theorem fnT_ok {N : Nat} {g : S} {ns : List Int} {ds : List D} {t t' : Nat} {full ρ' : Env} {d : D} (hf : (Slot.s ns :: .t t :: ds.map .d) ++ List.replicate (N - (Slot.s ns :: .t t :: ds.map .d).length) .un = full) (h : g full = .ok (.rt d, ρ')) (ht : ρ'[1]? = some (.t t')) : fnT N g ns ds t = .ok (d, t') := by
  unfold fnT runF; rw [hf, h]
  show (match ρ'[1]? with | some (.t m) => Res.ok (d, m) | _ => .bad) = _
  rw [ht]
end DL

set_option maxHeartbeats 4000000
namespace HD
open PySem PySem.Spec L2 DL
theorem lawTakes_s (p : Part) (x : Str) : f__law_takes [p.d, .str x] = .ok (.bool (takes p x)) := by
  cases p with
  | word w => simp [f__law_takes, fnD, runF, g__law_takes, Part.d, takes]
  | one g b => simp [f__law_takes, fnD, runF, g__law_takes, Part.d, takes, oNotIn_strs]
  | some g n b => simp [f__law_takes, fnD, runF, g__law_takes, Part.d, takes, oNotIn_strs]
theorem cap_s {p : Part} (h : Low p) : f__law_cap [p.d] = .ok (.int (mostOf p : Nat)) := by
  cases p with
  | word w => simp [f__law_cap, fnD, runF, g__law_cap, Part.d, mostOf]
  | one g b => simp [f__law_cap, fnD, runF, g__law_cap, Part.d, mostOf]
  | some g n b =>
    obtain ⟨h1, h2⟩ := h
    have e : (if n > 1 then n else 1) = ((max 1 n.toNat : Nat) : Int) := by split <;> omega
    simp only [mostOf, ← e]
    simp [f__law_cap, fnD, runF, g__law_cap, Part.d]
theorem enough_s {ps : List Part} {s : Std} (hs : s.1 ≤ ps.length) : f__law_enough [tmplD ps, stD s] = .ok (.bool (isDone ps s)) := by
  obtain ⟨i, m⟩ := s
  cases i with
  | zero => simp [f__law_enough, fnD, runF, g__law_enough, stD, isDone]
  | succ i =>
    have hi : i < ps.length := hs
    have e := part_at hi
    have e0 : ¬ (i : Int) = -1 := by omega
    have e1 : ((i : Int) == -1) = false := beq_eq_false_iff_ne.mpr e0
    simp only [isDone, List.getElem?_eq_getElem hi]
    generalize ps[i] = p at e
    cases p with
    | word w => simp [f__law_enough, fnD, runF, g__law_enough, stD, e0, e1, tmplD, e, Part.d]
    | one g b => simp [f__law_enough, fnD, runF, g__law_enough, stD, e0, e1, tmplD, e, Part.d]
    | some g n b => simp [f__law_enough, fnD, runF, g__law_enough, stD, e0, e1, tmplD, e, Part.d]
theorem free_s {ps : List Part} (hT : ∀ p ∈ ps, Low p) {i j : Nat} (hi : i ≤ ps.length) (hj : j ≤ ps.length) (hl : ps.length ≤ lim) : f__law_free [tmplD ps, .int i, .int j] = .ok (.bool (maySkip ps i j)) := by
  obtain ⟨qs, hq⟩ : ∃ qs, qs = (ps.take j).drop i := ⟨_, rfl⟩
  have e0 : cutD (ps.map Part.d) (some (i : Int)) (some (j : Int)) = qs.map Part.d := by
    rw [cutD_mid _ _ _ (by simpa using hi) (by simpa using hj), hq, ← List.map_take, ← List.map_drop]
  have hql : qs.length ≤ lim := by rw [hq]; simp; omega
  have hm : maySkip ps i j = qs.all skip := by rw [hq]; rfl
  have hlow : ∀ p ∈ qs, Low p := fun p hp => hT p (by rw [hq] at hp; exact List.mem_of_mem_take (List.mem_of_mem_drop hp))
  rw [hm]
  clear hq hm
  have e := lc_if (ix := [3]) (bd := bName 3) (t := t__law_free_1) (f := e__law_free_2) (ρ := [Slot.d (tmplD ps), .d (.int i), .d (.int j), .un]) Part.d (fun p => !skip p) (fun _ => .int 1) qs hql fun p hp => by
    have low := hlow p hp
    cases p with
    | word w => simp [lcStep, t__law_free_1, e__law_free_2, Part.d, skip, wipeE]
    | one g b => simp [lcStep, t__law_free_1, e__law_free_2, Part.d, skip, wipeE]
    | some g n b =>
      simp only [Low] at low
      by_cases hn : n = 0
      · simp [lcStep, t__law_free_1, e__law_free_2, Part.d, skip, wipeE, hn]
      · have : 0 < n := by omega
        simp [lcStep, t__law_free_1, e__law_free_2, Part.d, skip, wipeE, hn, this]
  have z : (((qs.filter fun p => !skip p).length : Nat) : Int) = 0 ↔ qs.all skip = true := by
    rw [Int.ofNat_eq_zero, List.length_eq_zero_iff, List.filter_eq_nil_iff, List.all_eq_true]
    simp
  simp only [tmplD] at e ⊢
  have ml : ((qs.filter fun p => !skip p).map fun _ => PyData.int 1).length = (qs.filter fun p => !skip p).length := List.length_map _
  generalize (qs.filter fun p => !skip p).map (fun _ => PyData.int 1) = Z at e ml
  have oe : oEq (.int ((Z.length : Nat) : Int)) (.int 0) = some (.bool (qs.all skip)) := by
    rw [ml]
    show some (PyData.bool _) = _
    congr 2
    rw [Bool.eq_iff_iff, ← z]
    show ((((qs.filter fun p => !skip p).length : Nat) : Int) == 0) = true ↔ _
    rw [beq_iff_eq]
  have ln : oLen [.list Z] = some (.int (Z.length : Nat)) := rfl
  generalize ((Z.length : Nat) : Int) = k at oe ln
  generalize ps.map Part.d = P at e e0 ⊢
  simp [f__law_free, fnD, runF, g__law_free, e0, plainAt, Slot.mutb, wipeE, e, backE, ln, oe]
/-- a stand of a template -/
def OkS (ps : List Part) (s : Std) : Prop := s = (0, 0) ∨ ∃ i m p, s = (i + 1, m) ∧ ps[i]? = some p ∧ 1 ≤ m ∧ m ≤ mostOf p
theorem OkS.le {ps : List Part} {s : Std} (h : OkS ps s) : s.1 ≤ ps.length := by
  rcases h with rfl | ⟨i, m, p, rfl, h, _⟩
  · exact Nat.zero_le _
  · exact (List.getElem?_eq_some_iff.mp h).1
theorem isStand_s {ps : List Part} (hT : ∀ p ∈ ps, Low p) {s : Std} (h : OkS ps s) : f_is_stand [tmplD ps, stD s] = .ok (.bool true) := by
  have ln : oLen [tmplD ps] = some (.int (ps.length : Nat)) := by simp [tmplD]
  rcases h with rfl | ⟨i, m, p, rfl, hp, h1, h2⟩
  · have w1 := whole_s (-1) (-1) ((ps.length : Nat) - 1)
    rw [decide_eq_true (by omega), decide_eq_true (by omega)] at w1
    have w2 := whole_s 0 0 0
    simp at w2
    generalize tmplD ps = P at ln ⊢
    simp [f_is_stand, fnD, runF, g_is_stand, stD, ln, w1, w2]
  · have hl := (List.getElem?_eq_some_iff.mp hp).1
    have w1 := whole_s (i : Nat) (-1) ((ps.length : Nat) - 1)
    rw [decide_eq_true (by omega), decide_eq_true (by omega)] at w1
    have w2 := whole_s (m : Nat) 1 (mostOf p : Nat)
    rw [decide_eq_true (by omega), decide_eq_true (by omega)] at w2
    have e := at_s hp
    have e4 := most_s (hT p (List.mem_of_getElem? hp))
    have nn : ¬ ((i : Nat) : Int) < 0 := by omega
    simp only [tmplD] at ln ⊢
    generalize ps.map Part.d = P at ln e ⊢
    generalize p.d = pd at e e4
    simp [f_is_stand, fnD, runF, g_is_stand, stD, w1, w2, nn, e, e4, ln]
theorem needStand_s {ps : List Part} (hT : ∀ p ∈ ps, Low p) {s : Std} (h : OkS ps s) : f_need_stand [tmplD ps, stD s] = .ok .none := by
  have e := isStand_s hT h
  generalize tmplD ps = P at e ⊢
  generalize stD s = S at e ⊢
  simp [f_need_stand, fnD, runF, g_need_stand, e]
theorem whichV_NoStand : f__law_which_v "NoStand" = .ok (refD 3) := by simp [f__law_which_v, fnX, runF, g__law_which_v, excsC, refD, List.countP_cons, SeqAt.dataPlace, List.findIdx?_cons]
theorem whichV_NoWord : f__law_which_v "NoWord" = .ok (refD 4) := by simp [f__law_which_v, fnX, runF, g__law_which_v, excsC, refD, List.countP_cons, SeqAt.dataPlace, List.findIdx?_cons]
theorem ask0_s {ps : List Part} (h : Tm ps) {s : Std} (hs : OkS ps s) {x : Str} (hx : isWord x = true) : f__law_ask [.int 0, tmplD ps, stD s, .str x] = .ok (.list ((moves ps x s).map stD)) := by
  have e1 := need_s h
  have e2 := needStand_s (tm_low h) hs
  have e3 := word_s x (word_small hx)
  rw [hx] at e3
  have e4 := moves_s h hs.le x
  generalize (moves ps x s).map stD = Z at e4 ⊢
  generalize tmplD ps = P at e1 e2 e4 ⊢
  generalize stD s = S at e2 e4 ⊢
  have e5 : f_moves [P, S, .str x] = .ok (.list Z) := by simp [f_moves, fnD, runF, g_moves, e1, e2, e3, e4]
  simp [f__law_ask, fnD, runF, g__law_ask, e5]
theorem ask1_s {ps : List Part} (h : Tm ps) {s : Std} (hs : OkS ps s) : f__law_ask [.int 1, tmplD ps, stD s, .none] = .ok (.bool (endNow ps s)) := by
  have L := l3000
  have h6 := h.len
  have e1 := need_s h
  have e2 := needStand_s (tm_low h) hs
  have e4 := end_s hs.le (by omega : ps.length ≤ lim)
  generalize endNow ps s = Z at e4 ⊢
  generalize tmplD ps = P at e1 e2 e4 ⊢
  generalize stD s = S at e2 e4 ⊢
  have e5 : f_may_end [P, S] = .ok (.bool Z) := by simp [f_may_end, fnD, runF, g_may_end, e1, e2, e4]
  simp [f__law_ask, fnD, runF, g__law_ask, e5]
theorem askOdd {ps : List Part} (h : Tm ps) {d : D} (hd : f_is_stand [tmplD ps, d] = .ok (.bool false)) : f__law_ask [.int 0, tmplD ps, d, .none] = .ok (refD 3) ∧ f__law_ask [.int 1, tmplD ps, d, .none] = .ok (refD 3) := by
  have e1 := need_s h
  generalize tmplD ps = P at e1 hd ⊢
  have e2 : f_need_stand [P, d] = .exc "NoStand" := by simp [f_need_stand, fnD, runF, g_need_stand, hd]
  have e3 : f_moves [P, d, .none] = .exc "NoStand" := by simp [f_moves, fnD, runF, g_moves, e1, e2]
  have e4 : f_may_end [P, d] = .exc "NoStand" := by simp [f_may_end, fnD, runF, g_may_end, e1, e2]
  exact ⟨by simp [f__law_ask, fnD, runF, g__law_ask, e3, whichV_NoStand, excsC], by simp [f__law_ask, fnD, runF, g__law_ask, e4, whichV_NoStand, excsC]⟩
theorem askNone {ps : List Part} (h : Tm ps) {d : D} (hd : f_is_word [d] = .ok (.bool false)) : f__law_ask [.int 0, tmplD ps, .tuple [.int (-1), .int 0], d] = .ok (refD 4) := by
  have e1 := need_s h
  have e2 := needStand_s (tm_low h) (s := (0, 0)) (.inl rfl)
  have e2 : f_need_stand [tmplD ps, .tuple [.int (-1), .int 0]] = .ok .none := e2
  generalize tmplD ps = P at e1 e2 ⊢
  have e3 : f_moves [P, .tuple [.int (-1), .int 0], d] = .exc "NoWord" := by simp [f_moves, fnD, runF, g_moves, e1, e2, hd]
  simp [f__law_ask, fnD, runF, g__law_ask, e3, whichV_NoWord, excsC]
/-- one goal ahead -/
theorem goal_step {ps : List Part} (h : Tm ps) (x : Str) {s : Std} (hs : s.1 ≤ ps.length) {k : Nat} (hk : s.1 + k < ps.length) (m g0 : Slot) (acc : List D) (hacc : acc.length ≤ 20) :
    b__law_moves_1 [.d (tmplD ps), .d (stD s), .d (.str x), .d (.int ((s.1 : Int) - 1)), m, .l acc, .d (.int ((s.1 + k : Nat) : Int))] = .ok (.nx, [.d (tmplD ps), .d (stD s), .d (.str x), .d (.int ((s.1 : Int) - 1)), m, .l (acc ++ if isDone ps s && goalOk ps x s.1 (s.1 + k) then [stD (s.1 + k + 1, 1)] else []), .d (.int ((s.1 + k : Nat) : Int))]) := by
  have L := l3000
  have h6 := h.len
  have e1 := lawTakes_s ps[s.1 + k] x
  have e2 := part_at hk
  have e3 := enough_s hs
  have e4 := free_s (tm_low h) (i := s.1) (j := s.1 + k) hs (by omega) (by omega)
  have gk : goalOk ps x s.1 (s.1 + k) = (maySkip ps s.1 (s.1 + k) && takes ps[s.1 + k] x) := by unfold goalOk; rw [List.getElem?_eq_getElem hk]
  rw [gk]
  have al : acc.length < lim := by omega
  have sd : stD (s.1 + k + 1, 1) = .tuple [.int ((s.1 + k : Nat) : Int), .int 1] := rfl
  rw [sd]
  have n1 : ¬ ((s.1 + k : Nat) : Int) = (s.1 : Int) - 1 := by omega
  have n1b : (((s.1 + k : Nat) : Int) == (s.1 : Int) - 1) = false := beq_eq_false_iff_ne.mpr n1
  have n2 : (s.1 : Int) - 1 < ((s.1 + k : Nat) : Int) := by omega
  have n3 : (s.1 : Int) - 1 + 1 = ((s.1 : Nat) : Int) := by omega
  generalize isDone ps s = A at e3 ⊢
  generalize maySkip ps s.1 (s.1 + k) = B at e4 ⊢
  generalize takes ps[s.1 + k] x = C at e1 ⊢
  generalize ps[s.1 + k].d = pd at e1 e2
  generalize stD s = S at e3 ⊢
  simp only [tmplD] at *
  generalize ps.map Part.d = P at *
  generalize ((s.1 + k : Nat) : Int) = G at *
  generalize ((s.1 : Nat) : Int) = I at *
  cases C with
  | false => simp [b__law_moves_1, e2, e1]
  | true =>
    cases A with
    | false => simp [b__law_moves_1, e2, e1, n1, n1b, n2, e3]
    | true =>
      cases B with
      | false => simp [b__law_moves_1, e2, e1, n1, n1b, n2, e3, n3, e4]
      | true => simp [b__law_moves_1, e2, e1, n1, n1b, n2, e3, n3, e4, al]
theorem fold_filter (p : Nat → Bool) (f : Nat → D) : ∀ (l : List Nat) (z : List D), l.foldl (fun zs j => zs ++ if p j then [f j] else []) z = z ++ (l.filter p).map f
  | [], z => by simp
  | j :: l, z => by
    rw [List.foldl_cons, fold_filter p f l, List.filter_cons]
    cases p j <;> simp
theorem goals_loop {ps : List Part} (h : Tm ps) (x : Str) {s : Std} (hs : s.1 ≤ ps.length) (m g0 : Slot) (acc : List D) (hacc : acc.length ≤ 1) : ∃ g1, forD (bName 6) b__law_moves_1 (rangeD (s.1 : Int) (ps.length - s.1)) [.d (tmplD ps), .d (stD s), .d (.str x), .d (.int ((s.1 : Int) - 1)), m, .l acc, g0] = .ok (.nx, [.d (tmplD ps), .d (stD s), .d (.str x), .d (.int ((s.1 : Int) - 1)), m, .l (acc ++ (ahead ps x s).map stD), g1]) := by
  have h6 := h.len
  rw [range_map]
  obtain ⟨ρ', h1, h2, g1, h3⟩ := for_s (bd := bName 6) (g := b__law_moves_1) (fun j : Nat => PyData.int ((s.1 + j : Nat) : Int)) (fun k (zs : List D) ρ => zs.length ≤ 1 + k ∧ ∃ g1, ρ = [.d (tmplD ps), .d (stD s), .d (.str x), .d (.int ((s.1 : Int) - 1)), m, .l zs, g1])
    (fun zs j => zs ++ if isDone ps s && goalOk ps x s.1 (s.1 + j) then [stD (s.1 + j + 1, 1)] else []) (List.range (ps.length - s.1)) 0 acc [.d (tmplD ps), .d (stD s), .d (.str x), .d (.int ((s.1 : Int) - 1)), m, .l acc, g0] ⟨by omega, g0, rfl⟩ fun k j zs ρ hk ⟨hz, g1, hρ⟩ => by
      obtain ⟨hk1, hk2⟩ := List.getElem?_eq_some_iff.mp hk
      rw [List.getElem_range] at hk2
      rw [List.length_range] at hk1
      subst hk2 hρ
      have st := goal_step h x hs (k := k) (by omega) m g0 zs (by omega)
      refine ⟨_, (by rw [← st]; rfl), ?_, _, rfl⟩
      rw [List.length_append]
      split <;> simp <;> omega
  refine ⟨g1, ?_⟩
  rw [h1, h3, fold_filter (fun j => isDone ps s && goalOk ps x s.1 (s.1 + j)) (fun j => stD (s.1 + j + 1, 1))]
  congr 6
  unfold ahead
  cases isDone ps s with
  | false => simp
  | true => simp [List.map_map, Function.comp_def]
theorem lawMoves_s {ps : List Part} (h : Tm ps) {s : Std} (hs : s.1 ≤ ps.length) (x : Str) : f__law_moves [tmplD ps, stD s, .str x] = .ok (.list ((moves ps x s).map stD)) := by
  have L := l3000
  have h6 := h.len
  obtain ⟨i, m⟩ := s
  have ln : oLen [tmplD ps] = some (.int (ps.length : Nat)) := by simp [tmplD]
  have r2 : rangeOk (ps.length : Int) = true := rangeOk_of (by omega) (by omega)
  unfold moves
  rw [List.map_append]
  cases i with
  | zero =>
    obtain ⟨g1, e⟩ := goals_loop h x hs (.d (.int (m : Nat))) .un [] (by simp)
    have e : forD (bName 6) b__law_moves_1 (rangeD 0 ps.length) [.d (tmplD ps), .d (.tuple [.int (-1), .int (m : Nat)]), .d (.str x), .d (.int (-1)), .d (.int (m : Nat)), .l [], .un] = .ok (.nx, [.d (tmplD ps), .d (.tuple [.int (-1), .int (m : Nat)]), .d (.str x), .d (.int (-1)), .d (.int (m : Nat)), .l ((ahead ps x (0, m)).map stD), g1]) := e
    show f__law_moves [tmplD ps, .tuple [.int (-1), .int (m : Nat)], .str x] = .ok (.list ([] ++ _))
    rw [List.nil_append]
    generalize (ahead ps x (0, m)).map stD = Z at e ⊢
    generalize tmplD ps = P at e ln ⊢
    have r1 : rangeOk 0 = true := rangeOk_of (by omega) (by omega)
    simp [f__law_moves, fnD, runF, g__law_moves, ln, r1, r2, e]
  | succ i =>
    have hi : i < ps.length := hs
    have hp := List.getElem?_eq_getElem hi
    have stl : ((stay ps x (i + 1, m)).map stD).length ≤ 1 := by
      rw [List.length_map]
      unfold stay
      split
      · simp
      · split
        · split <;> simp
        · simp
    obtain ⟨g1, e⟩ := goals_loop h x hs (.d (.int (m : Nat))) (.d (.int (i : Nat))) ((stay ps x (i + 1, m)).map stD) stl
    have hst : stay ps x (i + 1, m) = match ps[i]? with
      | some (.some g n b) => if takes (.some g n b) x = true then [(i + 1, min (mostOf (.some g n b)) (m + 1))] else []
      | _ => [] := rfl
    rw [hp] at hst
    have e1 := lawTakes_s ps[i] x
    have e2 := part_at hi
    have e4 := cap_s (tm_low h ps[i] (List.getElem_mem hi))
    have step : b__law_moves_1 [.d (tmplD ps), .d (stD (i + 1, m)), .d (.str x), .d (.int (i : Nat)), .d (.int (m : Nat)), .l [], .d (.int (i : Nat))] = .ok (.nx, [.d (tmplD ps), .d (stD (i + 1, m)), .d (.str x), .d (.int (i : Nat)), .d (.int (m : Nat)), .l ((stay ps x (i + 1, m)).map stD), .d (.int (i : Nat))]) := by
      rw [hst]
      generalize stD (i + 1, m) = S
      generalize ps[i] = p at *
      simp only [tmplD] at *
      have l0 := l0
      generalize ps.map Part.d = P at *
      have lim0 : 0 < lim := by omega
      cases p with
      | word w =>
        simp only [Part.d] at *
        cases c : takes (.word w) x with
        | false => rw [c] at e1; simp [b__law_moves_1, e2, e1]
        | true => rw [c] at e1; simp [b__law_moves_1, e2, e1]
      | one g b =>
        simp only [Part.d] at *
        cases c : takes (.one g b) x with
        | false => rw [c] at e1; simp [b__law_moves_1, e2, e1]
        | true => rw [c] at e1; simp [b__law_moves_1, e2, e1]
      | some g n b =>
        simp only [Part.d] at *
        cases c : takes (.some g n b) x with
        | false => rw [c] at e1; simp [b__law_moves_1, e2, e1]
        | true =>
          rw [c] at e1
          have mn : oMin2 [.int ((m : Nat) + 1), .int (mostOf (.some g n b) : Nat)] = some (.int ((min (mostOf (.some g n b)) (m + 1) : Nat) : Int)) := by
            show some (PyData.int _) = _
            congr 2
            split <;> omega
          have sd : ∀ k : Nat, stD (i + 1, k) = .tuple [.int (i : Nat), .int (k : Nat)] := fun k => rfl
          simp [b__law_moves_1, e2, e1, e4, mn, sd, lim0]
    have rg : rangeD (i : Int) (ps.length - i) = .int (i : Nat) :: rangeD ((i + 1 : Nat) : Int) (ps.length - (i + 1)) := by
      have q : ps.length - i = (ps.length - (i + 1)) + 1 := by omega
      rw [q]
      unfold rangeD
      rw [List.range_succ_eq_map, List.map_cons, List.map_map]
      congr 1
      apply List.map_congr_left
      intro a _
      simp only [Function.comp]
      congr 1
      push_cast
      omega
    have hc : (((i + 1 : Nat) : Int)) - 1 = ((i : Nat) : Int) := by omega
    simp only [hc] at e
    have e9 : forD (bName 6) b__law_moves_1 (rangeD (i : Int) (ps.length - i)) [.d (tmplD ps), .d (stD (i + 1, m)), .d (.str x), .d (.int (i : Nat)), .d (.int (m : Nat)), .l [], .un] = .ok (.nx, [.d (tmplD ps), .d (stD (i + 1, m)), .d (.str x), .d (.int (i : Nat)), .d (.int (m : Nat)), .l ((stay ps x (i + 1, m)).map stD ++ (ahead ps x (i + 1, m)).map stD), g1]) := by
      rw [rg]
      show (Res.ok _ : Res DL.Env).bind _ = _
      rw [Res.bind_ok]
      show (b__law_moves_1 [.d (tmplD ps), .d (stD (i + 1, m)), .d (.str x), .d (.int (i : Nat)), .d (.int (m : Nat)), .l [], .d (.int (i : Nat))]).bind _ = _
      rw [step]
      exact e
    generalize (stay ps x (i + 1, m)).map stD ++ (ahead ps x (i + 1, m)).map stD = Z at e9 ⊢
    have sd : stD (i + 1, m) = .tuple [.int (i : Nat), .int (m : Nat)] := rfl
    rw [sd] at e9 ⊢
    have r1 : rangeOk (i : Int) = true := rangeOk_of (by omega) (by omega)
    have rn : ((ps.length : Int) - (i : Int)).toNat = ps.length - i := by omega
    have mx : oMax2 [.int 0, .int (i : Nat)] = some (.int (i : Nat)) := by
      show some (PyData.int _) = _
      congr 2
      split <;> omega
    generalize tmplD ps = P at e9 ln ⊢
    simp [f__law_moves, fnD, runF, g__law_moves, ln, r1, r2, mx, rn, e9]
theorem wholeX_none (a b : D) : f_is_whole [.none, a, b] = .ok (.bool false) := by simp [f_is_whole, fnD, runF, g_is_whole, PyData.isInt, PyData.isBool]
theorem wholeX_bool (c : Bool) (a b : D) : f_is_whole [.bool c, a, b] = .ok (.bool false) := by simp [f_is_whole, fnD, runF, g_is_whole, PyData.isInt, PyData.isBool]
def badL (n : Nat) : List D := [.none, .tuple [], .tuple [.int (-1)], .tuple [.int (-1), .int 1], .tuple [.int (-2), .int 0], .tuple [.int (n : Nat), .int 1], .tuple [.int 0, .int 0], .tuple [.int 0, .int 3], .list [.int (-1), .int 0], .tuple [.int (-1), .int 0, .int 0], .tuple [.bool true, .int 1], .tuple [.int (-1), .bool false], .str "a"]
def badM (n c : Nat) : List D := [.tuple [.int ((n : Int) - 1), .int ((c : Int) + 1)], .tuple [.int ((n : Int) - 1), .int 0], .tuple [.int ((n : Int) - 1), .none]]
theorem odd_a {P a b : D} {n : Nat} (ln : oLen [P] = some (.int (n : Nat))) (h : f_is_whole [a, .int (-1), .int ((n : Int) - 1)] = .ok (.bool false)) : f_is_stand [P, .tuple [a, b]] = .ok (.bool false) := by
  simp [f_is_stand, fnD, runF, g_is_stand, ln, h]
theorem odd_b {P b : D} {n : Nat} {i : Int} (ln : oLen [P] = some (.int (n : Nat))) (h : f_is_whole [.int i, .int (-1), .int ((n : Int) - 1)] = .ok (.bool true)) (hi : i < 0) (h2 : f_is_whole [b, .int 0, .int 0] = .ok (.bool false)) : f_is_stand [P, .tuple [.int i, b]] = .ok (.bool false) := by
  simp [f_is_stand, fnD, runF, g_is_stand, ln, h, hi, h2]
theorem odd_c {P b p : D} {ds : List D} {n c : Nat} {i : Int} (hP : P = .tuple ds) (ln : oLen [P] = some (.int (n : Nat))) (h : f_is_whole [.int i, .int (-1), .int ((n : Int) - 1)] = .ok (.bool true)) (hi : ¬ i < 0) (hp : atI ds i = some p) (hc : f_most_of [p] = .ok (.int (c : Nat))) (h2 : f_is_whole [b, .int 1, .int (c : Nat)] = .ok (.bool false)) : f_is_stand [P, .tuple [.int i, b]] = .ok (.bool false) := by
  subst hP
  simp [f_is_stand, fnD, runF, g_is_stand, ln, h, hi, hp, hc, h2]
theorem mostOf_le {p : Part} (h : Low p) : mostOf p ≤ 2 ∧ 1 ≤ mostOf p := by
  cases p with
  | word w => simp [mostOf]
  | one g b => simp [mostOf]
  | some g n b =>
    simp only [Low] at h
    simp only [mostOf]
    omega
theorem bad_no {ps : List Part} (hT : ∀ p ∈ ps, Low p) {d : D} (hd : d ∈ badL ps.length) : f_is_stand [tmplD ps, d] = .ok (.bool false) := by
  have ln : oLen [tmplD ps] = some (.int (ps.length : Nat)) := by simp [tmplD]
  have w : ∀ i : Int, f_is_whole [.int i, .int (-1), .int ((ps.length : Int) - 1)] = .ok (.bool (decide (-1 ≤ i) && decide (i ≤ (ps.length : Int) - 1))) := fun i => whole_s i _ _
  have w1 : f_is_whole [.int (-1), .int (-1), .int ((ps.length : Int) - 1)] = .ok (.bool true) := by rw [w, decide_eq_true (by omega), decide_eq_true (by omega)]; rfl
  have zero : ∀ k : Int, (k < 1 ∨ 2 < k) → f_is_stand [tmplD ps, .tuple [.int 0, .int k]] = .ok (.bool false) := fun k hk => by
    by_cases n0 : ps.length = 0
    · refine odd_a ln ?_
      rw [w, n0]; rfl
    · have hl : 0 < ps.length := by omega
      have w0 : f_is_whole [.int 0, .int (-1), .int ((ps.length : Int) - 1)] = .ok (.bool true) := by rw [w, decide_eq_true (by omega), decide_eq_true (by omega)]; rfl
      have mp := hT ps[0] (List.getElem_mem hl)
      have ml := mostOf_le mp
      refine odd_c (ds := ps.map Part.d) rfl ln w0 (by omega) (part_at hl) (most_s mp) ?_
      rw [whole_s]
      rcases hk with hk | hk
      · rw [decide_eq_false (by omega : ¬ (1 : Int) ≤ k)]; rfl
      · rw [decide_eq_false (by omega : ¬ k ≤ (mostOf ps[0] : Nat)), Bool.and_false]
  simp only [badL, List.mem_cons, List.not_mem_nil, or_false] at hd
  rcases hd with rfl | rfl | rfl | rfl | rfl | rfl | rfl | rfl | rfl | rfl | rfl | rfl | rfl
  · simp [f_is_stand, fnD, runF, g_is_stand]
  · simp [f_is_stand, fnD, runF, g_is_stand]
  · simp [f_is_stand, fnD, runF, g_is_stand]
  · exact odd_b ln w1 (by omega) (by rw [whole_s]; rfl)
  · exact odd_a ln (by rw [w]; rfl)
  · exact odd_a ln (by rw [w, decide_eq_false (by omega : ¬ ((ps.length : Nat) : Int) ≤ (ps.length : Int) - 1), Bool.and_false])
  · exact zero 0 (by omega)
  · exact zero 3 (by omega)
  · simp [f_is_stand, fnD, runF, g_is_stand]
  · simp [f_is_stand, fnD, runF, g_is_stand]
  · exact odd_a ln (wholeX_bool _ _ _)
  · exact odd_b ln w1 (by omega) (wholeX_bool _ _ _)
  · simp [f_is_stand, fnD, runF, g_is_stand]
theorem badM_no {ps : List Part} (hT : ∀ p ∈ ps, Low p) (hl : 0 < ps.length) {c : Nat} (hc : c = mostOf (ps[ps.length - 1]'(by omega))) {d : D} (hd : d ∈ badM ps.length c) : f_is_stand [tmplD ps, d] = .ok (.bool false) := by
  have ln : oLen [tmplD ps] = some (.int (ps.length : Nat)) := by simp [tmplD]
  have li : (ps.length : Int) - 1 = ((ps.length - 1 : Nat) : Int) := by omega
  have w0 : f_is_whole [.int ((ps.length : Int) - 1), .int (-1), .int ((ps.length : Int) - 1)] = .ok (.bool true) := by rw [whole_s, decide_eq_true (by omega), decide_eq_true (by omega)]; rfl
  have hlt : ps.length - 1 < ps.length := by omega
  have pa := part_at hlt
  rw [← li] at pa
  have mp := hT _ (List.getElem_mem hlt)
  have ms := most_s mp
  rw [← hc] at ms
  have go : ∀ b : D, f_is_whole [b, .int 1, .int (c : Nat)] = .ok (.bool false) → f_is_stand [tmplD ps, .tuple [.int ((ps.length : Int) - 1), b]] = .ok (.bool false) := fun b hb => odd_c (ds := ps.map Part.d) rfl ln w0 (by omega) pa ms hb
  simp only [badM, List.mem_cons, List.not_mem_nil, or_false] at hd
  rcases hd with rfl | rfl | rfl
  · exact go _ (by rw [whole_s, decide_eq_false (by omega : ¬ (c : Int) + 1 ≤ (c : Nat)), Bool.and_false])
  · exact go _ (by rw [whole_s]; rfl)
  · exact go _ (wholeX_none _ _)
def noneL : List D := [.none, .str "", .str "A", .str "abcde", .int 1, .tuple [.str "a"]]
theorem none_no {d : D} (hd : d ∈ noneL) : f_is_word [d] = .ok (.bool false) := by
  simp only [noneL, List.mem_cons, List.not_mem_nil, or_false] at hd
  have ws : ∀ x : Str, x.length ≤ 100 → isWord x = false → f_is_word [.str x] = .ok (.bool false) := fun x hx h => by rw [word_s x (Nat.le_trans hx (by decide)), h]
  rcases hd with rfl | rfl | rfl | rfl | rfl | rfl
  · simp [f_is_word, fnD, runF, g_is_word, PyData.isStr]
  · exact ws _ (by decide) (by decide +kernel)
  · exact ws _ (by decide) (by decide +kernel)
  · exact ws _ (by decide) (by decide +kernel)
  · simp [f_is_word, fnD, runF, g_is_word, PyData.isStr]
  · simp [f_is_word, fnD, runF, g_is_word, PyData.isStr]
theorem plain_stds (l : List Std) : PyData.plainAll (l.map stD) = true ∧ PyData.depthAll (l.map stD) ≤ 1 := by
  induction l with
  | nil => simp [PyData.plainAll, PyData.depthAll]
  | cons s l ih =>
    obtain ⟨a, e, _⟩ := stD_pair s
    rw [List.map_cons, e]
    simp [PyData.plainAll, PyData.plain, PyData.depthAll, PyData.depth, ih]
theorem oNe_stds (l : List Std) : oNe (.list (l.map stD)) (.list (l.map stD)) = some (.bool false) := by
  obtain ⟨h1, h2⟩ := plain_stds l
  exact oNe_same (by simpa [PyData.plain] using h1) (by simp only [PyData.depth]; omega)
theorem word_step (ns : List Int) (t : Nat) (ht : t + 20 < lim) {ps : List Part} (h : Tm ps) {s : Std} (hs : OkS ps s) (A : D) (s4 s5 s6 s8 s9 s10 : Slot) :
    ∃ t2 w, b_law_3 [.s ns, .t t, .d (tmplD ps), .d A, s4, s5, s6, .d (stD s), s8, s9, s10, .un, .un, .un] = .ok (.nx, [.s ns, .t t2, .d (tmplD ps), .d A, s4, s5, s6, .d (stD s), s8, s9, .d (.str w), .un, .un, .un]) ∧ t ≤ t2 ∧ t2 ≤ t + 7 := by
  obtain ⟨w, t2, e1, hw, h1, h2⟩ := word_draw ns t ht
  have e2 := ask0_s h hs hw
  have e3 := lawMoves_s h hs.le w
  have ne := oNe_stds (moves ps w s)
  refine ⟨t2, w, ?_, h1, h2⟩
  generalize (moves ps w s).map stD = Z at e2 e3 ne
  generalize tmplD ps = P at e2 e3 ⊢
  generalize stD s = S at e2 e3 ⊢
  simp [b_law_3, e1, e2, e3, ne]
theorem stand_step (ns : List Int) (t : Nat) (ht : t + 100 < lim) {ps : List Part} (h : Tm ps) {s : Std} (hs : OkS ps s) (A : D) (s4 s5 s6 s8 s9 s10 : Slot) :
    ∃ t2 s8' s9' s10', b_law_4 [.s ns, .t t, .d (tmplD ps), .d A, s4, s5, s6, .d (stD s), s8, s9, s10, .un, .un, .un] = .ok (.nx, [.s ns, .t t2, .d (tmplD ps), .d A, s4, s5, s6, .d (stD s), s8', s9', s10', .un, .un, .un]) ∧ t ≤ t2 ∧ t2 ≤ t + 21 := by
  have L := l3000
  have h6 := h.len
  have e1 := enough_s hs.le
  have e2 := free_s (tm_low h) hs.le (Nat.le_refl ps.length) (by omega)
  have e3 := ask1_s h hs
  have ln : oLen [tmplD ps] = some (.int (ps.length : Nat)) := by simp [tmplD]
  obtain ⟨a, ea, ha⟩ := stD_pair s
  have ha2 : a + 1 = ((s.1 : Nat) : Int) := by omega
  rw [← ha2] at e2
  have ix : oIx (stD s) (.int 0) = some (.int a) := by rw [ea]; rfl
  have z1 : (sSet 8 (mAnd (mDef 2 f__law_enough (mCons (mV 2) (mCons (mV 7) mNil))) (mDef 3 f__law_free (mCons (mV 2) (mCons (m2 oAdd (m2 oIx (mV 7) (mC (.int 0))) (mC (.int 1))) (mCons (mCall oLen (mCons (mV 2) mNil)) mNil)))))) [.s ns, .t t, .d (tmplD ps), .d A, s4, s5, s6, .d (stD s), s8, s9, s10, .un, .un, .un] = .ok (.nx, [.s ns, .t t, .d (tmplD ps), .d A, s4, s5, s6, .d (stD s), .d (.bool (endNow ps s)), s9, s10, .un, .un, .un]) := by
    unfold endNow
    generalize isDone ps s = B at e1 ⊢
    generalize maySkip ps s.1 ps.length = C at e2 ⊢
    generalize tmplD ps = P at e1 e2 ln ⊢
    generalize stD s = S at e1 ix ⊢
    cases B <;> simp [e1, e2, ix, ln]
  have z2 : (sIf (mBool (m2 oNe (mDef 4 f__law_ask (mCons (mC (.int 1)) (mCons (mV 2) (mCons (mV 7) (mCons (mC .none) mNil))))) (mV 8))) (sRet (mC (.bool false))) sNil) [.s ns, .t t, .d (tmplD ps), .d A, s4, s5, s6, .d (stD s), .d (.bool (endNow ps s)), s9, s10, .un, .un, .un] = .ok (.nx, [.s ns, .t t, .d (tmplD ps), .d A, s4, s5, s6, .d (stD s), .d (.bool (endNow ps s)), s9, s10, .un, .un, .un]) := by
    have ne : oNe (.bool (endNow ps s)) (.bool (endNow ps s)) = some (.bool false) := oNe_same rfl (by simp [PyData.depth])
    generalize endNow ps s = B at e3 ne ⊢
    generalize tmplD ps = P at e3 ⊢
    generalize stD s = S at e3 ⊢
    simp [e3, ne]
  obtain ⟨ρ', k1, t2, s9', s10', k2, k3, k4⟩ := forD_nx (bd := bName 9) (g := b_law_3) (fun j ρ => ∃ t2 s9 s10, ρ = [.s ns, .t t2, .d (tmplD ps), .d A, s4, s5, s6, .d (stD s), .d (.bool (endNow ps s)), s9, s10, .un, .un, .un] ∧ t ≤ t2 ∧ t2 ≤ t + 7 * j) (rangeD 0 3) 0 [.s ns, .t t, .d (tmplD ps), .d A, s4, s5, s6, .d (stD s), .d (.bool (endNow ps s)), s9, s10, .un, .un, .un] ⟨t, s9, s10, rfl, Nat.le_refl _, by omega⟩ fun j x ρ hx ⟨t2, s9, s10, hρ, q1, q2⟩ => by
    obtain ⟨rfl, hj⟩ := rangeD_get hx
    subst hρ
    obtain ⟨t3, w, st, q3, q4⟩ := word_step ns t2 (by omega) h hs A s4 s5 s6 (.d (.bool (endNow ps s))) (.d (.int (0 + j))) s10
    exact ⟨_, _, rfl, st, t3, _, _, rfl, by omega, by omega⟩
  subst k2
  rw [rangeD_len] at k4
  have z3 : (sFor (mRange1 (mC (.int 3))) (bName 9) b_law_3) [.s ns, .t t, .d (tmplD ps), .d A, s4, s5, s6, .d (stD s), .d (.bool (endNow ps s)), s9, s10, .un, .un, .un] = .ok (.nx, [.s ns, .t t2, .d (tmplD ps), .d A, s4, s5, s6, .d (stD s), .d (.bool (endNow ps s)), s9', s10', .un, .un, .un]) := by
    rw [sFor_s]
    have r3 : rangeOk (3 : Int) = true := rangeOk_of (by omega) (by omega)
    have e : (mRange1 (mC (.int 3))) [.s ns, .t t, .d (tmplD ps), .d A, s4, s5, s6, .d (stD s), .d (.bool (endNow ps s)), s9, s10, .un, .un, .un] = .ok (rangeD 0 3, [.s ns, .t t, .d (tmplD ps), .d A, s4, s5, s6, .d (stD s), .d (.bool (endNow ps s)), s9, s10, .un, .un, .un]) := by
      generalize tmplD ps = P
      generalize stD s = S
      simp [r3]
    rw [e]
    exact k1
  exact ⟨t2, _, s9', s10', (seq_nx z1).trans ((seq_nx z2).trans z3), k3, by omega⟩
theorem stands_step (ns : List Int) (t : Nat) {ps : List Part} (h : Tm ps) {i : Nat} {p : Part} (hp : ps[i]? = some p) (P : D) (acc : List D) (al : acc.length ≤ 100) (s6 s7 s8 s9 s10 s11 s12 s13 : Slot) (m6 : s6.mutb = false) :
    b_law_2 [.s ns, .t t, .d P, .l acc, .d (.int (i : Nat)), .d p.d, s6, s7, s8, s9, s10, s11, s12, s13] = .ok (.nx, [.s ns, .t t, .d P, .l (acc ++ ((List.range (mostOf p)).map fun j => (i + 1, 1 + j)).map stD), .d (.int (i : Nat)), .d p.d, s6, s7, s8, s9, s10, s11, s12, s13]) := by
  have L := l3000
  have low := tm_low h p (List.mem_of_getElem? hp)
  have e1 := cap_s low
  have ml := mostOf_le low
  have e2 := lc_all (ix := [6]) (bd := bName 6) (t := mYes) (f := e_law_1) (ρ := [.s ns, .t t, .d P, .l acc, .d (.int (i : Nat)), .d p.d, .un, s7, s8, s9, s10, s11, s12, s13]) (fun j : Nat => PyData.int ((1 + j : Nat) : Int)) (fun j => stD (i + 1, 1 + j)) (List.range (mostOf p)) (by rw [List.length_range]; omega) fun j hj => by
    have sd : stD (i + 1, 1 + j) = .tuple [.int (i : Nat), .int ((1 + j : Nat) : Int)] := rfl
    rw [sd]
    generalize p.d = pd
    simp [lcStep, e_law_1, wipeE]
  rw [← range_map] at e2
  have e2 : lcD [6] (bName 6) mYes e_law_1 (rangeD 1 (mostOf p)) [] [.s ns, .t t, .d P, .l acc, .d (.int (i : Nat)), .d p.d, .un, s7, s8, s9, s10, s11, s12, s13] = .ok ((List.range (mostOf p)).map fun j => stD (i + 1, 1 + j), [.s ns, .t t, .d P, .l acc, .d (.int (i : Nat)), .d p.d, .un, s7, s8, s9, s10, s11, s12, s13]) := e2
  have ez : ((List.range (mostOf p)).map fun j => (i + 1, 1 + j)).map stD = (List.range (mostOf p)).map fun j => stD (i + 1, 1 + j) := by rw [List.map_map]; rfl
  rw [ez]
  have zl : ((List.range (mostOf p)).map fun j => stD (i + 1, 1 + j)).length ≤ 2 := by rw [List.length_map, List.length_range]; omega
  generalize ((List.range (mostOf p)).map fun j => stD (i + 1, 1 + j)) = Z at e2 zl ⊢
  have r1 : rangeOk (1 : Int) = true := rangeOk_of (by omega) (by omega)
  have r2 : rangeOk (((mostOf p : Nat) : Int) + 1) = true := rangeOk_of (by omega) (by omega)
  have rn : (((mostOf p : Nat) : Int) + 1 - 1).toNat = mostOf p := by omega
  have all : acc.length + Z.length ≤ lim := by omega
  generalize mostOf p = k at e1 e2 r2 rn
  generalize p.d = pd at e1 e2 ⊢
  simp [b_law_2, e1, r1, r2, rn, plainAt, m6, wipeE, e2, backE, all]
theorem plain_law : ∀ ns : List Int, ns.length ≤ 63 → f_law ns [] = .ok (.bool true) := fun ns hns => by
  have L := l30000
  obtain ⟨ps, t1, e1, hp, lp, _, h1, h1'⟩ := templateV_draw ns 0 6 (by omega) (by omega)
  have e1 : f__law_template_v ns [.int 6] 0 = .ok (tmplD ps, t1) := e1
  have hT := tm_low hp
  have ln : oLen [tmplD ps] = some (.int (ps.length : Nat)) := by simp [tmplD]
  have a1 : sTown 1 [Slot.s ns, .un, .un, .un, .un, .un, .un, .un, .un, .un, .un, .un, .un, .un] = .ok (.nx, [Slot.s ns, .t 0, .un, .un, .un, .un, .un, .un, .un, .un, .un, .un, .un, .un]) := rfl
  have a2 : (sSet 2 (mTown 0 1 1 f__law_template_v (mCons (mC (.int 6)) mNil))) [Slot.s ns, .t 0, .un, .un, .un, .un, .un, .un, .un, .un, .un, .un, .un, .un] = .ok (.nx, [Slot.s ns, .t t1, .d (tmplD ps), .un, .un, .un, .un, .un, .un, .un, .un, .un, .un, .un]) := by
    generalize tmplD ps = P at e1 ⊢
    simp [e1]
  have a3 : (sOwn 3 (mLst (mCons (mTup (mCons (mNeg (mC (.int 1))) (mCons (mC (.int 0)) mNil))) mNil))) [Slot.s ns, .t t1, .d (tmplD ps), .un, .un, .un, .un, .un, .un, .un, .un, .un, .un, .un] = .ok (.nx, [Slot.s ns, .t t1, .d (tmplD ps), .l [stD (0, 0)], .un, .un, .un, .un, .un, .un, .un, .un, .un, .un]) := by
    generalize tmplD ps = P
    simp [stD]
  obtain ⟨ρ', k1, k2, k3, s4, s5, k4⟩ := for_s (bd := bTup 2 (bCons (bName 4) (bCons (bName 5) bNil))) (g := b_law_2) enP (fun j (ss : List Std) ρ => (∀ s ∈ ss, OkS ps s) ∧ ss.length ≤ 1 + 2 * j ∧ ∃ s4 s5, ρ = [Slot.s ns, .t t1, .d (tmplD ps), .l (ss.map stD), s4, s5, .un, .un, .un, .un, .un, .un, .un, .un])
    (fun ss q => ss ++ (List.range (mostOf q.1)).map fun j => (q.2 + 1, 1 + j)) ps.zipIdx 0 [(0, 0)] [Slot.s ns, .t t1, .d (tmplD ps), .l [stD (0, 0)], .un, .un, .un, .un, .un, .un, .un, .un, .un, .un] ⟨fun s hs => .inl (List.mem_singleton.mp hs), by simp, .un, .un, rfl⟩ fun j q ss ρ hj ⟨q1, q2, s4, s5, e⟩ => by
      subst e
      rw [Nat.zero_add] at q2 ⊢
      obtain ⟨z1, z2⟩ := zip_get hj
      have jl := (List.getElem?_eq_some_iff.mp z2).1
      have low := mostOf_le (hT q.1 (List.mem_of_getElem? z2))
      have st := stands_step ns t1 hp z2 (tmplD ps) (ss.map stD) (by rw [List.length_map]; omega) .un .un .un .un .un .un .un .un rfl
      rw [← List.map_append] at st
      rw [z1]
      refine ⟨_, ?_, fun s hs => ?_, ?_, .d (.int (j : Nat)), .d q.1.d, rfl⟩
      · have : enP q = .tuple [.int (j : Nat), q.1.d] := by unfold enP; rw [z1]
        rw [this, ← st]
        rfl
      · rcases List.mem_append.mp hs with hs | hs
        · exact q1 s hs
        · obtain ⟨a, ha, rfl⟩ := List.mem_map.mp hs
          exact .inr ⟨j, 1 + a, q.1, rfl, z2, by omega, by have := List.mem_range.mp ha; omega⟩
      · rw [List.length_append, List.length_map, List.length_range]; omega
  generalize List.foldl _ _ ps.zipIdx = ss at k2 k3 k4
  subst k4
  rw [Nat.zero_add, List.length_zipIdx] at k3
  have a4 : (sFor (mEnum (mV 2)) (bTup 2 (bCons (bName 4) (bCons (bName 5) bNil))) b_law_2) [Slot.s ns, .t t1, .d (tmplD ps), .l [stD (0, 0)], .un, .un, .un, .un, .un, .un, .un, .un, .un, .un] = .ok (.nx, [Slot.s ns, .t t1, .d (tmplD ps), .l (ss.map stD), s4, s5, .un, .un, .un, .un, .un, .un, .un, .un]) := by
    rw [sFor_s]
    have ee := enumD_zip ps 0
    simp only [tmplD] at k1 ⊢
    simp only [mEnum_s, mV_s, List.getElem?_cons_zero, List.getElem?_cons_succ, Res.bind_ok, ee]
    exact k1
  obtain ⟨ρ', k5, t2, s7, s8, s9, s10, k6, k7, k8⟩ := forD_nx (bd := bName 7) (g := b_law_4) (fun j ρ => ∃ t2 s7 s8 s9 s10, ρ = [Slot.s ns, .t t2, .d (tmplD ps), .d (.list (ss.map stD)), s4, s5, .un, s7, s8, s9, s10, .un, .un, .un] ∧ t1 ≤ t2 ∧ t2 ≤ t1 + 21 * j) (ss.map stD) 0 [Slot.s ns, .t t1, .d (tmplD ps), .d (.list (ss.map stD)), s4, s5, .un, .un, .un, .un, .un, .un, .un, .un] ⟨t1, .un, .un, .un, .un, rfl, Nat.le_refl _, by omega⟩ fun j x ρ hx ⟨t2, s7, s8, s9, s10, hρ, q1, q2⟩ => by
    subst hρ
    rw [List.getElem?_map] at hx
    cases hs : ss[j]? with
    | none => rw [hs] at hx; cases hx
    | some s =>
      rw [hs] at hx
      have hx : stD s = x := Option.some.inj hx
      subst hx
      have jl := (List.getElem?_eq_some_iff.mp hs).1
      obtain ⟨t3, s8', s9', s10', st, q3, q4⟩ := stand_step ns t2 (by omega) hp (k2 s (List.mem_of_getElem? hs)) (.list (ss.map stD)) s4 s5 .un s8 s9 s10
      exact ⟨_, _, rfl, st, t3, _, _, _, _, rfl, by omega, by omega⟩
  subst k6
  rw [List.length_map] at k8
  have a5 : (sFor (mItems (mV 3)) (bName 7) b_law_4) [Slot.s ns, .t t1, .d (tmplD ps), .l (ss.map stD), s4, s5, .un, .un, .un, .un, .un, .un, .un, .un] = .ok (.nx, [Slot.s ns, .t t2, .d (tmplD ps), .d (.list (ss.map stD)), s4, s5, .un, s7, s8, s9, s10, .un, .un, .un]) := by
    rw [sFor_s]
    have e : (mItems (mV 3)) [Slot.s ns, .t t1, .d (tmplD ps), .l (ss.map stD), s4, s5, .un, .un, .un, .un, .un, .un, .un, .un] = .ok (ss.map stD, [Slot.s ns, .t t1, .d (tmplD ps), .d (.list (ss.map stD)), s4, s5, .un, .un, .un, .un, .un, .un, .un, .un]) := by
      generalize ss.map stD = Z
      generalize tmplD ps = P
      simp
    rw [e]
    exact k5
  have l6 := hp.len
  have t2l : t2 ≤ 500 := by omega
  generalize ss.map stD = Ss at a3 a4 a5
  have a6 : (sSet 4 (mCall oLen (mCons (mV 2) mNil))) [Slot.s ns, .t t2, .d (tmplD ps), .d (.list Ss), s4, s5, .un, s7, s8, s9, s10, .un, .un, .un] = .ok (.nx, [Slot.s ns, .t t2, .d (tmplD ps), .d (.list Ss), .d (.int (ps.length : Nat)), s5, .un, s7, s8, s9, s10, .un, .un, .un]) := by
    generalize tmplD ps = P at ln ⊢
    simp [ln]
  have a7 : (sOwn 11 (mLst (mCons (mC .none) (mCons (mTup mNil) (mCons (mTup (mCons (mNeg (mC (.int 1))) mNil)) (mCons (mTup (mCons (mNeg (mC (.int 1))) (mCons (mC (.int 1)) mNil))) (mCons (mTup (mCons (mNeg (mC (.int 2))) (mCons (mC (.int 0)) mNil))) (mCons (mTup (mCons (mV 4) (mCons (mC (.int 1)) mNil))) (mCons (mTup (mCons (mC (.int 0)) (mCons (mC (.int 0)) mNil))) (mCons (mTup (mCons (mC (.int 0)) (mCons (mC (.int 3)) mNil))) (mCons (mFr (mLst (mCons (mNeg (mC (.int 1))) (mCons (mC (.int 0)) mNil)))) (mCons (mTup (mCons (mNeg (mC (.int 1))) (mCons (mC (.int 0)) (mCons (mC (.int 0)) mNil)))) (mCons (mTup (mCons (mC (.bool true)) (mCons (mC (.int 1)) mNil))) (mCons (mTup (mCons (mNeg (mC (.int 1))) (mCons (mC (.bool false)) mNil))) (mCons (mC (.str "a")) mNil))))))))))))))) [Slot.s ns, .t t2, .d (tmplD ps), .d (.list Ss), .d (.int (ps.length : Nat)), s5, .un, s7, s8, s9, s10, .un, .un, .un] = .ok (.nx, [Slot.s ns, .t t2, .d (tmplD ps), .d (.list Ss), .d (.int (ps.length : Nat)), s5, .un, s7, s8, s9, s10, .l (badL ps.length), .un, .un]) := by
    generalize tmplD ps = P
    unfold badL
    simp
  obtain ⟨Bs, a8, bl, bn⟩ : ∃ Bs : List D, (sIf (mBool (m2 oGt (mV 4) (mC (.int 0)))) (sDrop (mExtend 11 (mFr (mLst (mCons (mTup (mCons (m2 oSub (mV 4) (mC (.int 1))) (mCons (m2 oAdd (mDef 1 f__law_cap (mCons (m2 oIx (mV 2) (m2 oSub (mV 4) (mC (.int 1)))) mNil)) (mC (.int 1))) mNil))) (mCons (mTup (mCons (m2 oSub (mV 4) (mC (.int 1))) (mCons (mC (.int 0)) mNil))) (mCons (mTup (mCons (m2 oSub (mV 4) (mC (.int 1))) (mCons (mC .none) mNil))) mNil))))))) sNil) [Slot.s ns, .t t2, .d (tmplD ps), .d (.list Ss), .d (.int (ps.length : Nat)), s5, .un, s7, s8, s9, s10, .l (badL ps.length), .un, .un] = .ok (.nx, [Slot.s ns, .t t2, .d (tmplD ps), .d (.list Ss), .d (.int (ps.length : Nat)), s5, .un, s7, s8, s9, s10, .l Bs, .un, .un]) ∧ Bs ≠ [] ∧ ∀ d ∈ Bs, f_is_stand [tmplD ps, d] = .ok (.bool false) := by
    have bb : (badL ps.length).length = 13 := rfl
    by_cases c : 0 < ps.length
    · have hlt : ps.length - 1 < ps.length := by omega
      have pa := part_at hlt
      have li : ((ps.length - 1 : Nat) : Int) = (ps.length : Int) - 1 := by omega
      rw [li] at pa
      have cs := cap_s (hT _ (List.getElem_mem hlt))
      refine ⟨badL ps.length ++ badM ps.length (mostOf ps[ps.length - 1]), ?_, by simp [badL], fun d hd => ?_⟩
      · unfold badM
        generalize badL ps.length = B at bb ⊢
        generalize mostOf ps[ps.length - 1] = m at cs ⊢
        generalize ps[ps.length - 1].d = pd at pa cs
        simp only [tmplD]
        generalize ps.map Part.d = P at pa ⊢
        have c2 : (0 : Int) < (ps.length : Nat) := by omega
        have bl : B.length + 3 ≤ lim := by omega
        simp [c, c2, pa, cs, bl]
      · rcases List.mem_append.mp hd with hd | hd
        · exact bad_no hT hd
        · exact badM_no hT c rfl hd
    · refine ⟨badL ps.length, ?_, by simp [badL], fun d hd => bad_no hT hd⟩
      generalize badL ps.length = B
      generalize tmplD ps = P
      have c2 : ¬ (0 : Int) < (ps.length : Nat) := by omega
      simp [c, c2]
  obtain ⟨d, hd, e9⟩ := pickV_s ns t2 Bs bl (by omega)
  obtain ⟨f1, f2⟩ := askOdd hp (bn d hd)
  have a9 : (sSet 12 (mTown 0 1 1 f__law_pick_v (mCons (mV 11) mNil))) [Slot.s ns, .t t2, .d (tmplD ps), .d (.list Ss), .d (.int (ps.length : Nat)), s5, .un, s7, s8, s9, s10, .l Bs, .un, .un] = .ok (.nx, [Slot.s ns, .t (t2 + 1), .d (tmplD ps), .d (.list Ss), .d (.int (ps.length : Nat)), s5, .un, s7, s8, s9, s10, .d (.list Bs), .d d, .un]) := by
    generalize tmplD ps = P
    simp [e9]
  have ne3 : oNe (refD 3) (.tuple [.str "refused", .int 3]) = some (.bool false) := oNe_same (d := refD 3) rfl (by show _ ≤ 64; simp [refD, PyData.depth, PyData.depthAll])
  have b1 : (sIf (mOrB (mBool (m2 oNe (mDef 4 f__law_ask (mCons (mC (.int 0)) (mCons (mV 2) (mCons (mV 12) (mCons (mC .none) mNil))))) (mTup (mCons (mC (.str "refused")) (mCons (mC (.int 3)) mNil))))) (mBool (m2 oNe (mDef 4 f__law_ask (mCons (mC (.int 1)) (mCons (mV 2) (mCons (mV 12) (mCons (mC .none) mNil))))) (mTup (mCons (mC (.str "refused")) (mCons (mC (.int 3)) mNil)))))) (sRet (mC (.bool false))) sNil) [Slot.s ns, .t (t2 + 1), .d (tmplD ps), .d (.list Ss), .d (.int (ps.length : Nat)), s5, .un, s7, s8, s9, s10, .d (.list Bs), .d d, .un] = .ok (.nx, [Slot.s ns, .t (t2 + 1), .d (tmplD ps), .d (.list Ss), .d (.int (ps.length : Nat)), s5, .un, s7, s8, s9, s10, .d (.list Bs), .d d, .un]) := by
    generalize refD 3 = R at f1 f2 ne3
    generalize tmplD ps = P at f1 f2 ⊢
    simp [f1, f2, ne3]
  obtain ⟨z, hz, ez⟩ := pickV_s ns (t2 + 1) noneL (by simp [noneL]) (by omega)
  have f3 := askNone hp (none_no hz)
  have b2 : (sSet 13 (mTown 0 1 1 f__law_pick_v (mCons (mFr (mLst (mCons (mC .none) (mCons (mC (.str "")) (mCons (mC (.str "A")) (mCons (mC (.str "abcde")) (mCons (mC (.int 1)) (mCons (mTup (mCons (mC (.str "a")) mNil)) mNil)))))))) mNil))) [Slot.s ns, .t (t2 + 1), .d (tmplD ps), .d (.list Ss), .d (.int (ps.length : Nat)), s5, .un, s7, s8, s9, s10, .d (.list Bs), .d d, .un] = .ok (.nx, [Slot.s ns, .t (t2 + 2), .d (tmplD ps), .d (.list Ss), .d (.int (ps.length : Nat)), s5, .un, s7, s8, s9, s10, .d (.list Bs), .d d, .d z]) := by
    unfold noneL at ez
    generalize tmplD ps = P
    simp [ez]
  have b3 : (sRet (m2 oEq (mDef 4 f__law_ask (mCons (mC (.int 0)) (mCons (mV 2) (mCons (mTup (mCons (mNeg (mC (.int 1))) (mCons (mC (.int 0)) mNil))) (mCons (mV 13) mNil))))) (mTup (mCons (mC (.str "refused")) (mCons (mC (.int 4)) mNil))))) [Slot.s ns, .t (t2 + 2), .d (tmplD ps), .d (.list Ss), .d (.int (ps.length : Nat)), s5, .un, s7, s8, s9, s10, .d (.list Bs), .d d, .d z] = .ok (.rt (.bool true), [Slot.s ns, .t (t2 + 2), .d (tmplD ps), .d (.list Ss), .d (.int (ps.length : Nat)), s5, .un, s7, s8, s9, s10, .d (.list Bs), .d d, .d z]) := by
    refine ret_s ?_
    have eq4 := refD_eq 4
    generalize refD 4 = R at f3 eq4
    generalize tmplD ps = P at f3 ⊢
    simp [f3, eq4]
  exact fnS_ok (g := g_law) rfl ((seq_nx a1).trans ((seq_nx a2).trans ((seq_nx a3).trans ((seq_nx a4).trans ((seq_nx a5).trans ((seq_nx a6).trans ((seq_nx a7).trans ((seq_nx a8).trans ((seq_nx a9).trans ((seq_nx b1).trans ((seq_nx b2).trans b3)))))))))))
end HD

set_option maxHeartbeats 0
namespace HD
open PySem PySem.Spec PyProof.Rows L2 DL
theorem told {P : Program} {w : World} {K : PySem.W.Frag} {h : Heap} {mg : PySem.Str → Option Value} {f : Addr} (X : K.In h) (G : h.Ns mainGlobals mg) (hfa : mg ("law" : PySem.Str) = some (.ref f)) (c : He.SaysX fa fn ts [] ex w h K) :
    ∃ fd : FuncData, (∀ (s : Shared) (v : Value), BindsTo s fd ⟨[v], []⟩ [("_law_script", v)]) ∧ ∀ base : Heap, K.In base → base.Ns mainGlobals mg → FnOk P w K mg base CX0 9 f fd ["_law_script"] (spL K 63) := by
  have d : Hd w K mg := ⟨h, X, G, c⟩
  obtain ⟨fd, F⟩ := d.fnd 31 (d := d_law)
  have e := hfa.symm.trans (d.glo 31)
  cases e
  have b := FunD.bindsA (ps := ["_law_script"]) F fun _ _ _ _ _ _ us hl => match us, hl with | [_], _ => rfl
  exact ⟨fd, fun s v => b s [v] rfl, fun base _ _ => to0 (k_law d F plain_law)⟩
end HD
open PySem PySem.W PySem.Calls PyProof.Rows
theorem PySem.Challenge.cw_gapforms_k03_stands_holds : PySem.Challenge.rw_gapforms_k03_stands.Holds := by
  w_on; o_law
  refine HandSHeadRun.head_any (r := OpenLaw.row PySem.Challenge.rw_gapforms_k03_stands) (q := view (OpenLaw.row PySem.Challenge.rw_gapforms_k03_stands).prog [51]) (H := HD.hk) (ob := HD.ob) (M := 30000) (loose := HD.names) (d := HandSHeadRun.topDef (OpenLaw.row PySem.Challenge.rw_gapforms_k03_stands).prog 51) (kwd := []) HD.ob_eq
    (by kernel_rfl) (fun s => by kernel_rfl) HD.run (by kernel_rfl) (by kernel_rfl) (by kernel_rfl) (by rfl) (by first | assumption | decide +kernel) (by decide +kernel) ⟨rfl, rfl, rfl, rfl, rfl, by decide +kernel⟩ ?hw ?hc
  case hw => w_witness2
  case hc =>
    refine L2.walk_ofE (l := PySem.Challenge.rw_gapforms_k03_stands) (n := 63) (k := 9) (x := "_law_script") (CX := L2.CX0) rfl (by decide) (by kernel_rfl) ⟨rfl, by decide, by decide⟩ ?F (fun _ _ _ _ z => z)
    intro w mg fa h Y G hmg0
    obtain ⟨K, KX, c⟩ := Y
    have hmg : mg ("law" : PySem.Str) = some (.ref fa) := by
      have e : (HandSHeadRun.topDef (OpenLaw.row PySem.Challenge.rw_gapforms_k03_stands).prog 51).name = ("law" : PySem.Str) := by kernel_rfl
      rw [← e]
      exact hmg0
    obtain ⟨fd, hb, hF⟩ := HD.told (P := (PySem.Challenge.rw_gapforms_k03_stands).prog) (w := w) KX G hmg c
    exact ⟨K, fd, DL.spL K 63, KX, hb, fun H a ns hl _ hS => ⟨a, ns, rfl, hl, hS, fun _ => rfl⟩, hF⟩
