import PyProof.Rows.All
import HandS.ForMost
import HandS.Deep
import HandS.Conv
import HandS.TupAny
import HandS.Zip
import HandS.Wide
import HandS.TupLen
import HandS.IsInst
import HandS.Star
import HandS.Style
import HandS.Rev
import HandS.Codes
import HandS.SetFor
import HandS.Defaults
import HandS.SortInts
import HandS.SortRule
import KE.KSortedM
import KE.KDictWalk
import HandS.Iter
import HandS.DictComp
import KE.KDictCopyH
import KE.KDictOf
import HandS.More
import HandS.DictEq
import KE.KDictDisplayH
import KE.DataMinKey
import HandS.TupLe
import HandS.SortKw
import KE.GoesEnum
import HandS.Strs
import KE.KDictPairs
import HandS.List
import PyProof.EnumIter
import Wide.All
import OpenK.AllK
import Wide.FinOn
import KE.KStateDown
import Lean
import HandS.Base
import HandS.Call
import HandS.Ends
import HandS.Words
import HandS.WordsExc
import HandS.Head0
import HandS.Head1
import HandS.Head2
import HandS.HeadEnd
import HandS.HeadHook1
import HandS.HeadHook2
import PySem.Challenge.RW_crosswires_k67_across_cuts_along_drawing
set_option Elab.async false
set_option linter.all false
set_option maxRecDepth 100000
/-! data denotations over the hand layer: what a piece of the text computes on plain data, and that it does -/
namespace L2.Dn
open PySem PySem.Spec PyProof.Rows
/-- plain data; a dict by the kind of its keys -/
inductive D where
  | none | bool (b : Bool) | int (i : Int) | str (x : Str) | list (xs : List D) | tuple (xs : List D) | ptup (xs : List D)
  | dT (kvs : List (List Key × D)) | dK (kvs : List (Key × D))
  deriving Inhabited
/-! ### keys -/
def keyD : Key → D
  | .inl i => .int i
  | .inr s => .str s
def keyT (k : List Key) : D := .tuple (k.map keyD)
/-! ### a value that represents data, in a heap whose objects stay -/
mutual
inductive Rp (H : Hp) : V → D → Prop
  | non : Rp H .non .none
  | bl (b : Bool) : Rp H (.bl b) (.bool b)
  | int (i : Int) : Rp H (.int i) (.int i)
  | str (x : Str) : Rp H (.str x) (.str x)
  | lst {a : Addr} {vs : List V} {ds : List D} : H a = some (.lst vs) → RpL H vs ds → Rp H (.ref a) (.list ds)
  | tup {a : Addr} {vs : List V} {ds : List D} : H a = some (.tup vs) → RpL H vs ds → Rp H (.ref a) (.tuple ds)
  | ptup {a : Addr} {o : Obj} {vs : List V} {ds : List D} : H a = some (.frz o (.tup vs)) → o.dict = none → RpL H vs ds → Rp H (.ref a) (.ptup ds)
  | dT {a : Addr} {o : Obj} {kvs : List (List Key × V)} {ds : List (List Key × D)} : H a = some (.frz o (.dT kvs)) → RpT H kvs ds → Rp H (.ref a) (.dT ds)
  | dK {a : Addr} {o : Obj} {kvs : List (Key × V)} {ds : List (Key × D)} : H a = some (.frz o (.dK kvs)) → RpK H kvs ds → Rp H (.ref a) (.dK ds)
inductive RpL (H : Hp) : List V → List D → Prop
  | nil : RpL H [] []
  | cons {v : V} {vs : List V} {d : D} {ds : List D} : Rp H v d → RpL H vs ds → RpL H (v :: vs) (d :: ds)
inductive RpT (H : Hp) : List (List Key × V) → List (List Key × D) → Prop
  | nil : RpT H [] []
  | cons {k : List Key} {v : V} {d : D} {kvs : List (List Key × V)} {ds : List (List Key × D)} : Rp H v d → RpT H kvs ds → RpT H ((k, v) :: kvs) ((k, d) :: ds)
inductive RpK (H : Hp) : List (Key × V) → List (Key × D) → Prop
  | nil : RpK H [] []
  | cons {k : Key} {v : V} {d : D} {kvs : List (Key × V)} {ds : List (Key × D)} : Rp H v d → RpK H kvs ds → RpK H ((k, v) :: kvs) ((k, d) :: ds)
end
mutual
theorem Rp.mono {H H' : Hp} (e : Same H H') : ∀ (d : D) (v : V), Rp H v d → Rp H' v d
  | .none, _, h => by cases h; exact .non
  | .bool b, _, h => by cases h; exact .bl b
  | .int i, _, h => by cases h; exact .int i
  | .str x, _, h => by cases h; exact .str x
  | .list ds, _, h => by
    cases h with
    | lst h1 h2 => exact .lst (e _ _ h1) (RpL.mono e ds _ h2)
  | .tuple ds, _, h => by
    cases h with
    | tup h1 h2 => exact .tup (e _ _ h1) (RpL.mono e ds _ h2)
  | .ptup ds, _, h => by
    cases h with
    | ptup h1 hd h2 => exact .ptup (e _ _ h1) hd (RpL.mono e ds _ h2)
  | .dT ds, _, h => by
    cases h with
    | dT h1 h2 => exact .dT (e _ _ h1) (RpT.mono e ds _ h2)
  | .dK ds, _, h => by
    cases h with
    | dK h1 h2 => exact .dK (e _ _ h1) (RpK.mono e ds _ h2)
theorem RpL.mono {H H' : Hp} (e : Same H H') : ∀ (ds : List D) (vs : List V), RpL H vs ds → RpL H' vs ds
  | [], _, h => by cases h; exact .nil
  | d :: ds, _, h => by
    cases h with
    | cons h1 h2 => exact .cons (Rp.mono e d _ h1) (RpL.mono e ds _ h2)
theorem RpT.mono {H H' : Hp} (e : Same H H') : ∀ (ds : List (List Key × D)) (kvs : List (List Key × V)), RpT H kvs ds → RpT H' kvs ds
  | [], _, h => by cases h; exact .nil
  | (_, d) :: ds, _, h => by
    cases h with
    | cons h1 h2 => exact .cons (Rp.mono e d _ h1) (RpT.mono e ds _ h2)
theorem RpK.mono {H H' : Hp} (e : Same H H') : ∀ (ds : List (Key × D)) (kvs : List (Key × V)), RpK H kvs ds → RpK H' kvs ds
  | [], _, h => by cases h; exact .nil
  | (_, d) :: ds, _, h => by
    cases h with
    | cons h1 h2 => exact .cons (Rp.mono e d _ h1) (RpK.mono e ds _ h2)
end
theorem Rp.up {H H' : Hp} {v : V} {d : D} (h : Rp H v d) (e : Same H H') : Rp H' v d := Rp.mono e d v h
theorem RpL.up {H H' : Hp} {vs : List V} {ds : List D} (h : RpL H vs ds) (e : Same H H') : RpL H' vs ds := RpL.mono e ds vs h
theorem RpT.up {H H' : Hp} {vs : List (List Key × V)} {ds : List (List Key × D)} (h : RpT H vs ds) (e : Same H H') : RpT H' vs ds := RpT.mono e ds vs h
theorem RpK.up {H H' : Hp} {vs : List (Key × V)} {ds : List (Key × D)} (h : RpK H vs ds) (e : Same H H') : RpK H' vs ds := RpK.mono e ds vs h
theorem RpL.length {H : Hp} : ∀ {vs : List V} {ds : List D}, RpL H vs ds → vs.length = ds.length
  | _, _, .nil => rfl
  | _, _, .cons _ t => congrArg Nat.succ (RpL.length t)
theorem RpL.append {H : Hp} : ∀ {vs ws : List V} {ds es : List D}, RpL H vs ds → RpL H ws es → RpL H (vs ++ ws) (ds ++ es)
  | _, _, _, _, .nil, h => h
  | _, _, _, _, .cons h t, h2 => .cons h (RpL.append t h2)
theorem RpL.get {H : Hp} : ∀ {vs : List V} {ds : List D} {i : Nat} {d : D}, RpL H vs ds → ds[i]? = some d → ∃ v, vs[i]? = some v ∧ Rp H v d
  | _, _, _, _, .nil, e => by simp at e
  | _, _, 0, _, .cons h _, e => by simp at e; subst e; exact ⟨_, rfl, h⟩
  | _, _, i + 1, _, .cons _ t, e => by
    obtain ⟨v, h1, h2⟩ := RpL.get (i := i) t (by simpa using e)
    exact ⟨v, by simpa using h1, h2⟩
theorem RpL.get' {H : Hp} : ∀ {vs : List V} {ds : List D} {i : Nat} {v : V}, RpL H vs ds → vs[i]? = some v → ∃ d, ds[i]? = some d ∧ Rp H v d
  | _, _, _, _, .nil, e => by simp at e
  | _, _, 0, _, .cons h _, e => by simp at e; subst e; exact ⟨_, rfl, h⟩
  | _, _, i + 1, _, .cons _ t, e => by
    obtain ⟨v, h1, h2⟩ := RpL.get' (i := i) t (by simpa using e)
    exact ⟨v, by simpa using h1, h2⟩
theorem RpL.take {H : Hp} : ∀ {vs : List V} {ds : List D} (n : Nat), RpL H vs ds → RpL H (vs.take n) (ds.take n)
  | _, _, 0, _ => .nil
  | _, _, _ + 1, .nil => .nil
  | _, _, n + 1, .cons h t => .cons h (RpL.take n t)
theorem RpL.drop {H : Hp} : ∀ {vs : List V} {ds : List D} (n : Nat), RpL H vs ds → RpL H (vs.drop n) (ds.drop n)
  | _, _, 0, h => h
  | _, _, _ + 1, .nil => .nil
  | _, _, n + 1, .cons _ t => RpL.drop n t
theorem RpL.set {H : Hp} {v : V} {d : D} (h : Rp H v d) : ∀ {vs : List V} {ds : List D} (i : Nat), RpL H vs ds → RpL H (vs.set i v) (ds.set i d)
  | _, _, _, .nil => .nil
  | _, _, 0, .cons _ t => .cons h t
  | _, _, i + 1, .cons h2 t => .cons h2 (RpL.set h i t)
theorem RpL.erase {H : Hp} : ∀ {vs : List V} {ds : List D} (i : Nat), RpL H vs ds → RpL H (vs.eraseIdx i) (ds.eraseIdx i)
  | _, _, _, .nil => .nil
  | _, _, 0, .cons _ t => t
  | _, _, i + 1, .cons h2 t => .cons h2 (RpL.erase i t)
theorem RpL.reverse {H : Hp} : ∀ {vs : List V} {ds : List D}, RpL H vs ds → RpL H vs.reverse ds.reverse
  | _, _, .nil => .nil
  | _, _, .cons h t => by
    rw [List.reverse_cons, List.reverse_cons]
    exact RpL.append (RpL.reverse t) (.cons h .nil)
theorem RpL.isEmpty {H : Hp} : ∀ {vs : List V} {ds : List D}, RpL H vs ds → vs.isEmpty = ds.isEmpty
  | _, _, .nil => rfl
  | _, _, .cons _ _ => rfl
/-! ### ints of a list of data -/
def ints? : List D → Option (List Int)
  | [] => some []
  | .int i :: r => (ints? r).map (i :: ·)
  | _ => none
theorem ints_eq : ∀ {ds : List D} {ns : List Int}, ints? ds = some ns → ds = ns.map D.int
  | [], _, h => by cases h; rfl
  | .int i :: r, ns, h => by
    simp only [ints?, Option.map_eq_some_iff] at h
    obtain ⟨ms, h1, rfl⟩ := h
    rw [ints_eq h1]; rfl
  | .none :: _, _, h => by simp [ints?] at h
  | .bool _ :: _, _, h => by simp [ints?] at h
  | .str _ :: _, _, h => by simp [ints?] at h
  | .list _ :: _, _, h => by simp [ints?] at h
  | .tuple _ :: _, _, h => by simp [ints?] at h
  | .ptup _ :: _, _, h => by simp [ints?] at h
  | .dT _ :: _, _, h => by simp [ints?] at h
  | .dK _ :: _, _, h => by simp [ints?] at h
theorem rpl_ints {H : Hp} : ∀ {ns : List Int} {vs : List V}, RpL H vs (ns.map D.int) → vs = ns.map V.int
  | [], _, h => by cases h; rfl
  | n :: ns, _, h => by
    cases h with
    | cons h1 h2 => cases h1; rw [rpl_ints h2]; rfl
theorem ints_rpl {H : Hp} : ∀ (ns : List Int), RpL H (ns.map V.int) (ns.map D.int)
  | [] => .nil
  | n :: ns => .cons (.int n) (ints_rpl ns)
def bools? : List D → Option (List Bool)
  | [] => some []
  | .bool i :: r => (bools? r).map (i :: ·)
  | _ => none
theorem bools_eq : ∀ {ds : List D} {ns : List Bool}, bools? ds = some ns → ds = ns.map D.bool
  | [], _, h => by cases h; rfl
  | .bool i :: r, ns, h => by
    simp only [bools?, Option.map_eq_some_iff] at h
    obtain ⟨ms, h1, rfl⟩ := h
    rw [bools_eq h1]; rfl
  | .none :: _, _, h => by simp [bools?] at h
  | .int _ :: _, _, h => by simp [bools?] at h
  | .str _ :: _, _, h => by simp [bools?] at h
  | .list _ :: _, _, h => by simp [bools?] at h
  | .tuple _ :: _, _, h => by simp [bools?] at h
  | .ptup _ :: _, _, h => by simp [bools?] at h
  | .dT _ :: _, _, h => by simp [bools?] at h
  | .dK _ :: _, _, h => by simp [bools?] at h
theorem rpl_bools {H : Hp} : ∀ {ns : List Bool} {vs : List V}, RpL H vs (ns.map D.bool) → vs = ns.map V.bl
  | [], _, h => by cases h; rfl
  | n :: ns, _, h => by
    cases h with
    | cons h1 h2 => cases h1; rw [rpl_bools h2]; rfl
/-! ### the draws -/
structure DS where
  large : List Int
  rest : Int
  cells : List Int
  turn : Int
def drawKV (l c : Addr) (ds : DS) : List (Key × V) := [(.inr "large", .ref l), (.inr "rest", .int ds.rest), (.inr "cells", .ref c), (.inr "turn", .int ds.turn)]
/-! ### what a slot holds -/
inductive Sl where
  | val (d : D) | own (d : D) | draw | scr (ns : List Int)
abbrev En := List (Option Sl)
/-- an object that may yet change: its parts stay -/
inductive Tp (Hf H : Hp) (a : Addr) : D → Prop
  | lst {vs : List V} {ds : List D} : H a = some (.lst vs) → RpL Hf vs ds → Tp Hf H a (.list ds)
  | dT {kvs : List (List Key × V)} {ds : List (List Key × D)} : H a = some (.dT kvs) → RpT Hf kvs ds → Tp Hf H a (.dT ds)
  | dK {kvs : List (Key × V)} {ds : List (Key × D)} : H a = some (.dK kvs) → RpK Hf kvs ds → Tp Hf H a (.dK ds)
/-- the base of a run: the heap at the entry, what stayed then, the draws' objects -/
structure Bs where
  H0 : Hp
  Hf0 : Hp
  dr : Option (Addr × Addr × Addr)
def Bs.isDr (B : Bs) (a : Addr) : Prop := ∃ x l c, B.dr = some (x, l, c) ∧ (a = x ∨ a = l)
def DrawR (dr : Option (Addr × Addr × Addr)) (ds : DS) (Hf H : Hp) : Prop :=
  ∀ x l c, dr = some (x, l, c) → H x = some (.dK (drawKV l c ds)) ∧ H l = some (.lst (ds.large.map V.int)) ∧ Hf x = none ∧ Hf l = none ∧ Hf c = some (.lst (ds.cells.map V.int))
def SlotR (B : Bs) (K : PySem.W.Frag) (Hf H : Hp) (σ : St) (i : Nat) : Sl → Prop
  | .val d => ∃ v, σ[i]? = some (some v) ∧ Rp Hf v d
  | .own d => ∃ a, σ[i]? = some (some (.ref a)) ∧ Hf a = none ∧ B.H0 a = none ∧ ¬ B.isDr a ∧ Tp Hf H a d
  | .draw => ∃ x l c, B.dr = some (x, l, c) ∧ σ[i]? = some (some (.ref x))
  | .scr ns => ∃ a, σ[i]? = some (some (.ref a)) ∧ (∀ o, B.H0 a = some o → ¬ B.isDr a) ∧ SqL K B.H0 a (ns.map V.int)
structure SR (B : Bs) (K : PySem.W.Frag) (env : En) (ds : DS) (σ : St) (Hf H : Hp) : Prop where
  sub : Same Hf H
  base : ∀ a o, B.H0 a = some o → ∃ o', H a = some o' ∧ (¬ B.isDr a → o' = o)
  fbase : Same B.Hf0 Hf
  fnew : ∀ a, Hf a ≠ none → B.Hf0 a ≠ none ∨ B.H0 a = none ∨ (¬ B.isDr a ∧ ∃ xs, B.H0 a = some (.tup xs))
  slots : ∀ (i : Nat) (s : Sl), env[i]? = some (some s) → SlotR B K Hf H σ i s
  apart : ∀ (i j : Nat) (d e : D) (a : Addr), i ≠ j → env[i]? = some (some (.own d)) → env[j]? = some (some (.own e)) → σ[i]? = some (some (.ref a)) → σ[j]? = some (some (.ref a)) → False
  draw : DrawR B.dr ds Hf H
  len : env.length = σ.length
/-- what an expression may do: new objects, some of them staying; the draws' objects may change -/
structure Gr (B : Bs) (Hf H Hf' H' : Hp) : Prop where
  hh : ∀ a o, H a = some o → ∃ o', H' a = some o' ∧ (¬ B.isDr a → o' = o)
  ff : Same Hf Hf'
  nw : ∀ a, Hf' a ≠ none → Hf a ≠ none ∨ H a = none ∨ (¬ B.isDr a ∧ ∃ xs, H a = some (.tup xs))
theorem Gr.refl {B : Bs} {Hf H : Hp} : Gr B Hf H Hf H := ⟨fun _ o e => ⟨o, e, fun _ => rfl⟩, fun _ _ e => e, fun _ h => .inl h⟩
theorem Gr.trans {B : Bs} {Hf H Hf1 H1 Hf2 H2 : Hp} (a : Gr B Hf H Hf1 H1) (b : Gr B Hf1 H1 Hf2 H2) : Gr B Hf H Hf2 H2 where
  hh := fun x o e => by
    obtain ⟨o1, e1, n1⟩ := a.hh x o e
    obtain ⟨o2, e2, n2⟩ := b.hh x o1 e1
    exact ⟨o2, e2, fun n => (n2 n).trans (n1 n)⟩
  ff := a.ff.trans b.ff
  nw := fun x h => by
    rcases b.nw x h with h1 | h1 | ⟨nd, xs, h1⟩
    · exact a.nw x h1
    · refine .inr (.inl ?_)
      cases q : H x with
      | none => rfl
      | some o =>
        obtain ⟨o1, e1, _⟩ := a.hh x o q
        rw [h1] at e1; cases e1
    · cases q : H x with
      | none => exact .inr (.inl rfl)
      | some o =>
        obtain ⟨o1, e1, n1⟩ := a.hh x o q
        rw [h1] at e1; cases e1
        exact .inr (.inr ⟨nd, xs, by rw [← n1 nd]⟩)
theorem Gr.at {B : Bs} {Hf H Hf' H' : Hp} (g : Gr B Hf H Hf' H') {a : Addr} {o : HO} (e : H a = some o) (n : ¬ B.isDr a) : H' a = some o := by
  obtain ⟨o', e', h⟩ := g.hh a o e
  rw [e', h n]
theorem Gr.fresh {B : Bs} {Hf H Hf' H' : Hp} (g : Gr B Hf H Hf' H') {a : Addr} (e : H' a = none) : H a = none := by
  cases q : H a with
  | none => rfl
  | some o =>
    obtain ⟨o', e', _⟩ := g.hh a o q
    rw [e] at e'; cases e'
theorem Gr.noF {B : Bs} {Hf H Hf' H' : Hp} (g : Gr B Hf H Hf' H') {a : Addr} (e : Hf a = none) (n : H a ≠ none) (nt : ∀ xs, H a ≠ some (.tup xs)) : Hf' a = none := by
  cases q : Hf' a with
  | none => rfl
  | some o =>
    rcases g.nw a (by rw [q]; simp) with h | h | ⟨_, xs, h⟩
    · exact absurd e h
    · exact absurd h n
    · exact absurd h (nt xs)
theorem Tp.ne {Hf H : Hp} {a : Addr} {d : D} (t : Tp Hf H a d) : H a ≠ none := by
  cases t with
  | lst h _ => rw [h]; simp
  | dT h _ => rw [h]; simp
  | dK h _ => rw [h]; simp
theorem Tp.nt {Hf H : Hp} {a : Addr} {d : D} (t : Tp Hf H a d) : ∀ xs, H a ≠ some (.tup xs) := fun xs z => by
  cases t with
  | lst h _ => rw [h] at z; cases z
  | dT h _ => rw [h] at z; cases z
  | dK h _ => rw [h] at z; cases z
theorem Tp.up {B : Bs} {Hf H Hf' H' : Hp} {a : Addr} {d : D} (t : Tp Hf H a d) (g : Gr B Hf H Hf' H') (n : ¬ B.isDr a) : Tp Hf' H' a d := by
  cases t with
  | lst h r => exact .lst (g.at h n) (r.up g.ff)
  | dT h r => exact .dT (g.at h n) (r.up g.ff)
  | dK h r => exact .dK (g.at h n) (r.up g.ff)
/-- what may be read: it stays, or an object whose parts stay -/
inductive Rd1 (B : Bs) (Hf H : Hp) : V → D → Prop
  | fz {v : V} {d : D} : Rp Hf v d → Rd1 B Hf H v d
  | tm {a : Addr} {d : D} : Hf a = none → ¬ B.isDr a → Tp Hf H a d → Rd1 B Hf H (.ref a) d
theorem Rd1.up {B : Bs} {Hf H Hf' H' : Hp} {v : V} {d : D} (t : Rd1 B Hf H v d) (g : Gr B Hf H Hf' H') : Rd1 B Hf' H' v d := by
  cases t with
  | fz h => exact .fz (h.up g.ff)
  | tm h n t => exact .tm (g.noF h t.ne t.nt) n (t.up g n)
/-! ### judgements -/
def SE (X : Cx) (e : Expr) (σ : St) (H : Hp) (Q : VK) : Prop := ∀ pins s, Inv X pins σ H s → wpAny (model X.prog X.w) X.A (eval e X.env) (EP X pins σ Q) X.xe s
def STt (X : Cx) (e : Expr) (σ : St) (H : Hp) (Q : Bool → Hp → Prop) : Prop := ∀ pins s, Inv X pins σ H s → wpAny (model X.prog X.w) X.A (isTrue e X.env (eval e X.env)) (TP X pins σ Q) X.xe s
def SW (X : Cx) (e : Expr) (σ : St) (H : Hp) (Q : Bool → Hp → Prop) : Prop := ∀ (whole : Sem Value) pins s, Inv X pins σ H s → wpAny (model X.prog X.w) X.A (isTrue e X.env whole) (TP X pins σ Q) X.xe s
def SA (X : Cx) (es : List Expr) (σ : St) (H : Hp) (Q : List V → Hp → Prop) : Prop := ∀ pos pins s, Inv X pins σ H s → wpAny (model X.prog X.w) X.A (spliced (backTo pos (starEach es X.env))) (AP X pins σ Q) X.xe s
def SS (X : Cx) (st : Stmt) (Dd : Ends) (σ : St) (H : Hp) : Prop := ∀ pins s, Inv X pins σ H s → wpAny (model X.prog X.w) X.A (exec st X.env) (SP X pins Dd) X.xe s
def SSs (X : Cx) (st : List Stmt) (Dd : Ends) (σ : St) (H : Hp) : Prop := ∀ pins s, Inv X pins σ H s → wpAny (model X.prog X.w) X.A (execs st X.env) (SP X pins Dd) X.xe s
theorem pe_se (X : Cx) (e : Expr) : PE X e (SE X e) := ⟨fun pins s σ H Q I h => h pins s I⟩
theorem pt_st (X : Cx) (e : Expr) : PT X e (STt X e) := ⟨fun pins s σ H Q I h => h pins s I⟩
theorem pw_sw (X : Cx) (e : Expr) : PW X e (SW X e) := ⟨fun whole pins s σ H Q I h => h whole pins s I⟩
theorem pa_sa (X : Cx) (es : List Expr) : PA X es (SA X es) := ⟨fun pos pins s σ H Q I h => h pos pins s I⟩
theorem ps_ss (X : Cx) (st : Stmt) : PS X st (SS X st) := ⟨fun pins s σ H Dd I h => h pins s I⟩
theorem pss_ss (X : Cx) (st : List Stmt) : PSs X st (SSs X st) := ⟨fun pins s σ H Dd I h => h pins s I⟩
theorem SE.of {X : Cx} {e : Expr} {t : TE} (p : PE X e t) {σ : St} {H : Hp} {Q : VK} (h : t σ H Q) : SE X e σ H Q := fun pins s I => p.run pins s σ H Q I h
theorem STt.of {X : Cx} {e : Expr} {t : TT} (p : PT X e t) {σ : St} {H : Hp} {Q : Bool → Hp → Prop} (h : t σ H Q) : STt X e σ H Q := fun pins s I => p.run pins s σ H Q I h
theorem SW.of {X : Cx} {e : Expr} {t : TT} (p : PW X e t) {σ : St} {H : Hp} {Q : Bool → Hp → Prop} (h : t σ H Q) : SW X e σ H Q := fun whole pins s I => p.run whole pins s σ H Q I h
theorem SA.of {X : Cx} {es : List Expr} {t : TA} (p : PA X es t) {σ : St} {H : Hp} {Q : List V → Hp → Prop} (h : t σ H Q) : SA X es σ H Q := fun pos pins s I => p.run pos pins s σ H Q I h
theorem SS.of {X : Cx} {st : Stmt} {t : TS} (p : PS X st t) {σ : St} {H : Hp} {Dd : Ends} (h : t Dd σ H) : SS X st Dd σ H := fun pins s I => p.run pins s σ H Dd I h
theorem SSs.of {X : Cx} {st : List Stmt} {t : TS} (p : PSs X st t) {σ : St} {H : Hp} {Dd : Ends} (h : t Dd σ H) : SSs X st Dd σ H := fun pins s I => p.run pins s σ H Dd I h
theorem SE.mono {X : Cx} {e : Expr} {σ : St} {H : Hp} {Q Q' : VK} (h : SE X e σ H Q) (m : ∀ v H', Q v H' → Q' v H') : SE X e σ H Q' := fun pins s I =>
  thn (h pins s I) fun u s' ⟨v, H', I', r, q⟩ => ⟨v, H', I', r, m v H' q⟩
theorem STt.mono {X : Cx} {e : Expr} {σ : St} {H : Hp} {Q Q' : Bool → Hp → Prop} (h : STt X e σ H Q) (m : ∀ v H', Q v H' → Q' v H') : STt X e σ H Q' := fun pins s I =>
  thn (h pins s I) fun u s' ⟨H', I', q⟩ => ⟨H', I', m u H' q⟩
/-! ### denotations -/
abbrev Den := En → DS → Option (D × DS)
abbrev DenT := En → DS → Option (Bool × DS)
abbrev DenA := En → DS → Option (List D × DS)
def bnd {α β : Type} (o : Option (α × DS)) (k : α → DS → Option β) : Option β := match o with
  | none => none
  | some (a, s) => k a s
theorem bnd_eq {α β : Type} {o : Option (α × DS)} {k : α → DS → Option β} {b : β} (h : bnd o k = some b) : ∃ a s, o = some (a, s) ∧ k a s = some b := by
  cases o with
  | none => cases h
  | some p => obtain ⟨a, s⟩ := p; exact ⟨a, s, rfl, h⟩
def op1 {α : Type} (o : Option α) (ds : DS) : Option (α × DS) := match o with
  | none => none
  | some a => some (a, ds)
theorem op1_eq {α : Type} {o : Option α} {ds ds' : DS} {b : α} (h : op1 o ds = some (b, ds')) : o = some b ∧ ds' = ds := by
  cases o with
  | none => cases h
  | some a => cases h; exact ⟨rfl, rfl⟩
/-- what follows a value that stays, a new object, a value that may be read, a test, values -/
def CF (B : Bs) (K : PySem.W.Frag) (env : En) (ds : DS) (σ : St) (Hf H : Hp) (d : D) (Q : VK) : Prop := ∀ v Hf' H', Gr B Hf H Hf' H' → SR B K env ds σ Hf' H' → Rp Hf' v d → Q v H'
def CN (B : Bs) (K : PySem.W.Frag) (env : En) (ds : DS) (σ : St) (Hf H : Hp) (d : D) (Q : VK) : Prop := ∀ a Hf' H', Gr B Hf H Hf' H' → SR B K env ds σ Hf' H' → H a = none → Hf' a = none → Tp Hf' H' a d → Q (.ref a) H'
def CR (B : Bs) (K : PySem.W.Frag) (env : En) (ds : DS) (σ : St) (Hf H : Hp) (d : D) (Q : VK) : Prop := ∀ v Hf' H', Gr B Hf H Hf' H' → SR B K env ds σ Hf' H' → Rd1 B Hf' H' v d → Q v H'
def CT (B : Bs) (K : PySem.W.Frag) (env : En) (ds : DS) (σ : St) (Hf H : Hp) (b : Bool) (Q : Bool → Hp → Prop) : Prop := ∀ Hf' H', Gr B Hf H Hf' H' → SR B K env ds σ Hf' H' → Q b H'
def CA (B : Bs) (K : PySem.W.Frag) (env : En) (ds : DS) (σ : St) (Hf H : Hp) (d : List D) (Q : List V → Hp → Prop) : Prop := ∀ vs Hf' H', Gr B Hf H Hf' H' → SR B K env ds σ Hf' H' → RpL Hf' vs d → Q vs H'
/-- its value stays -/
def EvF (X : Cx) (e : Expr) (f : Den) : Prop := ∀ B env ds σ Hf H d ds', SR B X.K env ds σ Hf H → f env ds = some (d, ds') → ∀ Q : VK, CF B X.K env ds' σ Hf H d Q → SE X e σ H Q
/-- its value is a new object -/
def EvN (X : Cx) (e : Expr) (f : Den) : Prop := ∀ B env ds σ Hf H d ds', SR B X.K env ds σ Hf H → f env ds = some (d, ds') → ∀ Q : VK, CN B X.K env ds' σ Hf H d Q → SE X e σ H Q
/-- its value may be read -/
def EvR (X : Cx) (e : Expr) (f : Den) : Prop := ∀ B env ds σ Hf H d ds', SR B X.K env ds σ Hf H → f env ds = some (d, ds') → ∀ Q : VK, CR B X.K env ds' σ Hf H d Q → SE X e σ H Q
def EvT (X : Cx) (e : Expr) (f : DenT) : Prop := ∀ B env ds σ Hf H d ds', SR B X.K env ds σ Hf H → f env ds = some (d, ds') → ∀ Q : Bool → Hp → Prop, CT B X.K env ds' σ Hf H d Q → STt X e σ H Q
def EvW (X : Cx) (e : Expr) (f : DenT) : Prop := ∀ B env ds σ Hf H d ds', SR B X.K env ds σ Hf H → f env ds = some (d, ds') → ∀ Q : Bool → Hp → Prop, CT B X.K env ds' σ Hf H d Q → SW X e σ H Q
def EvA (X : Cx) (es : List Expr) (f : DenA) : Prop := ∀ B env ds σ Hf H d ds', SR B X.K env ds σ Hf H → f env ds = some (d, ds') → ∀ Q : List V → Hp → Prop, CA B X.K env ds' σ Hf H d Q → SA X es σ H Q
section
variable {B : Bs} {K : PySem.W.Frag} {env : En} {ds ds' : DS} {σ : St} {Hf H Hf1 H1 : Hp} {a : Addr} {o : HO}
theorem CF.step {d : D} {Q : VK} (c : CF B K env ds σ Hf H d Q) (g : Gr B Hf H Hf1 H1) : CF B K env ds σ Hf1 H1 d Q := fun v Hf' H' g' S r => c v Hf' H' (g.trans g') S r
theorem CR.step {d : D} {Q : VK} (c : CR B K env ds σ Hf H d Q) (g : Gr B Hf H Hf1 H1) : CR B K env ds σ Hf1 H1 d Q := fun v Hf' H' g' S r => c v Hf' H' (g.trans g') S r
theorem CN.step {d : D} {Q : VK} (c : CN B K env ds σ Hf H d Q) (g : Gr B Hf H Hf1 H1) : CN B K env ds σ Hf1 H1 d Q := fun a Hf' H' g' S n nf t => c a Hf' H' (g.trans g') S (g.fresh n) nf t
theorem CT.step {d : Bool} {Q : Bool → Hp → Prop} (c : CT B K env ds σ Hf H d Q) (g : Gr B Hf H Hf1 H1) : CT B K env ds σ Hf1 H1 d Q := fun Hf' H' g' S => c Hf' H' (g.trans g') S
theorem CA.step {d : List D} {Q : List V → Hp → Prop} (c : CA B K env ds σ Hf H d Q) (g : Gr B Hf H Hf1 H1) : CA B K env ds σ Hf1 H1 d Q := fun v Hf' H' g' S r => c v Hf' H' (g.trans g') S r
theorem SR.isDr (S : SR B K env ds σ Hf H) (n : B.isDr a) : H a ≠ none ∧ Hf a = none := by
  obtain ⟨x, l, c, e, h⟩ := n
  obtain ⟨h1, h2, h3, h4, _⟩ := S.draw x l c e
  rcases h with rfl | rfl
  · exact ⟨by rw [h1]; simp, h3⟩
  · exact ⟨by rw [h2]; simp, h4⟩
theorem SR.noDr (S : SR B K env ds σ Hf H) (h : H a = none) : ¬ B.isDr a := fun n => (S.isDr n).1 h
theorem SR.noDrF (S : SR B K env ds σ Hf H) (h : Hf a ≠ none) : ¬ B.isDr a := fun n => h (S.isDr n).2
/-- an address that nothing of the run holds -/
structure Fre (B : Bs) (env : En) (σ : St) (a : Addr) : Prop where
  h0 : B.H0 a = none
  nd : ¬ B.isDr a
  no : ∀ (i : Nat) (d : D), env[i]? = some (some (.own d)) → σ[i]? ≠ some (some (.ref a))
theorem SR.fre (S : SR B K env ds σ Hf H) (h : H a = none) : Fre B env σ a where
  h0 := by
    cases q : B.H0 a with
    | none => rfl
    | some o =>
      obtain ⟨o', e, _⟩ := S.base a o q
      rw [h] at e; cases e
  nd := S.noDr h
  no := fun i d e z => by
    obtain ⟨b, e1, _, _, _, t⟩ := S.slots i _ e
    rw [e1] at z
    cases z
    exact t.ne h
/-- an object that nothing holds is laid or changed -/
theorem Tp.hp {d : D} {b : Addr} (t : Tp Hf H b d) (h : b ≠ a) : Tp Hf (upd H a o) b d := by
  cases t with
  | lst h1 r => exact .lst (by rw [upd_ne h]; exact h1) r
  | dT h1 r => exact .dT (by rw [upd_ne h]; exact h1) r
  | dK h1 r => exact .dK (by rw [upd_ne h]; exact h1) r
theorem Tp.fz {d : D} {b : Addr} (t : Tp Hf H b d) (h : Hf a = none) : Tp (upd Hf a o) H b d := by
  have e : Same Hf (upd Hf a o) := fun c x q => by rw [upd_ne (ne_of_none q h)]; exact q
  cases t with
  | lst h1 r => exact .lst h1 (r.up e)
  | dT h1 r => exact .dT h1 (r.up e)
  | dK h1 r => exact .dK h1 (r.up e)
theorem SlotR.hp {K : PySem.W.Frag} {i : Nat} {s : Sl} (h : SlotR B K Hf H σ i s) (no : ∀ (d : D), s = .own d → σ[i]? ≠ some (some (.ref a))) : SlotR B K Hf (upd H a o) σ i s := by
  cases s with
  | val d => exact h
  | own d =>
    obtain ⟨b, e, n1, n2, n3, t⟩ := h
    refine ⟨b, e, n1, n2, n3, t.hp fun z => ?_⟩
    subst z
    exact no d rfl e
  | draw => exact h
  | scr ns => exact h
theorem SlotR.fz {K : PySem.W.Frag} {i : Nat} {s : Sl} (h : SlotR B K Hf H σ i s) (nf : Hf a = none) (no : ∀ (d : D), s = .own d → σ[i]? ≠ some (some (.ref a))) : SlotR B K (upd Hf a o) H σ i s := by
  have e : Same Hf (upd Hf a o) := fun c x q => by rw [upd_ne (ne_of_none q nf)]; exact q
  cases s with
  | val d =>
    obtain ⟨v, e1, r⟩ := h
    exact ⟨v, e1, r.up e⟩
  | own d =>
    obtain ⟨b, e1, n1, n2, n3, t⟩ := h
    refine ⟨b, e1, ?_, n2, n3, t.fz nf⟩
    rw [upd_ne]
    · exact n1
    · intro z; subst z; exact no d rfl e1
  | draw => exact h
  | scr ns => exact h
/-- an object that nothing holds is laid or changed -/
theorem SR.hp (S : SR B K env ds σ Hf H) (nf : Hf a = none) (F : Fre B env σ a) : SR B K env ds σ Hf (upd H a o) where
  sub := fun b x e => by rw [upd_ne (ne_of_none e nf)]; exact S.sub b x e
  base := fun b x e => by
    rw [upd_ne (ne_of_none e F.h0)]; exact S.base b x e
  fbase := S.fbase
  fnew := S.fnew
  slots := fun i s e => (S.slots i s e).hp fun d q => by subst q; exact F.no i d e
  apart := S.apart
  draw := fun x l c e => by
    obtain ⟨h1, h2, h3, h4, h5⟩ := S.draw x l c e
    refine ⟨?_, ?_, h3, h4, h5⟩
    · rw [upd_ne]
      · exact h1
      · intro z; subst z; exact F.nd ⟨_, _, _, e, .inl rfl⟩
    · rw [upd_ne]
      · exact h2
      · intro z; subst z; exact F.nd ⟨_, _, _, e, .inr rfl⟩
  len := S.len
/-- an object that nothing holds stays from now on -/
theorem SR.fz (S : SR B K env ds σ Hf H) (nf : Hf a = none) (e : H a = some o) (F : Fre B env σ a) : SR B K env ds σ (upd Hf a o) H where
  sub := fun b x q => by
    by_cases h : b = a
    · subst h; rw [upd_same] at q; cases q; exact e
    · rw [upd_ne h] at q; exact S.sub b x q
  base := S.base
  fbase := fun b x q => by rw [upd_ne (ne_of_none (S.fbase b x q) nf)]; exact S.fbase b x q
  fnew := fun b q => by
    by_cases h : b = a
    · subst h; exact .inr (.inl F.h0)
    · rw [upd_ne h] at q; exact S.fnew b q
  slots := fun i s e => (S.slots i s e).fz nf fun d q => by subst q; exact F.no i d e
  apart := S.apart
  draw := fun x l c ed => by
    obtain ⟨h1, h2, h3, h4, h5⟩ := S.draw x l c ed
    refine ⟨h1, h2, ?_, ?_, ?_⟩
    · rw [upd_ne]
      · exact h3
      · intro z; subst z; exact F.nd ⟨_, _, _, ed, .inl rfl⟩
    · rw [upd_ne]
      · exact h4
      · intro z; subst z; exact F.nd ⟨_, _, _, ed, .inr rfl⟩
    · rw [upd_ne (ne_of_none h5 nf)]; exact h5
  len := S.len
/-- a tuple that stands may stay from now on -/
theorem SR.fzT {xs : List V} (S : SR B K env ds σ Hf H) (nf : Hf a = none) (e : H a = some (.tup xs)) : SR B K env ds σ (upd Hf a (.tup xs)) H := by
  have nd : ¬ B.isDr a := fun n => by
    obtain ⟨x, l, c, ed, h⟩ := n
    obtain ⟨h1, h2, _, _, _⟩ := S.draw x l c ed
    rcases h with rfl | rfl
    · rw [e] at h1; cases h1
    · rw [e] at h2; cases h2
  have no : ∀ (i : Nat) (d : D), env[i]? = some (some (.own d)) → σ[i]? ≠ some (some (.ref a)) := fun i d e1 z => by
    obtain ⟨b, e2, _, _, _, t⟩ := S.slots i _ e1
    rw [e2] at z; cases z
    exact t.nt xs e
  exact {
    sub := fun b x q => by
      by_cases h : b = a
      · subst h; rw [upd_same] at q; cases q; exact e
      · rw [upd_ne h] at q; exact S.sub b x q
    base := S.base
    fbase := fun b x q => by rw [upd_ne (ne_of_none (S.fbase b x q) nf)]; exact S.fbase b x q
    fnew := fun b q => by
      by_cases h : b = a
      · subst h
        cases q0 : B.H0 b with
        | none => exact .inr (.inl rfl)
        | some o =>
          obtain ⟨o', e', n'⟩ := S.base b o q0
          rw [e] at e'; cases e'
          exact .inr (.inr ⟨nd, xs, by rw [← n' nd]⟩)
      · rw [upd_ne h] at q; exact S.fnew b q
    slots := fun i s e => (S.slots i s e).fz nf fun d q => by subst q; exact no i d e
    apart := S.apart
    draw := fun x l c ed => by
      obtain ⟨h1, h2, h3, h4, h5⟩ := S.draw x l c ed
      refine ⟨h1, h2, ?_, ?_, ?_⟩
      · rw [upd_ne]
        · exact h3
        · intro z; subst z; exact nd ⟨_, _, _, ed, .inl rfl⟩
      · rw [upd_ne]
        · exact h4
        · intro z; subst z; exact nd ⟨_, _, _, ed, .inr rfl⟩
      · rw [upd_ne (ne_of_none h5 nf)]; exact h5
    len := S.len }
theorem SR.noDrT {xs : List V} (S : SR B K env ds σ Hf H) (e : H a = some (.tup xs)) : ¬ B.isDr a := fun n => by
  obtain ⟨x, l, c, ed, h⟩ := n
  obtain ⟨h1, h2, _, _, _⟩ := S.draw x l c ed
  rcases h with rfl | rfl
  · rw [e] at h1; cases h1
  · rw [e] at h2; cases h2
theorem Gr.hp (g : Gr B Hf H Hf1 H1) (n : H a = none) : Gr B Hf H Hf1 (upd H1 a o) where
  hh := fun b x e => by
    rw [upd_ne (ne_of_none e n)]; exact g.hh b x e
  ff := g.ff
  nw := g.nw
theorem Gr.fz (g : Gr B Hf H Hf1 H1) (n : H a = none) (nf : Hf1 a = none) : Gr B Hf H (upd Hf1 a o) H1 where
  hh := g.hh
  ff := fun b x e => by rw [upd_ne (ne_of_none (g.ff b x e) nf)]; exact g.ff b x e
  nw := fun b q => by
    by_cases h : b = a
    · subst h; exact .inr (.inl n)
    · rw [upd_ne h] at q; exact g.nw b q
theorem upd_self {H : Hp} {a : Addr} {o : HO} (e : H a = some o) : upd H a o = H := by
  funext b
  by_cases h : b = a
  · subst h; rw [upd_same, e]
  · rw [upd_ne h]
theorem sub_none (S : SR B K env ds σ Hf H) (n : H a = none) : Hf a = none := by
  cases q : Hf a with
  | none => rfl
  | some o => rw [S.sub a o q] at n; cases n
theorem same_fz (nf : Hf a = none) : Same Hf (upd Hf a o) := fun c x q => by rw [upd_ne (ne_of_none q nf)]; exact q
/-- a new tuple: it stays -/
theorem CF.tup {d : List D} {vs : List V} {Q : VK} (c : CF B K env ds σ Hf H (.tuple d) Q) (S : SR B K env ds σ Hf H) (r : RpL Hf vs d) : ∀ p, H p = none → Q (.ref p) (upd H p (.tup vs)) := fun p n => by
  have nf := sub_none S n
  have F := S.fre n
  exact c _ _ _ ((Gr.refl.hp n).fz n nf) ((S.hp nf F).fz nf upd_same F) (.tup upd_same (r.up (same_fz nf)))
/-- a new plain tuple: it stays -/
theorem CF.ptup {d : List D} {vs : List V} {o : Obj} {Q : VK} (c : CF B K env ds σ Hf H (.ptup d) Q) (S : SR B K env ds σ Hf H) (r : RpL Hf vs d) (hd : o.dict = none) : ∀ p, H p = none → Q (.ref p) (upd H p (.frz o (.tup vs))) := fun p n => by
  have nf := sub_none S n
  have F := S.fre n
  exact c _ _ _ ((Gr.refl.hp n).fz n nf) ((S.hp nf F).fz nf upd_same F) (.ptup upd_same hd (r.up (same_fz nf)))
/-- a new list -/
theorem CN.lst {d : List D} {vs : List V} {Q : VK} (c : CN B K env ds σ Hf H (.list d) Q) (S : SR B K env ds σ Hf H) (r : RpL Hf vs d) : ∀ p, H p = none → Q (.ref p) (upd H p (.lst vs)) := fun p n => by
  have nf := sub_none S n
  exact c _ _ _ (Gr.refl.hp n) (S.hp nf (S.fre n)) n nf (.lst upd_same r)
theorem CN.dT {d : List (List Key × D)} {vs : List (List Key × V)} {Q : VK} (c : CN B K env ds σ Hf H (.dT d) Q) (S : SR B K env ds σ Hf H) (r : RpT Hf vs d) : ∀ p, H p = none → Q (.ref p) (upd H p (.dT vs)) := fun p n => by
  have nf := sub_none S n
  exact c _ _ _ (Gr.refl.hp n) (S.hp nf (S.fre n)) n nf (.dT upd_same r)
theorem CN.dK {d : List (Key × D)} {vs : List (Key × V)} {Q : VK} (c : CN B K env ds σ Hf H (.dK d) Q) (S : SR B K env ds σ Hf H) (r : RpK Hf vs d) : ∀ p, H p = none → Q (.ref p) (upd H p (.dK vs)) := fun p n => by
  have nf := sub_none S n
  exact c _ _ _ (Gr.refl.hp n) (S.hp nf (S.fre n)) n nf (.dK upd_same r)
theorem CF.now {d : D} {v : V} {Q : VK} (c : CF B K env ds σ Hf H d Q) (S : SR B K env ds σ Hf H) (r : Rp Hf v d) : Q v H := c v Hf H Gr.refl S r
end
section
variable {X : Cx} {e : Expr} {f : Den}
theorem EvF.r (h : EvF X e f) : EvR X e f := fun B env ds σ Hf H d ds' S hf Q q => h B env ds σ Hf H d ds' S hf Q fun v Hf' H' g S' r => q v Hf' H' g S' (.fz r)
theorem EvN.r (h : EvN X e f) : EvR X e f := fun B env ds σ Hf H d ds' S hf Q q => h B env ds σ Hf H d ds' S hf Q fun a Hf' H' g S' n nf t => q _ Hf' H' g S' (.tm nf (S.noDr n) t)
/-- a value's dict is locked for good -/
theorem SE.lock {σ : St} {H : Hp} {Q : VK} (h : SE X e σ H fun v H' => ∃ a u, v = .ref a ∧ H' a = some u ∧ Mut (some u) ∧ ∀ o, Q v (upd H' a (.frz o u))) : SE X e σ H Q := fun pins s I =>
  thn (h pins s I) fun u s' ⟨v, H', I', r, a, u', e, q, m, k⟩ => by
    obtain ⟨o, I2⟩ := I'.lock q m
    exact ⟨v, _, I2, r, k o⟩
/-- a new object stays from now on -/
theorem EvN.toF (h : EvN X e f) : EvF X e f := fun B env ds σ Hf H d ds' S hf Q q => by
  cases d with
  | list xs =>
    refine h B env ds σ Hf H _ ds' S hf Q fun a Hf' H' g S' n nf t => ?_
    cases t with
    | lst h1 r =>
      have F := S.fre n
      exact q _ _ _ (g.fz n nf) (S'.fz nf h1 F) (.lst upd_same (r.up (same_fz nf)))
  | dT xs =>
    refine SE.lock (h B env ds σ Hf H _ ds' S hf _ fun a Hf' H' g S' n nf t => ?_)
    have F := S.fre n
    cases t with
    | dT h1 r =>
      refine ⟨a, _, rfl, h1, True.intro, fun o => ?_⟩
      exact q _ _ _ ((g.hp n).fz n nf) ((S'.hp nf F).fz nf upd_same F) (.dT upd_same (r.up (same_fz nf)))
  | dK xs =>
    refine SE.lock (h B env ds σ Hf H _ ds' S hf _ fun a Hf' H' g S' n nf t => ?_)
    have F := S.fre n
    cases t with
    | dK h1 r =>
      refine ⟨a, _, rfl, h1, True.intro, fun o => ?_⟩
      exact q _ _ _ ((g.hp n).fz n nf) ((S'.hp nf F).fz nf upd_same F) (.dK upd_same (r.up (same_fz nf)))
  | _ => exact h B env ds σ Hf H _ ds' S hf Q fun a Hf' H' g S' n nf t => nomatch t
end
end L2.Dn
set_option Elab.async false
set_option linter.all false
set_option maxRecDepth 100000
namespace L2.Dn
open PySem PySem.Spec PyProof.Rows
section
variable {B : Bs} {K : PySem.W.Frag} {env : En} {ds ds' : DS} {σ : St} {Hf H Hf1 H1 : Hp} {a : Addr} {o : HO} {v : V}
theorem Rd1.int {i : Int} (r : Rd1 B Hf H v (.int i)) : v = .int i := by
  cases r with
  | fz h => cases h; rfl
  | tm _ _ t => cases t
theorem Rd1.bl {i : Bool} (r : Rd1 B Hf H v (.bool i)) : v = .bl i := by
  cases r with
  | fz h => cases h; rfl
  | tm _ _ t => cases t
theorem Rd1.non (r : Rd1 B Hf H v .none) : v = .non := by
  cases r with
  | fz h => cases h; rfl
  | tm _ _ t => cases t
theorem Rd1.str {i : Str} (r : Rd1 B Hf H v (.str i)) : v = .str i := by
  cases r with
  | fz h => cases h; rfl
  | tm _ _ t => cases t
theorem Rd1.tup {d : List D} (r : Rd1 B Hf H v (.tuple d)) : ∃ a vs, v = .ref a ∧ Hf a = some (.tup vs) ∧ RpL Hf vs d := by
  cases r with
  | fz h => cases h with
    | tup h r => exact ⟨_, _, rfl, h, r⟩
  | tm _ _ t => cases t
theorem Rd1.ptup {d : List D} (r : Rd1 B Hf H v (.ptup d)) : ∃ a vs o, v = .ref a ∧ Hf a = some (.frz o (.tup vs)) ∧ o.dict = none ∧ RpL Hf vs d := by
  cases r with
  | fz h => cases h with
    | ptup h1 hd h2 => exact ⟨_, _, _, rfl, h1, hd, h2⟩
  | tm _ _ t => cases t
theorem Rd1.lst {d : List D} (s : Same Hf H) (r : Rd1 B Hf H v (.list d)) : ∃ a vs, v = .ref a ∧ H a = some (.lst vs) ∧ RpL Hf vs d := by
  cases r with
  | fz h => cases h with
    | lst h r => exact ⟨_, _, rfl, s _ _ h, r⟩
  | tm _ _ t => cases t with
    | lst h r => exact ⟨_, _, rfl, h, r⟩
theorem Rd1.dT {d : List (List Key × D)} (s : Same Hf H) (r : Rd1 B Hf H v (.dT d)) : ∃ a kvs, v = .ref a ∧ Rd H a (.dT kvs) ∧ RpT Hf kvs d := by
  cases r with
  | fz h => cases h with
    | dT h r => exact ⟨_, _, rfl, .inr ⟨_, s _ _ h⟩, r⟩
  | tm _ _ t => cases t with
    | dT h r => exact ⟨_, _, rfl, .inl h, r⟩
theorem Rd1.dK {d : List (Key × D)} (s : Same Hf H) (r : Rd1 B Hf H v (.dK d)) : ∃ a kvs, v = .ref a ∧ Rd H a (.dK kvs) ∧ RpK Hf kvs d := by
  cases r with
  | fz h => cases h with
    | dK h r => exact ⟨_, _, rfl, .inr ⟨_, s _ _ h⟩, r⟩
  | tm _ _ t => cases t with
    | dK h r => exact ⟨_, _, rfl, .inl h, r⟩
end
/-! ### equality of data without dicts -/
mutual
def toPy : D → PyData
  | .none => .none
  | .bool b => .bool b
  | .int i => .int i
  | .str x => .str x
  | .list xs => .list (toPyL xs)
  | .tuple xs => .tuple (toPyL xs)
  | .ptup xs => .tuple (toPyL xs)
  | .dT _ => .dict []
  | .dK _ => .dict []
def toPyL : List D → List PyData
  | [] => []
  | x :: xs => toPy x :: toPyL xs
end
/-- no dict, no text, at most so deep -/
def eqOk : Nat → D → Bool
  | _, .none => true
  | _, .bool _ => true
  | _, .int _ => true
  | n + 1, .list xs => xs.all (eqOk n)
  | n + 1, .tuple xs => xs.all (eqOk n)
  | n + 1, .ptup xs => xs.all (eqOk n)
  | _, _ => false
def all2 (p : D → D → Bool) : List D → List D → Bool
  | [], [] => true
  | x :: xs, y :: ys => p x y && all2 p xs ys
  | _, _ => false
def deq : Nat → D → D → Bool
  | _, .none, .none => true
  | _, .bool a, .bool b => a == b
  | _, .bool a, .int j => decide ((if a then 1 else 0) = j)
  | _, .int i, .bool b => decide (i = (if b then 1 else 0))
  | _, .int i, .int j => decide (i = j)
  | n + 1, .list xs, .list ys => all2 (deq n) xs ys
  | n + 1, .tuple xs, .tuple ys => all2 (deq n) xs ys
  | n + 1, .ptup xs, .tuple ys => all2 (deq n) xs ys
  | n + 1, .tuple xs, .ptup ys => all2 (deq n) xs ys
  | n + 1, .ptup xs, .ptup ys => all2 (deq n) xs ys
  | _, _, _ => false
theorem eqOk_lay : ∀ (n : Nat) (d : D), eqOk n d = true → (toPy d).canLay0 = true ∧ (toPy d).depth ≤ n
  | n, .none, _ => by simp [toPy, PyData.canLay0, PyData.depth]
  | n, .bool _, _ => by simp [toPy, PyData.canLay0, PyData.depth]
  | n, .int _, _ => by simp [toPy, PyData.canLay0, PyData.depth]
  | 0, .list _, h => by simp [eqOk] at h
  | 0, .tuple _, h => by simp [eqOk] at h
  | 0, .ptup _, h => by simp [eqOk] at h
  | n + 1, .list xs, h => by
    have l : ∀ ys : List D, (∀ y ∈ ys, eqOk n y = true) → PyData.canLayAll0 (toPyL ys) = true ∧ PyData.depthAll (toPyL ys) ≤ n := by
      intro ys
      induction ys with
      | nil => intro _; simp [toPyL, PyData.canLayAll0, PyData.depthAll]
      | cons y ys ih =>
        intro hy
        have h1 := eqOk_lay n y (hy y (List.mem_cons_self ..))
        have h2 := ih fun z hz => hy z (List.mem_cons_of_mem _ hz)
        simp only [toPyL, PyData.canLayAll0, PyData.depthAll, h1.1, h2.1, Bool.and_self, true_and]
        omega
    have := l xs (by simpa [eqOk] using h)
    simp only [toPy, PyData.canLay0, PyData.depth]
    exact ⟨this.1, by omega⟩
  | n + 1, .tuple xs, h => by
    have l : ∀ ys : List D, (∀ y ∈ ys, eqOk n y = true) → PyData.canLayAll0 (toPyL ys) = true ∧ PyData.depthAll (toPyL ys) ≤ n := by
      intro ys
      induction ys with
      | nil => intro _; simp [toPyL, PyData.canLayAll0, PyData.depthAll]
      | cons y ys ih =>
        intro hy
        have h1 := eqOk_lay n y (hy y (List.mem_cons_self ..))
        have h2 := ih fun z hz => hy z (List.mem_cons_of_mem _ hz)
        simp only [toPyL, PyData.canLayAll0, PyData.depthAll, h1.1, h2.1, Bool.and_self, true_and]
        omega
    have := l xs (by simpa [eqOk] using h)
    simp only [toPy, PyData.canLay0, PyData.depth]
    exact ⟨this.1, by omega⟩
  | n + 1, .ptup xs, h => by
    have l : ∀ ys : List D, (∀ y ∈ ys, eqOk n y = true) → PyData.canLayAll0 (toPyL ys) = true ∧ PyData.depthAll (toPyL ys) ≤ n := by
      intro ys
      induction ys with
      | nil => intro _; simp [toPyL, PyData.canLayAll0, PyData.depthAll]
      | cons y ys ih =>
        intro hy
        have h1 := eqOk_lay n y (hy y (List.mem_cons_self ..))
        have h2 := ih fun z hz => hy z (List.mem_cons_of_mem _ hz)
        simp only [toPyL, PyData.canLayAll0, PyData.depthAll, h1.1, h2.1, Bool.and_self, true_and]
        omega
    have := l xs (by simpa [eqOk] using h)
    simp only [toPy, PyData.canLay0, PyData.depth]
    exact ⟨this.1, by omega⟩
  | n, .str _, h => by cases n <;> simp [eqOk] at h
  | n, .dT _, h => by cases n <;> simp [eqOk] at h
  | n, .dK _, h => by cases n <;> simp [eqOk] at h
theorem eqOk_shaped {n : Nat} {d : D} (hn : n ≤ 60) (h : eqOk n d = true) : SeqAt.shaped (toPy d) = true := by
  obtain ⟨h1, h2⟩ := eqOk_lay n d h
  show ((toPy d).canLay0 && decide ((toPy d).depth ≤ 64)) = true
  rw [Bool.and_eq_true]
  exact ⟨h1, decide_eq_true (by omega)⟩
theorem deq_eqv : ∀ (n : Nat) (d e : D), eqOk n d = true → eqOk n e = true → PyData.eqv (toPy d) (toPy e) = deq n d e := by
  intro n
  induction n with
  | zero =>
    intro d e h1 h2
    cases d <;> first
      | (simp [eqOk] at h1; done)
      | (cases e <;> first
          | (simp [eqOk] at h2; done)
          | (simp [toPy, PyData.eqv, deq]; done)
          | (simp only [toPy, PyData.eqv, deq]; first | rfl | (rw [Bool.beq_eq_decide_eq])))
  | succ n ih =>
    have l : ∀ xs ys : List D, (∀ y ∈ xs, eqOk n y = true) → (∀ y ∈ ys, eqOk n y = true) → PyData.eqvAll (toPyL xs) (toPyL ys) = all2 (deq n) xs ys := by
      intro xs
      induction xs with
      | nil => intro ys _ _; cases ys <;> simp [toPyL, PyData.eqvAll, all2]
      | cons x xs ihx =>
        intro ys hx hy
        cases ys with
        | nil => simp [toPyL, PyData.eqvAll, all2]
        | cons y ys =>
          simp only [toPyL, PyData.eqvAll, all2]
          rw [ih x y (hx x (List.mem_cons_self ..)) (hy y (List.mem_cons_self ..)), ihx ys (fun z hz => hx z (List.mem_cons_of_mem _ hz)) fun z hz => hy z (List.mem_cons_of_mem _ hz)]
    intro d e h1 h2
    cases d <;> first
      | (simp [eqOk] at h1; done)
      | (cases e <;> first
          | (simp [eqOk] at h2; done)
          | (simp only [toPy, PyData.eqv, deq]; exact l _ _ (by simpa [eqOk] using h1) (by simpa [eqOk] using h2))
          | (simp [toPy, PyData.eqv, deq]; done)
          | (simp only [toPy, PyData.eqv, deq]; first | rfl | (rw [Bool.beq_eq_decide_eq])))
mutual
theorem Rp.dp {K : PySem.W.Frag} {Hf H : Hp} (s : Same Hf H) : ∀ (d : D) (v : V), (toPy d).canLay0 = true → Rp Hf v d → Dp K H v (toPy d)
  | .none, _, _, h => by cases h; exact .non
  | .bool b, _, _, h => by cases h; exact .bl b
  | .int i, _, _, h => by cases h; exact .int i
  | .str x, _, _, h => by cases h; exact .str x
  | .list ds, _, c, h => by
    cases h with
    | lst h1 h2 => exact .lst (.inl (.inl (s _ _ h1))) (RpL.dp s ds _ (by simpa only [toPy, PyData.canLay0] using c) h2)
  | .tuple ds, _, c, h => by
    cases h with
    | tup h1 h2 => exact .tup (.inl (.inl (s _ _ h1))) (RpL.dp s ds _ (by simpa only [toPy, PyData.canLay0] using c) h2)
  | .ptup ds, _, c, h => by
    cases h with
    | ptup h1 hd h2 => exact .tup (.inl (.inr ⟨_, s _ _ h1⟩)) (RpL.dp s ds _ (by simpa only [toPy, PyData.canLay0] using c) h2)
  | .dT ds, _, c, h => by simp only [toPy, PyData.canLay0] at c; cases c
  | .dK ds, _, c, h => by simp only [toPy, PyData.canLay0] at c; cases c
theorem RpL.dp {K : PySem.W.Frag} {Hf H : Hp} (s : Same Hf H) : ∀ (ds : List D) (vs : List V), PyData.canLayAll0 (toPyL ds) = true → RpL Hf vs ds → DpAll K H vs (toPyL ds)
  | [], _, _, h => by cases h; exact .nil
  | d :: ds, _, c, h => by
    cases h with
    | cons h1 h2 =>
      simp only [toPyL, PyData.canLayAll0, Bool.and_eq_true] at c
      exact .cons (Rp.dp s d _ c.1 h1) (RpL.dp s ds _ c.2 h2)
end
theorem Rd1.dp {B : Bs} {K : PySem.W.Frag} {Hf H : Hp} {v : V} {d : D} (s : Same Hf H) (c : (toPy d).canLay0 = true) (r : Rd1 B Hf H v d) : Dp K H v (toPy d) := by
  cases r with
  | fz h => exact h.dp s _ _ c
  | tm _ _ t => cases t with
    | lst h r => exact .lst (.inl (.inl h)) (RpL.dp s _ _ (by simpa only [toPy, PyData.canLay0] using c) r)
    | dT h r => simp only [toPy, PyData.canLay0] at c; cases c
    | dK h r => simp only [toPy, PyData.canLay0] at c; cases c
/-! ### names, constants -/
def dVar (i : Nat) : Den := fun env ds => match env[i]? with
  | some (some (.val d)) => some (d, ds)
  | _ => none
def dRd (i : Nat) : Den := fun env ds => match env[i]? with
  | some (some (.val d)) => some (d, ds)
  | some (some (.own d)) => some (d, ds)
  | _ => none
def dC (d : D) : Den := fun _ ds => some (d, ds)
theorem dVar_eq {i : Nat} {env : En} {ds ds' : DS} {d : D} (h : dVar i env ds = some (d, ds')) : env[i]? = some (some (.val d)) ∧ ds' = ds := by
  unfold dVar at h
  split at h
  · rename_i e; cases h; exact ⟨e, rfl⟩
  · cases h
section
variable {X : Cx} {pos : Pos}
theorem evf_var (i : Nat) {x : Str} (hN : X.N[i]? = some x := by rfl) (hv : Vis X.env.scope x := by first | exact Or.inl rfl | exact Or.inr (Or.inl rfl) | exact Or.inr (Or.inr rfl)) (hd : (x == ("__debug__" : Str)) = false := by decide)
    (hcd : (x == ("__classdict__" : Str)) = false := by decide) : EvF X (.Name x pos) (dVar i) := fun B env ds σ Hf H d ds' S hf Q q => by
  obtain ⟨e, rfl⟩ := dVar_eq hf
  obtain ⟨v, e2, r⟩ := S.slots i _ e
  exact SE.of (pe_var hN hv hd hcd) ⟨v, e2, q.now S r⟩
theorem evr_var (i : Nat) {x : Str} (hN : X.N[i]? = some x := by rfl) (hv : Vis X.env.scope x := by first | exact Or.inl rfl | exact Or.inr (Or.inl rfl) | exact Or.inr (Or.inr rfl)) (hd : (x == ("__debug__" : Str)) = false := by decide)
    (hcd : (x == ("__classdict__" : Str)) = false := by decide) : EvR X (.Name x pos) (dRd i) := fun B env ds σ Hf H d ds' S hf Q q => by
  unfold dRd at hf
  split at hf
  · rename_i e
    cases hf
    obtain ⟨v, e2, r⟩ := S.slots i _ e
    exact SE.of (pe_var hN hv hd hcd) ⟨v, e2, q v Hf H Gr.refl S (.fz r)⟩
  · rename_i e
    cases hf
    obtain ⟨a, e2, n1, n2, n3, t⟩ := S.slots i _ e
    exact SE.of (pe_var hN hv hd hcd) ⟨_, e2, q _ Hf H Gr.refl S (.tm n1 n3 t)⟩
  · cases hf
theorem evf_int {i : Int} {j : Nat} : EvF X (.Constant (.int i) j pos) (dC (.int i)) := fun B env ds σ Hf H d ds' S hf Q q => by
  cases hf
  exact SE.of pe_int (q.now S (.int i))
theorem evf_bl {b : Bool} {j : Nat} : EvF X (.Constant (.bool b) j pos) (dC (.bool b)) := fun B env ds σ Hf H d ds' S hf Q q => by
  cases hf
  exact SE.of pe_bl (q.now S (.bl b))
theorem evf_non {j : Nat} : EvF X (.Constant .none j pos) (dC .none) := fun B env ds σ Hf H d ds' S hf Q q => by
  cases hf
  exact SE.of pe_non (q.now S .non)
theorem evf_str {x : Str} {j : Nat} : EvF X (.Constant (.str x) j pos) (dC (.str x)) := fun B env ds σ Hf H d ds' S hf Q q => by
  cases hf
  exact SE.of pe_str (q.now S (.str x))
theorem evf_glob {x : Str} {n : Int} (hm : ∃ t, X.mg x = some (.int n t)) (hg : Gl X x := by rfl) (hd : (x == ("__debug__" : Str)) = false := by decide) : EvF X (.Name x pos) (dC (.int n)) := fun B env ds σ Hf H d ds' S hf Q q => by
  cases hf
  obtain ⟨t, hm⟩ := hm
  exact SE.of (pe_glob (v := .int n) hg hm ⟨t, rfl⟩ hd) (q.now S (.int n))
end
/-! ### two operands -/
def d1 (g : D → Option D) (f : Den) : Den := fun env ds => bnd (f env ds) fun a s => op1 (g a) s
def d2 (g : D → D → Option D) (f h : Den) : Den := fun env ds => bnd (f env ds) fun a s => bnd (h env s) fun b s' => op1 (g a b) s'
def R2F (X : Cx) (r : R2) (g : D → D → Option D) : Prop := ∀ B env ds σ Hf H d1 d2 d x y Q, SR B X.K env ds σ Hf H → Rd1 B Hf H x d1 → Rd1 B Hf H y d2 → g d1 d2 = some d → CF B X.K env ds σ Hf H d Q → r x y H Q
def R2N (X : Cx) (r : R2) (g : D → D → Option D) : Prop := ∀ B env ds σ Hf H d1 d2 d x y Q, SR B X.K env ds σ Hf H → Rd1 B Hf H x d1 → Rd1 B Hf H y d2 → g d1 d2 = some d → CN B X.K env ds σ Hf H d Q → r x y H Q
section
variable {X : Cx} {a b c : Expr} {pos : Pos} {f h k : Den} {r : R2} {g : D → D → Option D}
theorem ev2 (ha : EvR X a f) (hb : EvR X b h) {B env ds σ Hf H d ds'} {Q : VK} (S : SR B X.K env ds σ Hf H) (e : d2 g f h env ds = some (d, ds'))
    (q : ∀ d1 d2 x y Hf' H', Gr B Hf H Hf' H' → SR B X.K env ds' σ Hf' H' → Rd1 B Hf' H' x d1 → Rd1 B Hf' H' y d2 → g d1 d2 = some d → r x y H' Q) : tOp r (SE X a) (SE X b) σ H Q := by
  obtain ⟨v1, s1, e1, e⟩ := bnd_eq e
  obtain ⟨v2, s2, e2, e⟩ := bnd_eq e
  obtain ⟨e3, rfl⟩ := op1_eq e
  refine ha B env ds σ Hf H _ _ S e1 _ fun x Hf1 H1 g1 S1 r1 => ?_
  refine hb B env s1 σ Hf1 H1 _ _ S1 e2 _ fun y Hf2 H2 g2 S2 r2 => ?_
  exact q _ _ _ _ _ _ (g1.trans g2) S2 (r1.up g2) r2 e3
theorem evf_op {op : Operator} (ho : OpR X (binaryOp op) r) (hr : R2F X r g) (ha : EvR X a f) (hb : EvR X b h) : EvF X (.BinOp a op b pos) (d2 g f h) := fun B env ds σ Hf H d ds' S hf Q q =>
  SE.of (pe_op ho (pe_se X a) (pe_se X b)) (ev2 ha hb S hf fun d1 d2 x y Hf' H' gr S' r1 r2 e => hr _ _ _ _ _ _ _ _ _ _ _ _ S' r1 r2 e (q.step gr))
theorem evn_op {op : Operator} (ho : OpR X (binaryOp op) r) (hr : R2N X r g) (ha : EvR X a f) (hb : EvR X b h) : EvN X (.BinOp a op b pos) (d2 g f h) := fun B env ds σ Hf H d ds' S hf Q q =>
  SE.of (pe_op ho (pe_se X a) (pe_se X b)) (ev2 ha hb S hf fun d1 d2 x y Hf' H' gr S' r1 r2 e => hr _ _ _ _ _ _ _ _ _ _ _ _ S' r1 r2 e (q.step gr))
theorem evf_cmp {op : CmpOp} (ho : OpR X (compareOp op) r) (hr : R2F X r g) (ha : EvR X a f) (hb : EvR X b h) (hm : behindInMarks op b = false) : EvF X (.Compare a [op] [b] pos) (d2 g f h) := fun B env ds σ Hf H d ds' S hf Q q =>
  SE.of (pe_cmpR ho (pe_se X a) (pe_se X b) hm) (ev2 ha hb S hf fun d1 d2 x y Hf' H' gr S' r1 r2 e => hr _ _ _ _ _ _ _ _ _ _ _ _ S' r1 r2 e (q.step gr))
/-- a bool for a test -/
def asB : D → Option Bool
  | .bool b => some b
  | _ => none
def dTest (f : Den) : DenT := fun env ds => bnd (f env ds) fun a s => op1 (asB a) s
theorem asB_eq {d : D} {b : Bool} (h : asB d = some b) : d = .bool b := by
  cases d <;> first | (cases h; rfl) | cases h
theorem dTest_eq {f : Den} {env ds ds'} {b : Bool} (h : dTest f env ds = some (b, ds')) : f env ds = some (.bool b, ds') := by
  obtain ⟨v, s, e1, e⟩ := bnd_eq h
  obtain ⟨e2, rfl⟩ := op1_eq e
  rw [asB_eq e2] at e1
  exact e1
theorem evt_cmp {op : CmpOp} (ho : OpR X (compareOp op) r) (hr : R2F X r g) (ha : EvR X a f) (hb : EvR X b h) (hm : behindInMarks op b = false) : EvT X (.Compare a [op] [b] pos) (dTest (d2 g f h)) := fun B env ds σ Hf H d ds' S hf Q q =>
  STt.of (pt_cmpR ho (pe_se X a) (pe_se X b) hm) (ev2 ha hb S (dTest_eq hf) fun d1 d2 x y Hf' H' gr S' r1 r2 e => hr _ _ _ _ _ _ _ _ _ _ _ _ S' r1 r2 e fun v Hf2 H2 g2 S2 rv => by
    cases rv
    exact ⟨_, rfl, q _ _ (gr.trans g2) S2⟩)
/-- a op b op c -/
def d3 (g g' : D → D → Option D) (f h k : Den) : Den := fun env ds => bnd (f env ds) fun a s => bnd (h env s) fun b s1 => match g a b with
  | some (.bool true) => bnd (k env s1) fun c s2 => op1 (g' b c) s2
  | some (.bool false) => some (.bool false, s1)
  | _ => none
theorem ev3 {r' : R2} {g' : D → D → Option D} (hr : R2F X r g) (hr' : R2F X r' g') (ha : EvR X a f) (hb : EvR X b h) (hc : EvR X c k) {B env ds σ Hf H d ds'} {Q : VK} (S : SR B X.K env ds σ Hf H) (e : d3 g g' f h k env ds = some (d, ds'))
    (q : CF B X.K env ds' σ Hf H d Q) : tChain r r' (SE X a) (SE X b) (SE X c) σ H Q := by
  obtain ⟨v1, s1, e1, e⟩ := bnd_eq e
  obtain ⟨v2, s2, e2, e⟩ := bnd_eq e
  refine ha B env ds σ Hf H _ _ S e1 _ fun x Hf1 H1 g1 S1 r1 => ?_
  refine hb B env s1 σ Hf1 H1 _ _ S1 e2 _ fun y Hf2 H2 g2 S2 r2 => ?_
  cases hg : g v1 v2 with
  | none => rw [hg] at e; cases e
  | some z =>
    rw [hg] at e
    refine hr _ _ _ _ _ _ _ _ _ _ _ _ S2 (r1.up g2) r2 hg fun v Hf3 H3 g3 S3 rv => ?_
    cases z with
    | bool t =>
      cases rv
      refine ⟨t, rfl, ?_⟩
      cases t with
      | true =>
        rw [if_pos rfl]
        obtain ⟨v3, s3, e3, e⟩ := bnd_eq e
        obtain ⟨e4, rfl⟩ := op1_eq e
        refine hc B env s2 σ Hf3 H3 _ _ S3 e3 _ fun w Hf4 H4 g4 S4 r4 => ?_
        exact hr' _ _ _ _ _ _ _ _ _ _ _ _ S4 ((r2.up g3).up g4) r4 e4 (q.step (((g1.trans g2).trans g3).trans g4))
      | false =>
        rw [if_neg Bool.false_ne_true]
        cases e
        exact q _ _ _ ((g1.trans g2).trans g3) S3 (.bl false)
    | _ => cases e
theorem evf_chain {op op' : CmpOp} {r' : R2} {g' : D → D → Option D} (ho : OpR X (compareOp op) r) (ho' : OpR X (compareOp op') r') (hr : R2F X r g) (hr' : R2F X r' g') (ha : EvR X a f) (hb : EvR X b h) (hc : EvR X c k) (hm : lastMarks [op, op'] [b, c] = false) :
    EvF X (.Compare a [op, op'] [b, c] pos) (d3 g g' f h k) := fun B env ds σ Hf H d ds' S hf Q q =>
  SE.of (pe_chain ho ho' (pe_se X a) (pe_se X b) (pe_se X c) hm) (ev3 hr hr' ha hb hc S hf q)
theorem evt_chain {op op' : CmpOp} {r' : R2} {g' : D → D → Option D} (ho : OpR X (compareOp op) r) (ho' : OpR X (compareOp op') r') (hr : R2F X r g) (hr' : R2F X r' g') (ha : EvR X a f) (hb : EvR X b h) (hc : EvR X c k) (hm : lastMarks [op, op'] [b, c] = false) :
    EvT X (.Compare a [op, op'] [b, c] pos) (dTest (d3 g g' f h k)) := fun B env ds σ Hf H d ds' S hf Q q =>
  STt.of (pt_chain ho ho' (pe_se X a) (pe_se X b) (pe_se X c) hm) (ev3 hr hr' ha hb hc S (dTest_eq hf) fun v Hf' H' gr S' rv => by
    cases rv
    exact ⟨_, rfl, q _ _ gr S'⟩)
end
/-! ### the operators -/
def gAdd : D → D → Option D
  | .int i, .int j => some (.int (i + j))
  | .tuple xs, .tuple ys => if xs.length + ys.length ≤ 100000 then some (.tuple (xs ++ ys)) else none
  | _, _ => none
def gCat : D → D → Option D
  | .list xs, .list ys => if xs.length + ys.length ≤ 100000 then some (.list (xs ++ ys)) else none
  | _, _ => none
def gRep : D → D → Option D
  | .list xs, .int k => if 0 ≤ k ∧ k < 1000 ∧ xs.length ≤ 1000 then some (.list (List.replicate k.toNat xs).flatten) else none
  | _, _ => none
def gSub : D → D → Option D
  | .int i, .int j => some (.int (i - j))
  | _, _ => none
def gMul : D → D → Option D
  | .int i, .int j => if (-(2 ^ 64) < i ∧ i < 2 ^ 64) ∨ (-(2 ^ 64) < j ∧ j < 2 ^ 64) then some (.int (i * j)) else none
  | _, _ => none
def gDiv : D → D → Option D
  | .int i, .int j => if 0 < j ∧ j < 2 ^ 80 then some (.int (i / j)) else none
  | _, _ => none
def gMod : D → D → Option D
  | .int i, .int j => if 0 < j then some (.int (i % j)) else none
  | _, _ => none
def gCmp (p : Int → Int → Bool) : D → D → Option D
  | .int i, .int j => some (.bool (p i j))
  | _, _ => none
abbrev gLt := gCmp fun i j => decide (i < j)
abbrev gLe := gCmp fun i j => decide (i ≤ j)
abbrev gGt := gCmp fun i j => decide (j < i)
abbrev gGe := gCmp fun i j => decide (j ≤ i)
def gEqD : D → D → Option D := fun x y => if eqOk 8 x && eqOk 8 y then some (.bool (deq 8 x y)) else none
def gNeD : D → D → Option D := fun x y => if eqOk 8 x && eqOk 8 y then some (.bool (!deq 8 x y)) else none
def gIn : D → D → Option D
  | x, .list ys => if eqOk 8 x && ys.all (eqOk 8) then some (.bool (ys.any fun z => deq 8 z x)) else none
  | _, _ => none
def gNotIn : D → D → Option D
  | x, .list ys => if eqOk 8 x && ys.all (eqOk 8) then some (.bool (!ys.any fun z => deq 8 z x)) else none
  | _, _ => none
def gIsN : D → D → Option D
  | .none, .none => some (.bool true)
  | .bool _, .none | .int _, .none | .str _, .none | .list _, .none | .tuple _, .none | .ptup _, .none | .dT _, .none | .dK _, .none => some (.bool false)
  | _, _ => none
def gNotN : D → D → Option D
  | .none, .none => some (.bool false)
  | .bool _, .none | .int _, .none | .str _, .none | .list _, .none | .tuple _, .none | .ptup _, .none | .dT _, .none | .dK _, .none => some (.bool true)
  | _, _ => none
theorem sz_ok {n : Nat} (h : n ≤ 100000) : n ≤ sizeLine := Nat.le_trans h (by rw [sizeLine_eq]; decide)
section
variable {X : Cx}
def rAddA (K : PySem.W.Frag) : R2 := fun x y H Q => rI0 (fun i j => .int (i + j)) x y H Q ∨ rCatA K x y H Q
theorem op_addA : OpR X (binaryOp .Add) (rAddA X.K) := OpR.or op_add op_catA
theorem r2_add : R2F X (rAddA X.K) gAdd := fun B env ds σ Hf H d1 d2 d x y Q S r1 r2 e q => by
  unfold gAdd at e
  split at e
  · cases e
    cases r1.int; cases r2.int
    exact .inl ⟨_, _, rfl, rfl, q.now S (.int _)⟩
  · split at e
    · rename_i hz
      cases e
      obtain ⟨a, vs, rfl, h1, t1⟩ := r1.tup
      obtain ⟨b, ws, rfl, h2, t2⟩ := r2.tup
      have l1 := t1.length
      have l2 := t2.length
      refine .inr ⟨a, b, vs, ws, rfl, rfl, .inl (.inl (S.sub _ _ h1)), .inl (.inl (S.sub _ _ h2)), sz_ok (by omega), fun e1 => ?_, fun e1 e2 => ?_, fun _ _ => ?_⟩
      · subst e1
        cases t1
        exact q.now S (.tup h2 t2)
      · subst e2
        cases t2
        exact q.now S (by rw [List.append_nil]; exact .tup h1 t1)
      · exact q.tup S (t1.append t2)
    · cases e
  · cases e
theorem r2_sub : R2F X (rI0 fun i j => .int (i - j)) gSub := fun B env ds σ Hf H d1 d2 d x y Q S r1 r2 e q => by
  unfold gSub at e
  split at e
  · cases e
    cases r1.int; cases r2.int
    exact ⟨_, _, rfl, rfl, q.now S (.int _)⟩
  · cases e
theorem r2_mul : R2F X (rI CMul fun i j => .int (i * j)) gMul := fun B env ds σ Hf H d1 d2 d x y Q S r1 r2 e q => by
  unfold gMul at e
  split at e
  · split at e
    · rename_i hz
      cases e
      cases r1.int; cases r2.int
      exact ⟨_, _, rfl, rfl, hz, q.now S (.int _)⟩
    · cases e
  · cases e
theorem divW_ok {i j : Int} (h : 0 < j ∧ j < 2 ^ 80) : CDivW i j := ⟨h.1, by
  have := PySem.Flt.log2_lt_of (n := j.natAbs) (k := 80) (by decide) (by omega)
  omega⟩
theorem r2_div : R2F X (rI CDivW fun i j => .int (i / j)) gDiv := fun B env ds σ Hf H d1 d2 d x y Q S r1 r2 e q => by
  unfold gDiv at e
  split at e
  · split at e
    · rename_i hz
      cases e
      cases r1.int; cases r2.int
      exact ⟨_, _, rfl, rfl, divW_ok hz, q.now S (.int _)⟩
    · cases e
  · cases e
theorem r2_mod : R2F X (rI (fun _ j => 0 < j) fun i j => .int (i % j)) gMod := fun B env ds σ Hf H d1 d2 d x y Q S r1 r2 e q => by
  unfold gMod at e
  split at e
  · split at e
    · rename_i hz
      cases e
      cases r1.int; cases r2.int
      exact ⟨_, _, rfl, rfl, hz, q.now S (.int _)⟩
    · cases e
  · cases e
theorem r2_cmp {p : Int → Int → Bool} : R2F X (rI0 fun i j => .bl (p i j)) (gCmp p) := fun B env ds σ Hf H d1 d2 d x y Q S r1 r2 e q => by
  unfold gCmp at e
  split at e
  · cases e
    cases r1.int; cases r2.int
    exact ⟨_, _, rfl, rfl, q.now S (.bl _)⟩
  · cases e
theorem r2_eqD : R2F X (rEqD X.K) gEqD := fun B env ds σ Hf H d1 d2 d x y Q S r1 r2 e q => by
  unfold gEqD at e
  split at e
  · rename_i hz
    rw [Bool.and_eq_true] at hz
    cases e
    refine ⟨_, _, r1.dp S.sub (eqOk_lay _ _ hz.1).1, r2.dp S.sub (eqOk_lay _ _ hz.2).1, eqOk_shaped (by decide) hz.1, eqOk_shaped (by decide) hz.2, ?_⟩
    rw [deq_eqv _ _ _ hz.1 hz.2]
    exact q.now S (.bl _)
  · cases e
theorem r2_neD : R2F X (rNeD X.K) gNeD := fun B env ds σ Hf H d1 d2 d x y Q S r1 r2 e q => by
  unfold gNeD at e
  split at e
  · rename_i hz
    rw [Bool.and_eq_true] at hz
    cases e
    refine ⟨_, _, r1.dp S.sub (eqOk_lay _ _ hz.1).1, r2.dp S.sub (eqOk_lay _ _ hz.2).1, eqOk_shaped (by decide) hz.1, eqOk_shaped (by decide) hz.2, ?_⟩
    rw [deq_eqv _ _ _ hz.1 hz.2]
    exact q.now S (.bl _)
  · cases e
theorem any_eqv {x : D} (hx : eqOk 8 x = true) : ∀ {ys : List D}, ys.all (eqOk 8) = true → ((toPyL ys).any fun z => PyData.eqv z (toPy x)) = ys.any fun z => deq 8 z x
  | [], _ => rfl
  | y :: ys, h => by
    simp only [List.all_cons, Bool.and_eq_true] at h
    simp only [toPyL, List.any_cons]
    rw [deq_eqv 8 _ _ h.1 hx, any_eqv hx h.2]
theorem list_ok {ys : List D} (h : ys.all (eqOk 8) = true) : eqOk 9 (.list ys) = true := h
theorem r2_in : R2F X (rInD X.K) gIn := fun B env ds σ Hf H d1 d2 d x y Q S r1 r2 e q => by
  unfold gIn at e
  split at e
  · split at e
    · rename_i hz
      rw [Bool.and_eq_true] at hz
      cases e
      have r2' := r2.dp (K := X.K) S.sub (eqOk_lay _ _ (list_ok hz.2)).1
      simp only [toPy] at r2'
      refine ⟨_, _, r1.dp S.sub (eqOk_lay _ _ hz.1).1, r2', eqOk_shaped (by decide) hz.1, by have := eqOk_shaped (by decide) (list_ok hz.2); simpa only [toPy] using this, ?_⟩
      rw [any_eqv hz.1 hz.2]
      exact q.now S (.bl _)
    · cases e
  · cases e
theorem r2_notIn : R2F X (rNotInD X.K) gNotIn := fun B env ds σ Hf H d1 d2 d x y Q S r1 r2 e q => by
  unfold gNotIn at e
  split at e
  · split at e
    · rename_i hz
      rw [Bool.and_eq_true] at hz
      cases e
      have r2' := r2.dp (K := X.K) S.sub (eqOk_lay _ _ (list_ok hz.2)).1
      simp only [toPy] at r2'
      refine ⟨_, _, r1.dp S.sub (eqOk_lay _ _ hz.1).1, r2', eqOk_shaped (by decide) hz.1, by have := eqOk_shaped (by decide) (list_ok hz.2); simpa only [toPy] using this, ?_⟩
      rw [any_eqv hz.1 hz.2]
      exact q.now S (.bl _)
    · cases e
  · cases e
theorem Rd1.notNon {B : Bs} {Hf H : Hp} {v : V} {d : D} (r : Rd1 B Hf H v d) (h : d ≠ .none) : v ≠ .non := by
  cases r with
  | fz r => cases r <;> first | exact absurd rfl h | (intro z; cases z)
  | tm _ _ _ => intro z; cases z
theorem r2_isN : R2F X (fun x y H Q => y = .non ∧ Q (.bl (decide (x = .non))) H) gIsN := fun B env ds σ Hf H d1 d2 d x y Q S r1 r2 e q => by
  unfold gIsN at e
  split at e
  · cases e; cases r1.non; cases r2.non
    exact ⟨rfl, q.now S (.bl true)⟩
  all_goals first
    | (cases e
       cases r2.non
       refine ⟨rfl, ?_⟩
       rw [decide_eq_false (r1.notNon (by intro z; cases z))]
       exact q.now S (.bl false))
    | cases e
theorem r2_notN : R2F X (fun x y H Q => y = .non ∧ Q (.bl (!decide (x = .non))) H) gNotN := fun B env ds σ Hf H d1 d2 d x y Q S r1 r2 e q => by
  unfold gNotN at e
  split at e
  · cases e; cases r1.non; cases r2.non
    exact ⟨rfl, q.now S (.bl false)⟩
  all_goals first
    | (cases e
       cases r2.non
       refine ⟨rfl, ?_⟩
       rw [decide_eq_false (r1.notNon (by intro z; cases z))]
       exact q.now S (.bl true))
    | cases e
theorem r2_cat : R2N X rCat gCat := fun B env ds σ Hf H d1 d2 d x y Q S r1 r2 e q => by
  unfold gCat at e
  split at e
  · split at e
    · rename_i hz
      cases e
      obtain ⟨a, vs, rfl, h1, t1⟩ := r1.lst S.sub
      obtain ⟨b, ws, rfl, h2, t2⟩ := r2.lst S.sub
      have l1 := t1.length
      have l2 := t2.length
      exact ⟨a, b, vs, ws, rfl, rfl, h1, h2, sz_ok (by omega), q.lst S (t1.append t2)⟩
    · cases e
  · cases e
theorem RpL.rep {Hf : Hp} {vs : List V} {xs : List D} (t : RpL Hf vs xs) : ∀ n : Nat, RpL Hf (List.replicate n vs).flatten (List.replicate n xs).flatten
  | 0 => .nil
  | n + 1 => by
    rw [List.replicate_succ, List.replicate_succ, List.flatten_cons, List.flatten_cons]
    exact t.append (RpL.rep t n)
theorem r2_rep : R2N X rRep gRep := fun B env ds σ Hf H d1 d2 d x y Q S r1 r2 e q => by
  unfold gRep at e
  split at e
  · split at e
    · rename_i k hz
      cases e
      obtain ⟨a, vs, rfl, h1, t1⟩ := r1.lst S.sub
      cases r2.int
      have l1 := t1.length
      refine ⟨a, _, vs, rfl, rfl, h1, by omega, by omega, ?_, q.lst S (t1.rep _)⟩
      have h3 : vs.length * k.toNat ≤ 1000 * 1000 := Nat.mul_le_mul (by omega) (by omega)
      rw [sizeLine_eq]; omega
    · cases e
  · cases e
end
end L2.Dn
set_option Elab.async false
set_option linter.all false
set_option maxRecDepth 100000
/-! rules of the hand layer's make that it lacks -/
namespace L2.Dn
open PySem PySem.Spec PyProof.Rows PySem.W
/-! ### t[::-1] of a tuple -/
section
variable {prog : Program} {w : World} {A : Around} {E : Value → Shared → Prop} {s : Shared}
theorem adjust_rev (n : Nat) : Builtin.Slice.sliceAdjust none none (-1) (n : Int) = ((n : Int) - 1, -1) := by
  unfold Builtin.Slice.sliceAdjust
  simp
theorem places_rev (n : Nat) : Builtin.Slice.slicePlaces ((n : Int) - 1) (-1) (-1) = n := by
  unfold Builtin.Slice.slicePlaces
  have h1 : ¬ ((-1 : Int) > 0) := by decide
  simp only [h1, if_false, show (- -1 : Int) = 1 by decide, Int.ediv_one]
  split <;> omega
theorem pick_rev (xs : Array Value) : ((List.range xs.size).filterMap fun (m : Nat) => xs[((xs.size : Int) - 1 + (m : Int) * (-1)).toNat]?).toArray = xs.toList.reverse.toArray := by
  have e : ((List.range xs.size).filterMap fun (m : Nat) => xs[((xs.size : Int) - 1 + (m : Int) * (-1)).toNat]?) = ((List.range xs.size).map fun k => xs.size - 1 - k).filterMap (xs[·]?) := by
    rw [List.filterMap_map]
    congr 1
    funext m
    show xs[((xs.size : Int) - 1 + (m : Int) * (-1)).toNat]? = xs[xs.size - 1 - m]?
    by_cases h : m ≤ xs.size - 1
    · rw [show ((xs.size : Int) - 1 + (m : Int) * (-1)).toNat = xs.size - 1 - m by omega]
    · rw [show ((xs.size : Int) - 1 + (m : Int) * (-1)).toNat = xs.size - 1 - m by omega]
  rw [e, krv_range, List.filterMap_reverse, krv_all]
theorem getItem_tuple_rev {t sl : Addr} {items : Array Value} {vl vu vs : Value} {Q : Value → Shared → Prop} (ht : IsTup s.heap t items) (hs : s.heap.IsSliceOf sl vl vu vs) (pl : IsPart vl none) (pu : IsPart vu none) (ps : IsPart vs (some (-1)))
    (h : Q (.ref s.heap.objs.size) { s with heap := s.heap.push { cls := .type "tuple", data := .seq items.toList.reverse.toArray } })
    (hsz : items.size ≤ sizeLine) : wpAny (model prog w) A (getItem (.ref t) (.ref sl)) Q E s := by
  have htake : sizeOk (.seq items.toList.reverse.toArray) := by
    show items.toList.reverse.toArray.size ≤ sizeLine
    rw [List.size_toArray, List.length_reverse, Array.length_toList]
    exact hsz
  obtain ⟨os, hos, hcs, hds⟩ := id hs
  have hTs : s.TypeIs (.ref sl) "slice" := ⟨os, hos, hcs⟩
  unfold getItem
  try with_reducible refine wpAny_holding ?_
  first | refine wpAny_bind (wpAny_pure ?_) | skip
  refine wpAny_bind (wpAny_sequenceKey ht.typeIs (by decide) ?_)
  refine wpAny_bind (wpAny_callSpecial?_slot (name := Str.ofString "__getitem__") ht.typeIs PyProof.Rows.slot_tuple_getitem
    (wpAny_call_entry PyProof.Rows.slot_tuple_getitem ht.typeIs entry_tuple_getitem ?_ (args_tuple_getitem _ _)))
  show wpAny _ _ (Builtin.Tuple.tupleItemsOf (.ref t) >>= _) _ _ s
  refine wpAny_bind (tupleItemsOf_ ht ?_)
  refine wpAny_bind (wpAny_typeOf hTs ?_)
  rw [if_pos (by decide)]
  refine wpAny_bind ?_
  · unfold Builtin.Slice.sliceApplied Builtin.Slice.sliceFields
    refine wpAny_bind (wpAny_bind (wpAny_field hos hds (x := vl) rfl (wpAny_bind (wpAny_field hos hds (x := vu) rfl (wpAny_bind (wpAny_field hos hds (x := vs) rfl (wpAny_pure ?_)))))))
    refine wpAny_bind (HT.slicePart_ ps ?_)
    show wpAny _ _ (if ((-1 : Int) == 0) = true then _ else _) _ _ s
    rw [if_neg (by decide)]
    refine wpAny_bind (HT.slicePart_ pl (wpAny_bind (HT.slicePart_ pu (wpAny_bind (wpAny_pure ?_)))))
    show wpAny _ _ (match Builtin.Slice.sliceAdjust none none (-1) (items.size : Int) with | (lo, hi) => pure (lo, (-1 : Int), Builtin.Slice.slicePlaces lo hi (-1))) _ _ s
    rw [adjust_rev]
    show wpAny _ _ (pure ((items.size : Int) - 1, (-1 : Int), Builtin.Slice.slicePlaces ((items.size : Int) - 1) (-1) (-1))) _ _ s
    rw [places_rev]
    refine wpAny_pure ?_
    have hno : ¬ ((((items.size : Int) - 1) == 0 && (-1 : Int) == 1 && items.size == items.size) = true) := by
      intro q
      rw [Bool.and_eq_true, Bool.and_eq_true] at q
      exact absurd q.1.2 (by decide)
    show wpAny _ _ (if (((items.size : Int) - 1) == 0 && (-1 : Int) == 1 && items.size == items.size) = true then _ else _) _ _ s
    rw [if_neg hno, pick_rev]
    first
      | exact wpAny_bind (m := Builtin.Tuple.tupleExact _) (wpAny_newObj_type (wpAny_pure ⟨_, rfl, wpAny_pure h⟩) htake)
      | exact wpAny_bind (m := Builtin.Tuple.tupleExact _) (wpAny_newObj_type (wpAny_bind (wpAny_pure (wpAny_pure ⟨_, rfl, wpAny_pure h⟩))) htake)
      | exact wpAny_bind (wpAny_bind (m := Builtin.Tuple.tupleExact _) (wpAny_newObj_type (wpAny_pure (wpAny_pure ⟨_, rfl, wpAny_pure h⟩)) htake))
      | exact wpAny_bind (wpAny_bind (m := Builtin.Tuple.tupleExact _) (wpAny_newObj_type (wpAny_pure ⟨_, rfl, wpAny_pure h⟩) htake))
end
section
variable {X : Cx}
def tRevT (K : PySem.W.Frag) (te : TE) : TE := fun σ H Q => te σ H fun x H1 => ∃ a xs, x = .ref a ∧ SqT K H1 a xs ∧ ∀ p, H1 p = none → Q (.ref p) (upd H1 p (.tup xs.reverse))
theorem pe_revT {e : Expr} {te : TE} {k : Nat} {p1 p2 p3 pos : Pos} (he : PE X e te) : PE X (.Subscript e (.Slice none none (some (.UnaryOp .USub (.Constant (.int 1) k p1) p2)) p3) pos) (tRevT X.K te) := by
  refine ⟨fun pins s σ H Q I h => ?_⟩
  refine Subscript_ (thn (he.run pins s σ H _ I h) fun v s1 ⟨x, H1, I1, r1, q1⟩ => ?_)
  obtain ⟨a, xs, ex, hx, q⟩ := q1
  subst ex
  cases r1
  have hst : PO X (some (.UnaryOp .USub (.Constant (.int 1) k p1) p2)) (tPart (tUn (rU fun i => .int (-i)) (tC (.int 1)))) := po_some (pe_un un_neg pe_int)
  refine wpAny_Slice (thn (po_none.run pins s1 σ H1 (fun o H2 => o = none ∧ H2 = H1) I1 ⟨rfl, rfl⟩) fun vl s2 ⟨l, H2, I2, pl, el, e2⟩ => ?_)
  subst el e2
  refine thn (po_none.run pins s2 σ H2 (fun o H3 => o = none ∧ H3 = H2) I2 ⟨rfl, rfl⟩) fun vu s3 ⟨u, H3, I3, pu, eu, e3⟩ => ?_
  subst eu e3
  refine thn (hst.run pins s3 σ H3 (fun o H4 => o = some (-1) ∧ H4 = H3) I3 ⟨1, rfl, -1, rfl, rfl, rfl⟩) fun vs s4 ⟨o, H4, I4, ps, eo, e4⟩ => ?_
  subst eo e4
  have I5 : Inv X pins σ H4 { s4 with heap := s4.heap.push { cls := .type "slice", data := .fields #[vl, vu, vs] } } := I4.kept (t' := s4.toks) fun b ob q => Heap.get?_push_of_some _ q
  obtain ⟨its, r, ht, hz⟩ := I5.tuple hx
  have hlen := r.length
  show wpAny (model X.prog X.w) X.A (subscriptTail e (.Slice none none (some (.UnaryOp .USub (.Constant (.int 1) k p1) p2)) p3) (.ref a) (.ref s4.heap.objs.size)) (EP X pins σ Q) X.xe { s4 with heap := s4.heap.push { cls := .type "slice", data := .fields #[vl, vu, vs] } }
  refine tail_any (ops := [.ref a, .ref s4.heap.objs.size]) ht.typeIs (PyProof.Rows.slot_tuple_getitem.lookup) ?_ (by with_unfolding_all rfl)
  refine getItem_tuple_rev ht (Heap.IsSliceOf.new _ vl vu vs) pl pu ps ?_ (by rw [List.size_toArray]; omega)
  refine ⟨.ref _, _, I5.laid (t' := s4.toks) (o := .tup xs.reverse) (fun b ob q => Heap.get?_push_of_some _ q) (Nat.le_refl _) ?_, rfl, q _ (I5.hok.fresh (Nat.le_refl _))⟩
  exact ⟨by rw [List.length_reverse]; exact hz, _, r.reverse, IsTup.new _ _⟩
end
end L2.Dn
set_option Elab.async false
set_option linter.all false
set_option maxRecDepth 100000
namespace L2.Dn
open PySem PySem.Spec PyProof.Rows
/-! ### keys, tables -/
def beqK : Key → Key → Bool
  | .inl i, .inl j => decide (i = j)
  | .inr x, .inr y => decide (x = y)
  | _, _ => false
def beqKs : List Key → List Key → Bool
  | [], [] => true
  | a :: r, b :: t => beqK a b && beqKs r t
  | _, _ => false
theorem beqK_eq (a b : Key) : beqK a b = decide (a = b) := by
  cases a <;> cases b <;> simp [beqK]
theorem beqKs_eq : ∀ (a b : List Key), beqKs a b = decide (a = b)
  | [], [] => rfl
  | [], _ :: _ => by simp [beqKs]
  | _ :: _, [] => by simp [beqKs]
  | a :: r, b :: t => by
    simp only [beqKs, beqK_eq, beqKs_eq r t]
    by_cases h1 : a = b
    · by_cases h2 : r = t
      · simp [h1, h2]
      · simp [h1, h2]
    · simp [h1]
def lookT (kds : List (List Key × D)) (k : List Key) : Option D := match kds with
  | [] => none
  | (k', d) :: r => match beqKs k' k with
    | true => some d
    | false => lookT r k
def lookK (kds : List (Key × D)) (k : Key) : Option D := match kds with
  | [] => none
  | (k', d) :: r => match beqK k' k with
    | true => some d
    | false => lookK r k
def hasT (kds : List (List Key × D)) (k : List Key) : Bool := match kds with
  | [] => false
  | (k', _) :: r => match beqKs k' k with
    | true => true
    | false => hasT r k
def hasK (kds : List (Key × D)) (k : Key) : Bool := match kds with
  | [] => false
  | (k', _) :: r => match beqK k' k with
    | true => true
    | false => hasK r k
theorem hasT_none : ∀ {kds : List (List Key × D)} {k : List Key}, hasT kds k = false → lookT kds k = none
  | [], _, _ => rfl
  | (k', d) :: r, k, h => by
    unfold hasT at h
    unfold lookT
    cases e : beqKs k' k with
    | true => rw [e] at h; cases h
    | false => rw [e] at h; exact hasT_none h
theorem RpT.look {Hf : Hp} {k : List Key} : ∀ {kvs : List (List Key × V)} {ds : List (List Key × D)}, RpT Hf kvs ds → (∀ d, lookT ds k = some d → ∃ v, valV kvs k = some v ∧ Rp Hf v d) ∧ (lookT ds k = none → valV kvs k = none)
  | _, _, .nil => ⟨fun d h => (by cases h), fun _ => rfl⟩
  | _, _, .cons (k := k') (v := v) (d := d) (kvs := kvs) (ds := ds) h t => by
    have ih := RpT.look (k := k) t
    unfold lookT
    rw [beqKs_eq]
    by_cases e : k' = k
    · rw [decide_eq_true e]
      refine ⟨fun d' hd => ?_, fun hd => (by cases hd)⟩
      cases hd
      exact ⟨v, valV_pos (k := k) e, h⟩
    · rw [decide_eq_false e]
      rw [valV_neg (k := k) (p := (k', v)) e]
      exact ih
theorem RpK.look {Hf : Hp} {k : Key} : ∀ {kvs : List (Key × V)} {ds : List (Key × D)}, RpK Hf kvs ds → (∀ d, lookK ds k = some d → ∃ v, valV kvs k = some v ∧ Rp Hf v d) ∧ (lookK ds k = none → valV kvs k = none)
  | _, _, .nil => ⟨fun d h => (by cases h), fun _ => rfl⟩
  | _, _, .cons (k := k') (v := v) (d := d) (kvs := kvs) (ds := ds) h t => by
    have ih := RpK.look (k := k) t
    unfold lookK
    rw [beqK_eq]
    by_cases e : k' = k
    · rw [decide_eq_true e]
      refine ⟨fun d' hd => ?_, fun hd => (by cases hd)⟩
      cases hd
      exact ⟨v, valV_pos (k := k) e, h⟩
    · rw [decide_eq_false e]
      rw [valV_neg (k := k) (p := (k', v)) e]
      exact ih
def replT (kds : List (List Key × D)) (k : List Key) (x : D) : List (List Key × D) := match kds with
  | [] => []
  | (k', d) :: r => match beqKs k' k with
    | true => (k', x) :: replT r k x
    | false => (k', d) :: replT r k x
def putT (kds : List (List Key × D)) (k : List Key) (x : D) : List (List Key × D) := match hasT kds k with
  | true => replT kds k x
  | false => kds ++ [(k, x)]
def replK (kds : List (Key × D)) (k : Key) (x : D) : List (Key × D) := match kds with
  | [] => []
  | (k', d) :: r => match beqK k' k with
    | true => (k', x) :: replK r k x
    | false => (k', d) :: replK r k x
def putKD (kds : List (Key × D)) (k : Key) (x : D) : List (Key × D) := match hasK kds k with
  | true => replK kds k x
  | false => kds ++ [(k, x)]
theorem RpT.length {Hf : Hp} : ∀ {kvs : List (List Key × V)} {ds : List (List Key × D)}, RpT Hf kvs ds → kvs.length = ds.length
  | _, _, .nil => rfl
  | _, _, .cons _ t => congrArg Nat.succ (RpT.length t)
theorem RpK.length {Hf : Hp} : ∀ {kvs : List (Key × V)} {ds : List (Key × D)}, RpK Hf kvs ds → kvs.length = ds.length
  | _, _, .nil => rfl
  | _, _, .cons _ t => congrArg Nat.succ (RpK.length t)
theorem RpT.has {Hf : Hp} {k : List Key} : ∀ {kvs : List (List Key × V)} {ds : List (List Key × D)}, RpT Hf kvs ds → (kvs.any fun kv => decide (kv.1 = k)) = hasT ds k
  | _, _, .nil => rfl
  | _, _, .cons (k := k') h t => by
    have ih := RpT.has (k := k) t
    unfold hasT
    rw [beqKs_eq, List.any_cons, ih]
    by_cases e : k' = k
    · simp [e]
    · simp [e]
theorem RpK.has {Hf : Hp} {k : Key} : ∀ {kvs : List (Key × V)} {ds : List (Key × D)}, RpK Hf kvs ds → (kvs.any fun kv => decide (kv.1 = k)) = hasK ds k
  | _, _, .nil => rfl
  | _, _, .cons (k := k') h t => by
    have ih := RpK.has (k := k) t
    unfold hasK
    rw [beqK_eq, List.any_cons, ih]
    by_cases e : k' = k
    · simp [e]
    · simp [e]
theorem RpT.append {Hf : Hp} : ∀ {kvs kvs' : List (List Key × V)} {ds ds' : List (List Key × D)}, RpT Hf kvs ds → RpT Hf kvs' ds' → RpT Hf (kvs ++ kvs') (ds ++ ds')
  | _, _, _, _, .nil, h => h
  | _, _, _, _, .cons h t, h2 => .cons h (RpT.append t h2)
theorem RpK.append {Hf : Hp} : ∀ {kvs kvs' : List (Key × V)} {ds ds' : List (Key × D)}, RpK Hf kvs ds → RpK Hf kvs' ds' → RpK Hf (kvs ++ kvs') (ds ++ ds')
  | _, _, _, _, .nil, h => h
  | _, _, _, _, .cons h t, h2 => .cons h (RpK.append t h2)
theorem RpT.repl {Hf : Hp} {k : List Key} {x : D} {y : V} (r : Rp Hf y x) : ∀ {kvs : List (List Key × V)} {ds : List (List Key × D)}, RpT Hf kvs ds → RpT Hf (kvs.map fun kv => if kv.1 = k then (kv.1, y) else kv) (replT ds k x)
  | _, _, .nil => .nil
  | _, _, .cons (k := k') h t => by
    have ih := RpT.repl (k := k) r t
    unfold replT
    rw [beqKs_eq, List.map_cons]
    by_cases e : k' = k
    · rw [decide_eq_true e, if_pos e]; exact .cons r ih
    · rw [decide_eq_false e, if_neg e]; exact .cons h ih
theorem RpK.repl {Hf : Hp} {k : Key} {x : D} {y : V} (r : Rp Hf y x) : ∀ {kvs : List (Key × V)} {ds : List (Key × D)}, RpK Hf kvs ds → RpK Hf (kvs.map fun kv => if kv.1 = k then (kv.1, y) else kv) (replK ds k x)
  | _, _, .nil => .nil
  | _, _, .cons (k := k') h t => by
    have ih := RpK.repl (k := k) r t
    unfold replK
    rw [beqK_eq, List.map_cons]
    by_cases e : k' = k
    · rw [decide_eq_true e, if_pos e]; exact .cons r ih
    · rw [decide_eq_false e, if_neg e]; exact .cons h ih
theorem RpT.put {Hf : Hp} {k : List Key} {x : D} {y : V} {kvs : List (List Key × V)} {ds : List (List Key × D)} (t : RpT Hf kvs ds) (r : Rp Hf y x) : RpT Hf (putK kvs k y) (putT ds k x) := by
  unfold putT putK
  rw [t.has]
  cases hasT ds k with
  | true => rw [if_pos rfl]; exact t.repl r
  | false => rw [if_neg Bool.false_ne_true]; exact t.append (.cons r .nil)
theorem RpK.put {Hf : Hp} {k : Key} {x : D} {y : V} {kvs : List (Key × V)} {ds : List (Key × D)} (t : RpK Hf kvs ds) (r : Rp Hf y x) : RpK Hf (putK kvs k y) (putKD ds k x) := by
  unfold putKD putK
  rw [t.has]
  cases hasK ds k with
  | true => rw [if_pos rfl]; exact t.repl r
  | false => rw [if_neg Bool.false_ne_true]; exact t.append (.cons r .nil)
def key1? : D → Option Key
  | .int i => some (.inl i)
  | .str x => some (.inr x)
  | _ => none
def keys? : List D → Option (List Key)
  | [] => some []
  | d :: r => match key1? d with
    | none => none
    | some k => match keys? r with
      | none => none
      | some ks => some (k :: ks)
def keyOf? : D → Option (List Key)
  | .tuple ds => keys? ds
  | _ => none
theorem key1_rp {Hf : Hp} {v : V} {d : D} {k : Key} (r : Rp Hf v d) (h : key1? d = some k) : v = kV k := by
  cases r <;> first
    | (cases h; rfl)
    | cases h
theorem keys_rp {Hf : Hp} : ∀ {vs : List V} {ds : List D} {k : List Key}, RpL Hf vs ds → keys? ds = some k → vs = k.map kV
  | _, _, _, .nil, h => by cases h; rfl
  | _, _, k, .cons (d := d) (ds := ds) r t, h => by
    unfold keys? at h
    cases e1 : key1? d with
    | none => rw [e1] at h; cases h
    | some k1 =>
      cases e2 : keys? ds with
      | none => rw [e1, e2] at h; cases h
      | some ks =>
        rw [e1, e2] at h
        cases h
        rw [List.map_cons, key1_rp r e1, keys_rp t e2]
/-- a key that may be read: its tuple stays -/
theorem keyOf_rd {B : Bs} {Hf H : Hp} {v : V} {d : D} {k : List Key} (r : Rd1 B Hf H v d) (h : keyOf? d = some k) : ∃ b, v = .ref b ∧ Hf b = some (.tup (k.map kV)) := by
  cases d with
  | tuple ds =>
    obtain ⟨a, vs, rfl, e, t⟩ := r.tup
    have := keys_rp t (show keys? ds = some k from h)
    subst this
    exact ⟨a, rfl, e⟩
  | _ => cases h
theorem key1_rd {B : Bs} {Hf H : Hp} {v : V} {d : D} {k : Key} (r : Rd1 B Hf H v d) (h : key1? d = some k) : v = kV k := by
  cases r with
  | fz r => exact key1_rp r h
  | tm _ _ t => cases t <;> cases h
theorem key_rp {Hf : Hp} : ∀ {k : List Key}, RpL Hf (k.map kV) (k.map keyD)
  | [] => .nil
  | .inl i :: r => .cons (.int i) key_rp
  | .inr x :: r => .cons (.str x) key_rp
/-! ### subscripts -/
def gIx : D → D → Option D
  | .list xs, .int i => atI xs i
  | .tuple xs, .int i => atI xs i
  | .ptup xs, .int i => atI xs i
  | .dT kds, k => match keyOf? k with
    | some k => lookT kds k
    | none => none
  | .dK kds, k => match key1? k with
    | some k => lookK kds k
    | none => none
  | _, _ => none
theorem RpL.at {Hf : Hp} {vs : List V} {ds : List D} {i : Int} {d : D} (t : RpL Hf vs ds) (h : atI ds i = some d) : ∃ v, atI vs i = some v ∧ Rp Hf v d := by
  unfold atI at h ⊢
  rw [t.length]
  cases e : ixN ds.length i with
  | none => rw [e] at h; cases h
  | some j =>
    rw [e] at h
    exact t.get h
section
variable {X : Cx} {a b c : Expr} {pos : Pos} {f h k : Den}
theorem evf_ix (hu : X.A.units + 1 < cLine) (ha : EvR X a f) (hb : EvR X b h) (hs : PlainIx b := by first | exact fun _ _ => rfl | exact fun _ _ => by with_unfolding_all rfl) : EvF X (.Subscript a b pos) (d2 gIx f h) := fun B env ds σ Hf H d ds' S hf Q q => by
  obtain ⟨v1, s1, e1, e⟩ := bnd_eq hf
  obtain ⟨v2, s2, e2, e⟩ := bnd_eq e
  obtain ⟨e3, rfl⟩ := op1_eq e
  unfold gIx at e3
  split at e3
  · refine SE.of (pe_ix (r := rIxL X.K) ix_list (pe_se X a) (pe_se X b) hs) ?_
    refine ha B env ds σ Hf H _ _ S e1 _ fun x Hf1 H1 g1 S1 r1 => hb B env s1 σ Hf1 H1 _ _ S1 e2 _ fun y Hf2 H2 g2 S2 r2 => ?_
    obtain ⟨p, vs, rfl, h1, t⟩ := (r1.up g2).lst S2.sub
    cases r2.int
    obtain ⟨v, hv, rv⟩ := t.at e3
    exact ⟨p, vs, _, v, rfl, rfl, .inl (.inl h1), hv, q _ _ _ (g1.trans g2) S2 rv⟩
  · refine SE.of (pe_ix (r := rIxT X.K) ix_tup (pe_se X a) (pe_se X b) hs) ?_
    refine ha B env ds σ Hf H _ _ S e1 _ fun x Hf1 H1 g1 S1 r1 => hb B env s1 σ Hf1 H1 _ _ S1 e2 _ fun y Hf2 H2 g2 S2 r2 => ?_
    obtain ⟨p, vs, rfl, h1, t⟩ := (r1.up g2).tup
    cases r2.int
    obtain ⟨v, hv, rv⟩ := t.at e3
    exact ⟨p, vs, _, v, rfl, rfl, .inl (.inl (S2.sub _ _ h1)), hv, q _ _ _ (g1.trans g2) S2 rv⟩
  · refine SE.of (pe_ix (r := rIxT X.K) ix_tup (pe_se X a) (pe_se X b) hs) ?_
    refine ha B env ds σ Hf H _ _ S e1 _ fun x Hf1 H1 g1 S1 r1 => hb B env s1 σ Hf1 H1 _ _ S1 e2 _ fun y Hf2 H2 g2 S2 r2 => ?_
    obtain ⟨p, vs, o, rfl, h1, _, t⟩ := (r1.up g2).ptup
    cases r2.int
    obtain ⟨v, hv, rv⟩ := t.at e3
    exact ⟨p, vs, _, v, rfl, rfl, .inl (.inr ⟨o, S2.sub _ _ h1⟩), hv, q _ _ _ (g1.trans g2) S2 rv⟩
  · split at e3
    · rename_i kk hk
      refine SE.of (pe_dget hu (pe_se X a) (pe_se X b) hs) ?_
      refine ha B env ds σ Hf H _ _ S e1 _ fun x Hf1 H1 g1 S1 r1 => hb B env s1 σ Hf1 H1 _ _ S1 e2 _ fun y Hf2 H2 g2 S2 r2 => ?_
      obtain ⟨p, kvs, rfl, h1, t⟩ := (r1.up g2).dT S2.sub
      obtain ⟨bb, rfl, hb⟩ := keyOf_rd r2 hk
      obtain ⟨v, hv, rv⟩ := (t.look (k := kk)).1 _ e3
      exact ⟨p, v, rfl, .inr ⟨kvs, kk, bb, h1, rfl, S2.sub _ _ hb, hv.symm⟩, q _ _ _ (g1.trans g2) S2 rv⟩
    · cases e3
  · split at e3
    · rename_i kk hk
      refine SE.of (pe_dget hu (pe_se X a) (pe_se X b) hs) ?_
      refine ha B env ds σ Hf H _ _ S e1 _ fun x Hf1 H1 g1 S1 r1 => hb B env s1 σ Hf1 H1 _ _ S1 e2 _ fun y Hf2 H2 g2 S2 r2 => ?_
      obtain ⟨p, kvs, rfl, h1, t⟩ := (r1.up g2).dK S2.sub
      have hb := key1_rd r2 hk
      obtain ⟨v, hv, rv⟩ := (t.look (k := kk)).1 _ e3
      exact ⟨p, v, rfl, .inl ⟨kvs, kk, h1, hb, hv.symm⟩, q _ _ _ (g1.trans g2) S2 rv⟩
    · cases e3
  · cases e3
/-! ### slices -/
def cutD (xs : List D) (lo hi : Option Int) : List D := (xs.drop (HT.sIx xs.length 0 lo)).take (HT.sIx xs.length xs.length hi - HT.sIx xs.length 0 lo)
theorem RpL.cut {Hf : Hp} {vs : List V} {ds : List D} (t : RpL Hf vs ds) (lo hi : Option Int) : RpL Hf (cutV vs lo hi) (cutD ds lo hi) := by
  unfold cutV cutD
  rw [t.length]
  exact (t.drop _).take _
def dPart (f : Option Den) : En → DS → Option (Option Int × DS) := match f with
  | none => fun _ ds => some (none, ds)
  | some f => fun env ds => bnd (f env ds) fun a s => match a with
    | .int i => some (some i, s)
    | _ => none
/-- a slice's part -/
def EvP (X : Cx) (e : Option Expr) (f : Option Den) : Prop := ∃ t : TO, PO X e t ∧ ∀ B env ds σ Hf H d ds', SR B X.K env ds σ Hf H → dPart f env ds = some (d, ds') → ∀ Q : Option Int → Hp → Prop,
  (∀ Hf' H', Gr B Hf H Hf' H' → SR B X.K env ds' σ Hf' H' → Q d H') → t σ H Q
theorem evp_none : EvP X none none := ⟨tNoPart, po_none, fun B env ds σ Hf H d ds' S hf Q q => by
  cases hf
  exact q _ _ Gr.refl S⟩
theorem evp_some (ha : EvR X a f) : EvP X (some a) (some f) := ⟨_, po_some (pe_se X a), fun B env ds σ Hf H d ds' S hf Q q => by
  obtain ⟨v1, s1, e1, e⟩ := bnd_eq hf
  refine ha B env ds σ Hf H _ _ S e1 _ fun x Hf1 H1 g1 S1 r1 => ?_
  cases v1 with
  | int i =>
    cases e
    cases r1.int
    exact ⟨i, rfl, q _ _ g1 S1⟩
  | _ => cases e⟩
def dSl (f : Den) (lo hi : Option Den) : Den := fun env ds => bnd (f env ds) fun a s => bnd (dPart lo env s) fun l s1 => bnd (dPart hi env s1) fun u s2 => match a with
  | .tuple xs => some (.tuple (cutD xs l u), s2)
  | .ptup xs => some (if HT.sIx xs.length 0 l = 0 ∧ HT.sIx xs.length xs.length u = xs.length then .ptup xs else .tuple (cutD xs l u), s2)
  | _ => none
def dSlL (f : Den) (lo hi : Option Den) : Den := fun env ds => bnd (f env ds) fun a s => bnd (dPart lo env s) fun l s1 => bnd (dPart hi env s1) fun u s2 => match a with
  | .list xs => some (.list (cutD xs l u), s2)
  | _ => none
theorem evf_slice {lo hi : Option Expr} {fl fh : Option Den} {p2 : Pos} (ha : EvR X a f) (hl : EvP X lo fl) (hh : EvP X hi fh) : EvF X (.Subscript a (.Slice lo hi none p2) pos) (dSl f fl fh) := fun B env ds σ Hf H d ds' S hf Q q => by
  obtain ⟨v1, s1, e1, e⟩ := bnd_eq hf
  obtain ⟨l, s2, e2, e⟩ := bnd_eq e
  obtain ⟨u, s3, e3, e⟩ := bnd_eq e
  obtain ⟨tl, pl, kl⟩ := hl
  obtain ⟨th, ph, kh⟩ := hh
  refine SE.of (pe_slice sl_tupA (pe_se X a) pl ph) ?_
  refine ha B env ds σ Hf H _ _ S e1 _ fun x Hf1 H1 g1 S1 r1 => kl B env s1 σ Hf1 H1 _ _ S1 e2 _ fun Hf2 H2 g2 S2 => kh B env s2 σ Hf2 H2 _ _ S2 e3 _ fun Hf3 H3 g3 S3 => ?_
  cases v1 with
  | tuple xs =>
    cases e
    obtain ⟨p, vs, rfl, h1, t⟩ := ((r1.up g2).up g3).tup
    have g := (g1.trans g2).trans g3
    refine ⟨p, vs, rfl, .inl (.inl (S3.sub _ _ h1)), fun ⟨w1, w2⟩ => ?_, fun _ => ?_⟩
    · have e : cutD xs l u = xs := by
        rw [t.length] at w1 w2
        unfold cutD
        rw [w1, w2]
        simp
      rw [e] at q
      exact q _ _ _ g S3 (.tup h1 t)
    · exact (q.step g).tup S3 (t.cut l u)
  | ptup xs =>
    cases e
    obtain ⟨p, vs, o, rfl, h1, hd, t⟩ := ((r1.up g2).up g3).ptup
    have g := (g1.trans g2).trans g3
    refine ⟨p, vs, rfl, .inl (.inr ⟨o, S3.sub _ _ h1⟩), fun w => ?_, fun w => ?_⟩
    · rw [t.length] at w
      rw [if_pos w] at q
      exact q _ _ _ g S3 (.ptup h1 hd t)
    · rw [t.length] at w
      rw [if_neg w] at q
      exact (q.step g).tup S3 (t.cut l u)
  | _ => cases e
theorem evn_slice {lo hi : Option Expr} {fl fh : Option Den} {p2 : Pos} (ha : EvR X a f) (hl : EvP X lo fl) (hh : EvP X hi fh) : EvN X (.Subscript a (.Slice lo hi none p2) pos) (dSlL f fl fh) := fun B env ds σ Hf H d ds' S hf Q q => by
  obtain ⟨v1, s1, e1, e⟩ := bnd_eq hf
  obtain ⟨l, s2, e2, e⟩ := bnd_eq e
  obtain ⟨u, s3, e3, e⟩ := bnd_eq e
  obtain ⟨tl, pl, kl⟩ := hl
  obtain ⟨th, ph, kh⟩ := hh
  refine SE.of (pe_slice sl_list (pe_se X a) pl ph) ?_
  refine ha B env ds σ Hf H _ _ S e1 _ fun x Hf1 H1 g1 S1 r1 => kl B env s1 σ Hf1 H1 _ _ S1 e2 _ fun Hf2 H2 g2 S2 => kh B env s2 σ Hf2 H2 _ _ S2 e3 _ fun Hf3 H3 g3 S3 => ?_
  cases v1 with
  | list xs =>
    cases e
    obtain ⟨p, vs, rfl, h1, t⟩ := ((r1.up g2).up g3).lst S3.sub
    have g := (g1.trans g2).trans g3
    exact ⟨p, vs, rfl, .inl (.inl h1), (q.step g).lst S3 (t.cut l u)⟩
  | _ => cases e
def gRevT : D → Option D
  | .tuple xs => some (.tuple xs.reverse)
  | .ptup xs => some (.tuple xs.reverse)
  | _ => none
def gRevL : D → Option D
  | .list xs => some (.list xs.reverse)
  | _ => none
theorem evf_rev {j : Nat} {p1 p2 p3 : Pos} (ha : EvR X a f) : EvF X (.Subscript a (.Slice none none (some (.UnaryOp .USub (.Constant (.int 1) j p1) p2)) p3) pos) (d1 gRevT f) := fun B env ds σ Hf H d ds' S hf Q q => by
  obtain ⟨v1, s1, e1, e⟩ := bnd_eq hf
  obtain ⟨e3, rfl⟩ := op1_eq e
  refine SE.of (pe_revT (pe_se X a)) ?_
  refine ha B env ds σ Hf H _ _ S e1 _ fun x Hf1 H1 g1 S1 r1 => ?_
  unfold gRevT at e3
  split at e3
  · cases e3
    obtain ⟨p, vs, rfl, h1, t⟩ := r1.tup
    exact ⟨p, vs, rfl, .inl (.inl (S1.sub _ _ h1)), (q.step g1).tup S1 t.reverse⟩
  · cases e3
    obtain ⟨p, vs, o, rfl, h1, _, t⟩ := r1.ptup
    exact ⟨p, vs, rfl, .inl (.inr ⟨o, S1.sub _ _ h1⟩), (q.step g1).tup S1 t.reverse⟩
  · cases e3
theorem evn_rev {j : Nat} {p1 p2 p3 : Pos} (ha : EvR X a f) : EvN X (.Subscript a (.Slice none none (some (.UnaryOp .USub (.Constant (.int 1) j p1) p2)) p3) pos) (d1 gRevL f) := fun B env ds σ Hf H d ds' S hf Q q => by
  obtain ⟨v1, s1, e1, e⟩ := bnd_eq hf
  obtain ⟨e3, rfl⟩ := op1_eq e
  refine SE.of (pe_revL (pe_se X a)) ?_
  refine ha B env ds σ Hf H _ _ S e1 _ fun x Hf1 H1 g1 S1 r1 => ?_
  unfold gRevL at e3
  split at e3
  · cases e3
    obtain ⟨p, vs, rfl, h1, t⟩ := r1.lst S1.sub
    exact ⟨p, vs, rfl, .inl (.inl h1), (q.step g1).lst S1 t.reverse⟩
  · cases e3
end
/-! ### negation, conditions -/
section
variable {X : Cx} {a b c : Expr} {pos : Pos} {f h k : Den} {t u : DenT} {rest : List Expr}
def gNeg : D → Option D
  | .int i => some (.int (-i))
  | _ => none
theorem evf_neg (ha : EvR X a f) : EvF X (.UnaryOp .USub a pos) (d1 gNeg f) := fun B env ds σ Hf H d ds' S hf Q q => by
  obtain ⟨v1, s1, e1, e⟩ := bnd_eq hf
  obtain ⟨e3, rfl⟩ := op1_eq e
  refine SE.of (pe_un un_neg (pe_se X a)) ?_
  refine ha B env ds σ Hf H _ _ S e1 _ fun x Hf1 H1 g1 S1 r1 => ?_
  unfold gNeg at e3
  split at e3
  · cases e3
    cases r1.int
    exact ⟨_, rfl, q _ _ _ g1 S1 (.int _)⟩
  · cases e3
/-- a value that is a bool, as a test (a name, a call, a subscript ..) -/
theorem evt_val (ha : EvR X a f) (he : ∀ whole, isTrue a X.env whole = (do let v ← whole; standAt a.pos; holding [v] (truthy v)) := by intro _; rfl) : EvT X a (dTest f) := fun B env ds σ Hf H d ds' S hf Q q => by
  refine STt.of (pt_val (pe_se X a) he) ?_
  refine ha B env ds σ Hf H _ _ S (dTest_eq hf) _ fun x Hf1 H1 g1 S1 r1 => ?_
  cases r1.bl
  exact ⟨_, rfl, q _ _ g1 S1⟩
def tNotD (t : DenT) : DenT := fun env ds => bnd (t env ds) fun b s => some (!b, s)
def tAndD (t u : DenT) : DenT := fun env ds => bnd (t env ds) fun b s => match b with
  | true => u env s
  | false => some (false, s)
def tOrD (t u : DenT) : DenT := fun env ds => bnd (t env ds) fun b s => match b with
  | true => some (true, s)
  | false => u env s
theorem evt_not (ha : EvT X a t) : EvT X (.UnaryOp .Not a pos) (tNotD t) := fun B env ds σ Hf H d ds' S hf Q q => by
  obtain ⟨v1, s1, e1, e⟩ := bnd_eq hf
  cases e
  exact STt.of (pt_not (pt_st X a)) (ha B env ds σ Hf H _ _ S e1 _ fun Hf1 H1 g1 S1 => q _ _ g1 S1)
theorem evw_and1 (ha : EvT X a t) : EvW X (.BoolOp .And [a] pos) t := fun B env ds σ Hf H d ds' S hf Q q => SW.of (pw_and1 (pt_st X a)) (ha B env ds σ Hf H _ _ S hf _ q)
theorem evw_or1 (ha : EvT X a t) : EvW X (.BoolOp .Or [a] pos) t := fun B env ds σ Hf H d ds' S hf Q q => SW.of (pw_or1 (pt_st X a)) (ha B env ds σ Hf H _ _ S hf _ q)
theorem evw_and (ha : EvT X a t) (hb : EvW X (.BoolOp .And (b :: rest) pos) u) : EvW X (.BoolOp .And (a :: b :: rest) pos) (tAndD t u) := fun B env ds σ Hf H d ds' S hf Q q => by
  obtain ⟨v1, s1, e1, e⟩ := bnd_eq hf
  refine SW.of (pw_and (pt_st X a) (pw_sw X _)) (ha B env ds σ Hf H _ _ S e1 _ fun Hf1 H1 g1 S1 => ?_)
  cases v1 with
  | true => rw [if_pos rfl]; exact hb B env s1 σ Hf1 H1 _ _ S1 e _ (q.step g1)
  | false => rw [if_neg Bool.false_ne_true]; cases e; exact q _ _ g1 S1
theorem evw_or (ha : EvT X a t) (hb : EvW X (.BoolOp .Or (b :: rest) pos) u) : EvW X (.BoolOp .Or (a :: b :: rest) pos) (tOrD t u) := fun B env ds σ Hf H d ds' S hf Q q => by
  obtain ⟨v1, s1, e1, e⟩ := bnd_eq hf
  refine SW.of (pw_or (pt_st X a) (pw_sw X _)) (ha B env ds σ Hf H _ _ S e1 _ fun Hf1 H1 g1 S1 => ?_)
  cases v1 with
  | true => rw [if_pos rfl]; cases e; exact q _ _ g1 S1
  | false => rw [if_neg Bool.false_ne_true]; exact hb B env s1 σ Hf1 H1 _ _ S1 e _ (q.step g1)
theorem EvW.toT (h : EvW X a t) : EvT X a t := fun B env ds σ Hf H d ds' S hf Q q pins s I => h B env ds σ Hf H d ds' S hf Q q (eval a X.env) pins s I
/-- .. as values, bools all -/
def dNot (f : Den) : Den := d1 (fun x => match x with | .bool b => some (.bool (!b)) | _ => none) f
def dAnd (f h : Den) : Den := fun env ds => bnd (f env ds) fun x s => match x with
  | .bool true => h env s
  | .bool false => some (.bool false, s)
  | _ => none
def dOr (f h : Den) : Den := fun env ds => bnd (f env ds) fun x s => match x with
  | .bool true => some (.bool true, s)
  | .bool false => h env s
  | _ => none
theorem evf_not (ha : EvR X a f) : EvF X (.UnaryOp .Not a pos) (dNot f) := fun B env ds σ Hf H d ds' S hf Q q => by
  obtain ⟨v1, s1, e1, e⟩ := bnd_eq hf
  obtain ⟨e3, rfl⟩ := op1_eq e
  refine SE.of (pe_not (pe_se X a)) (ha B env ds σ Hf H _ _ S e1 _ fun x Hf1 H1 g1 S1 r1 => ?_)
  cases v1 with
  | bool b => cases e3; cases r1.bl; exact ⟨_, rfl, q _ _ _ g1 S1 (.bl _)⟩
  | _ => cases e3
theorem evf_one {op : BoolOp} (ha : EvF X a f) : EvF X (.BoolOp op [a] pos) f := fun B env ds σ Hf H d ds' S hf Q q => SE.of (pe_one (pe_se X a)) (ha B env ds σ Hf H _ _ S hf _ q)
theorem evf_and (ha : EvR X a f) (hb : EvF X (.BoolOp .And (b :: rest) pos) h) : EvF X (.BoolOp .And (a :: b :: rest) pos) (dAnd f h) := fun B env ds σ Hf H d ds' S hf Q q => by
  obtain ⟨v1, s1, e1, e⟩ := bnd_eq hf
  refine SE.of (pe_and (pe_se X a) (pe_se X _)) (ha B env ds σ Hf H _ _ S e1 _ fun x Hf1 H1 g1 S1 r1 => ?_)
  cases v1 with
  | bool b =>
    cases r1.bl
    refine ⟨b, rfl, ?_⟩
    cases b with
    | true => rw [if_pos rfl]; exact hb B env s1 σ Hf1 H1 _ _ S1 e _ (q.step g1)
    | false => rw [if_neg Bool.false_ne_true]; cases e; exact q _ _ _ g1 S1 (.bl _)
  | _ => cases e
theorem evf_or (ha : EvR X a f) (hb : EvF X (.BoolOp .Or (b :: rest) pos) h) : EvF X (.BoolOp .Or (a :: b :: rest) pos) (dOr f h) := fun B env ds σ Hf H d ds' S hf Q q => by
  obtain ⟨v1, s1, e1, e⟩ := bnd_eq hf
  refine SE.of (pe_or (pe_se X a) (pe_se X _)) (ha B env ds σ Hf H _ _ S e1 _ fun x Hf1 H1 g1 S1 r1 => ?_)
  cases v1 with
  | bool b =>
    cases r1.bl
    refine ⟨b, rfl, ?_⟩
    cases b with
    | true => rw [if_pos rfl]; cases e; exact q _ _ _ g1 S1 (.bl _)
    | false => rw [if_neg Bool.false_ne_true]; exact hb B env s1 σ Hf1 H1 _ _ S1 e _ (q.step g1)
  | _ => cases e
def dIf (t : DenT) (f h : Den) : Den := fun env ds => bnd (t env ds) fun b s => match b with
  | true => f env s
  | false => h env s
theorem evf_if (hc : EvT X c t) (ha : EvF X a f) (hb : EvF X b h) : EvF X (.IfExp c a b pos) (dIf t f h) := fun B env ds σ Hf H d ds' S hf Q q => by
  obtain ⟨v1, s1, e1, e⟩ := bnd_eq hf
  refine SE.of (pe_ifExp (pt_st X c) (pe_se X a) (pe_se X b)) (hc B env ds σ Hf H _ _ S e1 _ fun Hf1 H1 g1 S1 => ?_)
  cases v1 with
  | true => rw [if_pos rfl]; exact ha B env s1 σ Hf1 H1 _ _ S1 e _ (q.step g1)
  | false => rw [if_neg Bool.false_ne_true]; exact hb B env s1 σ Hf1 H1 _ _ S1 e _ (q.step g1)
end
/-! ### lists of arguments, displays -/
section
variable {X : Cx} {a b c e : Expr} {es : List Expr} {pos : Pos} {f h k : Den} {g : DenA}
def aNil : DenA := fun _ ds => some ([], ds)
def aCons (f : Den) (g : DenA) : DenA := fun env ds => bnd (f env ds) fun a s => bnd (g env s) fun r s' => some (a :: r, s')
theorem eva_nil : EvA X [] aNil := fun B env ds σ Hf H d ds' S hf Q q => by
  cases hf
  exact SA.of pa_nil (q _ _ _ Gr.refl S .nil)
theorem eva_cons (ha : EvF X e f) (hr : EvA X es g) (hs : starEach (e :: es) X.env = (false, eval e X.env) :: starEach es X.env := by rfl) : EvA X (e :: es) (aCons f g) := fun B env ds σ Hf H d ds' S hf Q q => by
  obtain ⟨v1, s1, e1, e⟩ := bnd_eq hf
  obtain ⟨v2, s2, e2, e⟩ := bnd_eq e
  cases e
  refine SA.of (pa_cons (pe_se X _) (pa_sa X es) hs) ?_
  exact ha B env ds σ Hf H _ _ S e1 _ fun x Hf1 H1 g1 S1 r1 => hr B env s1 σ Hf1 H1 _ _ S1 e2 _ fun xs Hf2 H2 g2 S2 r2 => q _ _ _ (g1.trans g2) S2 (.cons (r1.up g2.ff) r2)
/-- *e at the head -/
def aStar (f : Den) (g : DenA) : DenA := fun env ds => bnd (f env ds) fun a s => bnd (g env s) fun r s' => match a with
  | .tuple xs => some (xs ++ r, s')
  | .ptup xs => some (xs ++ r, s')
  | .list xs => some (xs ++ r, s')
  | _ => none
theorem eva_star {p : Pos} (ha : EvR X e f) (hr : EvA X es g) (hs : starEach (.Starred e p :: es) X.env = (true, eval e X.env) :: starEach es X.env := by rfl) : EvA X (.Starred e p :: es) (aStar f g) := fun B env ds σ Hf H d ds' S hf Q q => by
  obtain ⟨v1, s1, e1, e⟩ := bnd_eq hf
  obtain ⟨v2, s2, e2, e⟩ := bnd_eq e
  refine SA.of (StX.pa_star (pe_se X _) (pa_sa X es) hs) ?_
  refine ha B env ds σ Hf H _ _ S e1 _ fun x Hf1 H1 g1 S1 r1 => ?_
  cases v1 with
  | tuple xs =>
    cases e
    obtain ⟨p, vs, rfl, h1, t⟩ := r1.tup
    exact ⟨p, vs, rfl, .inl (.inl (.inl (S1.sub _ _ h1))), hr B env s1 σ Hf1 H1 _ _ S1 e2 _ fun ws Hf2 H2 g2 S2 r2 => q _ _ _ (g1.trans g2) S2 ((t.up g2.ff).append r2)⟩
  | ptup xs =>
    cases e
    obtain ⟨p, vs, o, rfl, h1, _, t⟩ := r1.ptup
    exact ⟨p, vs, rfl, .inl (.inl (.inr ⟨o, S1.sub _ _ h1⟩)), hr B env s1 σ Hf1 H1 _ _ S1 e2 _ fun ws Hf2 H2 g2 S2 r2 => q _ _ _ (g1.trans g2) S2 ((t.up g2.ff).append r2)⟩
  | list xs =>
    cases e
    obtain ⟨p, vs, rfl, h1, t⟩ := r1.lst S1.sub
    exact ⟨p, vs, rfl, .inr (.inl (.inl h1)), hr B env s1 σ Hf1 H1 _ _ S1 e2 _ fun ws Hf2 H2 g2 S2 r2 => q _ _ _ (g1.trans g2) S2 ((t.up g2.ff).append r2)⟩
  | _ => cases e
def dTup (g : DenA) : Den := fun env ds => bnd (g env ds) fun r s => if r.length ≤ 100000 then some (.tuple r, s) else none
def dLst (g : DenA) : Den := fun env ds => bnd (g env ds) fun r s => if r.length ≤ 100000 then some (.list r, s) else none
theorem evf_tup {x1} (h : EvA X es g) : EvF X (.Tuple es x1 pos) (dTup g) := fun B env ds σ Hf H d ds' S hf Q q => by
  obtain ⟨v1, s1, e1, e⟩ := bnd_eq hf
  split at e
  · rename_i hz
    cases e
    refine SE.of (pe_tup (pa_sa X es)) (h B env ds σ Hf H _ _ S e1 _ fun xs Hf1 H1 g1 S1 r1 => ⟨by rw [r1.length]; exact sz_ok hz, (q.step g1).tup S1 r1⟩)
  · cases e
theorem evn_lst (h : EvA X es g) : EvN X (.List es pos) (dLst g) := fun B env ds σ Hf H d ds' S hf Q q => by
  obtain ⟨v1, s1, e1, e⟩ := bnd_eq hf
  split at e
  · rename_i hz
    cases e
    refine SE.of (pe_lst (pa_sa X es)) (h B env ds σ Hf H _ _ S e1 _ fun xs Hf1 H1 g1 S1 r1 => ⟨by rw [r1.length]; exact sz_ok hz, (q.step g1).lst S1 r1⟩)
  · cases e
theorem evn_dT : EvN X (.Dict [] [] pos) (dC (.dT [])) := fun B env ds σ Hf H d ds' S hf Q q => by
  cases hf
  exact SE.of pe_dnewT (q.dT S .nil)
theorem evn_dK : EvN X (.Dict [] [] pos) (dC (.dK [])) := fun B env ds σ Hf H d ds' S hf Q q => by
  cases hf
  exact SE.of pe_dnewK (q.dK S .nil)
/-! ### readable arguments, built-ins by name -/
abbrev RdL (B : Bs) (Hf H : Hp) : List V → List D → Prop := Paired (Rd1 B Hf H)
def CB (B : Bs) (K : PySem.W.Frag) (env : En) (ds : DS) (σ : St) (Hf H : Hp) (d : List D) (Q : List V → Hp → Prop) : Prop := ∀ vs Hf' H', Gr B Hf H Hf' H' → SR B K env ds σ Hf' H' → RdL B Hf' H' vs d → Q vs H'
def EvB (X : Cx) (es : List Expr) (f : DenA) : Prop := ∀ B env ds σ Hf H d ds', SR B X.K env ds σ Hf H → f env ds = some (d, ds') → ∀ Q : List V → Hp → Prop, CB B X.K env ds' σ Hf H d Q → SA X es σ H Q
theorem RdL.up {B : Bs} {Hf H Hf' H' : Hp} (g : Gr B Hf H Hf' H') : ∀ {vs : List V} {ds : List D}, RdL B Hf H vs ds → RdL B Hf' H' vs ds
  | _, _, .nil => .nil
  | _, _, .cons r t => .cons (r.up g) (RdL.up g t)
theorem evb_nil : EvB X [] aNil := fun B env ds σ Hf H d ds' S hf Q q => by
  cases hf
  exact SA.of pa_nil (q _ _ _ Gr.refl S .nil)
theorem evb_cons (ha : EvR X e f) (hr : EvB X es g) (hs : starEach (e :: es) X.env = (false, eval e X.env) :: starEach es X.env := by rfl) : EvB X (e :: es) (aCons f g) := fun B env ds σ Hf H d ds' S hf Q q => by
  obtain ⟨v1, s1, e1, e⟩ := bnd_eq hf
  obtain ⟨v2, s2, e2, e⟩ := bnd_eq e
  cases e
  refine SA.of (pa_cons (pe_se X _) (pa_sa X es) hs) ?_
  exact ha B env ds σ Hf H _ _ S e1 _ fun x Hf1 H1 g1 S1 r1 => hr B env s1 σ Hf1 H1 _ _ S1 e2 _ fun xs Hf2 H2 g2 S2 r2 => q _ _ _ (g1.trans g2) S2 (.cons (r1.up g2) r2)
/-- a built-in function by what it does to data -/
def RCF (X : Cx) (r : List V → Hp → VK → Prop) (p : List D → Option D) : Prop := ∀ B env ds σ Hf H args d vs Q, SR B X.K env ds σ Hf H → RdL B Hf H vs args → p args = some d → CF B X.K env ds σ Hf H d Q → r vs H Q
def RCN (X : Cx) (r : List V → Hp → VK → Prop) (p : List D → Option D) : Prop := ∀ B env ds σ Hf H args d vs Q, SR B X.K env ds σ Hf H → RdL B Hf H vs args → p args = some d → CN B X.K env ds σ Hf H d Q → r vs H Q
def dB (p : List D → Option D) (g : DenA) : Den := fun env ds => bnd (g env ds) fun r s => op1 (p r) s
theorem evf_callB {id : String} {x : Str} {r : List V → Hp → VK → Prop} {p0 : List D → Option D} {p : Pos} (hc : CallR X (.builtin id) r) (hr : RCF X r p0) (hm : X.mg x = none) (hv : bootBuiltins x = some (.builtin id)) (ha : EvB X (e :: es) g) (hg : Gl X x := by rfl)
    (hn : x ≠ "__name__" := by decide) (hdb : (x == ("__debug__" : Str)) = false := by decide) (hs : starEach (e :: es) X.env = (false, eval e X.env) :: starEach es X.env := by rfl) (hpl : (backTo pos (starEach es X.env)).any (·.1) = false := by rfl) : EvF X (.Call (.Name x p) (e :: es) [] pos) (dB p0 g) := fun B env ds σ Hf H d ds' S hf Q q => by
  obtain ⟨v1, s1, e1, e⟩ := bnd_eq hf
  obtain ⟨e3, rfl⟩ := op1_eq e
  exact SE.of (pe_callB hc hg hm hv (pa_sa X _) hn hdb hs hpl) (ha B env ds σ Hf H _ _ S e1 _ fun vs Hf1 H1 g1 S1 r1 => hr _ _ _ _ _ _ _ _ _ _ S1 r1 e3 (q.step g1))
theorem evf_callTy {T : String} {x : Str} {r : List V → Hp → VK → Prop} {p0 : List D → Option D} {p : Pos} (hc : CallR X (.type T) r) (hr : RCF X r p0) (hm : X.mg x = none) (hv : bootBuiltins x = some (.type T)) (ha : EvB X (e :: es) g) (hg : Gl X x := by rfl)
    (hn : x ≠ "__name__" := by decide) (hdb : (x == ("__debug__" : Str)) = false := by decide) (hs : starEach (e :: es) X.env = (false, eval e X.env) :: starEach es X.env := by rfl) (hpl : (backTo pos (starEach es X.env)).any (·.1) = false := by rfl) : EvF X (.Call (.Name x p) (e :: es) [] pos) (dB p0 g) := fun B env ds σ Hf H d ds' S hf Q q => by
  obtain ⟨v1, s1, e1, e⟩ := bnd_eq hf
  obtain ⟨e3, rfl⟩ := op1_eq e
  exact SE.of (pe_callTy hc hg hm hv (pa_sa X _) hn hdb hs hpl) (ha B env ds σ Hf H _ _ S e1 _ fun vs Hf1 H1 g1 S1 r1 => hr _ _ _ _ _ _ _ _ _ _ S1 r1 e3 (q.step g1))
theorem evn_callB {id : String} {x : Str} {r : List V → Hp → VK → Prop} {p0 : List D → Option D} {p : Pos} (hc : CallR X (.builtin id) r) (hr : RCN X r p0) (hm : X.mg x = none) (hv : bootBuiltins x = some (.builtin id)) (ha : EvB X (e :: es) g) (hg : Gl X x := by rfl)
    (hn : x ≠ "__name__" := by decide) (hdb : (x == ("__debug__" : Str)) = false := by decide) (hs : starEach (e :: es) X.env = (false, eval e X.env) :: starEach es X.env := by rfl) (hpl : (backTo pos (starEach es X.env)).any (·.1) = false := by rfl) : EvN X (.Call (.Name x p) (e :: es) [] pos) (dB p0 g) := fun B env ds σ Hf H d ds' S hf Q q => by
  obtain ⟨v1, s1, e1, e⟩ := bnd_eq hf
  obtain ⟨e3, rfl⟩ := op1_eq e
  exact SE.of (pe_callB hc hg hm hv (pa_sa X _) hn hdb hs hpl) (ha B env ds σ Hf H _ _ S e1 _ fun vs Hf1 H1 g1 S1 r1 => hr _ _ _ _ _ _ _ _ _ _ S1 r1 e3 (q.step g1))
theorem evn_callTy {T : String} {x : Str} {r : List V → Hp → VK → Prop} {p0 : List D → Option D} {p : Pos} (hc : CallR X (.type T) r) (hr : RCN X r p0) (hm : X.mg x = none) (hv : bootBuiltins x = some (.type T)) (ha : EvB X (e :: es) g) (hg : Gl X x := by rfl)
    (hn : x ≠ "__name__" := by decide) (hdb : (x == ("__debug__" : Str)) = false := by decide) (hs : starEach (e :: es) X.env = (false, eval e X.env) :: starEach es X.env := by rfl) (hpl : (backTo pos (starEach es X.env)).any (·.1) = false := by rfl) : EvN X (.Call (.Name x p) (e :: es) [] pos) (dB p0 g) := fun B env ds σ Hf H d ds' S hf Q q => by
  obtain ⟨v1, s1, e1, e⟩ := bnd_eq hf
  obtain ⟨e3, rfl⟩ := op1_eq e
  exact SE.of (pe_callTy hc hg hm hv (pa_sa X _) hn hdb hs hpl) (ha B env ds σ Hf H _ _ S e1 _ fun vs Hf1 H1 g1 S1 r1 => hr _ _ _ _ _ _ _ _ _ _ S1 r1 e3 (q.step g1))
end
end L2.Dn
set_option Elab.async false
set_option linter.all false
set_option maxRecDepth 100000
set_option maxHeartbeats 4000000
namespace L2.Dn
open PySem PySem.Spec PyProof.Rows PySem.W
/-! ### sorted(t), t a tuple of ints -/
section
variable {prog : Program} {w : World} {A : Around} {E : Value → Shared → Prop} {s : Shared}
theorem collect_tup {l : Addr} {vs : List Value} {Q : List Value → Shared → Prop} (hl : IsTup s.heap l vs.toArray)
    (h : Q vs { s with heap := (s.heap.push (seqObj "list" #[] 0)).update s.heap.objs.size (Obj.mapSeq (· ++ vs.toArray)) }) (hsz : vs.length ≤ sizeLine) :
    wpAny (model prog w) A (collect (.ref l)) Q E s := by
  obtain ⟨o, ho, hc, n, hd⟩ := id hl
  unfold collect
  refine wpAny_bind (wpAny_runValue (codeAny_builtin entry_proto_collect' ?_))
  show wpAny _ _ (do again (.builtin "list.__iadd__" ⟨[← newList [], .ref l], []⟩)) _ _ s
  refine wpAny_bind (wpAny_newList (wpAny_pure ⟨Code.quiet_builtin _ (by decide +kernel), codeAny_builtin entry_list_iadd' ?_⟩))
  show wpAny _ _ (Builtin.List.listExtendWith (.ref s.heap.objs.size) (.ref l) (.ref s.heap.objs.size)) _ _ { s with heap := s.heap.push (seqObj "list" #[] 0) }
  unfold Builtin.List.listExtendWith
  have ho' : (s.heap.push (seqObj "list" #[] 0)).get? l = some o := Heap.get?_push_of_some _ ho
  refine wpAny_bind (wpAny_typeOf (T := "tuple") ⟨o, ho', hc⟩ ?_)
  have ht : (Value.type "tuple" == Value.type "tuple") = true := by rfl
  rw [if_pos (by rw [ht]; simp)]
  refine wpAny_bind (listItems_at ho' hd ?_)
  refine wpAny_bind (listItems_at (xs := #[]) (n := 0) (Heap.get?_push_size _ rfl) rfl ?_)
  rw [if_neg (by simp)]
  refine wpAny_bind (listUpdate_at (xs := #[]) (n := 0) (Heap.get?_push_size _ rfl) rfl ?_ (Nat.zero_le _) (by show (#[] ++ vs.toArray).size ≤ sizeLine + 1; simp only [Array.size_append, List.size_toArray, List.length_nil]; omega))
  refine wpAny_pure ?_
  show wpAny (model prog w) A (do
      let o ← load s.heap.objs.size
      match o.data with
      | .seq xs _ => pure xs.toList
      | _ => unsupported "internal:collect") Q E { s with heap := (s.heap.push (seqObj "list" #[] 0)).update s.heap.objs.size (Obj.mapSeq (· ++ vs.toArray)) }
  refine wpAny_bind (wpAny_load (get?_update_seq (Heap.get?_push_size _ rfl) _) ?_)
  show wpAny _ _ (pure ((#[] : Array Value) ++ vs.toArray).toList) Q E _
  rw [show ((#[] : Array Value) ++ vs.toArray).toList = vs by simp]
  exact wpAny_pure h
theorem sorted_ordT {l : Addr} {vs : List Value} {ltv : Value → Value → Bool} {Q : Value → Shared → Prop} (O : SrtO.Swo ltv) (hl : IsTup s.heap l vs.toArray) (hz : vs.length ≤ sizeLine)
    (hS : 2 ≤ vs.length → ∀ (h₁ : Heap) (a : Addr), h₁.get? a = some (seqObj "list" vs.toArray 0) → (∀ b o, s.heap.get? b = some o → b ≠ a ∧ h₁.get? b = some o) → SrtO.SortableO prog w A.in1.in1 { s with heap := h₁ } a vs ltv)
    (h : ∀ out : List Value, SrtO.Srtd ltv out → SrtO.Stb ltv out vs → Q (.ref (s.heap.objs.size + 1)) { s with heap := sortedAll s.heap vs out.toArray }) :
    wpAny (model prog w) A (call (.builtin "sorted") [.ref l]) Q E s := by
  refine Calls.call_function_entry kind_sorted plain_sorted entry_sorted (args_sorted1 _) ?_
  unfold Builtin.«sorted»
  refine wpAny_bind (m := checkCount "sorted" 1 1 _) (wpAny_pure ?_)
  refine wpAny_bind (collect_tup hl ?_ hz)
  refine wpAny_bind (wpAny_newList ?_ hz)
  have hsz : ((s.heap.push (seqObj "list" #[] 0)).update s.heap.objs.size (Obj.mapSeq (· ++ vs.toArray))).objs.size = s.heap.objs.size + 1 := by
    rw [Heap.size_update, size_push']
  have hoL : (((s.heap.push (seqObj "list" #[] 0)).update s.heap.objs.size (Obj.mapSeq (· ++ vs.toArray))).push (seqObj "list" vs.toArray 0)).get? (s.heap.objs.size + 1) = some (seqObj "list" vs.toArray 0) := by
    rw [← hsz]; exact Heap.get?_push_size _ rfl
  have keep : ∀ b o, s.heap.get? b = some o → b ≠ s.heap.objs.size + 1 ∧ (((s.heap.push (seqObj "list" #[] 0)).update s.heap.objs.size (Obj.mapSeq (· ++ vs.toArray))).push (seqObj "list" vs.toArray 0)).get? b = some o := fun b o q => by
    have hlt : b < s.heap.objs.size := Heap.lt_size q
    refine ⟨Nat.ne_of_lt (Nat.lt_succ_of_lt hlt), Heap.get?_push_of_some _ ?_⟩
    rw [Heap.get?_update_ne _ _ _ _ (Nat.ne_of_lt hlt)]
    exact Heap.get?_push_of_some _ q
  show wpAny _ _ _ _ _ { s with heap := ((s.heap.push (seqObj "list" #[] 0)).update s.heap.objs.size (Obj.mapSeq (· ++ vs.toArray))).push (seqObj "list" vs.toArray 0) }
  rw [hsz]
  refine wpAny_bind (wpAny_holding (wpAny_call_entry slot_list_sort ⟨_, hoL, rfl⟩ entry_list_sort (SrtO.list_sort_ord O hoL hz (fun h2 => hS h2 _ _ hoL keep) fun out hs hb => ⟨_, rfl, ?_⟩) (args_list_sort _)))
  exact wpAny_pure ⟨_, rfl, h out hs hb⟩
end
section
variable {X : Cx}
def rSortedA (K : PySem.W.Frag) : List V → Hp → VK → Prop := fun vs H Q => ∃ (a : Addr) (ns : List Int), vs = [V.ref a] ∧ SqT K H a (ns.map V.int) ∧
  ∀ (ns' : List Int) (p : Addr), ns'.Perm ns → ns'.Pairwise (· ≤ ·) → H p = none → Q (.ref p) (upd H p (.lst (ns'.map V.int)))
theorem cr_sortedA : CallR X (.builtin "sorted") (rSortedA X.K) := by
  intro pins s σ H vs us Q I r h
  obtain ⟨a, ns, rfl, hs, q⟩ := h
  obtain ⟨its, rv, hl, hz⟩ := I.tuple hs
  rw [Vals.ref1 r]
  have hi := rv.ints
  refine sorted_ordT SrtO.swo_int hl (by rw [← rv.length]; exact hz) (fun h2 h₁ a' _ _ => SrtO.ints_sortable hi h2) fun out h1 h2 => ?_
  obtain ⟨k1, k2, k3⟩ := SrtO.ints_out hi h1 h2
  obtain ⟨ep, he'⟩ := PyProof.Rows.sortedAll_at s.heap its out.toArray
  have hlen : ((out.map SrtO.iv).map V.int).length ≤ sizeLine := by
    rw [List.length_map, k2.length_eq]
    rw [List.length_map] at hz
    exact hz
  exact ⟨.ref _, upd H (s.heap.objs.size + 1) (.lst ((out.map SrtO.iv).map V.int)), I.laid (t' := s.toks) (fun _ _ => PyProof.Rows.sortedAll_old) (Nat.le_succ _) ⟨hlen, out, ep, vals_of_ints k1, he'⟩, rfl, q _ _ k2 k3 (I.hok.fresh (Nat.le_succ _))⟩
/-! ### len of a dict, read -/
def rLenTR : List V → Hp → VK → Prop := fun xs H Q => ∃ (p : Addr) (kvs : List (List Key × V)), xs = [.ref p] ∧ Rd H p (.dT kvs) ∧ Q (.int ((kvs.length : Nat) : Int)) H
theorem call_len_dTR : CallR X (.builtin "len") rLenTR := by
  intro pins s σ H xs us Q I r h
  obtain ⟨p, kvs, rfl, hp, q⟩ := h
  obtain ⟨u, rfl, rx⟩ := vals1 r
  obtain rfl : u = .ref p := rx
  obtain ⟨z, hd, ys, rel, dd⟩ := dt_rd I.hok hp
  have hl : kvs.length = ys.length := Paired.length rel
  refine call_len_dictH hd dd (by rw [← hl]; rw [sizeLine_eq] at z; omega) ?_
  rw [← hl]
  exact ⟨.int ((kvs.length : Nat) : Int), H, I.tok _, ⟨_, rfl⟩, q⟩
def rLenKR : List V → Hp → VK → Prop := fun xs H Q => ∃ (p : Addr) (kvs : List (Key × V)), xs = [.ref p] ∧ Rd H p (.dK kvs) ∧ Q (.int ((kvs.length : Nat) : Int)) H
theorem call_len_dKR : CallR X (.builtin "len") rLenKR := by
  intro pins s σ H xs us Q I r h
  obtain ⟨p, kvs, rfl, hp, q⟩ := h
  obtain ⟨u, rfl, rx⟩ := vals1 r
  obtain rfl : u = .ref p := rx
  exact d_len I hp fun t s' I' => ⟨.int ((kvs.length : Nat) : Int), H, I', ⟨_, rfl⟩, q⟩
/-! ### isinstance of a dict -/
def rIsiD (K : PySem.W.Frag) : List V → Hp → VK → Prop := fun xs H Q => ∃ (a : Addr) (c : V) (u : Value) (b : Bool), xs = [.ref a, c] ∧ ClsV c u ∧ ((∃ kvs, Rd H a (.dT kvs)) ∨ ∃ kvs, Rd H a (.dK kvs)) ∧ PySem.W.kitOne K (.type "dict") u = some b ∧ Q (.bl b) H
theorem call_isiD : CallR X (.builtin "isinstance") (rIsiD X.K) := by
  intro pins s σ H xs us Q I r h
  obtain ⟨a, c, u, b, rfl, k, hd, e, q⟩ := h
  obtain ⟨u1, u2, rfl, r1, r2⟩ := vals2 r
  have e2 := k.eq r2
  subst e2
  cases r1
  have hx : ∃ o, s.heap.get? a = some o ∧ o.cls = .type "dict" := by
    rcases hd with ⟨kvs, h⟩ | ⟨kvs, h⟩
    · obtain ⟨_, _, xs, _, o, es, ep, h1, h2, _⟩ := dt_rd I.hok h
      exact ⟨o, h1, h2.1⟩
    · obtain ⟨_, _, xs, _, o, es, ep, h1, h2, _⟩ := dk_rd I.hok h
      exact ⟨o, h1, h2.1⟩
  exact PySem.W.kia_one PySem.W.kitx_dict I.kIn hx e (fun z => nomatch z) fun tk => ⟨.bl b, H, I.tok tk, rfl, q⟩
end
end L2.Dn
set_option Elab.async false
set_option linter.all false
set_option maxRecDepth 100000
namespace L2.Dn
open PySem PySem.Spec PyProof.Rows
/-! ### moving on -/
section
variable {B : Bs} {K : PySem.W.Frag} {env env' : En} {ds ds' : DS} {σ σ' : St} {Hf H Hf' H' : Hp}
theorem SR.move (S : SR B K env ds σ Hf H) (g : Gr B Hf H Hf' H') (sub : Same Hf' H') (dr : DrawR B.dr ds' Hf' H') : SR B K env ds' σ Hf' H' where
  sub := sub
  base := fun a o e => by
    obtain ⟨o1, e1, n1⟩ := S.base a o e
    obtain ⟨o2, e2, n2⟩ := g.hh a o1 e1
    exact ⟨o2, e2, fun n => (n2 n).trans (n1 n)⟩
  fbase := S.fbase.trans g.ff
  fnew := fun a h => by
    rcases g.nw a h with h1 | h1 | ⟨nd, xs, h1⟩
    · exact S.fnew a h1
    · refine .inr (.inl ?_)
      cases q : B.H0 a with
      | none => rfl
      | some o =>
        obtain ⟨o1, e1, _⟩ := S.base a o q
        rw [h1] at e1; cases e1
    · cases q : B.H0 a with
      | none => exact .inr (.inl rfl)
      | some o =>
        obtain ⟨o1, e1, n1⟩ := S.base a o q
        rw [h1] at e1; cases e1
        exact .inr (.inr ⟨nd, xs, by rw [← n1 nd]⟩)
  slots := fun i s e => by
    have h := S.slots i s e
    cases s with
    | val d =>
      obtain ⟨v, e1, r⟩ := h
      exact ⟨v, e1, r.up g.ff⟩
    | own d =>
      obtain ⟨a, e1, n1, n2, n3, t⟩ := h
      exact ⟨a, e1, g.noF n1 t.ne t.nt, n2, n3, t.up g n3⟩
    | draw => exact h
    | scr ns => exact h
  apart := S.apart
  draw := dr
  len := S.len
theorem SR.moveTo (S : SR B K env ds σ Hf H) (g : Gr B Hf H Hf' H') (S' : SR B K env' ds' σ' Hf' H') : SR B K env ds' σ Hf' H' := S.move g S'.sub S'.draw
def wipeE (env : En) : List Nat → En
  | [] => env
  | v :: vs => (wipeE env vs).set v none
theorem SR.unset (S : SR B K env ds σ Hf H) (i : Nat) : SR B K (env.set i none) ds (σ.set i none) Hf H where
  sub := S.sub
  base := S.base
  fbase := S.fbase
  fnew := S.fnew
  slots := fun j s e => by
    by_cases h : i = j
    · subst h
      rw [List.getElem?_set_self'] at e
      cases q : env[i]? with
      | none => rw [q] at e; cases e
      | some x => rw [q] at e; cases e
    · rw [List.getElem?_set_ne h] at e
      have := S.slots j s e
      cases s <;> (simp only [SlotR] at this ⊢; rw [List.getElem?_set_ne h]; exact this)
  apart := fun j l d e a hne h1 h2 h3 h4 => by
    by_cases hj : i = j
    · subst hj
      rw [List.getElem?_set_self'] at h1
      cases q : env[i]? with
      | none => rw [q] at h1; cases h1
      | some x => rw [q] at h1; cases h1
    · by_cases hl : i = l
      · subst hl
        rw [List.getElem?_set_self'] at h2
        cases q : env[i]? with
        | none => rw [q] at h2; cases h2
        | some x => rw [q] at h2; cases h2
      · rw [List.getElem?_set_ne hj] at h1 h3
        rw [List.getElem?_set_ne hl] at h2 h4
        exact S.apart j l d e a hne h1 h2 h3 h4
  draw := S.draw
  len := by rw [List.length_set, List.length_set]; exact S.len
theorem SR.wipe (S : SR B K env ds σ Hf H) : ∀ vs : List Nat, SR B K (wipeE env vs) ds (L2.wipe σ vs) Hf H
  | [] => S
  | v :: vs => (SR.wipe S vs).unset v
theorem SR.set (S : SR B K env ds σ Hf H) {i : Nat} {v : V} {d : D} (r : Rp Hf v d) : SR B K (env.set i (some (.val d))) ds (σ.set i (some v)) Hf H where
  sub := S.sub
  base := S.base
  fbase := S.fbase
  fnew := S.fnew
  slots := fun j s e => by
    by_cases h : i = j
    · subst h
      rw [List.getElem?_set_self'] at e
      cases q : env[i]? with
      | none => rw [q] at e; cases e
      | some x =>
        rw [q] at e
        cases e
        have hl : i < σ.length := by
          rw [← S.len]
          exact (List.getElem?_eq_some_iff.mp q).1
        exact ⟨v, by rw [List.getElem?_set_self hl], r⟩
    · rw [List.getElem?_set_ne h] at e
      have := S.slots j s e
      cases s <;> (simp only [SlotR] at this ⊢; rw [List.getElem?_set_ne h]; exact this)
  apart := fun j l d e a hne h1 h2 h3 h4 => by
    by_cases hj : i = j
    · subst hj
      rw [List.getElem?_set_self'] at h1
      cases q : env[i]? with
      | none => rw [q] at h1; cases h1
      | some x => rw [q] at h1; cases h1
    · by_cases hl : i = l
      · subst hl
        rw [List.getElem?_set_self'] at h2
        cases q : env[i]? with
        | none => rw [q] at h2; cases h2
        | some x => rw [q] at h2; cases h2
      · rw [List.getElem?_set_ne hj] at h1 h3
        rw [List.getElem?_set_ne hl] at h2 h4
        exact S.apart j l d e a hne h1 h2 h3 h4
  draw := S.draw
  len := by rw [List.length_set, List.length_set]; exact S.len
/-- a new object is a slot's own -/
theorem SR.setOwn (S : SR B K env ds σ Hf H) {i : Nat} {a : Addr} {d : D} (F : Fre B env σ a) (nf : Hf a = none) (t : Tp Hf H a d) : SR B K (env.set i (some (.own d))) ds (σ.set i (some (.ref a))) Hf H where
  sub := S.sub
  base := S.base
  fbase := S.fbase
  fnew := S.fnew
  slots := fun j s e => by
    by_cases h : i = j
    · subst h
      rw [List.getElem?_set_self'] at e
      cases q : env[i]? with
      | none => rw [q] at e; cases e
      | some x =>
        rw [q] at e
        cases e
        have hl : i < σ.length := by
          rw [← S.len]
          exact (List.getElem?_eq_some_iff.mp q).1
        exact ⟨a, by rw [List.getElem?_set_self hl], nf, F.h0, F.nd, t⟩
    · rw [List.getElem?_set_ne h] at e
      have := S.slots j s e
      cases s <;> (simp only [SlotR] at this ⊢; rw [List.getElem?_set_ne h]; exact this)
  apart := fun j l d e b hne h1 h2 h3 h4 => by
    by_cases hj : i = j
    · subst hj
      rw [List.getElem?_set_ne hne] at h2 h4
      rw [List.getElem?_set_self'] at h3
      cases q : σ[i]? with
      | none => rw [q] at h3; cases h3
      | some x =>
        rw [q] at h3
        cases h3
        exact F.no l e h2 h4
    · by_cases hl : i = l
      · subst hl
        rw [List.getElem?_set_ne hj] at h1 h3
        rw [List.getElem?_set_self'] at h4
        cases q : σ[i]? with
        | none => rw [q] at h4; cases h4
        | some x =>
          rw [q] at h4
          cases h4
          exact F.no j d h1 h3
      · rw [List.getElem?_set_ne hj] at h1 h3
        rw [List.getElem?_set_ne hl] at h2 h4
        exact S.apart j l d e b hne h1 h2 h3 h4
  draw := S.draw
  len := by rw [List.length_set, List.length_set]; exact S.len
/-- a slot's own object is changed -/
theorem SR.chg (S : SR B K env ds σ Hf H) {i : Nat} {a : Addr} {d0 d : D} {o : HO} (e0 : env[i]? = some (some (.own d0))) (ea : σ[i]? = some (some (.ref a))) (t : Tp Hf (upd H a o) a d) : SR B K (env.set i (some (.own d))) ds σ Hf (upd H a o) where
  sub := fun b x e => by
    obtain ⟨a', e1, n1, _, _, _⟩ := S.slots i _ e0
    rw [ea] at e1; cases e1
    rw [upd_ne (ne_of_none e n1)]; exact S.sub b x e
  base := fun b x e => by
    obtain ⟨a', e1, _, n2, _, _⟩ := S.slots i _ e0
    rw [ea] at e1; cases e1
    rw [upd_ne (ne_of_none e n2)]; exact S.base b x e
  fbase := S.fbase
  fnew := S.fnew
  slots := fun j s e => by
    by_cases h : i = j
    · subst h
      rw [List.getElem?_set_self', e0] at e
      cases e
      obtain ⟨a', e1, n1, n2, n3, _⟩ := S.slots i _ e0
      rw [ea] at e1; cases e1
      exact ⟨a, ea, n1, n2, n3, t⟩
    · rw [List.getElem?_set_ne h] at e
      exact (S.slots j s e).hp fun d' q => by
        subst q
        exact fun z => S.apart i j d0 d' a h e0 e ea z
  apart := fun j l d' e b hne h1 h2 h3 h4 => by
    have f : ∀ {m : Nat} {x : D}, (env.set i (some (.own d)))[m]? = some (some (.own x)) → ∃ y, env[m]? = some (some (.own y)) := fun {m x} h => by
      by_cases hm : i = m
      · subst hm; exact ⟨d0, e0⟩
      · rw [List.getElem?_set_ne hm] at h; exact ⟨x, h⟩
    obtain ⟨y1, k1⟩ := f h1
    obtain ⟨y2, k2⟩ := f h2
    exact S.apart j l y1 y2 b hne k1 k2 h3 h4
  draw := fun x l c e => by
    obtain ⟨a', e1, _, _, n3, _⟩ := S.slots i _ e0
    rw [ea] at e1; cases e1
    obtain ⟨h1, h2, h3, h4, h5⟩ := S.draw x l c e
    refine ⟨?_, ?_, h3, h4, h5⟩
    · rw [upd_ne]
      · exact h1
      · intro z; subst z; exact n3 ⟨_, _, _, e, .inl rfl⟩
    · rw [upd_ne]
      · exact h2
      · intro z; subst z; exact n3 ⟨_, _, _, e, .inr rfl⟩
  len := by rw [List.length_set]; exact S.len
end
/-! ### targets -/
def SG (X : Cx) (tg : Expr) (v : V) (σ : St) (H : Hp) (Q : St → Hp → Prop) : Prop := ∀ pins s u, Inv X pins σ H s → RelV v u → wpAny (model X.prog X.w) X.A (assign tg X.env u) (fun _ s' => ∃ σ' H', Inv X pins σ' H' s' ∧ Q σ' H') X.xe s
theorem pg_sg (X : Cx) (tg : Expr) : PG X tg (SG X tg) := ⟨fun pins s σ H v u Q I r h => h pins s u I r⟩
theorem SG.of {X : Cx} {tg : Expr} {t : TG} (p : PG X tg t) {v : V} {σ : St} {H : Hp} {Q : St → Hp → Prop} (h : t v σ H Q) : SG X tg v σ H Q := fun pins s u I r => p.run pins s σ H v u Q I r h
abbrev DenG := D → En → Option En
/-- a target: the slots ts alone -/
def EvG (X : Cx) (tg : Expr) (ts : List Nat) (g : DenG) : Prop := ∀ B env env' ds σ Hf H d v, SR B X.K env ds σ Hf H → Rp Hf v d → g d env = some env' → ∀ Q : St → Hp → Prop,
  (∀ σ', SR B X.K env' ds σ' Hf H → σ'.length = σ.length → (∀ j, j ∉ ts → σ'[j]? = σ[j]?) → Q σ' H) → SG X tg v σ H Q
def EvGs (X : Cx) (tgs : List Expr) (ts : List Nat) (g : List D → En → Option En) : Prop := ∃ t : TGs, PGs X tgs t ∧ ∀ B env env' ds σ Hf H d vs, SR B X.K env ds σ Hf H → RpL Hf vs d → g d env = some env' → ∀ Q : St → Hp → Prop,
  (∀ σ', SR B X.K env' ds σ' Hf H → σ'.length = σ.length → (∀ j, j ∉ ts → σ'[j]? = σ[j]?) → Q σ' H) → t vs σ H Q
def gNm (i : Nat) : DenG := fun d env => some (env.set i (some (.val d)))
def gsNil : List D → En → Option En
  | [], env => some env
  | _, _ => none
def gsCons (g : DenG) (gs : List D → En → Option En) : List D → En → Option En
  | d :: r, env => match g d env with
    | none => none
    | some env' => gs r env'
  | _, _ => none
def gTp (gs : List D → En → Option En) : DenG := fun d env => match d with
  | .tuple ds => gs ds env
  | _ => none
section
variable {X : Cx} {pos : Pos}
theorem evg_nm (i : Nat) {x : Str} (hN : X.N.Nodup) (hi : X.N[i]? = some x := by rfl) (hx : Loc X.env.scope x := by first | exact Or.inl rfl | exact Or.inr rfl) (hf : X.fn x = true ∨ X.env.scope.names.lookup x = some .local := by first | exact .inl rfl | exact .inr rfl) : EvG X (.Name x pos) [i] (gNm i) := fun B env env' ds σ Hf H d v S r e Q q => by
  cases e
  refine SG.of (pg_name hN hi hx hf) (q _ (S.set r) (List.length_set ..) fun j hj => ?_)
  rw [List.getElem?_set_ne]
  simp at hj
  omega
theorem evgs_nil : EvGs X [] [] gsNil := ⟨_, pgs_nil, fun B env env' ds σ Hf H d vs S r e Q q => by
  cases r with
  | nil => cases e; exact ⟨rfl, q σ S rfl fun _ _ => rfl⟩
  | cons _ _ => cases e⟩
theorem evgs_cons {tg : Expr} {tgs : List Expr} {ts us : List Nat} {g : DenG} {gs : List D → En → Option En} (h : EvG X tg ts g) (hs : EvGs X tgs us gs)
    (he : (assignEach (tg :: tgs) X.env).map (·.2) = assign tg X.env :: (assignEach tgs X.env).map (·.2) := by rfl) : EvGs X (tg :: tgs) (ts ++ us) (gsCons g gs) := by
  obtain ⟨t, pt, k⟩ := hs
  refine ⟨_, pgs_cons (pg_sg X tg) pt he, fun B env env' ds σ Hf H d vs S r e Q q => ?_⟩
  cases r with
  | nil => cases e
  | cons r rr =>
    rename_i v vs d ds
    have e : (match g d env with | none => none | some env' => gs ds env') = some env' := e
    cases e1 : g d env with
    | none => rw [e1] at e; cases e
    | some env1 =>
      rw [e1] at e
      refine ⟨v, vs, rfl, h B env env1 _ σ Hf H d v S r e1 _ fun σ1 S1 l1 o1 => ?_⟩
      refine k B env1 env' _ σ1 Hf H ds vs S1 rr e Q fun σ2 S2 l2 o2 => ?_
      refine q σ2 S2 (l2.trans l1) fun j hj => ?_
      rw [o2 j fun z => hj (List.mem_append_right _ z), o1 j fun z => hj (List.mem_append_left _ z)]
theorem evg_tp {es : List Expr} {k : Nat} {ts : List Nat} {gs : List D → En → Option En} {n : Nat} (hc : X.calm = true) (h : EvGs X es ts gs) (hn : (assignEach es X.env).length = n) (hgn : ∀ d env env', gs d env = some env' → d.length = n)
    (hst : (assignEach es X.env).findIdx? (·.1) = none := by rfl) : EvG X (.Tuple es k pos) ts (gTp gs) := fun B env env' ds σ Hf H d v S r e Q q => by
  obtain ⟨t, pt, kk⟩ := h
  refine SG.of (pg_tup hc pt hn hst) ?_
  unfold gTp at e
  cases r with
  | tup h1 r =>
    exact ⟨_, _, rfl, .inl (.inl (S.sub _ _ h1)), by rw [r.length]; exact hgn _ _ _ e, kk B env env' _ σ Hf H _ _ S r e Q q⟩
  | _ => cases e
theorem gs2 {g h : DenG} : ∀ d env env', gsCons g (gsCons h gsNil) d env = some env' → d.length = 2 := by
  intro d env env' e
  match d, e with
  | [], e => cases e
  | [a], e =>
    have e : (match g a env with | none => none | some env' => gsCons h gsNil [] env') = some env' := e
    cases q : g a env <;> (rw [q] at e; cases e)
  | [a, b], _ => rfl
  | a :: b :: c :: r, e =>
    have e : (match g a env with | none => none | some env' => gsCons h gsNil (b :: c :: r) env') = some env' := e
    cases q : g a env with
    | none => rw [q] at e; cases e
    | some x =>
      rw [q] at e
      have e : (match h b x with | none => none | some env' => gsNil (c :: r) env') = some env' := e
      cases q2 : h b x <;> (rw [q2] at e; cases e)
theorem gs3 {g h l : DenG} : ∀ d env env', gsCons g (gsCons h (gsCons l gsNil)) d env = some env' → d.length = 3 := by
  intro d env env' e
  cases d with
  | nil => cases e
  | cons a r =>
    have e : (match g a env with | none => none | some env' => gsCons h (gsCons l gsNil) r env') = some env' := e
    cases q : g a env with
    | none => rw [q] at e; cases e
    | some x =>
      rw [q] at e
      have := gs2 _ _ _ e
      rw [List.length_cons, this]
end
theorem wipe_eq {σ σ' : St} {ts : List Nat} : ∀ {vs : List Nat}, σ'.length = σ.length → (∀ j, j ∉ ts → σ'[j]? = σ[j]?) → (∀ j ∈ ts, j ∈ vs) → L2.wipe σ' vs = L2.wipe σ vs := by
  intro vs hl ho hv
  apply List.ext_getElem?
  intro j
  by_cases hj : j ∈ vs
  · have f : ∀ (τ : St) (us : List Nat), j ∈ us → (L2.wipe τ us)[j]? = if j < τ.length then some none else none := by
      intro τ us
      induction us with
      | nil => intro h; cases h
      | cons u us ih =>
        intro h
        show ((L2.wipe τ us).set u none)[j]? = _
        by_cases e : u = j
        · subst e
          rw [List.getElem?_set_self', ← wipe_length τ us]
          by_cases hlt : u < (L2.wipe τ us).length
          · rw [if_pos hlt, List.getElem?_eq_getElem hlt]; rfl
          · rw [if_neg hlt, List.getElem?_eq_none (by omega)]; rfl
        · rw [List.getElem?_set_ne e]
          exact ih ((List.mem_cons.mp h).elim (fun z => absurd z.symm e) id)
    rw [f σ' vs hj, f σ vs hj, hl]
  · rw [wipe_out hj, wipe_out hj]
    exact ho j fun z => hj (hv j z)
/-! ### what is walked -/
def SI (X : Cx) (tg iter : Expr) (σ : St) (H : Hp) (R : It → Hp → Prop) : Prop := ∀ pins s, Inv X pins σ H s →
  wpAny (model X.prog X.w) X.A (eval iter X.env) (fun v s1 => wpAny (model X.prog X.w) X.A (pyIter v) (PIE X pins σ tg R) X.xe s1) X.xe s
theorem pi_si (X : Cx) (tg iter : Expr) : PI X tg iter (SI X tg iter) := ⟨fun pins s σ H R I h => h pins s I⟩
theorem SI.of {X : Cx} {tg iter : Expr} {wi : TI} (p : PI X tg iter wi) {σ : St} {H : Hp} {R : It → Hp → Prop} (h : wi σ H R) : SI X tg iter σ H R := fun pins s I => p.run pins s σ H R I h
/-- the items, in their order -/
def Yl (B : Bs) (K : PySem.W.Frag) (J : It) (items : List D) (Hf0 : Hp) : Prop := ∀ i env ds σ Hf H, Same Hf0 Hf → SR B K env ds σ Hf H →
  (i < items.length → J.go i H ∧ ∀ x H', J.yld i H x H' → ∀ d, items[i]? = some d → ∃ Hf', Gr B Hf H Hf' H' ∧ SR B K env ds σ Hf' H' ∧ Rp Hf' x d) ∧ (items.length ≤ i → J.stop i H)
def EvI (X : Cx) (tg iter : Expr) (g : DenA) : Prop := ∀ B env ds σ Hf H items ds', SR B X.K env ds σ Hf H → g env ds = some (items, ds') → ∀ R : It → Hp → Prop,
  (∀ J Hf' H', Gr B Hf H Hf' H' → SR B X.K env ds' σ Hf' H' → Yl B X.K J items Hf' → R J H') → SI X tg iter σ H R
section
variable {X : Cx} {tg e : Expr} {f : Den}
theorem yl_list {B : Bs} {K : PySem.W.Frag} {a : Addr} {vs : List V} {items : List D} {Hf0 : Hp} (h : Hf0 a = some (.lst vs)) (r : RpL Hf0 vs items) : Yl B K (Itl K a) items Hf0 := fun i env ds σ Hf H s S => by
  have hq : SqL K H a vs := .inl (.inl (S.sub _ _ (s _ _ h)))
  refine ⟨fun hi => ?_, fun hi => ⟨vs, hq, by rw [r.length]; exact hi⟩⟩
  obtain ⟨v, e1, r1⟩ := r.get (List.getElem?_eq_getElem hi)
  refine ⟨⟨vs, v, hq, e1⟩, fun x H' y d hd => ?_⟩
  obtain ⟨rfl, y⟩ := y
  have := y vs hq
  rw [e1] at this
  cases this
  rw [List.getElem?_eq_getElem hi] at hd
  cases hd
  exact ⟨Hf, Gr.refl, S, r1.up s⟩
theorem yl_tup {B : Bs} {K : PySem.W.Frag} {a : Addr} {vs : List V} {items : List D} {Hf0 : Hp} (h : Hf0 a = some (.tup vs)) (r : RpL Hf0 vs items) : Yl B K (Itt K a) items Hf0 := fun i env ds σ Hf H s S => by
  have hq : SqT K H a vs := .inl (.inl (S.sub _ _ (s _ _ h)))
  refine ⟨fun hi => ?_, fun hi => ⟨vs, hq, by rw [r.length]; exact hi⟩⟩
  obtain ⟨v, e1, r1⟩ := r.get (List.getElem?_eq_getElem hi)
  refine ⟨⟨vs, v, hq, e1⟩, fun x H' y d hd => ?_⟩
  obtain ⟨rfl, y⟩ := y
  have := y vs hq
  rw [e1] at this
  cases this
  rw [List.getElem?_eq_getElem hi] at hd
  cases hd
  exact ⟨Hf, Gr.refl, S, r1.up s⟩
theorem yl_ptup {B : Bs} {K : PySem.W.Frag} {a : Addr} {vs : List V} {items : List D} {Hf0 : Hp} {o : Obj} (h : Hf0 a = some (.frz o (.tup vs))) (r : RpL Hf0 vs items) : Yl B K (Itt K a) items Hf0 := fun i env ds σ Hf H s S => by
  have hq : SqT K H a vs := .inl (.inr ⟨o, S.sub _ _ (s _ _ h)⟩)
  refine ⟨fun hi => ?_, fun hi => ⟨vs, hq, by rw [r.length]; exact hi⟩⟩
  obtain ⟨v, e1, r1⟩ := r.get (List.getElem?_eq_getElem hi)
  refine ⟨⟨vs, v, hq, e1⟩, fun x H' y d hd => ?_⟩
  obtain ⟨rfl, y⟩ := y
  have := y vs hq
  rw [e1] at this
  cases this
  rw [List.getElem?_eq_getElem hi] at hd
  cases hd
  exact ⟨Hf, Gr.refl, S, r1.up s⟩
def rgD (a : Int) : Nat → List D
  | 0 => []
  | n + 1 => .int a :: rgD (a + 1) n
theorem rgD_len : ∀ (a : Int) (n : Nat), (rgD a n).length = n
  | _, 0 => rfl
  | a, n + 1 => congrArg Nat.succ (rgD_len (a + 1) n)
theorem rgD_get : ∀ (a : Int) (n i : Nat), i < n → (rgD a n)[i]? = some (.int (a + i))
  | _, 0, _, h => absurd h (Nat.not_lt_zero _)
  | a, n + 1, 0, _ => by simp [rgD]
  | a, n + 1, i + 1, h => by
    show (rgD (a + 1) n)[i]? = _
    rw [rgD_get (a + 1) n i (by omega)]
    congr 2
    omega
theorem yl_rng {B : Bs} {K : PySem.W.Frag} {lo : Int} {n : Nat} {Hf0 : Hp} : Yl B K (Itr lo n) (rgD lo n) Hf0 := fun i env ds σ Hf H s S => by
  rw [rgD_len]
  refine ⟨fun hi => ⟨hi, fun x H' y d hd => ?_⟩, fun hi => hi⟩
  obtain ⟨rfl, rfl⟩ := y
  rw [rgD_get lo n i hi] at hd
  cases hd
  exact ⟨Hf, Gr.refl, S, .int _⟩
theorem yl_keysT {B : Bs} {K : PySem.W.Frag} {a : Addr} {o : Obj} {kvs : List (List Key × V)} {items : List (List Key × D)} {Hf0 : Hp} (h : Hf0 a = some (.frz o (.dT kvs))) (r : RpT Hf0 kvs items) : Yl B K (Itkt a o kvs) (items.map fun p => keyT p.1) Hf0 := fun i env ds σ Hf H s S => by
  have hq : H a = some (.frz o (.dT kvs)) := S.sub _ _ (s _ _ h)
  have keys : ∀ {kvs : List (List Key × V)} {items : List (List Key × D)}, RpT Hf0 kvs items → kvs.map (·.1) = items.map (·.1) := by
    intro kvs items r
    induction items generalizing kvs with
    | nil => cases r; rfl
    | cons p ps ih => cases r with
      | cons h t => rw [List.map_cons, List.map_cons, ih t]
  have hk := keys r
  have hl := r.length
  rw [List.length_map]
  refine ⟨fun hi => ⟨⟨hq, by omega⟩, fun x H' y d hd => ?_⟩, fun hi => ⟨hq, by omega⟩⟩
  obtain ⟨rfl, k, v, q, e1, rfl, e2⟩ := y
  rw [List.getElem?_map, List.getElem?_eq_getElem hi] at hd
  cases hd
  have e3 : (kvs.map (·.1))[i]? = some k := by rw [List.getElem?_map, e1]; rfl
  rw [hk, List.getElem?_map, List.getElem?_eq_getElem hi] at e3
  have e4 : (items[i]).1 = k := Option.some.inj e3
  show ∃ Hf', Gr B Hf H' Hf' H' ∧ SR B K env ds σ Hf' H' ∧ Rp Hf' (V.ref q) (keyT (items[i]).1)
  rw [e4]
  cases hq2 : Hf q with
  | none => exact ⟨upd Hf q (.tup (k.map kV)), ⟨fun a o e => ⟨o, e, fun _ => rfl⟩, same_fz hq2, fun b hb => by
      by_cases h : b = q
      · subst h; exact .inr (.inr ⟨S.noDrT e2, _, e2⟩)
      · rw [upd_ne h] at hb; exact .inl hb⟩, S.fzT hq2 e2, .tup upd_same key_rp⟩
  | some o2 =>
    have := S.sub _ _ hq2
    rw [e2] at this
    cases this
    exact ⟨Hf, Gr.refl, S, .tup hq2 key_rp⟩
end
end L2.Dn
set_option Elab.async false
set_option linter.all false
set_option maxRecDepth 100000
namespace L2.Dn
open PySem PySem.Spec PyProof.Rows
/-! ### iteration sources -/
/-- what a value that stays gives, walked -/
def itemsOf : D → Option (List D)
  | .list xs => some xs
  | .tuple xs => some xs
  | .ptup xs => some xs
  | .dT kvs => some (kvs.map fun p => keyT p.1)
  | _ => none
def dItems (f : Den) : DenA := fun env ds => bnd (f env ds) fun a s => op1 (itemsOf a) s
/-- range(a) | range(a, b) -/
def dRg1 (f : Den) : DenA := fun env ds => bnd (f env ds) fun a s => match a with
  | .int n => if n < 100000 ∧ -100000 < n then some (rgD 0 n.toNat, s) else none
  | _ => none
def dRg2 (f h : Den) : DenA := fun env ds => bnd (f env ds) fun a s => bnd (h env s) fun b s1 => match a, b with
  | .int i, .int j => if -100000 < i ∧ i < 100000 ∧ -100000 < j ∧ j < 100000 then some (rgD i (j - i).toNat, s1) else none
  | _, _ => none
section
variable {X : Cx} {tg e a b : Expr} {f h : Den}
theorem evi_val (hf : EvF X e f) (hs : ∀ x, foldedSetIterable e X.env x = pure x := by intro _; rfl) (hk : ∀ elts kk tpos, tg = .Tuple elts kk tpos → True := fun _ _ _ _ => trivial) : EvI X tg e (dItems f) := fun B env ds σ Hf H items ds' S he R q => by
  obtain ⟨v1, s1, e1, e⟩ := bnd_eq he
  obtain ⟨e3, rfl⟩ := op1_eq e
  unfold itemsOf at e3
  split at e3
  · cases e3
    refine SI.of (pi_list (pe_se X _)) (hf B env ds σ Hf H _ _ S e1 _ fun v Hf1 H1 g1 S1 r1 => ?_)
    cases r1 with
    | lst h1 r => exact ⟨_, rfl, ⟨_, .inl (.inl (S1.sub _ _ h1))⟩, q _ _ _ g1 S1 (yl_list h1 r)⟩
  · cases e3
    refine SI.of (pi_tup (pe_se X _)) (hf B env ds σ Hf H _ _ S e1 _ fun v Hf1 H1 g1 S1 r1 => ?_)
    cases r1 with
    | tup h1 r => exact ⟨_, rfl, ⟨_, .inl (.inl (S1.sub _ _ h1))⟩, q _ _ _ g1 S1 (yl_tup h1 r)⟩
  · cases e3
    refine SI.of (pi_tup (pe_se X _)) (hf B env ds σ Hf H _ _ S e1 _ fun v Hf1 H1 g1 S1 r1 => ?_)
    cases r1 with
    | ptup h1 hd r => exact ⟨_, rfl, ⟨_, .inl (.inr ⟨_, S1.sub _ _ h1⟩)⟩, q _ _ _ g1 S1 (yl_ptup h1 r)⟩
  · cases e3
    refine SI.of (pi_keys (pe_se X _)) (hf B env ds σ Hf H _ _ S e1 _ fun v Hf1 H1 g1 S1 r1 => ?_)
    cases r1 with
    | dT h1 r => exact ⟨_, _, rfl, .inr ⟨_, S1.sub _ _ h1, q _ _ _ g1 S1 (yl_keysT h1 r)⟩⟩
  · cases e3
theorem evi_rg1 {p pos : Pos} (hm : X.mg "range" = none) (ha : EvR X a f) (hg : Gl X "range" := by rfl) (hs : starEach [a] X.env = [(false, eval a X.env)] := by rfl) : EvI X tg (.Call (.Name "range" p) [a] [] pos) (dRg1 f) := fun B env ds σ Hf H items ds' S he R q => by
  obtain ⟨v1, s1, e1, e⟩ := bnd_eq he
  cases v1 with
  | int n =>
    have e : (if n < 100000 ∧ -100000 < n then some (rgD 0 n.toNat, s1) else none) = some (items, ds') := e
    split at e
    · rename_i hn
      cases e
      refine SI.of (pi_range1 hg hm (pa_cons (pe_se X _) pa_nil hs) hs) ?_
      refine ha B env ds σ Hf H _ _ S e1 _ fun v Hf1 H1 g1 S1 r1 => ?_
      cases r1.int
      exact ⟨n, rfl, by omega, by omega, q _ _ _ g1 S1 yl_rng⟩
    · cases e
  | _ => cases e
theorem evi_rg2 {p pos : Pos} (hm : X.mg "range" = none) (ha : EvR X a f) (hb : EvR X b h) (hg : Gl X "range" := by rfl) (hs : starEach [a, b] X.env = [(false, eval a X.env), (false, eval b X.env)] := by rfl) (hs2 : starEach [b] X.env = [(false, eval b X.env)] := by rfl) :
    EvI X tg (.Call (.Name "range" p) [a, b] [] pos) (dRg2 f h) := fun B env ds σ Hf H items ds' S he R q => by
  obtain ⟨v1, s1, e1, e⟩ := bnd_eq he
  obtain ⟨v2, s2, e2, e⟩ := bnd_eq e
  cases v1 with
  | int i =>
    cases v2 with
    | int j =>
      have e : (if -100000 < i ∧ i < 100000 ∧ -100000 < j ∧ j < 100000 then some (rgD i (j - i).toNat, s2) else none) = some (items, ds') := e
      split at e
      · rename_i hn
        cases e
        refine SI.of (pi_range2 hg hm (pa_cons (pe_se X _) (pa_cons (pe_se X _) pa_nil hs2) (by rw [hs, hs2])) hs hs2) ?_
        refine ha B env ds σ Hf H _ _ S e1 _ fun v Hf1 H1 g1 S1 r1 => hb B env s1 σ Hf1 H1 _ _ S1 e2 _ fun v2 Hf2 H2 g2 S2 r2 => ?_
        cases r1.int
        cases r2.int
        exact ⟨i, j, rfl, by omega, q _ _ _ (g1.trans g2) S2 yl_rng⟩
      · cases e
    | _ => cases e
  | _ => cases e
end
/-! ### list comprehensions -/
def tYesD : DenT := fun _ ds => some (true, ds)
/-- the tests of a comprehension's clause -/
def EvTs (X : Cx) (ifs : List Expr) (t : DenT) : Prop := ∃ tt : TT, PTs X ifs tt ∧ ∀ B env ds σ Hf H d ds', SR B X.K env ds σ Hf H → t env ds = some (d, ds') → ∀ Q : Bool → Hp → Prop, CT B X.K env ds' σ Hf H d Q → tt σ H Q
theorem evts_nil {X : Cx} : EvTs X [] tYesD := ⟨_, pts_nil, fun B env ds σ Hf H d ds' S e Q q => by
  cases e
  exact q _ _ Gr.refl S⟩
theorem evts_one {X : Cx} {c : Expr} {t : DenT} (h : EvT X c t) : EvTs X [c] t := ⟨_, pts_one (pt_st X c), fun B env ds σ Hf H d ds' S e Q q => h B env ds σ Hf H d ds' S e Q q⟩
def lcLoop (gg : DenG) (t : DenT) (fe : Den) (env0 : En) : List D → DS → Option (List D × DS)
  | [], s => some ([], s)
  | d :: r, s => match gg d env0 with
    | none => none
    | some env' => bnd (t env' s) fun b s1 => match b with
      | false => lcLoop gg t fe env0 r s1
      | true => bnd (fe env' s1) fun y s2 => bnd (lcLoop gg t fe env0 r s2) fun ys s3 => some (y :: ys, s3)
def dLc (gi : DenA) (own : List Nat) (gg : DenG) (t : DenT) (fe : Den) : Den := fun env ds => bnd (gi env ds) fun items s => bnd (lcLoop gg t fe (wipeE env own) items s) fun r s' => if r.length ≤ 100000 then some (.list r, s') else none
theorem lcLoop_cons {gg : DenG} {t : DenT} {fe : Den} {env0 : En} {d : D} {r : List D} {s s' : DS} {ys : List D} (h : lcLoop gg t fe env0 (d :: r) s = some (ys, s')) :
    ∃ env' b s1, gg d env0 = some env' ∧ t env' s = some (b, s1) ∧ ((b = false ∧ lcLoop gg t fe env0 r s1 = some (ys, s')) ∨ (b = true ∧ ∃ y s2 zs, fe env' s1 = some (y, s2) ∧ lcLoop gg t fe env0 r s2 = some (zs, s') ∧ ys = y :: zs)) := by
  unfold lcLoop at h
  split at h
  · cases h
  · rename_i env' e1
    obtain ⟨b, s1, e2, h⟩ := bnd_eq h
    refine ⟨env', b, s1, e1, e2, ?_⟩
    cases b with
    | false => exact .inl ⟨rfl, h⟩
    | true =>
      obtain ⟨y, s2, e3, h⟩ := bnd_eq h
      obtain ⟨zs, s3, e4, h⟩ := bnd_eq h
      cases h
      exact .inr ⟨rfl, y, s2, zs, e3, e4, rfl⟩
theorem drop_at {items : List D} {i : Nat} {d : D} {r : List D} (h : items.drop i = d :: r) : i < items.length ∧ items[i]? = some d ∧ items.drop (i + 1) = r := by
  have h1 : i < items.length := by
    rcases Nat.lt_or_ge i items.length with q | q
    · exact q
    · rw [List.drop_eq_nil_of_le q] at h; cases h
  rw [List.drop_eq_getElem_cons h1] at h
  cases h
  exact ⟨h1, List.getElem?_eq_getElem h1, rfl⟩
/-- the readings that a block's parts have in every block of that kind -/
def SGb (X : Cx) (scope : Scope) (tg : Expr) (v : V) (σ : St) (H : Hp) (Q : St → Hp → Prop) : Prop := ∀ (s : Shared) (H0 : Hp) (C : Addr) (cl : List (Str × Addr)) (fp : List Addr), SG (X.blk s H0 scope (compEnvC scope cl C X.env) fp) tg v σ H Q
def SEb (X : Cx) (scope : Scope) (e : Expr) (σ : St) (H : Hp) (Q : VK) : Prop := ∀ (s : Shared) (H0 : Hp) (C : Addr) (cl : List (Str × Addr)) (fp : List Addr), SE (X.blk s H0 scope (compEnvC scope cl C X.env) fp) e σ H Q
def STb (X : Cx) (scope : Scope) (e : Expr) (σ : St) (H : Hp) (Q : Bool → Hp → Prop) : Prop := ∀ (s : Shared) (H0 : Hp) (C : Addr) (cl : List (Str × Addr)) (fp : List Addr), STt (X.blk s H0 scope (compEnvC scope cl C X.env) fp) e σ H Q
/-- all blocks of a comprehension -/
abbrev Blks (X : Cx) (scope : Scope) (p : Cx → Prop) : Prop := ∀ (s : Shared) (H : Hp) (C : Addr) (cl : List (Str × Addr)) (fp : List Addr), p (X.blk s H scope (compEnvC scope cl C X.env) fp)
/-- a clause's tests, in all blocks -/
def EvTb (X : Cx) (scope : Scope) (ifs : List Expr) (t : DenT) : Prop := ∃ tt : TT, Blks X scope (fun Y => PTs Y ifs tt) ∧
  ∀ B env ds σ Hf H d ds', SR B X.K env ds σ Hf H → t env ds = some (d, ds') → ∀ Q : Bool → Hp → Prop, CT B X.K env ds' σ Hf H d Q → tt σ H Q
theorem evtb_nil {X : Cx} {scope : Scope} : EvTb X scope [] tYesD := ⟨_, fun _ _ _ _ _ => pts_nil, fun B env ds σ Hf H d ds' S e Q q => by
  cases e
  exact q _ _ Gr.refl S⟩
theorem evtb_one {X : Cx} {scope : Scope} {c : Expr} {t : DenT} (h : Blks X scope fun Y => EvT Y c t) : EvTb X scope [c] t := ⟨STb X scope c, fun s H C cl fp => pts_one ⟨fun pins s' σ H' Q I hh => hh s H C cl fp pins s' I⟩, fun B env ds σ Hf H d ds' S e Q q s H0 C cl fp => h s H0 C cl fp B env ds σ Hf H d ds' S e Q q⟩
section
variable {X : Cx} {tg iter elt : Expr} {ifs : List Expr} {scope : Scope} {own : List (Str × Nat)} {pos : Pos} {gi : DenA} {ts : List Nat} {gg : DenG} {t : DenT} {fe : Den}
theorem lc_reading {tt : TT} (hi : EvI X tg iter gi) (hg : Blks X scope fun Y => EvG Y tg ts gg)
    (ht : ∀ B env ds σ Hf H d ds', SR B X.K env ds σ Hf H → t env ds = some (d, ds') → ∀ Q : Bool → Hp → Prop, CT B X.K env ds' σ Hf H d Q → tt σ H Q)
    (he : Blks X scope fun Y => EvF Y elt fe) (hts : ∀ j ∈ ts, j ∈ own.map (·.2)) {B : Bs} {env : En} {ds ds' : DS} {σ : St} {Hf H : Hp} {d : D} (S : SR B X.K env ds σ Hf H) (hf : dLc gi (own.map (·.2)) gg t fe env ds = some (d, ds')) {Q : VK} (q : CN B X.K env ds' σ Hf H d Q) :
    tLc (SI X tg iter) (SGb X scope tg) tt (SEb X scope elt) (own.map (·.2)) σ H Q := by
  obtain ⟨items, s1, e1, e⟩ := bnd_eq hf
  obtain ⟨r, s2, e2, e⟩ := bnd_eq e
  have e : (if r.length ≤ 100000 then some (D.list r, s2) else none) = some (d, ds') := e
  split at e
  · rename_i hz
    cases e
    refine hi B env ds σ Hf H _ _ S e1 _ fun J Hf1 H1 g1 S1 y1 => ?_
    intro Dd nD
    have nD0 : H Dd = none := g1.fresh nD
    have nfD1 : Hf1 Dd = none := sub_none S1 nD
    have ndD : ¬ B.isDr Dd := S1.noDr nD
    refine ⟨fun i m H' => m = items.length - i ∧ i ≤ items.length ∧ ∃ Hf' si accV acc ys, Gr B Hf1 H1 Hf' H' ∧ Hf' Dd = none ∧ SR B X.K env si σ Hf' H' ∧ H' Dd = some (.lst accV) ∧ RpL Hf' accV acc ∧ lcLoop gg t fe (wipeE env (own.map (·.2))) (items.drop i) si = some (ys, ds') ∧ acc ++ ys = r,
      ⟨items.length, by simp, Nat.zero_le _, Hf1, s1, [], [], r, Gr.refl.hp nD, nfD1, S1.hp nfD1 (S1.fre nD), upd_same, .nil, by rw [List.drop_zero]; exact e2, by simp⟩, ?_⟩
    rintro i m H' ⟨rfl, hi', Hf', si, accV, acc, ys, g2, nfD, S2, hD, rD, el, ea⟩
    obtain ⟨yg, ys0⟩ := y1 i env si σ Hf' H' g2.ff S2
    cases hd : items.drop i with
    | nil =>
      have hl : items.length ≤ i := by
        rcases Nat.lt_or_ge i items.length with z | z
        · rw [List.drop_eq_getElem_cons z] at hd; cases hd
        · exact z
      rw [hd] at el
      cases el
      rw [List.append_nil] at ea
      subst ea
      exact .inl ⟨ys0 hl, q Dd Hf' H' (g1.trans g2) S2 nD0 nfD (.lst hD rD)⟩
    | cons it rest =>
      obtain ⟨hlt, hit, hrest⟩ := drop_at hd
      rw [hd] at el
      obtain ⟨env', b, s3, k1, k2, k3⟩ := lcLoop_cons el
      obtain ⟨yg1, yg2⟩ := yg hlt
      refine .inr ⟨yg1, fun H2 => ∃ m', m' < items.length - i ∧ (m' = items.length - (i + 1) ∧ i + 1 ≤ items.length ∧ ∃ Hf' si accV acc ys, Gr B Hf1 H1 Hf' H2 ∧ Hf' Dd = none ∧ SR B X.K env si σ Hf' H2 ∧ H2 Dd = some (.lst accV) ∧ RpL Hf' accV acc ∧ lcLoop gg t fe (wipeE env (own.map (·.2))) (items.drop (i + 1)) si = some (ys, ds') ∧ acc ++ ys = r), fun H2 h2 => h2, fun x H3 yx => ?_⟩
      obtain ⟨Hf3, g3, S3, r3⟩ := yg2 x H3 yx it hit
      intro bs bH bC bcl bfp
      refine hg bs bH bC bcl bfp B _ env' si _ Hf3 H3 it x (S3.wipe _) r3 k1 _ fun σ4 S4 l4 o4 => ?_
      refine ⟨wipe_eq (ts := ts) l4 o4 hts |>.trans ?_, ?_⟩
      · -- wiping twice
        have idem : ∀ (vs : List Nat) (τ : St), (∀ j ∈ vs, j ∈ own.map (·.2)) → L2.wipe (L2.wipe τ (own.map (·.2))) vs = L2.wipe τ (own.map (·.2)) := by
          intro vs τ hv
          apply List.ext_getElem?
          intro j
          by_cases hj : j ∈ vs
          · have f : ∀ (τ : St) (us : List Nat), j ∈ us → (L2.wipe τ us)[j]? = if j < τ.length then some none else none := by
              intro τ us
              induction us with
              | nil => intro h; cases h
              | cons u us ih =>
                intro h
                show ((L2.wipe τ us).set u none)[j]? = _
                by_cases e : u = j
                · subst e
                  rw [List.getElem?_set_self', ← wipe_length τ us]
                  by_cases hlt : u < (L2.wipe τ us).length
                  · rw [if_pos hlt, List.getElem?_eq_getElem hlt]; rfl
                  · rw [if_neg hlt, List.getElem?_eq_none (by omega)]; rfl
                · rw [List.getElem?_set_ne e]
                  exact ih ((List.mem_cons.mp h).elim (fun z => absurd z.symm e) id)
            rw [f _ vs hj, f τ _ (hv j hj), wipe_length]
          · rw [wipe_out hj]
        exact idem _ σ fun j h => h
      · refine ht B env' si σ4 Hf3 H3 b s3 S4 k2 _ fun Hf5 H5 g5 S5 => ?_
        have gA := (g2.trans g3).trans g5
        have hD5 : H5 Dd = some (.lst accV) := g5.at (g3.at hD ndD) ndD
        have rD5 : RpL Hf5 accV acc := (rD.up g3.ff).up g5.ff
        have So := (S2.moveTo g3 S3).moveTo g5 S5
        have nfD3 : Hf3 Dd = none := g3.noF nfD (by rw [hD]; simp) (by intro xs z; rw [hD] at z; cases z)
        have nfD5 : Hf5 Dd = none := g5.noF nfD3 (by rw [g3.at hD ndD]; simp) (by intro xs z; rw [g3.at hD ndD] at z; cases z)
        rcases k3 with ⟨rfl, k3⟩ | ⟨rfl, y, s6, zs, k4, k5, rfl⟩
        · rw [if_neg Bool.false_ne_true]
          exact ⟨items.length - (i + 1), by omega, rfl, hlt, Hf5, s3, accV, acc, ys, gA, nfD5, So, hD5, rD5, by rw [hrest]; exact k3, ea⟩
        · rw [if_pos rfl]
          intro cs cH cC ccl cfp
          refine he cs cH cC ccl cfp B env' s3 σ4 Hf5 H5 y s6 S5 k4 _ fun v Hf7 H7 g7 S7 r7 => ?_
          have hD7 : H7 Dd = some (.lst accV) := g7.at hD5 ndD
          have rD7 : RpL Hf7 accV acc := rD5.up g7.ff
          have nfD7 : Hf7 Dd = none := g7.noF nfD5 (by rw [hD5]; simp) (by intro xs z; rw [hD5] at z; cases z)
          have la : accV.length < sizeLine := by
            have h1 := rD.length
            have h2 : (acc ++ y :: zs).length ≤ 100000 := by rw [ea]; exact hz
            rw [List.length_append, List.length_cons] at h2
            rw [sizeLine_eq]; omega
          have F : Fre B env σ Dd := S1.fre nD
          have S8 := (So.moveTo g7 S7).hp (o := .lst (accV ++ [v])) nfD7 F
          exact ⟨accV, hD7, la, items.length - (i + 1), by omega, rfl, hlt, Hf7, s6, accV ++ [v], acc ++ [y], zs, (gA.trans g7).hp nD, nfD7, S8, upd_same, rD7.append (.cons r7 .nil), by rw [hrest]; exact k5, by rw [List.append_assoc]; exact ea⟩
  · cases e
/-- [elt for tg in iter if ..] -/
theorem evn_lc (hc : X.calm = true) (hN : X.N.Nodup) (ok : BlkOk X.N X.env.scope scope own) (hi : EvI X tg iter gi) (hg : Blks X scope fun Y => EvG Y tg ts gg) (ht : EvTb X scope ifs t) (he : Blks X scope fun Y => EvF Y elt fe)
    (hts : ∀ j ∈ ts, j ∈ own.map (·.2)) (hs : ∀ x, foldedSetIterable iter X.env x = pure x := by intro _; rfl) : EvN X (.ListComp elt [⟨tg, iter, ifs, 0⟩] scope pos) (dLc gi (own.map (·.2)) gg t fe) := fun B env ds σ Hf H d ds' S hf Q q => by
  obtain ⟨tt, pt, kt⟩ := ht
  exact SE.of (pe_lc (wi := SI X tg iter) (g := SGb X scope tg) (tt := tt) (te := SEb X scope elt) hc hN (pi_si X tg iter) ok (fun s H C cl fp => ⟨fun pins s' σ' H' v u Q' I r h => h s H C cl fp pins s' u I r⟩) pt (fun s H C cl fp => ⟨fun pins s' σ' H' Q' I h => h s H C cl fp pins s' I⟩) hs)
    (lc_reading hi hg kt he hts S hf q)
end
end L2.Dn
set_option Elab.async false
set_option linter.all false
set_option maxRecDepth 100000
namespace L2.Dn
open PySem PySem.Spec PyProof.Rows
/-! ### statements -/
inductive Out where
  | nx (env : En) | rt (d : D) | bk (env : En) | ct (env : En)
abbrev DenS := En → DS → Option (Out × DS)
/-- what follows a statement -/
def CS (B : Bs) (K : PySem.W.Frag) (Hf : Hp) (o : Out) (ds' : DS) (Dd : Ends) : Prop := match o with
  | .nx env' => ∀ σ' Hf' H', Same Hf Hf' → SR B K env' ds' σ' Hf' H' → Dd.nx σ' H'
  | .bk env' => ∀ σ' Hf' H', Same Hf Hf' → SR B K env' ds' σ' Hf' H' → Dd.bk σ' H'
  | .ct env' => ∀ σ' Hf' H', Same Hf Hf' → SR B K env' ds' σ' Hf' H' → Dd.ct σ' H'
  | .rt d => ∀ v env' σ' Hf' H', Same Hf Hf' → SR B K env' ds' σ' Hf' H' → Rp Hf' v d → Dd.rt v H'
theorem CS.step {B : Bs} {K : PySem.W.Frag} {Hf Hf1 : Hp} {o : Out} {ds' : DS} {Dd : Ends} (c : CS B K Hf o ds' Dd) (s : Same Hf Hf1) : CS B K Hf1 o ds' Dd := by
  cases o with
  | nx e => exact fun σ' Hf' H' s' S => c σ' Hf' H' (s.trans s') S
  | bk e => exact fun σ' Hf' H' s' S => c σ' Hf' H' (s.trans s') S
  | ct e => exact fun σ' Hf' H' s' S => c σ' Hf' H' (s.trans s') S
  | rt d => exact fun v e σ' Hf' H' s' S r => c v e σ' Hf' H' (s.trans s') S r
def EvS (X : Cx) (st : Stmt) (f : DenS) : Prop := ∀ B env ds σ Hf H o ds', SR B X.K env ds σ Hf H → f env ds = some (o, ds') → ∀ Dd : Ends, CS B X.K Hf o ds' Dd → SS X st Dd σ H
def EvSs (X : Cx) (st : List Stmt) (f : DenS) : Prop := ∀ B env ds σ Hf H o ds', SR B X.K env ds σ Hf H → f env ds = some (o, ds') → ∀ Dd : Ends, CS B X.K Hf o ds' Dd → SSs X st Dd σ H
def dNx : DenS := fun env ds => some (.nx env, ds)
def dDead : DenS := fun _ _ => none
def dSeq (f g : DenS) : DenS := fun env ds => match f env ds with
  | none => none
  | some (.nx e, s) => g e s
  | some r => some r
def mkSl (k : Bool) (d : D) : Sl := match k with
  | false => .val d
  | true => .own d
/-- a value that stays, or a new object -/
def Nw (B : Bs) (env : En) (σ : St) (H0 Hf H : Hp) (v : V) (d : D) (k : Bool) : Prop := match k with
  | false => Rp Hf v d
  | true => ∃ a, v = .ref a ∧ H0 a = none ∧ Fre B env σ a ∧ Hf a = none ∧ Tp Hf H a d
def EvU (X : Cx) (e : Expr) (k : Bool) (f : Den) : Prop := ∀ B env ds σ Hf H d ds', SR B X.K env ds σ Hf H → f env ds = some (d, ds') → ∀ Q : VK,
  (∀ v Hf' H', Gr B Hf H Hf' H' → SR B X.K env ds' σ Hf' H' → Nw B env σ H Hf' H' v d k → Q v H') → SE X e σ H Q
section
variable {X : Cx} {e : Expr} {f : Den}
theorem EvF.u (h : EvF X e f) : EvU X e false f := fun B env ds σ Hf H d ds' S hf Q q => h B env ds σ Hf H d ds' S hf Q fun v Hf' H' g S' r => q v Hf' H' g S' r
theorem EvN.u (h : EvN X e f) : EvU X e true f := fun B env ds σ Hf H d ds' S hf Q q => h B env ds σ Hf H d ds' S hf Q fun a Hf' H' g S' n nf t => q _ Hf' H' g S' ⟨a, rfl, n, S.fre n, nf, t⟩
end
section
variable {B : Bs} {K : PySem.W.Frag} {env : En} {ds ds' : DS} {σ : St} {H0 Hf H Hf' H' : Hp} {v w : V} {d c : D} {k l : Bool} {i j : Nat}
theorem Nw.up (n : Nw B env σ H0 Hf H v d k) (g : Gr B Hf H Hf' H') : Nw B env σ H0 Hf' H' v d k := by
  cases k with
  | false => exact Rp.up n g.ff
  | true =>
    obtain ⟨a, e, h0, F, nf, t⟩ := n
    exact ⟨a, e, h0, F, g.noF nf t.ne t.nt, t.up g F.nd⟩
theorem SR.setU (S : SR B K env ds σ Hf H) (n : Nw B env σ H0 Hf H v d k) (i : Nat) : SR B K (env.set i (some (mkSl k d))) ds (σ.set i (some v)) Hf H := by
  cases k with
  | false => exact S.set n
  | true =>
    obtain ⟨a, rfl, _, F, nf, t⟩ := n
    exact S.setOwn F nf t
/-- another new object stands apart -/
theorem Nw.over {H1 Hf1 : Hp} (n : Nw B env σ H0 Hf1 H1 v d k) (m : Nw B env σ H1 Hf H w c l) (i : Nat) : Nw B (env.set i (some (mkSl k d))) (σ.set i (some v)) H1 Hf H w c l := by
  cases l with
  | false => exact m
  | true =>
    obtain ⟨b, e, h0, F, nf, t⟩ := m
    refine ⟨b, e, h0, ⟨F.h0, F.nd, fun j x h1 h2 => ?_⟩, nf, t⟩
    by_cases h : i = j
    · subst h
      rw [List.getElem?_set_self'] at h2
      cases q : σ[i]? with
      | none => rw [q] at h2; cases h2
      | some y =>
        rw [q] at h2
        cases h2
        cases k with
        | false =>
          rw [List.getElem?_set_self'] at h1
          cases q2 : env[i]? with
          | none => rw [q2] at h1; cases h1
          | some z => rw [q2] at h1; cases h1
        | true =>
          obtain ⟨a, e2, _, _, _, t2⟩ := n
          cases e2
          exact t2.ne h0
    · rw [List.getElem?_set_ne h] at h1 h2
      exact F.no j x h1 h2
theorem SR.own (S : SR B K env ds σ Hf H) (e : env[i]? = some (some (.own d))) : ∃ a, σ[i]? = some (some (.ref a)) ∧ Hf a = none ∧ ¬ B.isDr a ∧ Tp Hf H a d := by
  obtain ⟨a, h1, h2, _, h4, h5⟩ := S.slots i _ e
  exact ⟨a, h1, h2, h4, h5⟩
/-- an own list stays from now on -/
theorem SR.frzL {a : Addr} {o : HO} (S : SR B K env ds σ Hf H) (e : env[i]? = some (some (.own d))) (ea : σ[i]? = some (some (.ref a))) (ho : H a = some o) (r : Rp (upd Hf a o) (.ref a) d) : SR B K (env.set i (some (.val d))) ds σ (upd Hf a o) H := by
  obtain ⟨a', h1, nf, h0, nd, t⟩ := S.slots i _ e
  rw [ea] at h1; cases h1
  have F : Fre B (env.set i none) σ a := ⟨h0, nd, fun j x h1 h2 => by
    by_cases h : i = j
    · subst h
      rw [List.getElem?_set_self', e] at h1
      cases h1
    · rw [List.getElem?_set_ne h] at h1
      exact S.apart i j d x a h e h1 ea h2⟩
  have S1 : SR B K (env.set i none) ds (σ.set i none) Hf H := S.unset i
  have F1 : Fre B (env.set i none) (σ.set i none) a := ⟨h0, nd, fun j x h1 h2 => by
    by_cases h : i = j
    · subst h
      rw [List.getElem?_set_self', e] at h1
      cases h1
    · rw [List.getElem?_set_ne h] at h2
      exact F.no j x h1 h2⟩
  have S2 := (S1.fz nf ho F1).set (i := i) (v := .ref a) r
  rw [List.set_set, List.set_set] at S2
  have e3 : σ.set i (some (.ref a)) = σ := by
    apply List.ext_getElem?
    intro j
    by_cases h : i = j
    · subst h
      rw [List.getElem?_set_self', ea]; rfl
    · rw [List.getElem?_set_ne h]
  rw [e3] at S2
  exact S2
/-- an own dict is locked and stays -/
theorem SR.chgLock {a : Addr} {o : HO} (S : SR B K env ds σ Hf H) (e : env[i]? = some (some (.own d))) (ea : σ[i]? = some (some (.ref a))) (r : Rp (upd Hf a o) (.ref a) d) : SR B K (env.set i (some (.val d))) ds σ (upd Hf a o) (upd H a o) := by
  obtain ⟨a', h1, nf, h0, nd, t⟩ := S.slots i _ e
  rw [ea] at h1; cases h1
  have S1 : SR B K (env.set i none) ds (σ.set i none) Hf H := S.unset i
  have F1 : Fre B (env.set i none) (σ.set i none) a := ⟨h0, nd, fun j x h1 h2 => by
    by_cases h : i = j
    · subst h
      rw [List.getElem?_set_self', e] at h1
      cases h1
    · rw [List.getElem?_set_ne h] at h1 h2
      exact S.apart i j d x a h e h1 ea h2⟩
  have S2 := ((S1.hp (o := o) nf F1).fz nf upd_same F1).set (i := i) (v := .ref a) r
  rw [List.set_set, List.set_set] at S2
  have e3 : σ.set i (some (.ref a)) = σ := by
    apply List.ext_getElem?
    intro j
    by_cases h : i = j
    · subst h
      rw [List.getElem?_set_self', ea]; rfl
    · rw [List.getElem?_set_ne h]
  rw [e3] at S2
  exact S2
end
section
variable {X : Cx} {st : Stmt} {rest : List Stmt} {f g : DenS}
theorem evss_nil : EvSs X [] dNx := fun B env ds σ Hf H o ds' S hf Dd c => by
  cases hf
  exact SSs.of pss_nil (c σ Hf H (fun _ _ e => e) S)
theorem evss_cons (h1 : EvS X st f) (h2 : EvSs X rest g) : EvSs X (st :: rest) (dSeq f g) := fun B env ds σ Hf H o ds' S hf Dd c => by
  refine SSs.of (pss_cons (ps_ss X st) (pss_ss X rest)) ?_
  unfold dSeq at hf
  cases e : f env ds with
  | none => rw [e] at hf; cases hf
  | some p =>
    obtain ⟨o1, s1⟩ := p
    rw [e] at hf
    cases o1 with
    | nx env1 => exact h1 B env ds σ Hf H _ _ S e _ fun σ' Hf' H' s S' => h2 B env1 s1 σ' Hf' H' o ds' S' hf Dd (c.step s)
    | bk env1 => cases hf; exact h1 B env ds σ Hf H _ _ S e _ c
    | ct env1 => cases hf; exact h1 B env ds σ Hf H _ _ S e _ c
    | rt d => cases hf; exact h1 B env ds σ Hf H _ _ S e _ c
theorem evs_dead : EvS X st dDead := fun B env ds σ Hf H o ds' S hf Dd c => by cases hf
theorem evss_dead {sts : List Stmt} : EvSs X sts dDead := fun B env ds σ Hf H o ds' S hf Dd c => by cases hf
theorem evs_pass {pos : Pos} : EvS X (.Pass pos) dNx := fun B env ds σ Hf H o ds' S hf Dd c => by
  cases hf
  exact SS.of ps_pass (c σ Hf H (fun _ _ e => e) S)
def dBk : DenS := fun env ds => some (.bk env, ds)
def dCt : DenS := fun env ds => some (.ct env, ds)
theorem evs_bk {pos : Pos} : EvS X (.Break pos) dBk := fun B env ds σ Hf H o ds' S hf Dd c => by
  cases hf
  exact SS.of ps_break (c σ Hf H (fun _ _ e => e) S)
theorem evs_ct {pos : Pos} : EvS X (.Continue pos) dCt := fun B env ds σ Hf H o ds' S hf Dd c => by
  cases hf
  exact SS.of ps_continue (c σ Hf H (fun _ _ e => e) S)
/-! ### an own object stays from now on (no step) -/
def dFrz (i : Nat) (f : DenS) : DenS := fun env ds => match env[i]? with
  | some (some (.own d)) => f (env.set i (some (.val d))) ds
  | _ => f env ds
theorem frz_core {C : St → Hp → Prop} {i : Nat} {B env ds σ Hf H d} (S : SR B X.K env ds σ Hf H) (e : env[i]? = some (some (.own d)))
    (lock : ∀ a u, H a = some u → Mut (some u) → (∀ o, C σ (upd H a (.frz o u))) → C σ H)
    (k : ∀ Hf' H', Same Hf Hf' → SR B X.K (env.set i (some (.val d))) ds σ Hf' H' → C σ H') : C σ H := by
  obtain ⟨a, ea, nf, nd, t⟩ := S.own e
  cases t with
  | lst h1 r => exact k _ _ (same_fz nf) (S.frzL e ea h1 (.lst upd_same (r.up (same_fz nf))))
  | dT h1 r => exact lock a _ h1 True.intro fun o => k _ _ (same_fz nf) (S.chgLock e ea (.dT upd_same (r.up (same_fz nf))))
  | dK h1 r => exact lock a _ h1 True.intro fun o => k _ _ (same_fz nf) (S.chgLock e ea (.dK upd_same (r.up (same_fz nf))))
theorem evs_frz (i : Nat) (h : EvS X st f) : EvS X st (dFrz i f) := fun B env ds σ Hf H o ds' S hf Dd c => by
  unfold dFrz at hf
  split at hf
  · rename_i d e
    refine frz_core (C := fun σ H => SS X st Dd σ H) S e (fun a u h1 m k pins s I => ?_) fun Hf' H' s S' => h B _ ds σ Hf' H' o ds' S' hf Dd (c.step s)
    obtain ⟨o2, I2⟩ := I.lock h1 m
    exact k o2 pins s I2
  · exact h B env ds σ Hf H o ds' S hf Dd c
theorem evss_frz (i : Nat) {sts : List Stmt} (h : EvSs X sts f) : EvSs X sts (dFrz i f) := fun B env ds σ Hf H o ds' S hf Dd c => by
  unfold dFrz at hf
  split at hf
  · rename_i d e
    refine frz_core (C := fun σ H => SSs X sts Dd σ H) S e (fun a u h1 m k pins s I => ?_) fun Hf' H' s S' => h B _ ds σ Hf' H' o ds' S' hf Dd (c.step s)
    obtain ⟨o2, I2⟩ := I.lock h1 m
    exact k o2 pins s I2
  · exact h B env ds σ Hf H o ds' S hf Dd c
end
/-! ### assignments -/
def dSet (i : Nat) (k : Bool) (f : Den) : DenS := fun env ds => bnd (f env ds) fun d s => some (.nx (env.set i (some (mkSl k d))), s)
def dPar (i j : Nat) (k l : Bool) (f h : Den) : DenS := fun env ds => bnd (f env ds) fun a s => bnd (h env s) fun b s1 => some (.nx ((env.set i (some (mkSl k a))).set j (some (mkSl l b))), s1)
def dPar3 (i j p : Nat) (k l m : Bool) (f h u : Den) : DenS := fun env ds => bnd (f env ds) fun a s => bnd (h env s) fun b s1 => bnd (u env s1) fun c s2 => some (.nx (((env.set i (some (mkSl k a))).set j (some (mkSl l b))).set p (some (mkSl m c))), s2)
def dAsg (f : Den) (g : DenG) : DenS := fun env ds => bnd (f env ds) fun d s => match g d env with
  | none => none
  | some env' => some (.nx env', s)
section
variable {X : Cx} {e a b c : Expr} {f h u : Den} {k l m : Bool} {pos : Pos}
theorem evs_set (i : Nat) {x : Str} {p : Pos} (hN : X.N.Nodup) (he : EvU X e k f) (hi : X.N[i]? = some x := by rfl) (hx : Loc X.env.scope x := by first | exact Or.inl rfl | exact Or.inr rfl) (hs : swapsWith e (some (.Name x p)) pos.line X.env = pure false := by rfl)
    (hf : X.fn x = true ∨ X.env.scope.names.lookup x = some .local := by first | exact .inl rfl | exact .inr rfl) : EvS X (.Assign [.Name x p] e pos) (dSet i k f) := fun B env ds σ Hf H o ds' S hd Dd cc => by
  obtain ⟨d, s1, e1, e2⟩ := bnd_eq hd
  cases e2
  exact SS.of (ps_set hN hi hx (pe_se X e) hs hf) (he B env ds σ Hf H _ _ S e1 _ fun v Hf' H' g S' n => cc _ _ _ g.ff (S'.setU n i))
theorem evs_par (i j : Nat) {x y : Str} {px py pt : Pos} {kt k2 pt2} (hc : X.calm = true) (hN : X.N.Nodup) (ha : EvU X a k f) (hb : EvU X b l h) (hij : i ≠ j) (hi : X.N[i]? = some x := by rfl) (hj : X.N[j]? = some y := by rfl)
    (hx : X.env.scope.names.lookup x = some .local := by rfl) (hy : X.env.scope.names.lookup y = some .local := by rfl)
    (hw : swappedStores [.Tuple [.Name x px, .Name y py] kt pt] (.Tuple [a, b] k2 pt2) X.env = pure (some [x, y]) := by rfl)
    (hs : swapsWithSole [.Tuple [.Name x px, .Name y py] kt pt] (.Tuple [a, b] k2 pt2) pos.line X.env = pure false := by rfl) (h1 : starEach [a, b] X.env = (false, eval a X.env) :: starEach [b] X.env := by rfl) (h2 : starEach [b] X.env = (false, eval b X.env) :: starEach [] X.env := by rfl) :
    EvS X (.Assign [.Tuple [.Name x px, .Name y py] kt pt] (.Tuple [a, b] k2 pt2) pos) (dPar i j k l f h) := fun B env ds σ Hf H o ds' S hd Dd cc => by
  obtain ⟨d1, s1, e1, hd⟩ := bnd_eq hd
  obtain ⟨d2, s2, e2, e3⟩ := bnd_eq hd
  cases e3
  refine SS.of (ps_par hc hN hi hj hij hx hy (pa_cons (pe_se X a) (pa_cons (pe_se X b) pa_nil h2) h1) hw hs) ?_
  refine ha B env ds σ Hf H _ _ S e1 _ fun v Hf1 H1 g1 S1 n1 => hb B env s1 σ Hf1 H1 _ _ S1 e2 _ fun w Hf2 H2 g2 S2 n2 => ?_
  exact ⟨v, w, rfl, cc _ _ _ (g1.ff.trans g2.ff) ((S2.setU (n1.up g2) i).setU (n1.over n2 i) j)⟩
theorem evs_par3 (i j p : Nat) {x y z : Str} {px py pz pt : Pos} {kt k2 pt2} (hc : X.calm = true) (hN : X.N.Nodup) (ha : EvU X a k f) (hb : EvU X b l h) (hcc : EvU X c m u) (hij : i ≠ j) (hil : i ≠ p) (hjl : j ≠ p) (hi : X.N[i]? = some x := by rfl) (hj : X.N[j]? = some y := by rfl) (hl : X.N[p]? = some z := by rfl)
    (hx : X.env.scope.names.lookup x = some .local := by rfl) (hy : X.env.scope.names.lookup y = some .local := by rfl) (hz : X.env.scope.names.lookup z = some .local := by rfl)
    (hw : swappedStores [.Tuple [.Name x px, .Name y py, .Name z pz] kt pt] (.Tuple [a, b, c] k2 pt2) X.env = pure (some [x, y, z]) := by rfl)
    (hs : swapsWithSole [.Tuple [.Name x px, .Name y py, .Name z pz] kt pt] (.Tuple [a, b, c] k2 pt2) pos.line X.env = pure false := by rfl) (h1 : starEach [a, b, c] X.env = (false, eval a X.env) :: starEach [b, c] X.env := by rfl) (h2 : starEach [b, c] X.env = (false, eval b X.env) :: starEach [c] X.env := by rfl) (h3 : starEach [c] X.env = (false, eval c X.env) :: starEach [] X.env := by rfl) :
    EvS X (.Assign [.Tuple [.Name x px, .Name y py, .Name z pz] kt pt] (.Tuple [a, b, c] k2 pt2) pos) (dPar3 i j p k l m f h u) := fun B env ds σ Hf H o ds' S hd Dd cc => by
  obtain ⟨d1, s1, e1, hd⟩ := bnd_eq hd
  obtain ⟨d2, s2, e2, hd⟩ := bnd_eq hd
  obtain ⟨d3, s3, e3, e4⟩ := bnd_eq hd
  cases e4
  refine SS.of (ps_par3 hc hN hi hj hl hij hil hjl hx hy hz (pa_cons (pe_se X a) (pa_cons (pe_se X b) (pa_cons (pe_se X c) pa_nil h3) h2) h1) hw hs) ?_
  refine ha B env ds σ Hf H _ _ S e1 _ fun v Hf1 H1 g1 S1 n1 => hb B env s1 σ Hf1 H1 _ _ S1 e2 _ fun w Hf2 H2 g2 S2 n2 => hcc B env s2 σ Hf2 H2 _ _ S2 e3 _ fun t Hf3 H3 g3 S3 n3 => ?_
  have n1' := n1.up g2
  exact ⟨v, w, t, rfl, cc _ _ _ ((g1.ff.trans g2.ff).trans g3.ff) (((S3.setU (n1'.up g3) i).setU ((n1.over n2 i).up g3) j).setU ((n1.over n2 i).over (n1'.over n3 i) j) p)⟩
theorem evs_asg {tg : Expr} {ts : List Nat} {g : DenG} (he : EvF X e f) (hg : EvG X tg ts g) (hs : swapsWithSole [tg] e pos.line X.env = pure false := by rfl) (hw : swappedStores [tg] e X.env = pure none := by rfl)
    (h1 : (assignEach [tg] X.env).map (·.2) = [assign tg X.env] := by rfl) : EvS X (.Assign [tg] e pos) (dAsg f g) := fun B env ds σ Hf H o ds' S hd Dd cc => by
  obtain ⟨d, s1, e1, e2⟩ := bnd_eq hd
  cases e3 : g d env with
  | none => rw [e3] at e2; cases e2
  | some env' =>
    rw [e3] at e2
    cases e2
    exact SS.of (ps_asg (pe_se X e) (pg_sg X tg) hs hw h1) (he B env ds σ Hf H _ _ S e1 _ fun v Hf' H' g' S' r => hg B env env' _ σ Hf' H' d v S' r e3 _ fun σ' S2 _ _ => cc _ _ _ g'.ff S2)
end
section
variable {X : Cx} {tg iter elt : Expr} {ifs : List Expr} {scope : Scope} {own : List (Str × Nat)} {pos spos : Pos} {gi : DenA} {ts : List Nat} {gg : DenG} {t : DenT} {fe : Den}
/-- name = [..] on one line -/
theorem evs_setLc (i : Nat) (k : Bool) {y : Str} {py : Pos} (hc : X.calm = true) (hN : X.N.Nodup) (ok : BlkOk X.N X.env.scope scope own) (hi : EvI X tg iter gi) (hg : Blks X scope fun Y => EvG Y tg ts gg) (ht : EvTb X scope ifs t) (he : Blks X scope fun Y => EvF Y elt fe)
    (hts : ∀ j ∈ ts, j ∈ own.map (·.2)) (hsw : swapsWith (.ListComp elt [⟨tg, iter, ifs, 0⟩] scope pos) (some (.Name y py)) spos.line X.env = pure true) (hy : X.N[i]? = some y := by rfl) (hyl : X.env.scope.names.lookup y = some .local := by rfl) (hs : ∀ x, foldedSetIterable iter X.env x = pure x := by intro _; rfl) :
    EvS X (.Assign [.Name y py] (.ListComp elt [⟨tg, iter, ifs, 0⟩] scope pos) spos) (dSet i k (dLc gi (own.map (·.2)) gg t fe)) := fun B env ds σ Hf H o ds' S hd Dd cc => by
  obtain ⟨d, s1, e1, e2⟩ := bnd_eq hd
  cases e2
  obtain ⟨tt, pt, kt⟩ := ht
  refine SS.of (ps_setLc (wi := SI X tg iter) (g := SGb X scope tg) (tt := tt) (te := SEb X scope elt) hc hN hy hyl hsw (pi_si X tg iter) ok (fun s H C cl fp => ⟨fun pins s' σ' H' v u Q' I r h => h s H C cl fp pins s' u I r⟩) pt (fun s H C cl fp => ⟨fun pins s' σ' H' Q' I h => h s H C cl fp pins s' I⟩) hs) ?_
  refine lc_reading hi hg kt he hts S e1 fun a Hf' H' g S' n nf tp => ?_
  cases k with
  | true => exact cc _ _ _ g.ff (S'.setOwn (S.fre n) nf tp)
  | false =>
    cases tp with
    | lst h1 r => exact cc _ _ _ (g.ff.trans (same_fz nf)) ((S'.fz nf h1 (S.fre n)).set (.lst upd_same (r.up (same_fz nf))))
    | _ => 
      obtain ⟨items, s1, _, e⟩ := bnd_eq e1
      obtain ⟨r, s2, _, e⟩ := bnd_eq e
      have e : (if r.length ≤ 100000 then some (D.list r, s2) else none) = some (_, _) := e
      split at e <;> cases e
end
/-! ### branches and loops -/
def dIfS (t : DenT) (f g : DenS) : DenS := fun env ds => bnd (t env ds) fun b s => match b with
  | true => f env s
  | false => g env s
def forLoop (g : DenG) (f : DenS) : List D → DenS
  | [], env, s => some (.nx env, s)
  | d :: r, env, s => match g d env with
    | none => none
    | some env' => match f env' s with
      | none => none
      | some (.nx e, s') => forLoop g f r e s'
      | some (.ct e, s') => forLoop g f r e s'
      | some (.bk e, s') => some (.nx e, s')
      | some (.rt d, s') => some (.rt d, s')
def dFor (gi : DenA) (g : DenG) (f : DenS) : DenS := fun env ds => bnd (gi env ds) fun items s => forLoop g f items env s
def whLoop (c : DenT) (f : DenS) : Nat → DenS
  | 0, _, _ => none
  | n + 1, env, s => bnd (c env s) fun b s1 => match b with
    | false => some (.nx env, s1)
    | true => match f env s1 with
      | none => none
      | some (.nx e, s') => whLoop c f n e s'
      | some (.ct e, s') => whLoop c f n e s'
      | some (.bk e, s') => some (.nx e, s')
      | some (.rt d, s') => some (.rt d, s')
section
variable {X : Cx} {pos : Pos}
theorem evs_if {c : Expr} {a b : List Stmt} {t : DenT} {f g : DenS} (hc : EvT X c t) (ha : EvSs X a f) (hb : EvSs X b g) : EvS X (.If c a b pos) (dIfS t f g) := fun B env ds σ Hf H o ds' S hd Dd cc => by
  obtain ⟨v, s1, e1, e2⟩ := bnd_eq hd
  refine SS.of (ps_if (pt_st X c) (pss_ss X a) (pss_ss X b)) (hc B env ds σ Hf H _ _ S e1 _ fun Hf' H' gr S' => ?_)
  cases v with
  | true =>
    rw [if_pos rfl]
    exact ha B env s1 σ Hf' H' o ds' S' e2 Dd (cc.step gr.ff)
  | false =>
    rw [if_neg Bool.false_ne_true]
    exact hb B env s1 σ Hf' H' o ds' S' e2 Dd (cc.step gr.ff)
theorem evs_for {tg iter : Expr} {body : List Stmt} {gi : DenA} {ts : List Nat} {g : DenG} {f : DenS} (hp : PassesOwn (model X.prog X.w) X.A X.env X.xe) (hc : X.calm = true) (hi : EvI X tg iter gi) (hg : EvG X tg ts g) (hb : EvSs X body f)
    (hs : ∀ x, foldedSetIterable iter X.env x = pure x := by intro _; rfl) : EvS X (.For tg iter body [] pos) (dFor gi g f) := fun B env ds σ Hf H o ds' S hd Dd cc => by
  obtain ⟨items, s1, e1, e2⟩ := bnd_eq hd
  refine SS.of (ps_for hp hc (pi_si X tg iter) (pg_sg X tg) (pss_ss X body) hs) (hi B env ds σ Hf H _ _ S e1 _ fun J Hf1 H1 g1 S1 y1 => ?_)
  refine ⟨fun i m σ' H' => m = items.length - i ∧ i ≤ items.length ∧ ∃ env' s' Hf', Same Hf1 Hf' ∧ SR B X.K env' s' σ' Hf' H' ∧ forLoop g f (items.drop i) env' s' = some (o, ds'),
    ⟨items.length, by simp, Nat.zero_le _, env, s1, Hf1, fun _ _ q => q, S1, by rw [List.drop_zero]; exact e2⟩, ?_⟩
  rintro i m σ' H' ⟨rfl, hi', env', s', Hf', sm, S', el⟩
  obtain ⟨yg, ys⟩ := y1 i env' s' σ' Hf' H' sm S'
  cases hd : items.drop i with
  | nil =>
    have hl : items.length ≤ i := by
      rcases Nat.lt_or_ge i items.length with z | z
      · rw [List.drop_eq_getElem_cons z] at hd; cases hd
      · exact z
    rw [hd] at el
    cases el
    exact .inl ⟨ys hl, cc _ _ _ (g1.ff.trans sm) S'⟩
  | cons it rest =>
    obtain ⟨hlt, hit, hrest⟩ := drop_at hd
    rw [hd] at el
    obtain ⟨yg1, yg2⟩ := yg hlt
    refine .inr ⟨yg1, fun σ2 H2 => (items.length - (i + 1) = items.length - (i + 1) ∧ i + 1 ≤ items.length ∧ ∃ env' s' Hf', Same Hf1 Hf' ∧ SR B X.K env' s' σ2 Hf' H2 ∧ forLoop g f (items.drop (i + 1)) env' s' = some (o, ds')), fun σ2 H2 h2 => ⟨_, by omega, h2⟩, fun x H3 yx => ?_⟩
    obtain ⟨Hf3, g3, S3, r3⟩ := yg2 x H3 yx it hit
    unfold forLoop at el
    cases eg : g it env' with
    | none => rw [eg] at el; cases el
    | some env2 =>
      rw [eg] at el
      refine hg B env' env2 s' σ' Hf3 H3 it x S3 r3 eg _ fun σ4 S4 _ _ => ?_
      cases eb : f env2 s' with
      | none => simp only [eb] at el; cases el
      | some p =>
        obtain ⟨o5, s5⟩ := p
        simp only [eb] at el
        have st := (g1.ff.trans sm).trans g3.ff
        refine hb B env2 s' σ4 Hf3 H3 o5 s5 S4 eb _ ?_
        cases o5 with
        | nx e5 => exact fun σ6 Hf6 H6 s6 S6 => ⟨rfl, hlt, e5, s5, Hf6, (sm.trans g3.ff).trans s6, S6, by rw [hrest]; exact el⟩
        | ct e5 => exact fun σ6 Hf6 H6 s6 S6 => ⟨rfl, hlt, e5, s5, Hf6, (sm.trans g3.ff).trans s6, S6, by rw [hrest]; exact el⟩
        | bk e5 =>
          cases el
          exact fun σ6 Hf6 H6 s6 S6 => cc _ _ _ (st.trans s6) S6
        | rt d5 =>
          cases el
          exact fun v e6 σ6 Hf6 H6 s6 S6 r6 => cc v e6 _ _ _ (st.trans s6) S6 r6
theorem evs_while (n : Nat) {c : Expr} {body : List Stmt} {t : DenT} {f : DenS} (hp : PassesOwn (model X.prog X.w) X.A X.env X.xe) (hc : EvT X c t) (hb : EvSs X body f) : EvS X (.While c body [] pos) (whLoop t f n) := fun B env ds σ Hf H o ds' S hd Dd cc => by
  refine SS.of (ps_while hp (pt_st X c) (pss_ss X body)) ?_
  refine ⟨fun m σ' H' => ∃ env' s' Hf', Same Hf Hf' ∧ SR B X.K env' s' σ' Hf' H' ∧ whLoop t f m env' s' = some (o, ds'), ⟨n, env, ds, Hf, fun _ _ q => q, S, hd⟩, ?_⟩
  rintro m σ' H' ⟨env', s', Hf', sm, S', el⟩
  cases m with
  | zero => cases el
  | succ m =>
    obtain ⟨b, s1, e1, e2⟩ := bnd_eq (show bnd (t env' s') _ = _ from el)
    refine hc B env' s' σ' Hf' H' _ _ S' e1 _ fun Hf2 H2 g2 S2 => ?_
    cases b with
    | false =>
      rw [if_neg Bool.false_ne_true]
      cases e2
      exact cc _ _ _ (sm.trans g2.ff) S2
    | true =>
      rw [if_pos rfl]
      refine ⟨fun σ3 H3 => ∃ env' s' Hf', Same Hf Hf' ∧ SR B X.K env' s' σ3 Hf' H3 ∧ whLoop t f m env' s' = some (o, ds'), fun σ3 H3 h3 => ⟨m, Nat.lt_succ_self m, h3⟩, ?_⟩
      cases eb : f env' s1 with
      | none => simp only [eb] at e2; cases e2
      | some p =>
        obtain ⟨o5, s5⟩ := p
        simp only [eb] at e2
        have st := sm.trans g2.ff
        refine hb B env' s1 σ' Hf2 H2 o5 s5 S2 eb _ ?_
        cases o5 with
        | nx e5 => exact fun σ6 Hf6 H6 s6 S6 => ⟨e5, s5, Hf6, st.trans s6, S6, e2⟩
        | ct e5 => exact fun σ6 Hf6 H6 s6 S6 => ⟨e5, s5, Hf6, st.trans s6, S6, e2⟩
        | bk e5 =>
          cases e2
          exact fun σ6 Hf6 H6 s6 S6 => cc _ _ _ (st.trans s6) S6
        | rt d5 =>
          cases e2
          exact fun v e6 σ6 Hf6 H6 s6 S6 r6 => cc v e6 _ _ _ (st.trans s6) S6 r6
end
/-! ### returns -/
def dRet (f : Den) : DenS := fun env ds => bnd (f env ds) fun d s => some (.rt d, s)
def dRetN : DenS := fun _ ds => some (.rt .none, ds)
section
variable {X : Cx} {e : Expr} {f : Den} {pos : Pos}
theorem evs_ret (he : EvF X e f) : EvS X (.Return (some e) pos) (dRet f) := fun B env ds σ Hf H o ds' S hd Dd cc => by
  obtain ⟨d, s1, e1, e2⟩ := bnd_eq hd
  cases e2
  exact SS.of (ps_ret (pe_se X e)) (he B env ds σ Hf H _ _ S e1 _ fun v Hf' H' g S' r => cc v _ _ _ _ g.ff S' r)
theorem evs_retN : EvS X (.Return none pos) dRetN := fun B env ds σ Hf H o ds' S hd Dd cc => by
  cases hd
  exact SS.of ps_retN (cc .non _ _ _ _ (fun _ _ q => q) S .non)
end
/-! ### changes of own objects -/
def dApp (i : Nat) (f : Den) : DenS := fun env ds => bnd (f env ds) fun d s => match env[i]? with
  | some (some (.own (.list xs))) => if xs.length < 100000 then some (.nx (env.set i (some (.own (.list (xs ++ [d]))))), s) else none
  | _ => none
def dExt (i : Nat) (f : Den) : DenS := fun env ds => bnd (f env ds) fun d s => match env[i]?, d with
  | some (some (.own (.list xs))), .list ys => if xs.length + ys.length < 100000 then some (.nx (env.set i (some (.own (.list (xs ++ ys))))), s) else none
  | _, _ => none
/-- xs.append(ys.pop(e)) -/
def dAppPop (i j : Nat) (f : Den) : DenS := fun env ds => bnd (f env ds) fun d s => match env[i]?, env[j]?, d with
  | some (some (.own (.list xs))), some (some (.own (.list ys))), .int n => if (xs.length < 100000 ∧ ys.length < 100000) ∧ 0 ≤ n ∧ n < ys.length then (match ys[n.toNat]? with
    | some y => some (.nx ((env.set j (some (.own (.list (ys.eraseIdx n.toNat))))).set i (some (.own (.list (xs ++ [y]))))), s)
    | none => none) else none
  | _, _, _ => none
/-- d[k] = v -/
def dPut (i : Nat) (fv fk : Den) : DenS := fun env ds => bnd (fv env ds) fun v s => bnd (fk env s) fun k s1 => match env[i]? with
  | some (some (.own (.dT kvs))) => (match keyOf? k with
    | some ks => if kvs.length < 100000 then some (.nx (env.set i (some (.own (.dT (putT kvs ks v))))), s1) else none
    | none => none)
  | some (some (.own (.dK kvs))) => (match key1? k with
    | some ks => if kvs.length < 100000 then some (.nx (env.set i (some (.own (.dK (putKD kvs ks v))))), s1) else none
    | none => none)
  | _ => none
/-- xs[k] = v -/
def dSetI (i : Nat) (fv fk : Den) : DenS := fun env ds => bnd (fv env ds) fun v s => bnd (fk env s) fun k s1 => match env[i]?, k with
  | some (some (.own (.list xs))), .int n => (match ixN xs.length n with
    | some j => some (.nx (env.set i (some (.own (.list (xs.set j v))))), s1)
    | none => none)
  | _, _ => none
section
variable {X : Cx} {e c : Expr} {f h : Den} {pos : Pos} {st : Expr} {ss : Stmt}
theorem evs_app (i : Nat) (pm : PE X st (tBM X.K "list" rAppend (tVar i) (tCons (SE X e) tNil))) (he : EvF X e f) (hs : swapsWith st none pos.line X.env = pure false := by rfl) : EvS X (.Expr st pos) (dApp i f) := fun B env ds σ Hf H o ds' S hD Dd cc => by
  obtain ⟨d, s1, e1, e2⟩ := bnd_eq hD
  split at e2
  · rename_i xs ei
    split at e2
    · rename_i hz
      cases e2
      obtain ⟨a, ea, nf, nd, t⟩ := S.own ei
      refine SS.of (ps_expr pm hs) ?_
      refine ⟨_, ea, ?_⟩
      cases t with
      | lst h1 r =>
        refine ⟨Or.inl ⟨rfl, _, Or.inl (Or.inl h1)⟩, ?_⟩
        refine he B env ds σ Hf H _ _ S e1 _ fun v Hf' H' g S' rv => ?_
        refine ⟨a, _, v, rfl, rfl, g.at h1 nd, by rw [sizeLine_eq, r.length]; omega, ?_⟩
        exact cc _ _ _ g.ff (S'.chg ei ea (.lst upd_same ((r.up g.ff).append (.cons rv .nil))))
    · cases e2
  · cases e2
theorem evs_ext (i : Nat) (pm : PE X st (tBM X.K "list" rExtend (tVar i) (tCons (SE X e) tNil))) (he : EvR X e f) (hs : swapsWith st none pos.line X.env = pure false := by rfl) : EvS X (.Expr st pos) (dExt i f) := fun B env ds σ Hf H o ds' S hD Dd cc => by
  obtain ⟨d, s1, e1, e2⟩ := bnd_eq hD
  split at e2
  · rename_i xs ys ei
    split at e2
    · rename_i hz
      cases e2
      obtain ⟨a, ea, nf, nd, t⟩ := S.own ei
      refine SS.of (ps_expr pm hs) ?_
      refine ⟨_, ea, ?_⟩
      cases t with
      | lst h1 r =>
        refine ⟨Or.inl ⟨rfl, _, Or.inl (Or.inl h1)⟩, ?_⟩
        refine he B env ds σ Hf H _ _ S e1 _ fun v Hf' H' g S' rv => ?_
        obtain ⟨b, zs, rfl, hb, rb⟩ := rv.lst S'.sub
        refine ⟨a, b, _, zs, rfl, rfl, g.at h1 nd, hb, by rw [sizeLine_eq, r.length, rb.length]; omega, ?_⟩
        exact cc _ _ _ g.ff (S'.chg ei ea (.lst upd_same ((r.up g.ff).append rb)))
    · cases e2
  · cases e2
theorem seqIx {n : Int} {l : Nat} (h1 : 0 ≤ n) (h2 : n < l) : seqIndex? n l = some n.toNat := by
  unfold seqIndex?
  first
    | (simp only []; split <;> simp <;> omega)
    | (simp [h1]; omega)
theorem evs_appPop (i j : Nat) (hij : i ≠ j) (pm : PE X st (tBM X.K "list" rAppend (tVar i) (tCons (tBM X.K "list" rPopAt (tVar j) (tCons (SE X e) tNil)) tNil))) (he : EvR X e f) (hs : swapsWith st none pos.line X.env = pure false := by rfl) : EvS X (.Expr st pos) (dAppPop i j f) := fun B env ds σ Hf H o ds' S hD Dd cc => by
  obtain ⟨d, s1, e1, e2⟩ := bnd_eq hD
  split at e2
  · rename_i xs ys n ei ej
    split at e2
    · rename_i hz
      split at e2
      · rename_i y ey
        cases e2
        obtain ⟨a, ea, nf, nd, t⟩ := S.own ei
        obtain ⟨b, eb, nfb, ndb, tb⟩ := S.own ej
        have hab : b ≠ a := fun z => S.apart i j _ _ a hij ei ej ea (z ▸ eb)
        refine SS.of (ps_expr pm hs) ?_
        refine ⟨_, ea, ?_⟩
        cases t with
        | lst h1 r =>
          cases tb with
          | lst h2 rb =>
            refine ⟨Or.inl ⟨rfl, _, Or.inl (Or.inl h1)⟩, ?_⟩
            refine ⟨_, eb, Or.inl ⟨rfl, _, Or.inl (Or.inl h2)⟩, ?_⟩
            refine he B env ds σ Hf H _ _ S e1 _ fun v Hf' H' g S' rv => ?_
            cases rv.int
            obtain ⟨w, ew, rw'⟩ := rb.get ey
            refine ⟨b, _, n, n.toNat, w, rfl, rfl, g.at h2 ndb, by omega, ?_, ?_, ew, ?_⟩
            · have := hz.2.2
              have := hz.1.2
              omega
            · rw [rb.length]; exact seqIx hz.2.1 hz.2.2
            have S2 := S'.chg ej eb (.lst upd_same ((rb.up g.ff).erase n.toNat))
            have ei2 : (env.set j (some (.own (.list (ys.eraseIdx n.toNat)))))[i]? = some (some (.own (.list xs))) := by
              rw [List.getElem?_set_ne (Ne.symm hij)]; exact ei
            have h1' : ∀ o : HO, (upd H' b o) a = some (.lst _) := fun o => (upd_ne (Ne.symm hab)).trans (g.at h1 nd)
            refine ⟨a, _, w, rfl, rfl, h1' _, by rw [sizeLine_eq, r.length]; omega, ?_⟩
            exact cc _ _ _ g.ff (S2.chg ei2 ea (.lst upd_same ((r.up g.ff).append (.cons (rw'.up g.ff) .nil))))
      · cases e2
    · cases e2
  · cases e2
theorem evs_put (i : Nat) (pm : PS X ss (sDPut (tVar i) (SE X c) (SE X e))) (he : EvF X e f) (hk : EvR X c h) : EvS X ss (dPut i f h) := fun B env ds σ Hf H o ds' S hD Dd cc => by
  obtain ⟨d, s1, e1, e2⟩ := bnd_eq hD
  obtain ⟨k, s2, e3, e4⟩ := bnd_eq e2
  refine SS.of pm ?_
  refine he B env ds σ Hf H _ _ S e1 _ fun v Hf1 H1 g1 S1 rv => ?_
  split at e4
  · rename_i kvs ei
    obtain ⟨a, ea, nf, nd, t⟩ := S.own ei
    refine ⟨_, ea, hk B env s1 σ Hf1 H1 _ _ S1 e3 _ fun w Hf2 H2 g2 S2 rw' => ?_⟩
    split at e4
    · rename_i ks ek
      split at e4
      · rename_i hz
        cases e4
        cases t with
        | dT h1 r =>
          obtain ⟨b, rfl, hb⟩ := keyOf_rd rw' ek
          have gg := g1.trans g2
          refine ⟨a, _, rfl, DPut.t (gg.at h1 nd) (S2.sub _ _ hb) (by rw [sizeLine_eq, r.length]; omega), ?_⟩
          exact cc _ _ _ gg.ff (S2.chg ei ea (.dT upd_same ((r.up gg.ff).put (rv.up g2.ff))))
      · cases e4
    · cases e4
  · rename_i kvs ei
    obtain ⟨a, ea, nf, nd, t⟩ := S.own ei
    refine ⟨_, ea, hk B env s1 σ Hf1 H1 _ _ S1 e3 _ fun w Hf2 H2 g2 S2 rw' => ?_⟩
    split at e4
    · rename_i ks ek
      split at e4
      · rename_i hz
        cases e4
        cases t with
        | dK h1 r =>
          cases key1_rd rw' ek
          have gg := g1.trans g2
          refine ⟨a, _, rfl, DPut.k (gg.at h1 nd) (by rw [sizeLine_eq, r.length]; omega), ?_⟩
          exact cc _ _ _ gg.ff (S2.chg ei ea (.dK upd_same ((r.up gg.ff).put (rv.up g2.ff))))
      · cases e4
    · cases e4
  · cases e4
theorem evs_seti (i : Nat) (pm : PS X ss (tAsg (SE X e) (L2.gSub (tVar i) (SE X c) rSetL))) (he : EvF X e f) (hk : EvR X c h) : EvS X ss (dSetI i f h) := fun B env ds σ Hf H o ds' S hD Dd cc => by
  obtain ⟨d, s1, e1, e2⟩ := bnd_eq hD
  obtain ⟨k, s2, e3, e4⟩ := bnd_eq e2
  refine SS.of pm ?_
  refine he B env ds σ Hf H _ _ S e1 _ fun v Hf1 H1 g1 S1 rv => ?_
  split at e4
  · rename_i xs n ei
    obtain ⟨a, ea, nf, nd, t⟩ := S.own ei
    refine ⟨_, ea, hk B env s1 σ Hf1 H1 _ _ S1 e3 _ fun w Hf2 H2 g2 S2 rw' => ?_⟩
    cases rw'.int
    split at e4
    · rename_i j ej
      cases e4
      cases t with
      | lst h1 r =>
        have gg := g1.trans g2
        refine ⟨a, _, n, j, rfl, rfl, gg.at h1 nd, by rw [r.length]; exact ej, ?_⟩
        exact cc _ _ _ gg.ff (S2.chg ei ea (.lst upd_same (RpL.set (rv.up g2.ff) j (r.up gg.ff))))
    · cases e4
  · cases e4
end
end L2.Dn
set_option Elab.async false
set_option linter.all false
set_option maxRecDepth 100000
namespace L2.Dn
open PySem PySem.Spec PyProof.Rows C8
/-! ### defs -/
/-- a def that computes f of its arguments -/
def spP (n : Nat) (f : List D → Option D) : Sp := fun vs H Q _ => vs.length = n ∧ ∃ Hf args r, Same Hf H ∧ RpL Hf vs args ∧ f args = some r ∧
  ∀ v Hf' H', Gr ⟨H, Hf, none⟩ Hf H Hf' H' → Same Hf' H' → Rp Hf' v r → Q v H'
/-- a def that draws: the draws' dict is its first argument -/
def spD (n : Nat) (f : List D → DS → Option (D × DS)) : Sp := fun vs H Q _ => vs.length = n + 1 ∧ ∃ Hf x l c vs' args ds r ds', vs = .ref x :: vs' ∧ Same Hf H ∧ DrawR (some (x, l, c)) ds Hf H ∧ RpL Hf vs' args ∧ f args ds = some (r, ds') ∧
  ∀ v Hf' H', Gr ⟨H, Hf, some (x, l, c)⟩ Hf H Hf' H' → Same Hf' H' → DrawR (some (x, l, c)) ds' Hf' H' → Rp Hf' v r → Q v H'
def envP (n : Nat) (args : List D) : En := args.map (fun d => some (Sl.val d)) ++ List.replicate (n - args.length) none
def envD (n : Nat) (args : List D) : En := some Sl.draw :: (args.map (fun d => some (Sl.val d)) ++ List.replicate (n - (args.length + 1)) none)
def outD : Option (Out × DS) → Option (D × DS)
  | some (.rt d, s) => some (d, s)
  | some (.nx _, s) => some (.none, s)
  | _ => none
def ds0 : DS := ⟨[], 0, [], 0⟩
/-- n: the names of the body -/
def fnP (n : Nat) (b : DenS) : List D → Option D := fun args => (outD (b (envP n args) ds0)).map (·.1)
def fnD (n : Nat) (b : DenS) : List D → DS → Option (D × DS) := fun args ds => outD (b (envD n args) ds)
theorem nodr {H0 Hf0 : Hp} {a : Addr} : ¬ (Bs.mk H0 Hf0 none).isDr a := fun ⟨_, _, _, e, _⟩ => by cases e
theorem Gr.of0 {B : Bs} {H0 Hf0 Hf H Hf' H' : Hp} (g : Gr ⟨H0, Hf0, none⟩ Hf H Hf' H') (nd : ∀ a xs, H a = some (.tup xs) → ¬ B.isDr a) : Gr B Hf H Hf' H' where
  hh := fun a o e => by
    obtain ⟨o', e', n⟩ := g.hh a o e
    exact ⟨o', e', fun _ => n nodr⟩
  ff := g.ff
  nw := fun a h => by
    rcases g.nw a h with h1 | h1 | ⟨_, xs, h1⟩
    · exact .inl h1
    · exact .inr (.inl h1)
    · exact .inr (.inr ⟨nd a xs h1, xs, h1⟩)
theorem Gr.same0 {H0 Hf0 Hf H Hf' H' : Hp} (g : Gr ⟨H0, Hf0, none⟩ Hf H Hf' H') : Same H H' := fun a o e => g.at e nodr
theorem get_append_some {α : Type} {xs : List α} {n i : Nat} {s : α} (h : (xs.map some ++ List.replicate n none)[i]? = some (some s)) : xs[i]? = some s := by
  rcases Nat.lt_or_ge i xs.length with q | q
  · rw [List.getElem?_append_left (by rw [List.length_map]; exact q), List.getElem?_map] at h
    cases e : xs[i]? with
    | none => rw [e] at h; cases h
    | some y => rw [e] at h; cases h; rfl
  · rw [List.getElem?_append_right (by rw [List.length_map]; exact q), List.length_map] at h
    rw [List.getElem?_replicate] at h
    split at h <;> cases h
theorem slots_vals {B : Bs} {K : PySem.W.Frag} {Hf H : Hp} {vs : List V} {args : List D} {n m i : Nat} {s : Sl} (r : RpL Hf vs args) (h : (args.map (fun d => some (Sl.val d)) ++ List.replicate n none)[i]? = some (some s)) : SlotR B K Hf H (vs.map some ++ List.replicate m none) i s := by
  have h2 : ((args.map Sl.val).map some ++ List.replicate n none)[i]? = some (some s) := by rw [List.map_map]; exact h
  have h3 := get_append_some h2
  rw [List.getElem?_map] at h3
  cases e : args[i]? with
  | none => rw [e] at h3; cases h3
  | some d =>
    rw [e] at h3
    cases h3
    obtain ⟨v, e2, rv⟩ := r.get e
    refine ⟨v, ?_, rv⟩
    have hl : i < (vs.map some).length := by
      rw [List.length_map]
      exact (List.getElem?_eq_some_iff.mp e2).1
    rw [List.getElem?_append_left hl, List.getElem?_map, e2]
    rfl
theorem sr_start {K : PySem.W.Frag} {Hf H : Hp} {vs : List V} {args : List D} {ds : DS} (N : List Str) (s : Same Hf H) (r : RpL Hf vs args) : SR ⟨H, Hf, none⟩ K (envP N.length args) ds (start N vs) Hf H where
  sub := s
  base := fun a o e => ⟨o, e, fun _ => rfl⟩
  fbase := fun _ _ e => e
  fnew := fun a h => .inl h
  slots := fun i sl e => by
    have hl := r.length
    unfold envP at e
    unfold start
    exact slots_vals r e
  apart := fun i j d e a _ h1 => by
    have h2 : ((args.map Sl.val).map some ++ List.replicate (N.length - args.length) none)[i]? = some (some (.own d)) := by rw [List.map_map]; exact h1
    have h3 := get_append_some h2
    rw [List.getElem?_map] at h3
    cases e : args[i]? <;> (rw [e] at h3; cases h3)
  draw := fun x l c e => by cases e
  len := by
    unfold envP start
    simp [r.length]
theorem sr_startD {K : PySem.W.Frag} {Hf H : Hp} {vs : List V} {args : List D} {ds : DS} {x l c : Addr} (N : List Str) (s : Same Hf H) (r : RpL Hf vs args) (dr : DrawR (some (x, l, c)) ds Hf H) : SR ⟨H, Hf, some (x, l, c)⟩ K (envD N.length args) ds (start N (.ref x :: vs)) Hf H where
  sub := s
  base := fun a o e => ⟨o, e, fun _ => rfl⟩
  fbase := fun _ _ e => e
  fnew := fun a h => .inl h
  slots := fun i sl e => by
    unfold envD at e
    cases i with
    | zero => cases e; exact ⟨x, l, c, rfl, rfl⟩
    | succ i =>
      have e : (args.map (fun d => some (Sl.val d)) ++ List.replicate (N.length - (args.length + 1)) none)[i]? = some (some sl) := e
      have := slots_vals (B := ⟨H, Hf, some (x, l, c)⟩) (K := K) (H := H) (m := N.length - (V.ref x :: vs).length) r e
      cases sl with
      | val d => exact this
      | own d => exact this
      | draw => exact this
      | scr ns => exact this
  apart := fun i j d e a _ h1 => by
    unfold envD at h1
    cases i with
    | zero => cases h1
    | succ i =>
      have h2 : ((args.map Sl.val).map some ++ List.replicate (N.length - (args.length + 1)) none)[i]? = some (some (.own d)) := by rw [List.map_map]; exact h1
      have h3 := get_append_some h2
      rw [List.getElem?_map] at h3
      cases e : args[i]? <;> (rw [e] at h3; cases h3)
  draw := dr
  len := by
    unfold envD start
    simp [r.length]
theorem SR.gr {B : Bs} {K : PySem.W.Frag} {env env' : En} {ds ds' : DS} {σ σ' : St} {Hf H : Hp} (S : SR B K env ds σ Hf H) (e0 : B.H0 = H → True) : Gr B B.Hf0 B.H0 Hf H where
  hh := S.base
  ff := S.fbase
  nw := S.fnew
section
variable {P : Program} {w : World} {K : PySem.W.Frag} {mg : Str → Option Value} {base : Heap} {x : Str} {params : Arguments} {body : List Stmt} {scope : Scope} {f : Addr} {fd : FuncData} {N ps : List Str} {k : Nat}
abbrev cxB (P : Program) (w : World) (K : PySem.W.Frag) (mg : Str → Option Value) (base : Heap) (N : List Str) (x : Str) (scope : Scope) (f : Addr) (cdv : Value) (A : Around) (outer : List Env) (s : Shared) (H : Hp) (E : XK) : Cx := (cxOf CX0 P w K mg base N x scope f cdv A outer s H E).nox
/-- a def that computes -/
theorem calP {b : DenS} (n : Nat) (F : FunD K x x params body scope [] [] f fd) (hm : mg x = some (.ref f)) (S : FnScope N ps scope) (hn : ps.length = n) (hb : Binds K fd ps [])
    (h : ∀ (cdv : Value) (A : Around) (outer : List Env) (s : Shared) (H : Hp) (E : XK), Room k (A.deeper (envOfC x scope s.heap.objs.size f cdv)) → EvSs (cxB P w K mg base N x scope f cdv A outer s H E) body b) : Cal P w K mg base (k + 1) x (spP n (fnP N.length b)) [] :=
  ⟨f, fd, ps, [], F.ok S (fun vs H Q E h => h.1.trans hn.symm) (fun cdv A outer s H vs Q E hr hsp => ⟨SSs (cxB P w K mg base N x scope f cdv A outer s H E) body, PSs.nox (pss_ss _ body), by
    obtain ⟨_, Hf, args, r, sm, ra, e, q⟩ := hsp
    unfold fnP at e
    cases eb : b (envP N.length args) ds0 with
    | none => rw [eb] at e; cases e
    | some p =>
      obtain ⟨o, ds'⟩ := p
      rw [eb] at e
      refine h cdv A outer s H E hr ⟨H, Hf, none⟩ (envP N.length args) ds0 (start N vs) Hf H o ds' (sr_start N sm ra) eb _ ?_
      cases o with
      | nx env' =>
        cases e
        exact fun σ' Hf' H' s' S' => q _ Hf' H' ⟨S'.base, S'.fbase, S'.fnew⟩ S'.sub .non
      | rt d =>
        cases e
        exact fun v env' σ' Hf' H' s' S' rv => q v Hf' H' ⟨S'.base, S'.fbase, S'.fnew⟩ S'.sub rv
      | bk env' => cases e
      | ct env' => cases e⟩), hm, F.kp, hb, .nil⟩
/-- a def that draws -/
theorem calD {b : DenS} (n : Nat) (F : FunD K x x params body scope [] [] f fd) (hm : mg x = some (.ref f)) (S : FnScope N ps scope) (hn : ps.length = n + 1) (hb : Binds K fd ps [])
    (h : ∀ (cdv : Value) (A : Around) (outer : List Env) (s : Shared) (H : Hp) (E : XK), Room k (A.deeper (envOfC x scope s.heap.objs.size f cdv)) → EvSs (cxB P w K mg base N x scope f cdv A outer s H E) body b) : Cal P w K mg base (k + 1) x (spD n (fnD N.length b)) [] :=
  ⟨f, fd, ps, [], F.ok S (fun vs H Q E h => h.1.trans hn.symm) (fun cdv A outer s H vs Q E hr hsp => ⟨SSs (cxB P w K mg base N x scope f cdv A outer s H E) body, PSs.nox (pss_ss _ body), by
    obtain ⟨_, Hf, y, l, c, vs', args, ds, r, ds', rfl, sm, dr, ra, e, q⟩ := hsp
    unfold fnD at e
    cases eb : b (envD N.length args) ds with
    | none => rw [eb] at e; cases e
    | some p =>
      obtain ⟨o, ds2⟩ := p
      rw [eb] at e
      refine h cdv A outer s H E hr ⟨H, Hf, some (y, l, c)⟩ (envD N.length args) ds (start N (.ref y :: vs')) Hf H o ds2 (sr_startD N sm ra dr) eb _ ?_
      cases o with
      | nx env' =>
        cases e
        exact fun σ' Hf' H' s' S' => q _ Hf' H' ⟨S'.base, S'.fbase, S'.fnew⟩ S'.sub S'.draw .non
      | rt d =>
        cases e
        exact fun v env' σ' Hf' H' s' S' rv => q v Hf' H' ⟨S'.base, S'.fbase, S'.fnew⟩ S'.sub S'.draw rv
      | bk env' => cases e
      | ct env' => cases e⟩), hm, F.kp, hb, .nil⟩
end
/-! ### calls -/
def dCallP (n : Nat) (f : List D → Option D) (g : DenA) : Den := fun env ds => bnd (g env ds) fun as s => if as.length = n then op1 (f as) s else none
def dCallD (i : Nat) (n : Nat) (f : List D → DS → Option (D × DS)) (g : DenA) : Den := fun env ds => match env[i]? with
  | some (some .draw) => bnd (g env ds) fun as s => if as.length = n then f as s else none
  | _ => none
section
variable {X : Cx} {k j n : Nat} {x : Str} {f : List D → Option D} {p pos : Pos} {e : Expr} {es : List Expr} {g : DenA}
theorem evf_callP (c : Cal X.prog X.w X.K X.mg X.base k x (spP n f) []) (hr : Room j X.A) (hk : k ≤ j) (ha : EvA X (e :: es) g) (hg : Gl X x := by rfl)
    (hdb : (x == ("__debug__" : Str)) = false := by decide) (he : starEach (e :: es) X.env = (false, eval e X.env) :: starEach es X.env := by rfl) (hpl : (backTo pos (starEach es X.env)).any (·.1) = false := by rfl) :
    EvF X (.Call (.Name x p) (e :: es) [] pos) (dCallP n f g) := fun B env ds σ Hf H d ds' S hf Q q => by
  obtain ⟨as, s1, e1, e2⟩ := bnd_eq hf
  split at e2
  · rename_i hn
    obtain ⟨e3, rfl⟩ := op1_eq e2
    refine SE.of (pe_c c hr hk hg (pa_sa X _) hdb he hpl) (ha B env ds σ Hf H _ _ S e1 _ fun vs Hf1 H1 g1 S1 rv => ?_)
    rw [List.append_nil]
    refine ⟨rv.length.trans hn, Hf1, as, d, S1.sub, rv, e3, fun v Hf' H' g' sm r => ?_⟩
    have gB : Gr B Hf1 H1 Hf' H' := g'.of0 fun a xs h => S1.noDrT h
    refine q v Hf' H' (g1.trans gB) (S1.move gB sm fun y l c ed => ?_) r
    obtain ⟨h1, h2, h3, h4, h5⟩ := S1.draw y l c ed
    have sH := g'.same0
    exact ⟨sH _ _ h1, sH _ _ h2, g'.noF h3 (by rw [h1]; simp) (by intro xs z; rw [h1] at z; cases z), g'.noF h4 (by rw [h2]; simp) (by intro xs z; rw [h2] at z; cases z), g'.ff _ _ h5⟩
  · cases e2
theorem evf_callD (i : Nat) {fD : List D → DS → Option (D × DS)} {y : Str} {py : Pos} (c : Cal X.prog X.w X.K X.mg X.base k x (spD n fD) []) (hr : Room j X.A) (hk : k ≤ j) (hv : PE X (.Name y py) (tVar i)) (ha : EvA X es g) (hg : Gl X x := by rfl)
    (hdb : (x == ("__debug__" : Str)) = false := by decide) (he : starEach (.Name y py :: es) X.env = (false, eval (.Name y py) X.env) :: starEach es X.env := by rfl) (hpl : (backTo pos (starEach es X.env)).any (·.1) = false := by rfl) :
    EvF X (.Call (.Name x p) (.Name y py :: es) [] pos) (dCallD i n fD g) := fun B env ds σ Hf H d ds' S hf Q q => by
  unfold dCallD at hf
  split at hf
  · rename_i ei
    obtain ⟨as, s1, e1, e2⟩ := bnd_eq hf
    split at e2
    · rename_i hn
      obtain ⟨xa, l, c', edr, ea⟩ := S.slots i _ ei
      refine SE.of (pe_c c hr hk hg (pa_cons hv (pa_sa X es) he) hdb he hpl) ⟨_, ea, ?_⟩
      refine ha B env ds σ Hf H _ _ S e1 _ fun vs Hf1 H1 g1 S1 rv => ?_
      show spD n fD (V.ref xa :: vs ++ []) H1 Q C8.E0
      rw [List.append_nil]
      have dr1 := S1.draw
      rw [edr] at dr1
      refine ⟨by rw [List.length_cons, rv.length, hn], Hf1, xa, l, c', vs, as, s1, d, ds', rfl, S1.sub, dr1, rv, e2, fun v Hf' H' g' sm dr' r => ?_⟩
      have gB : Gr B Hf1 H1 Hf' H' := by
        have hi : ∀ a, B.isDr a ↔ (Bs.mk H1 Hf1 (some (xa, l, c'))).isDr a := fun a => by
          constructor
          · rintro ⟨y1, y2, y3, e4, h4⟩; rw [edr] at e4; cases e4; exact ⟨_, _, _, rfl, h4⟩
          · rintro ⟨y1, y2, y3, e4, h4⟩; cases e4; exact ⟨_, _, _, edr, h4⟩
        exact ⟨fun a o e => by
          obtain ⟨o', e', n'⟩ := g'.hh a o e
          exact ⟨o', e', fun nd => n' fun z => nd ((hi a).2 z)⟩, g'.ff, fun a h => by
          rcases g'.nw a h with h1 | h1 | ⟨nd, xs, h1⟩
          · exact .inl h1
          · exact .inr (.inl h1)
          · exact .inr (.inr ⟨fun z => nd ((hi a).1 z), xs, h1⟩)⟩
      exact q v Hf' H' (g1.trans gB) (S1.move gB sm (by rw [edr]; exact dr')) r
    · cases e2
  · cases hf
end
end L2.Dn
set_option Elab.async false
set_option linter.all false
set_option maxRecDepth 100000
/-! walks over the pairs and the values of dicts with tuple keys -/
namespace L2.Dn
open PySem PySem.Spec PyProof.Rows
section
variable {X : Cx} {pins : List (Addr × Obj)} {σ : St} {H : Hp} {s : Shared} {d : Addr} {o : Obj}
theorem frzTV {kvs : List (List Key × V)} (I : Inv X pins σ H s) (h : H d = some (.frz o (.dT kvs))) :
    (d == sysModules) = false ∧ s.heap.get? d = some o ∧ o.ExactDict ∧ ∃ (es : Array DictEntry) (ep : Nat), o.data = .dict es ep ∧ es.size = kvs.length ∧
      ∀ (i : Nat) (k : List Key) (v : V), kvs[i]? = some (k, v) → ∃ (hi : i < es.size) (q : Addr), es[i].key = .ref q ∧ H q = some (.tup (k.map kV)) ∧ RelV v es[i].val := by
  obtain ⟨hd, z, hs, xs, pr, o', es, ep, ho, hx, hdt, he, _⟩ := I.hok d _ h
  rw [hd] at ho
  cases ho
  have l1 : es.size = xs.length := size_of_entries he
  have l2 : kvs.length = xs.length := Paired.length pr
  refine ⟨hs, hd, hx, es, ep, hdt, l1.trans l2.symm, fun i k v e => ?_⟩
  obtain ⟨b, hb, e1, e2, e3⟩ := paired_get pr e
  have q := entry_at he i
  rw [hb] at q
  have hi : i < es.size := by
    rw [l1]
    exact (List.getElem?_eq_some_iff.mp hb).1
  rw [Array.getElem?_eq_getElem hi] at q
  have q := Option.some.inj q
  exact ⟨hi, b.2.1, by rw [q]; rfl, e2, by rw [q]; exact e3⟩
end
/-- the pairs of the locked dict at d, each a new tuple -/
def Itit (d : Addr) (o : Obj) (kvs : List (List Key × V)) : It :=
  ⟨fun i H => H d = some (.frz o (.dT kvs)) ∧ i < kvs.length, fun i H x H' => ∃ (T : Addr) (k : List Key) (v : V) (q : Addr), kvs[i]? = some (k, v) ∧ x = .ref T ∧ H q = some (.tup (k.map kV)) ∧ H T = none ∧ H' = upd H T (.tup [.ref q, v]), fun i H => H d = some (.frz o (.dT kvs)) ∧ kvs.length ≤ i⟩
/-- its values -/
def Itdt (d : Addr) (o : Obj) (kvs : List (List Key × V)) : It :=
  ⟨fun i H => H d = some (.frz o (.dT kvs)) ∧ i < kvs.length, fun i H x H' => H' = H ∧ ∃ k, kvs[i]? = some (k, x), fun i H => H d = some (.frz o (.dT kvs)) ∧ kvs.length ≤ i⟩
section
variable {P : Program} {w : World} {K : PySem.W.Frag} {tg : Expr} {d : Addr} {o : Obj} {es : Array DictEntry} {ep : Nat}
theorem turn_itemsT {kvs : List (List Key × V)} {elts : List Expr} {kk : Nat} {tpos : Pos} (it : Addr) (hod : o.data = .dict es ep) :
    Turn P w K (.Tuple elts kk tpos) (Itit d o kvs) [it] it (fun i h => ∃ ok ov, IsItemIter h it d i es.size ep ok ov) where
  mem := by simp
  obj := fun i h st b hb => by
    obtain rfl : b = it := by simpa using hb
    obtain ⟨ok, ov, e⟩ := st
    exact ⟨_, e, fun v z => nomatch z⟩
  keep := fun i h h' st k => let ⟨ok, ov, e⟩ := st; ⟨ok, ov, k it (by simp) _ e⟩
  item := by
    intro X hP hw hK hc i pins s σ H E I hf st ⟨hd, hi⟩
    subst hP hw hK
    obtain ⟨hs, hgd, hx, es', ep', hdt, hsz, ent⟩ := frzTV I hd
    obtain ⟨rfl, rfl⟩ := dict_ep hod hdt
    obtain ⟨⟨k, v⟩, hkv⟩ : ∃ p, kvs[i]? = some p := ⟨kvs[i], List.getElem?_eq_getElem hi⟩
    obtain ⟨hi', q, hkey, hq, ru⟩ := ent i k v hkv
    obtain ⟨ok, ov, he⟩ := st
    have hlt : it < s.heap.objs.size := Heap.lt_size he
    refine wpAny_pyNext_items_item_raw he ⟨o, hgd, hx, hdt⟩ hi' fun h' ho hT hz hk => ?_
    refine ⟨_, rfl, wpAny_letOwnedTupleGo_items (s := { s with heap := h' }) ho fun h'' he' sb => ?_⟩
    have hT2 : h''.get? s.heap.objs.size = some { cls := .type "tuple", data := .seq #[es'[i].key, es'[i].val] } := (sb.2 _ (Nat.ne_of_gt hlt)).trans hT
    have new : ObjOk X.prog X.w (upd H s.heap.objs.size (.tup [.ref q, v])) h'' s.heap.objs.size (.tup [.ref q, v]) :=
      ⟨by show 2 ≤ sizeLine; decide, [es'[i].key, es'[i].val], .cons hkey (.cons ru .nil), ⟨_, hT2, rfl, _, rfl⟩⟩
    have I1 : Inv X pins σ (upd H s.heap.objs.size (.tup [.ref q, v])) { s with heap := h'' } :=
      I.turnedNew (t' := s.toks) (ch := [it]) (fun b ob hb e => (sb.2 b (by simpa using hb)).trans (hk b ob (by simpa using hb) e)) hf (Nat.le_refl _) new
    refine ⟨.ref s.heap.objs.size, _, I1, rfl, ⟨_, k, v, q, hkv, rfl, hq, I.hok.fresh (Nat.le_refl _), rfl⟩, ⟨_, _, he'⟩, fun b hb => ?_⟩
    obtain rfl : b = it := by simpa using hb
    rw [upd_ne (Nat.ne_of_lt hlt)]
    exact (hf b (by simp)).1
  done := by
    intro X hP hw hK hc i pins s σ H E I hf st ⟨hd, hi⟩
    subst hP hw hK
    obtain ⟨f0, f1, f2, f3, f4, f5⟩ := hf it (by simp)
    obtain ⟨hs, hgd, hx, es', ep', hdt, hsz, ent⟩ := frzTV I hd
    obtain ⟨rfl, rfl⟩ := dict_ep hod hdt
    obtain ⟨ok, ov, he⟩ := st
    exact wpAny_pyNext_items_end_raw (I.ok.hd hc) he ⟨o, hgd, hx, hdt⟩ (by omega) fun h' eb => ⟨rfl, I.turned (t' := s.toks) (fun b ob hb e => eb b ob hb e) f0 f1 f3 f4 f5⟩
  self := fun A i s Q E st h => let ⟨_, _, e⟩ := st; PySem.W.kcp_self e h
theorem turn_valsT {kvs : List (List Key × V)} (it : Addr) (hod : o.data = .dict es ep) : Turn P w K tg (Itdt d o kvs) [it] it (fun i h => h.IsValIter it d i es.size ep) where
  mem := by simp
  obj := fun i h st b hb => by
    obtain rfl : b = it := by simpa using hb
    obtain ⟨oi, e, c, dd⟩ := st
    exact ⟨oi, e, fun v z => by rw [dd] at z; cases z⟩
  keep := fun i h h' st k => st.at fun oi e => k it (by simp) oi e
  item := by
    intro X hP hw hK hc i pins s σ H E I hf st ⟨hd, hi⟩
    subst hP hw hK
    obtain ⟨f0, f1, f2, f3, f4, f5⟩ := hf it (by simp)
    obtain ⟨hs, hgd, hx, es', ep', hdt, hsz, ent⟩ := frzTV I hd
    obtain ⟨rfl, rfl⟩ := dict_ep hod hdt
    obtain ⟨⟨k, v⟩, hkv⟩ : ∃ p, kvs[i]? = some p := ⟨kvs[i], List.getElem?_eq_getElem hi⟩
    obtain ⟨hi', q, hkey, hq, ru⟩ := ent i k v hkv
    refine wpAny_pyNext_values_item_raw st ⟨o, hgd, hx, hdt⟩ hi' fun h' st' sb => ?_
    have I1 : Inv X pins σ H { s with heap := h' } := I.turned (t' := s.toks) (fun b ob hb e => (sb.2 b hb).trans e) f0 f1 f3 f4 f5
    obtain ⟨oi, e, c, dd⟩ := id st'
    exact ⟨_, rfl, go_of (s := { s with heap := h' }) e c dd (by decide) ⟨v, H, I1, ru, ⟨rfl, k, hkv⟩, st', fun b hb => (hf b hb).1⟩⟩
  done := by
    intro X hP hw hK hc i pins s σ H E I hf st ⟨hd, hi⟩
    subst hP hw hK
    obtain ⟨f0, f1, f2, f3, f4, f5⟩ := hf it (by simp)
    obtain ⟨hs, hgd, hx, es', ep', hdt, hsz, ent⟩ := frzTV I hd
    obtain ⟨rfl, rfl⟩ := dict_ep hod hdt
    exact wpAny_pyNext_values_end_raw (I.ok.hd hc) st ⟨o, hgd, hx, hdt⟩ (by omega) fun h' eb => ⟨rfl, I.turned (t' := s.toks) (fun b ob hb e => eb b ob hb e) f0 f1 f3 f4 f5⟩
  self := fun A i s Q E st h => wpAny_pyIter_valiter st h
end
def iItemsT (td : TE) : TI := fun σ H R => td σ H fun x H1 => ∃ d o kvs, x = .ref d ∧ H1 d = some (.frz o (.dT kvs)) ∧ R (Itit d o kvs) H1
def iValsT (td : TE) : TI := fun σ H R => td σ H fun x H1 => ∃ d o kvs, x = .ref d ∧ H1 d = some (.frz o (.dT kvs)) ∧ R (Itdt d o kvs) H1
section
variable {X : Cx} {tg e : Expr} {td : TE} {apos cpos : Pos}
theorem noDictD {s : Shared} {d : Addr} {o : Obj} (h : s.heap.get? d = some o) (hx : o.ExactDict) : ∀ a, Value.ref d = .ref a → ∃ ob, s.heap.get? a = some ob ∧ ob.dict = none := fun a e => by
  cases e
  exact ⟨o, h, hx.2.1⟩
theorem pi_itemsT {elts : List Expr} {kk : Nat} {tpos : Pos} (he : PE X e td) (hbase : attributeBase e "items" X.env (eval e X.env) = eval e X.env := by rfl) (hline : (apos.endLine == cpos.line) = true := by rfl) :
    PI X (.Tuple elts kk tpos) (.Call (.Attribute e "items" apos) [] [] cpos) (iItemsT td) := by
  refine ⟨fun pins s σ H R I h => ?_⟩
  refine wpAny_Call_method (T := "dict") (id := "dict.items") hbase rfl hline F.plainAttrs_dict F.slot_dict_items F.type_dict_items (thn (he.run pins s σ H _ I h) fun u s1 ⟨x, H1, I1, rx, d, o, kvs, ex, hd, q⟩ => ?_)
  subst ex
  obtain rfl : u = Value.ref d := rx
  obtain ⟨hs, hgd, hx, es, ep, hdt, hsz, ent⟩ := frzTV I1 hd
  have hr : s1.heap.DictRaw d es ep := ⟨o, hgd, hx, hdt⟩
  refine ⟨hr.typeIs, noDictD hgd hx, ?_⟩
  have I2 : Inv X pins σ H1 { s1 with heap := s1.heap.push { cls := .type "dict_items", data := .fields #[.ref d] } } := I1.kept (t' := s1.toks) fun b ob q => Heap.get?_push_of_some _ q
  have fin : wpAny (model X.prog X.w) X.A (pyIter (.ref s1.heap.objs.size)) (PIE X pins σ (.Tuple elts kk tpos) R) X.xe { s1 with heap := s1.heap.push { cls := .type "dict_items", data := .fields #[.ref d] } } := by
    refine wpAny_pyIter_items_raw (d := d) ⟨_, Heap.get?_push_size _ rfl, rfl, rfl⟩ (hr.at fun ob q => Heap.get?_push_of_some _ q) (pi_one (tk := s1.toks) I2 _ (turn_itemsT _ hdt) ⟨.none, .none, ?_⟩ q)
    exact Heap.get?_push_size _ rfl
  show wpAny _ _ (callWith cpos (.builtin "dict.items") [.ref d] [] []) _ X.xe s1
  exact method_meetsIn F.slot_dict_items F.entry_dict_items rfl (PySem.evalArgs_none ⟨rfl, hr.typeIs, F.args_dict_items_1 _, _, meets_dict_items_raw d hs, ⟨_, _, hr⟩, fin⟩)
theorem pi_valuesT (he : PE X e td) (hbase : attributeBase e "values" X.env (eval e X.env) = eval e X.env := by rfl) (hline : (apos.endLine == cpos.line) = true := by rfl) : PI X tg (.Call (.Attribute e "values" apos) [] [] cpos) (iValsT td) := by
  refine ⟨fun pins s σ H R I h => ?_⟩
  refine wpAny_Call_method (T := "dict") (id := "dict.values") hbase rfl hline F.plainAttrs_dict F.slot_dict_values F.type_dict_values (thn (he.run pins s σ H _ I h) fun u s1 ⟨x, H1, I1, rx, d, o, kvs, ex, hd, q⟩ => ?_)
  subst ex
  obtain rfl : u = Value.ref d := rx
  obtain ⟨hs, hgd, hx, es, ep, hdt, hsz, ent⟩ := frzTV I1 hd
  have hr : s1.heap.DictRaw d es ep := ⟨o, hgd, hx, hdt⟩
  refine ⟨hr.typeIs, noDictD hgd hx, ?_⟩
  have I2 : Inv X pins σ H1 { s1 with heap := s1.heap.push { cls := .type "dict_values", data := .fields #[.ref d] } } := I1.kept (t' := s1.toks) fun b ob q => Heap.get?_push_of_some _ q
  have fin : wpAny (model X.prog X.w) X.A (pyIter (.ref s1.heap.objs.size)) (PIE X pins σ tg R) X.xe { s1 with heap := s1.heap.push { cls := .type "dict_values", data := .fields #[.ref d] } } := by
    refine wpAny_pyIter_values_raw (d := d) ⟨_, Heap.get?_push_size _ rfl, rfl, rfl⟩ (hr.at fun ob q => Heap.get?_push_of_some _ q) (pi_one (tk := s1.toks) I2 _ (turn_valsT _ hdt) ?_ q)
    exact ⟨_, Heap.get?_push_size _ rfl, rfl, rfl⟩
  show wpAny _ _ (callWith cpos (.builtin "dict.values") [.ref d] [] []) _ X.xe s1
  exact method_meetsIn F.slot_dict_values F.entry_dict_values rfl (PySem.evalArgs_none ⟨rfl, hr.typeIs, F.args_dict_values_1 _, _, meets_dict_values_raw d hs, ⟨_, _, hr⟩, fin⟩)
end
/-! ### as walks over data -/
theorem RpT.keys {Hf : Hp} : ∀ {kvs : List (List Key × V)} {items : List (List Key × D)}, RpT Hf kvs items → kvs.map (·.1) = items.map (·.1) := by
  intro kvs items r
  induction items generalizing kvs with
  | nil => cases r; rfl
  | cons p ps ih => cases r with
    | cons h t => rw [List.map_cons, List.map_cons, ih t]
theorem RpT.at {Hf : Hp} : ∀ {kvs : List (List Key × V)} {items : List (List Key × D)} {i : Nat} {k : List Key} {v : V} {p : List Key × D}, RpT Hf kvs items → kvs[i]? = some (k, v) → items[i]? = some p → p.1 = k ∧ Rp Hf v p.2 := by
  intro kvs items i k v p r h1 h2
  induction items generalizing kvs i with
  | nil => cases h2
  | cons q qs ih => cases r with
    | cons h t =>
      cases i with
      | zero => cases h1; cases h2; exact ⟨rfl, h⟩
      | succ i => exact ih t (by simpa using h1) (by simpa using h2)
theorem yl_valsT {B : Bs} {K : PySem.W.Frag} {a : Addr} {o : Obj} {kvs : List (List Key × V)} {items : List (List Key × D)} {Hf0 : Hp} (h : Hf0 a = some (.frz o (.dT kvs))) (r : RpT Hf0 kvs items) : Yl B K (Itdt a o kvs) (items.map (·.2)) Hf0 := fun i env ds σ Hf H s S => by
  have hq : H a = some (.frz o (.dT kvs)) := S.sub _ _ (s _ _ h)
  have hl := r.length
  rw [List.length_map]
  refine ⟨fun hi => ⟨⟨hq, by omega⟩, fun x H' y d hd => ?_⟩, fun hi => ⟨hq, by omega⟩⟩
  obtain ⟨rfl, k, e1⟩ := y
  rw [List.getElem?_map, List.getElem?_eq_getElem hi] at hd
  cases hd
  exact ⟨Hf, Gr.refl, S, (r.at e1 (List.getElem?_eq_getElem hi)).2.up s⟩
/-- a tuple of keys may stay -/
theorem fz_key {B : Bs} {K : PySem.W.Frag} {env : En} {ds : DS} {σ : St} {Hf H : Hp} {q : Addr} {k : List Key} (S : SR B K env ds σ Hf H) (e : H q = some (.tup (k.map kV))) : ∃ Hf', Gr B Hf H Hf' H ∧ SR B K env ds σ Hf' H ∧ Rp Hf' (.ref q) (keyT k) := by
  cases hq2 : Hf q with
  | none => exact ⟨upd Hf q (.tup (k.map kV)), ⟨fun a o e => ⟨o, e, fun _ => rfl⟩, same_fz hq2, fun b hb => by
      by_cases h : b = q
      · subst h; exact .inr (.inr ⟨S.noDrT e, _, e⟩)
      · rw [upd_ne h] at hb; exact .inl hb⟩, S.fzT hq2 e, .tup upd_same key_rp⟩
  | some o2 =>
    have := S.sub _ _ hq2
    rw [e] at this
    cases this
    exact ⟨Hf, Gr.refl, S, .tup hq2 key_rp⟩
theorem yl_itemsT {B : Bs} {K : PySem.W.Frag} {a : Addr} {o : Obj} {kvs : List (List Key × V)} {items : List (List Key × D)} {Hf0 : Hp} (h : Hf0 a = some (.frz o (.dT kvs))) (r : RpT Hf0 kvs items) : Yl B K (Itit a o kvs) (items.map fun p => .tuple [keyT p.1, p.2]) Hf0 := fun i env ds σ Hf H s S => by
  have hq : H a = some (.frz o (.dT kvs)) := S.sub _ _ (s _ _ h)
  have hl := r.length
  rw [List.length_map]
  refine ⟨fun hi => ⟨⟨hq, by omega⟩, fun x H' y d hd => ?_⟩, fun hi => ⟨hq, by omega⟩⟩
  obtain ⟨T, k, v, q, e1, rfl, e2, nT, rfl⟩ := y
  rw [List.getElem?_map, List.getElem?_eq_getElem hi] at hd
  cases hd
  obtain ⟨ek, rv⟩ := r.at e1 (List.getElem?_eq_getElem hi)
  show ∃ Hf', Gr B Hf H Hf' (upd H T (HO.tup [V.ref q, v])) ∧ SR B K env ds σ Hf' (upd H T (HO.tup [V.ref q, v])) ∧ Rp Hf' (V.ref T) (D.tuple [keyT items[i].1, items[i].2])
  rw [ek]
  obtain ⟨Hf1, g1, S1, r1⟩ := fz_key S e2
  have nf := sub_none S1 nT
  have F := S1.fre nT
  exact ⟨_, (g1.hp nT).fz nT nf, (S1.hp nf F).fz nf upd_same F, .tup upd_same ((RpL.cons r1 (.cons (rv.up (s.trans g1.ff)) .nil)).up (same_fz nf))⟩
def itemsD : D → Option (List D)
  | .dT kvs => some (kvs.map fun p => .tuple [keyT p.1, p.2])
  | _ => none
def valsD : D → Option (List D)
  | .dT kvs => some (kvs.map (·.2))
  | _ => none
def dIt (g : D → Option (List D)) (f : Den) : DenA := fun env ds => bnd (f env ds) fun a s => op1 (g a) s
section
variable {X : Cx} {tg e : Expr} {f : Den} {apos cpos : Pos}
theorem evi_items {elts : List Expr} {kk : Nat} {tpos : Pos} (hf : EvF X e f) (hbase : attributeBase e "items" X.env (eval e X.env) = eval e X.env := by rfl) (hline : (apos.endLine == cpos.line) = true := by rfl) :
    EvI X (.Tuple elts kk tpos) (.Call (.Attribute e "items" apos) [] [] cpos) (dIt itemsD f) := fun B env ds σ Hf H items ds' S he R q => by
  obtain ⟨v1, s1, e1, e⟩ := bnd_eq he
  obtain ⟨e3, rfl⟩ := op1_eq e
  unfold itemsD at e3
  split at e3
  · cases e3
    refine SI.of (pi_itemsT (pe_se X _) hbase hline) (hf B env ds σ Hf H _ _ S e1 _ fun v Hf1 H1 g1 S1 r1 => ?_)
    cases r1 with
    | dT h1 r => exact ⟨_, _, _, rfl, S1.sub _ _ h1, q _ _ _ g1 S1 (yl_itemsT h1 r)⟩
  · cases e3
theorem evi_vals (hf : EvF X e f) (hbase : attributeBase e "values" X.env (eval e X.env) = eval e X.env := by rfl) (hline : (apos.endLine == cpos.line) = true := by rfl) :
    EvI X tg (.Call (.Attribute e "values" apos) [] [] cpos) (dIt valsD f) := fun B env ds σ Hf H items ds' S he R q => by
  obtain ⟨v1, s1, e1, e⟩ := bnd_eq he
  obtain ⟨e3, rfl⟩ := op1_eq e
  unfold valsD at e3
  split at e3
  · cases e3
    refine SI.of (pi_valuesT (pe_se X _) hbase hline) (hf B env ds σ Hf H _ _ S e1 _ fun v Hf1 H1 g1 S1 r1 => ?_)
    cases r1 with
    | dT h1 r => exact ⟨_, _, _, rfl, S1.sub _ _ h1, q _ _ _ g1 S1 (yl_valsT h1 r)⟩
  · cases e3
end
end L2.Dn
set_option Elab.async false
set_option linter.all false
set_option maxRecDepth 100000
/-! dict comprehensions whose keys are tuples (after HandS.DictComp) -/
namespace L2.Dn
open PySem PySem.Spec PyProof.Rows
/-- d[k] = v by a comprehension, the key a tuple -/
theorem d_dictSetT {X : Cx} {pins : List (Addr × Obj)} {σ : St} {H : Hp} {s : Shared} {E : Value → Shared → Prop} {D b : Addr} {kvs : List (List Key × V)} {k : List Key} {v : V} {r : Value} {Q : Unit → Shared → Prop} (hu : X.A.units + 8 < cLine) (I : Inv X pins σ H s) (hD : H D = some (.dT kvs)) (hz : kvs.length < sizeLine)
    (eb : H b = some (.tup (k.map kV))) (rv : RelV v r) (h : ∀ s', Inv X pins σ (upd H D (.dT (putK kvs k v))) s' → Q () s') : wpAny (model X.prog X.w) X.A (dictSet D (.ref b) r) Q E s := by
  obtain ⟨z, hd, xs, rel, dd⟩ := dt_of I.hok hD
  have hzx : xs.length ≤ sizeLine := by rw [← Paired.length rel]; exact z
  have hl : (putK kvs k v).length ≤ sizeLine := by have := length_putK kvs k v; omega
  refine wpAny_dictSet_heap (hsz := hzx) (knd := tupleKind (mixKind X.prog X.w)) (show X.A.units < cLine by omega) (key_of I.hok eb) dd fun h' dd' hs => h _ ?_
  obtain ⟨q, es, ep, hq, h2, h3, h4, _, h5⟩ := dd'
  refine d_write I (by rw [hD]; exact True.intro) hs ⟨q, hq⟩ ⟨hl, hd, _, (rel.put k eb rv).keeps fun c ys ec => ?_, q, es, ep, hq, h2, h3, h4, h5⟩
  rw [upd_ne (ne_of ec hD (fun z => nomatch z))]
  exact ec
section
variable {X : Cx}
def tDcT (wi : TI) (g : TG) (tt : TT) (tk tv : TE) (vs : List Nat) : TE := fun σ H Q => wi σ H fun J H1 => ∀ D, H1 D = none → ∃ W : Nat → Nat → Hp → Prop, (∃ m, W 0 m (upd H1 D (.dT []))) ∧ ∀ i m H, W i m H →
  (J.stop i H ∧ Q (.ref D) H) ∨ (J.go i H ∧ ∃ Nx : Hp → Prop, (∀ H', Nx H' → ∃ m', m' < m ∧ W (i + 1) m' H') ∧ ∀ x H', J.yld i H x H' → g x (wipe σ vs) H' fun σ2 H2 => wipe σ2 vs = wipe σ vs ∧ tt σ2 H2 fun b H3 =>
    if b = true then tk σ2 H3 fun y H4 => tv σ2 H4 fun z H5 => ∃ (kvs : List (List Key × V)) (k : List Key) (b : Addr), (y = V.ref b ∧ H5 b = some (.tup (k.map kV))) ∧ H5 D = some (.dT kvs) ∧ kvs.length < sizeLine ∧ Nx (upd H5 D (.dT (putK kvs k z))) else Nx H3)
theorem dcT_core {pins : List (Addr × Obj)} {s : Shared} {σ : St} {H : Hp} {Q : VK} {kx vx tg iter : Expr} {ifs : List Expr} {scope : Scope} {own : List (Str × Nat)} {pos pos' : Pos} {wi : TI} {g : TG} {tt : TT} {tk tv : TE} {use : Option (Value → Sem Unit)} {Qf : Value → Shared → Prop}
    (hu : X.A.units + 8 < cLine) (hc : X.calm = true) (hN : X.N.Nodup) (I : Inv X pins σ H s) (hi : PI X tg iter wi) (ok : BlkOk X.N X.env.scope scope own)
    (hg : ∀ (s : Shared) (H : Hp) (C : Addr) (cl : List (Str × Addr)) (fp : List Addr), PG (X.blk s H scope (compEnvC scope cl C X.env) fp) tg g) (ht : ∀ (s : Shared) (H : Hp) (C : Addr) (cl : List (Str × Addr)) (fp : List Addr), PTs (X.blk s H scope (compEnvC scope cl C X.env) fp) ifs tt)
    (hk : ∀ (s : Shared) (H : Hp) (C : Addr) (cl : List (Str × Addr)) (fp : List Addr), PE (X.blk s H scope (compEnvC scope cl C X.env) fp) kx tk)
    (he : ∀ (s : Shared) (H : Hp) (C : Addr) (cl : List (Str × Addr)) (fp : List Addr), PE (X.blk s H scope (compEnvC scope cl C X.env) fp) vx tv) (hs : ∀ x, foldedSetIterable iter X.env x = pure x)
    (h : tDcT wi g tt tk tv (own.map (·.2)) σ H Q)
    (hRR : ∀ D C s' m H', Inv X pins σ H' s' → Q (.ref D) H' → s'.heap.Ns C m → FpOk X pins H' C → compPost (model X.prog X.w) X.A X.xe use Qf (.ref D) C (.ok .next) s') :
    wpAny (model X.prog X.w) X.A (comprehension (.DictComp kx vx [⟨tg, iter, ifs, 0⟩] scope pos) scope X.env pos' newDict false (eval iter X.env) use) Qf X.xe s := by
  have hfree : ∀ y ∈ scope.names, y.2 = .free → ∃ c, X.env.cells.lookup y.1 = some c := fun y hy e => by
    rcases ok.free y hy e with k | k
    · exact I.ok.has _ (.inl k)
    · exact I.ok.has _ (.inr k)
  refine wpAny_comprehension_free (use := use) rfl hs (closure_ok hfree) ok.kind (fun y hy e => by rw [ok.uniq y hy, e])
    (thn (hi.run pins s σ H _ I h) fun xv s1 hx => thn hx fun itv s2 h2 => ?_)
  obtain ⟨it, fp, tn, J, H2, e, I2, T, st2, f2, q⟩ := h2
  subst e
  refine wpAny_newObj_type (newEnv_comp ?_)
  generalize hD : s2.heap.objs.size = D
  have hDn : H2 D = none := I2.hok.fresh (Nat.le_of_eq hD)
  obtain ⟨W, ⟨m0, w0⟩, turn⟩ := q D hDn
  -- the new list
  generalize hs3 : ({ s2 with heap := s2.heap.push { cls := .type "dict", data := .dict #[] } } : Shared) = s3
  have I3 : Inv X pins σ (upd H2 D (.dT [])) s3 := by
    rw [← hs3]
    refine I2.laid (t' := s2.toks) (fun b o e => Heap.get?_push_of_some _ e) (Nat.le_of_eq hD) ?_
    rw [← hD]
    exact dt_empty s2.heap I2.big
  have h3 : s3.heap = s2.heap.push { cls := .type "dict", data := .dict #[] } := by rw [← hs3]
  have sz : ∀ b ∈ fp, b < s2.heap.objs.size := fun b hb => by
    obtain ⟨o, e, _⟩ := T.obj _ _ st2 b hb
    exact Heap.lt_size e
  have f3 : ∀ b ∈ fp, FpOk X pins (upd H2 D (.dT [])) b ∧ b < s3.heap.objs.size := fun b hb => by
    have hlt := sz b hb
    refine ⟨⟨?_, (f2 b hb).2⟩, by rw [h3, Heap.size_push]; exact Nat.lt_succ_of_lt hlt⟩
    rw [upd_ne (by rw [← hD]; exact Nat.ne_of_lt hlt)]
    exact (f2 b hb).1
  have st3 : tn 0 s3.heap := T.keep _ _ _ st2 fun b _ o e => by rw [h3]; exact Heap.get?_push_of_some _ e
  have I4 := block_start I3 ok hN f3
  have pg := hg s3 (upd H2 D (.dT [])) s3.heap.objs.size (cellsFrom (s3.heap.objs.size + 1) scope.names (cloFrom X.env.cells scope.names [])) fp
  have pt := ht s3 (upd H2 D (.dT [])) s3.heap.objs.size (cellsFrom (s3.heap.objs.size + 1) scope.names (cloFrom X.env.cells scope.names [])) fp
  have pk := hk s3 (upd H2 D (.dT [])) s3.heap.objs.size (cellsFrom (s3.heap.objs.size + 1) scope.names (cloFrom X.env.cells scope.names [])) fp
  have pe := he s3 (upd H2 D (.dT [])) s3.heap.objs.size (cellsFrom (s3.heap.objs.size + 1) scope.names (cloFrom X.env.cells scope.names [])) fp
  show codeAny _ _ (.compStart (.DictComp kx vx [⟨tg, iter, ifs, 0⟩] scope pos) 0 (.ref it) (.ref D) (compEnvC scope (cellsFrom (s3.heap.objs.size + 1) scope.names (cloFrom X.env.cells scope.names [])) s3.heap.objs.size X.env)) (compPost (model X.prog X.w) X.A X.xe use Qf (.ref D) s3.heap.objs.size) { s3 with heap := pushCells (s3.heap.push { cls := .type "dict", data := .dict #[] }) scope.names }
  have nfp : ∀ b ∈ fp, (upd H2 D (.dT [])) b = none := fun b hb => (f3 b hb).1.1
  generalize hce : compEnvC scope (cellsFrom (s3.heap.objs.size + 1) scope.names (cloFrom X.env.cells scope.names [])) s3.heap.objs.size X.env = ce at I4 pg pt pk pe ⊢
  have cL : ce.locals = s3.heap.objs.size := by subst hce; rfl
  generalize hH3 : upd H2 D (.dT []) = H3 at I3 I4 pg pt pk pe w0 nfp f3
  generalize hs4 : ({ s3 with heap := pushCells (s3.heap.push { cls := .type "dict", data := .dict #[] }) scope.names } : Shared) = s4 at I4 ⊢
  have st4 : tn 0 s4.heap := T.keep _ _ _ st3 fun b _ o e => by rw [← hs4]; exact pushCells_keeps _ _ _ _ (Heap.get?_push_of_some _ e)
  have stat : ∀ {σ' : St} {H' : Hp} {s' : Shared}, Inv (X.blk s3 H3 scope ce fp) [] σ' H' s' → (∀ b ∈ fp, H' b = none) → ∀ b ∈ fp, FpOk (X.blk s3 H3 scope ce fp) [] H' b := fun {σ' H' s'} I' hn b hb =>
    ⟨hn b hb, (I'.ok.exf b hb).1, I'.ok.exfs b hb, .inl hb, fun x c e => (I'.ok.exf b hb).2 x c e, fun p hp => absurd (show p ∈ ([] : List (Addr × Obj)) ++ [] from hp) (by simp)⟩
  have loop : codeAny (model X.prog X.w) X.A (.compLoop (.DictComp kx vx [⟨tg, iter, ifs, 0⟩] scope pos) 0 (.ref it) (.ref D) ce) (compPost (model X.prog X.w) X.A X.xe use Qf (.ref D) s3.heap.objs.size) s4 := by
    refine compLoop_anyD (fun n s' => ∃ i H', Inv (X.blk s3 H3 scope ce fp) [] (wipe σ (own.map (·.2))) H' s' ∧ tn i s'.heap ∧ (∀ b ∈ fp, H' b = none) ∧ W i n H') ?_ m0 ⟨0, H3, I4, st4, nfp, w0⟩
    rintro n s5 ⟨i, H5, I5, st5, n5, w5⟩
    rcases turn i n H5 w5 with ⟨stop, qq⟩ | ⟨go, Nx, hNx, step⟩
    · have td := T.done (X.blk s3 H3 scope ce fp) rfl rfl rfl hc i [] s5 _ H5 (fun _ _ => False) I5 (stat I5 n5) st5 stop
      refine thnF td fun r s6 ⟨hr, I6⟩ => ?_
      subst hr
      -- back in the def's context
      have I7 : Inv X pins σ H5 s6 := I3.call' (ch := fp) I6.os I6.base I6.hok I6.bare fun b hb => ⟨(f3 b hb).1.2.2.2.1, (f3 b hb).1.2.1, (f3 b hb).1.2.2.2.2.1, (f3 b hb).1.2.2.2.2.2⟩
      have nC : H5 s3.heap.objs.size = none := by
        have z : H5 ce.locals = none := I6.free
        rw [cL] at z
        exact z
      obtain ⟨m, hn, _⟩ := I6.loc
      have hn : s6.heap.Ns ce.locals m := hn
      rw [cL] at hn
      exact hRR D s3.heap.objs.size s6 m H5 I7 qq hn (I3.fpOk (Nat.le_refl _) nC)
    · have ti := T.item (X.blk s3 H3 scope ce fp) rfl rfl rfl hc i [] s5 _ H5 (fun _ _ => False) I5 (stat I5 n5) st5 go
      refine thnF ti fun r s6 ⟨u, hr, h6⟩ => ?_
      subst hr
      refine thnF h6 fun _ s7 ⟨x, H7, I7, r7, y7, st7, n7⟩ => ?_
      have I7' := I7.pinned (stat I7 n7) (T.obj _ _ st7)
      refine thnF (pg.run _ s7 _ H7 x u _ I7' r7 (step x H7 y7)) fun _ s8 ⟨σ8, H8, I8, hw8, q8⟩ => ?_
      refine thnF (pt.run _ s8 σ8 H8 _ I8 q8) fun b s9 ⟨H9, I9, q9⟩ => ?_
      -- the turn's end
      have fin : ∀ {s' : Shared} {H' : Hp}, Inv (X.blk s3 H3 scope ce fp) ([] ++ pinsAt fp s7.heap) σ8 H' s' → Nx H' → ∃ m, m < n ∧ ∃ i H', Inv (X.blk s3 H3 scope ce fp) [] (wipe σ (own.map (·.2))) H' s' ∧ tn i s'.heap ∧ (∀ b ∈ fp, H' b = none) ∧ W i m H' := fun {s' H'} I' nx => by
        obtain ⟨m', hm, w'⟩ := hNx H' nx
        have pin' : ∀ b ∈ fp, ∀ o, s7.heap.get? b = some o → s'.heap.get? b = some o ∧ H' b = none := fun b hb o e =>
          let z := I'.pin (b, o) (List.mem_append_right _ (List.mem_append_right _ (mem_pinsAt hb e)))
          ⟨z.1, z.2.1⟩
        have hl : (wipe σ (own.map (·.2))).length = σ8.length := by rw [← hw8, wipe_length]
        refine ⟨m', hm, i + 1, H', (I'.unpinned (pins := [])).weak hl (fun j v e => ?_), T.keep _ _ _ st7 fun b hb o e => (pin' b hb o e).1, fun b hb => ?_, w'⟩
        · rw [← hw8] at e
          exact (wipe_some e).1
        · obtain ⟨o, e, _⟩ := T.obj _ _ st7 b hb
          exact (pin' b hb o e).2
      cases b with
      | false =>
        simp only [Bool.false_eq_true, if_false] at q9 ⊢
        exact fin I9 q9
      | true =>
        simp only [if_true] at q9 ⊢
        refine thnF (pk.run _ s9 σ8 H9 _ I9 q9) fun z s10 ⟨yk, H10, I10, r10, q10⟩ => ?_
        refine thnF (pe.run _ s10 σ8 H10 _ I10 q10) fun z2 s11 ⟨yv, H11, I11, r11, kvs, k, b11, ek, hD11, hz11, nx⟩ => ?_
        obtain ⟨ek, hb11⟩ := ek
        subst ek
        cases (show z = Value.ref _ from r10)
        exact d_dictSetT (X := X.blk s3 H3 scope ce fp) hu I11 hD11 hz11 hb11 r11 fun s12 I12 => fin I12 nx
  exact codeAny_compStart_dict loop (T.self X.A 0 _ _ _ st4 loop)
theorem pe_dcT {kx vx tg iter : Expr} {ifs : List Expr} {scope : Scope} {own : List (Str × Nat)} {pos : Pos} {wi : TI} {g : TG} {tt : TT} {tk tv : TE} (hu : X.A.units + 8 < cLine) (hc : X.calm = true) (hN : X.N.Nodup) (hi : PI X tg iter wi) (ok : BlkOk X.N X.env.scope scope own)
    (hg : Blks X scope fun Y => PG Y tg g) (ht : Blks X scope fun Y => PTs Y ifs tt) (hk : Blks X scope fun Y => PE Y kx tk) (he : Blks X scope fun Y => PE Y vx tv) (hs : ∀ x, foldedSetIterable iter X.env x = pure x := by intro _; rfl) :
    PE X (.DictComp kx vx [⟨tg, iter, ifs, 0⟩] scope pos) (tDcT wi g tt tk tv (own.map (·.2))) := by
  refine ⟨fun pins s σ H Q I h => ?_⟩
  rw [arm_eval_DictComp]
  refine dcT_core hu hc hN I hi ok hg ht hk he hs h fun D C s' m H' I' q hn f => ⟨m, hn, fun h'' sb => ?_⟩
  obtain ⟨f0, f1, f2, f3, f4, f5⟩ := f
  exact ⟨.ref D, H', I'.turned (t' := s'.toks) (fun b o hb e => (sb.2 b hb).trans e) f0 f1 f3 f4 f5, rfl, q⟩
end
end L2.Dn
set_option Elab.async false
set_option linter.all false
set_option maxRecDepth 100000
namespace L2.Dn
open PySem PySem.Spec PyProof.Rows
def dcLoop (gg : DenG) (t : DenT) (fk fv : Den) (env0 : En) : List D → DS → List (List Key × D) → Option (List (List Key × D) × DS)
  | [], s, acc => some (acc, s)
  | d :: r, s, acc => match gg d env0 with
    | none => none
    | some env' => bnd (t env' s) fun b s1 => match b with
      | false => dcLoop gg t fk fv env0 r s1 acc
      | true => bnd (fk env' s1) fun k s2 => bnd (fv env' s2) fun v s3 => match keyOf? k with
        | none => none
        | some ks => if acc.length < 100000 then dcLoop gg t fk fv env0 r s3 (putT acc ks v) else none
def dDc (gi : DenA) (own : List Nat) (gg : DenG) (t : DenT) (fk fv : Den) : Den := fun env ds => bnd (gi env ds) fun items s => bnd (dcLoop gg t fk fv (wipeE env own) items s []) fun r s' => some (.dT r, s')
theorem dcLoop_cons {gg : DenG} {t : DenT} {fk fv : Den} {env0 : En} {d : D} {r : List D} {s s' : DS} {acc ys : List (List Key × D)} (h : dcLoop gg t fk fv env0 (d :: r) s acc = some (ys, s')) :
    ∃ env' b s1, gg d env0 = some env' ∧ t env' s = some (b, s1) ∧ ((b = false ∧ dcLoop gg t fk fv env0 r s1 acc = some (ys, s')) ∨ (b = true ∧ ∃ k s2 v s3 ks, fk env' s1 = some (k, s2) ∧ fv env' s2 = some (v, s3) ∧ keyOf? k = some ks ∧ acc.length < 100000 ∧ dcLoop gg t fk fv env0 r s3 (putT acc ks v) = some (ys, s'))) := by
  unfold dcLoop at h
  split at h
  · cases h
  · rename_i env' e1
    obtain ⟨b, s1, e2, h⟩ := bnd_eq h
    refine ⟨env', b, s1, e1, e2, ?_⟩
    cases b with
    | false => exact .inl ⟨rfl, h⟩
    | true =>
      obtain ⟨k, s2, e3, h⟩ := bnd_eq h
      obtain ⟨v, s3, e4, h⟩ := bnd_eq h
      cases e5 : keyOf? k with
      | none => simp only [e5] at h; cases h
      | some ks =>
        simp only [e5] at h
        split at h
        · rename_i hz
          exact .inr ⟨rfl, k, s2, v, s3, ks, e3, e4, e5, hz, h⟩
        · cases h
theorem wipe_idem (own : List Nat) (σ : St) : L2.wipe (L2.wipe σ own) own = L2.wipe σ own := by
  have idem : ∀ (vs : List Nat) (τ : St), (∀ j ∈ vs, j ∈ own) → L2.wipe (L2.wipe τ own) vs = L2.wipe τ own := by
    intro vs τ hv
    apply List.ext_getElem?
    intro j
    by_cases hj : j ∈ vs
    · have f : ∀ (τ : St) (us : List Nat), j ∈ us → (L2.wipe τ us)[j]? = if j < τ.length then some none else none := by
        intro τ us
        induction us with
        | nil => intro h; cases h
        | cons u us ih =>
          intro h
          show ((L2.wipe τ us).set u none)[j]? = _
          by_cases e : u = j
          · subst e
            rw [List.getElem?_set_self', ← wipe_length τ us]
            by_cases hlt : u < (L2.wipe τ us).length
            · rw [if_pos hlt, List.getElem?_eq_getElem hlt]; rfl
            · rw [if_neg hlt, List.getElem?_eq_none (by omega)]; rfl
          · rw [List.getElem?_set_ne e]
            exact ih ((List.mem_cons.mp h).elim (fun z => absurd z.symm e) id)
      rw [f _ vs hj, f τ _ (hv j hj), wipe_length]
    · rw [wipe_out hj]
  exact idem own σ fun j h => h
section
variable {X : Cx} {tg iter kx vx : Expr} {ifs : List Expr} {scope : Scope} {own : List (Str × Nat)} {pos : Pos} {gi : DenA} {ts : List Nat} {gg : DenG} {t : DenT} {fk fv : Den}
theorem dc_reading {tt : TT} (hi : EvI X tg iter gi) (hg : Blks X scope fun Y => EvG Y tg ts gg)
    (ht : ∀ B env ds σ Hf H d ds', SR B X.K env ds σ Hf H → t env ds = some (d, ds') → ∀ Q : Bool → Hp → Prop, CT B X.K env ds' σ Hf H d Q → tt σ H Q)
    (hk : Blks X scope fun Y => EvF Y kx fk) (hv : Blks X scope fun Y => EvF Y vx fv) (hts : ∀ j ∈ ts, j ∈ own.map (·.2)) {B : Bs} {env : En} {ds ds' : DS} {σ : St} {Hf H : Hp} {d : D} (S : SR B X.K env ds σ Hf H) (hf : dDc gi (own.map (·.2)) gg t fk fv env ds = some (d, ds')) {Q : VK} (q : CN B X.K env ds' σ Hf H d Q) :
    tDcT (SI X tg iter) (SGb X scope tg) tt (SEb X scope kx) (SEb X scope vx) (own.map (·.2)) σ H Q := by
  obtain ⟨items, s1, e1, e⟩ := bnd_eq hf
  obtain ⟨r, s2, e2, e⟩ := bnd_eq e
  cases e
  refine hi B env ds σ Hf H _ _ S e1 _ fun J Hf1 H1 g1 S1 y1 => ?_
  intro Dd nD
  have nD0 : H Dd = none := g1.fresh nD
  have nfD1 : Hf1 Dd = none := sub_none S1 nD
  have ndD : ¬ B.isDr Dd := S1.noDr nD
  refine ⟨fun i m H' => m = items.length - i ∧ i ≤ items.length ∧ ∃ Hf' si accV acc, Gr B Hf1 H1 Hf' H' ∧ Hf' Dd = none ∧ SR B X.K env si σ Hf' H' ∧ H' Dd = some (.dT accV) ∧ RpT Hf' accV acc ∧ dcLoop gg t fk fv (wipeE env (own.map (·.2))) (items.drop i) si acc = some (r, ds'),
    ⟨items.length, by simp, Nat.zero_le _, Hf1, s1, [], [], Gr.refl.hp nD, nfD1, S1.hp nfD1 (S1.fre nD), upd_same, .nil, by rw [List.drop_zero]; exact e2⟩, ?_⟩
  rintro i m H' ⟨rfl, hi', Hf', si, accV, acc, g2, nfD, S2, hD, rD, el⟩
  obtain ⟨yg, ys0⟩ := y1 i env si σ Hf' H' g2.ff S2
  cases hd : items.drop i with
  | nil =>
    have hl : items.length ≤ i := by
      rcases Nat.lt_or_ge i items.length with z | z
      · rw [List.drop_eq_getElem_cons z] at hd; cases hd
      · exact z
    rw [hd] at el
    cases el
    exact .inl ⟨ys0 hl, q Dd Hf' H' (g1.trans g2) S2 nD0 nfD (.dT hD rD)⟩
  | cons it rest =>
    obtain ⟨hlt, hit, hrest⟩ := drop_at hd
    rw [hd] at el
    obtain ⟨env', b, s3, k1, k2, k3⟩ := dcLoop_cons el
    obtain ⟨yg1, yg2⟩ := yg hlt
    refine .inr ⟨yg1, fun H2 => (items.length - (i + 1) = items.length - (i + 1) ∧ i + 1 ≤ items.length ∧ ∃ Hf' si accV acc, Gr B Hf1 H1 Hf' H2 ∧ Hf' Dd = none ∧ SR B X.K env si σ Hf' H2 ∧ H2 Dd = some (.dT accV) ∧ RpT Hf' accV acc ∧ dcLoop gg t fk fv (wipeE env (own.map (·.2))) (items.drop (i + 1)) si acc = some (r, ds')), fun H2 h2 => ⟨_, by omega, h2⟩, fun x H3 yx => ?_⟩
    obtain ⟨Hf3, g3, S3, r3⟩ := yg2 x H3 yx it hit
    intro bs bH bC bcl bfp
    refine hg bs bH bC bcl bfp B _ env' si _ Hf3 H3 it x (S3.wipe _) r3 k1 _ fun σ4 S4 l4 o4 => ?_
    refine ⟨(wipe_eq (ts := ts) l4 o4 hts).trans (wipe_idem _ _), ?_⟩
    refine ht B env' si σ4 Hf3 H3 b s3 S4 k2 _ fun Hf5 H5 g5 S5 => ?_
    have gA := (g2.trans g3).trans g5
    have ne3 : ∀ {Hx : Hp}, Hx Dd = some (.dT accV) → Hx Dd ≠ none := fun h => by rw [h]; simp
    have nt3 : ∀ {Hx : Hp}, Hx Dd = some (.dT accV) → ∀ xs, Hx Dd ≠ some (.tup xs) := fun h xs z => by rw [h] at z; cases z
    have hD3 : H3 Dd = some (.dT accV) := g3.at hD ndD
    have hD5 : H5 Dd = some (.dT accV) := g5.at hD3 ndD
    have rD5 : RpT Hf5 accV acc := (rD.up g3.ff).up g5.ff
    have So := (S2.moveTo g3 S3).moveTo g5 S5
    have nfD3 : Hf3 Dd = none := g3.noF nfD (ne3 hD) (nt3 hD)
    have nfD5 : Hf5 Dd = none := g5.noF nfD3 (ne3 hD3) (nt3 hD3)
    rcases k3 with ⟨rfl, k3⟩ | ⟨rfl, k, s6, v, s7, ks, k4, k5, k6, hz, k7⟩
    · rw [if_neg Bool.false_ne_true]
      exact ⟨rfl, hlt, Hf5, s3, accV, acc, gA, nfD5, So, hD5, rD5, by rw [hrest]; exact k3⟩
    · rw [if_pos rfl]
      intro cs cH cC ccl cfp
      refine hk cs cH cC ccl cfp B env' s3 σ4 Hf5 H5 k s6 S5 k4 _ fun kv Hf7 H7 g7 S7 r7 => ?_
      intro es eH eC ecl efp
      refine hv es eH eC ecl efp B env' s6 σ4 Hf7 H7 v s7 S7 k5 _ fun vv Hf8 H8 g8 S8 r8 => ?_
      obtain ⟨kb, rfl, hkb⟩ := keyOf_rd (B := B) (H := H7) (.fz r7) k6
      have hD7 : H7 Dd = some (.dT accV) := g7.at hD5 ndD
      have hD8 : H8 Dd = some (.dT accV) := g8.at hD7 ndD
      have rD8 : RpT Hf8 accV acc := (rD5.up g7.ff).up g8.ff
      have nfD7 : Hf7 Dd = none := g7.noF nfD5 (ne3 hD5) (nt3 hD5)
      have nfD8 : Hf8 Dd = none := g8.noF nfD7 (ne3 hD7) (nt3 hD7)
      have F : Fre B env σ Dd := S1.fre nD
      have S9 := ((So.moveTo g7 S7).moveTo g8 S8).hp (o := .dT (putK accV ks vv)) nfD8 F
      exact ⟨accV, ks, kb, ⟨rfl, S8.sub _ _ (g8.ff _ _ hkb)⟩, hD8, by rw [sizeLine_eq, rD.length]; omega, rfl, hlt, Hf8, s7, putK accV ks vv, putT acc ks v, ((gA.trans g7).trans g8).hp nD, nfD8, S9, upd_same, rD8.put r8, by rw [hrest]; exact k7⟩
/-- {k: v for tg in iter if ..}, the keys tuples -/
theorem evn_dc (hu : X.A.units + 8 < cLine) (hc : X.calm = true) (hN : X.N.Nodup) (ok : BlkOk X.N X.env.scope scope own) (hi : EvI X tg iter gi) (hg : Blks X scope fun Y => EvG Y tg ts gg) (ht : EvTb X scope ifs t) (hk : Blks X scope fun Y => EvF Y kx fk) (hv : Blks X scope fun Y => EvF Y vx fv)
    (hts : ∀ j ∈ ts, j ∈ own.map (·.2)) (hs : ∀ x, foldedSetIterable iter X.env x = pure x := by intro _; rfl) : EvN X (.DictComp kx vx [⟨tg, iter, ifs, 0⟩] scope pos) (dDc gi (own.map (·.2)) gg t fk fv) := fun B env ds σ Hf H d ds' S hf Q q => by
  obtain ⟨tt, pt, kt⟩ := ht
  exact SE.of (pe_dcT (wi := SI X tg iter) (g := SGb X scope tg) (tt := tt) (tk := SEb X scope kx) (tv := SEb X scope vx) hu hc hN (pi_si X tg iter) ok (fun s H C cl fp => ⟨fun pins s' σ' H' v u Q' I r h => h s H C cl fp pins s' u I r⟩) pt (fun s H C cl fp => ⟨fun pins s' σ' H' Q' I h => h s H C cl fp pins s' I⟩) (fun s H C cl fp => ⟨fun pins s' σ' H' Q' I h => h s H C cl fp pins s' I⟩) hs)
    (dc_reading hi hg kt hk hv hts S hf q)
end
end L2.Dn
set_option Elab.async false
set_option linter.all false
set_option maxRecDepth 100000
/-! dict(d) of a dict with tuple keys -/
namespace L2.Dn
open PySem PySem.Spec PyProof.Rows
section
variable {prog : Program} {w : World} {A : Around} {E : Value → Shared → Prop} {s : Shared} {K : Type} [DecidableEq K] {knd : HeapKind prog w K}
theorem call_dictH {o : Addr} {more : List (K × Addr × Value)} {Q : Value → Shared → Prop} (hu : knd.room A.in1.in1) (hoS : (o == sysModules) = false) (ho : s.heap.DictOfH knd o more) (hsz : more.length ≤ sizeLine) (his : ∀ x ∈ more, knd.is (s.heap.push { cls := .type "dict", data := .dict #[] }) x.1 x.2.1)
    (hty : ∀ x ∈ more, s.TypeIs (.ref x.2.1) "tuple") (hh : (more.map fun x => knd.hash x.1).Nodup)
    (h : ∀ h', h'.DictOfH knd s.heap.objs.size more → Heap.SameBut s.heap.objs.size (s.heap.push { cls := .type "dict", data := .dict #[] }) h' → Q (.ref s.heap.objs.size) { s with heap := h' }) :
    wpAny (model prog w) A (call (.type "dict") [.ref o]) Q E s := by
  refine callType_codes (Q₁ := fun obj s₁ => obj = .ref s.heap.objs.size ∧ s₁ = { s with heap := s.heap.push { cls := .type "dict", data := .dict #[] } }) F.kt_called_dict (F.kt_typeCall_dict_1 _) F.entry_dict_init (kt_code_dict_new _ ⟨rfl, rfl⟩) ?_
  rintro obj s₁ ⟨rfl, rfl⟩
  have hnew : (s.heap.push { cls := .type "dict", data := .dict #[] }).DictOfH knd s.heap.objs.size [] := Heap.DictOfH.new s.heap
  have ho' : (s.heap.push { cls := .type "dict", data := .dict #[] }).DictOfH knd o more := ho.at' (fun _ e => Heap.get?_push_of_some _ e) his
  have hn := ho.nodup
  have hdo : s.heap.objs.size ≠ o := fun e => absurd ho.lt_size (by rw [e]; exact Nat.lt_irrefl _)
  refine ⟨hnew.typeIs, F.args_dict_init_2 _ _, ?_⟩
  unfold Builtin.«dict.__init__»
  refine wpAny_bind ?_
  unfold Builtin.Dict.selfAndRest
  refine wpAny_bind (wpAny_notOrdered_dict hnew.typeIs ?_)
  show wpAny _ _ (pure (s.heap.objs.size, [Value.ref o])) _ _ _
  refine wpAny_pure ?_
  show wpAny _ _ (Builtin.Dict.updateFrom "dict.__init__" s.heap.objs.size (.ref o) [] .none) _ _ _
  refine updateFrom_dictH .none hu hdo hoS hnew ho' (.inr ⟨fun x hx => ?_, hh⟩) (by simpa using hsz) fun h' hd' _ hs' => ?_
  · obtain ⟨ob, e, c⟩ := hty x hx
    exact ⟨ob, Heap.get?_push_of_some _ e, c⟩
  · rw [storedAllH_nil_of_nodup more hn] at hd'
    exact ⟨rfl, h h' hd' hs'⟩
end
/-! the hash of a tuple of ints -/
def hT (ks : List Int) : Int := reduceHash (Builtin.Tuple.tupleHashOf (ks.map hashInt))
def kInts : List Key → Option (List Int)
  | [] => some []
  | .inl i :: r => (match kInts r with
    | some l => some (i :: l)
    | none => none)
  | .inr _ :: _ => none
theorem kInts_eq : ∀ {k : List Key} {ns : List Int}, kInts k = some ns → k = ns.map Sum.inl
  | [], _, h => by cases h; rfl
  | .inl i :: r, ns, h => by
    unfold kInts at h
    cases e : kInts r with
    | none => rw [e] at h; cases h
    | some l => rw [e] at h; cases h; rw [kInts_eq e]; rfl
  | .inr _ :: _, _, h => by cases h
theorem hash_ints {P : Program} {w : World} : ∀ {ns : List Int}, (tupleKind (mixKind P w)).hash (ns.map Sum.inl) = hT ns := fun {ns} => by
  show reduceHash (Builtin.Tuple.tupleHashOf ((ns.map Sum.inl).map (keyH w))) = _
  rw [List.map_map]
  rfl
def hashes? : List (List Key × D) → Option (List Int)
  | [] => some []
  | (k, _) :: r => (match kInts k with
    | some ns => (match hashes? r with
      | some l => some (hT ns :: l)
      | none => none)
    | none => none)
def memI (x : Int) : List Int → Bool
  | [] => false
  | y :: r => (match decide (x = y) with
    | true => true
    | false => memI x r)
def nodupI : List Int → Bool
  | [] => true
  | x :: r => (match memI x r with
    | true => false
    | false => nodupI r)
theorem memI_not {x : Int} : ∀ {l : List Int}, memI x l = false → x ∉ l
  | [], _ => by simp
  | y :: r, h => by
    unfold memI at h
    split at h
    · cases h
    · rename_i e
      intro m
      rcases List.mem_cons.mp m with q | q
      · exact of_decide_eq_false e q
      · exact memI_not h q
theorem nodupI_ok : ∀ {l : List Int}, nodupI l = true → l.Nodup
  | [], _ => List.nodup_nil
  | x :: r, h => by
    unfold nodupI at h
    split at h
    · cases h
    · rename_i e
      exact List.nodup_cons.mpr ⟨memI_not e, nodupI_ok h⟩
theorem hashes_eq {P : Program} {w : World} {Hf : Hp} : ∀ {ds : List (List Key × D)} {kvs : List (List Key × V)} {l : List Int}, RpT Hf kvs ds → hashes? ds = some l → kvs.map (fun kv => (tupleKind (mixKind P w)).hash kv.1) = l := by
  intro ds
  induction ds with
  | nil => intro kvs l r h; cases r; cases h; rfl
  | cons p ps ih =>
    intro kvs l r h
    cases r with
    | cons r t =>
      unfold hashes? at h
      split at h
      · rename_i ns e1
        split at h
        · rename_i l' e2
          cases h
          rw [List.map_cons, ih t e2]
          show (tupleKind (mixKind P w)).hash _ :: _ = _
          rw [kInts_eq e1, hash_ints]
        · cases h
      · cases h
def gDict : List D → Option D
  | [.dT kvs] => (match hashes? kvs with
    | some l => if nodupI l = true then some (.dT kvs) else none
    | none => none)
  | [.dK kvs] => some (.dK kvs)
  | _ => none
section
variable {X : Cx}
def rDictT (X : Cx) : List V → Hp → VK → Prop := fun xs H Q => ∃ (a : Addr) (kvs : List (List Key × V)), xs = [.ref a] ∧ Rd H a (.dT kvs) ∧ (kvs.map fun kv => (tupleKind (mixKind X.prog X.w)).hash kv.1).Nodup ∧ ∀ p, H p = none → Q (.ref p) (upd H p (.dT kvs))
theorem call_dictT (hu : X.A.units + 8 < cLine) : CallR X (.type "dict") (rDictT X) := by
  intro pins s σ H xs us Q I r ⟨a, kvs, ex, hd, hh, q⟩
  subst ex
  obtain ⟨u, eu, rx⟩ := vals1 r
  subst eu
  cases rx
  obtain ⟨z, lo, ws, rel, dd⟩ := dt_rd I.hok hd
  have hzw : ws.length ≤ sizeLine := by rw [← Paired.length rel]; exact z
  have hx : ∀ y ∈ ws, IsTupleKey (mixKind X.prog X.w) s.heap y.1 y.2.1 := let ⟨_, _, _, _, _, _, _, his, _⟩ := dd; his
  have push : ∀ {h' : Heap}, (∀ b o, s.heap.get? b = some o → h'.get? b = some o) → ∀ y ∈ ws, IsTupleKey (mixKind X.prog X.w) h' y.1 y.2.1 := fun k y hy => by
    obtain ⟨o, items, n, e1, e2, e3, e4⟩ := hx y hy
    exact ⟨o, items, n, k _ _ e1, e2, e3, e4⟩
  have e1 : ws.map (fun y => (tupleKind (mixKind X.prog X.w)).hash y.1) = kvs.map fun kv => (tupleKind (mixKind X.prog X.w)).hash kv.1 := by
    clear dd hx push hzw z q hh hd
    induction rel with
    | nil => rfl
    | cons h t ih => rw [List.map_cons, List.map_cons, ih, h.1]
  refine call_dictH (knd := tupleKind (mixKind X.prog X.w)) (show X.A.in1.in1.units < cLine by show X.A.units + 1 + 1 < cLine; omega) lo dd hzw (push fun b o e => Heap.get?_push_of_some _ e) (fun y hy => (hx y hy).typeIs) (by rw [e1]; exact hh) fun h' d' hs => ?_
  have hm : (s.heap.objs.size == sysModules) = false := beq_eq_false_iff_ne.mpr (Nat.ne_of_gt I.big)
  obtain ⟨ob, es, ep, hq, h2, h3, h4, _, h5⟩ := d'
  have kp : ∀ b o, s.heap.get? b = some o → h'.get? b = some o := fun b u e => (hs.2 b (Nat.ne_of_lt (Heap.lt_size e))).trans (Heap.get?_push_of_some _ e)
  refine ⟨.ref s.heap.objs.size, upd H s.heap.objs.size (.dT kvs), I.laid (t' := s.toks) kp (Nat.le_refl _) ⟨z, hm, ws, rel.keeps fun c ys ec => ?_, ob, es, ep, hq, h2, h3, h4, h5⟩, rfl, q _ I.fresh⟩
  rw [upd_ne (ne_of_none ec I.fresh)]
  exact ec
def rDict (X : Cx) : List V → Hp → VK → Prop := fun xs H Q => rDictT X xs H Q ∨ ∃ (a : Addr) (kvs : List (Key × V)), xs = [.ref a] ∧ Rd H a (.dK kvs) ∧ ∀ p, H p = none → Q (.ref p) (upd H p (.dK kvs))
theorem call_dict (hu : X.A.units + 8 < cLine) : CallR X (.type "dict") (rDict X) := CallR.or (call_dictT hu) call_dictD
theorem rc_dict : RCN X (rDict X) gDict := fun B env ds σ Hf H args d vs Q S r e q => by
  unfold gDict at e
  split at e
  · rename_i kvs
    cases r with
    | cons r t =>
      cases t
      obtain ⟨a, kv, rfl, h1, h2⟩ := r.dT S.sub
      split at e
      · rename_i l el
        split at e
        · rename_i hn
          cases e
          exact .inl ⟨a, kv, rfl, h1, by rw [hashes_eq h2 el]; exact nodupI_ok hn, q.dT S h2⟩
        · cases e
      · cases e
  · rename_i kvs
    cases r with
    | cons r t =>
      cases t
      obtain ⟨a, kv, rfl, h1, h2⟩ := r.dK S.sub
      cases e
      exact .inr ⟨a, kv, rfl, h1, q.dK S h2⟩
  · cases e
end
end L2.Dn
set_option Elab.async false
set_option linter.all false
set_option maxRecDepth 100000
/-! == of dicts with tuple keys (after HandS.DictEq) -/
namespace L2.Dn
open PySem PySem.Spec PyProof.Rows
section
variable {prog : Program} {w : World} {K : Type} [DecidableEq K] {knd : HeapKind prog w K} {A : Around} {E : Value → Shared → Prop} {s : Shared}
inductive HitsH {K : Type} [DecidableEq K] (prog : Program) (w : World) (A : Around) (s : Shared) (kb : List (K × Addr × Value)) : List (K × Addr × Value) → Bool → Prop
  | nil : HitsH prog w A s kb [] true
  | miss {k : K} {q : Addr} {v : Value} {r : List (K × Addr × Value)} : atKey kb k = none → HitsH prog w A s kb ((k, q, v) :: r) false
  | hit {k : K} {q : Addr} {v : Value} {y : Addr × Value} {r : List (K × Addr × Value)} {e b : Bool} : atKey kb k = some y → SeqAt.EqP prog w A s v y.2 e → HitsH prog w A s kb r b → HitsH prog w A s kb ((k, q, v) :: r) (e && b)
theorem HitsH.inv {kb : List (K × Addr × Value)} {k : K} {q : Addr} {v : Value} {r : List (K × Addr × Value)} {b : Bool} (h : HitsH prog w A s kb ((k, q, v) :: r) b) :
    (atKey kb k = none ∧ b = false) ∨ ∃ y e b', atKey kb k = some y ∧ SeqAt.EqP prog w A s v y.2 e ∧ HitsH prog w A s kb r b' ∧ b = (e && b') := by
  cases h with
  | miss hn => exact .inl ⟨hn, rfl⟩
  | hit hy he hr => exact .inr ⟨_, _, _, hy, he, hr, rfl⟩
theorem samePairsH {nm : String} {a b : Addr} {ka kb : List (K × Addr × Value)} {r : Bool} {Q : Bool → Shared → Prop} (ha : (a == sysModules) = false) (hb : (b == sysModules) = false)
    (hu : knd.room A) (da : s.heap.DictOfH knd a ka) (db : s.heap.DictOfH knd b kb) (hits : ka.length = kb.length → HitsH prog w A s kb ka r) (h : Q (ka.length == kb.length && r) s) :
    wpAny (model prog w) A (Builtin.Dict.samePairs nm a b) Q E s := by
  obtain ⟨oa, es, ep, hoa, _, hda, hea, hisa, hna⟩ := da
  obtain ⟨ob, es', ep', hob, _, hdb, heb, hisb, hnb⟩ := db
  have hla : ka.length = es.size := (size_of_entries hea).symm
  have hlb : kb.length = es'.size := (size_of_entries heb).symm
  rw [hla, hlb] at h
  unfold Builtin.Dict.samePairs Builtin.Dict.showsAll
  rw [if_neg (show ¬ (a == sysModules) = true by rw [ha]; exact Bool.false_ne_true), if_neg (show ¬ (b == sysModules) = true by rw [hb]; exact Bool.false_ne_true)]
  refine wpAny_bind (wpAny_pure (wpAny_bind (wpAny_pure ?_)))
  refine wpAny_bind (wpAny_dictEntries hoa hda ?_)
  dsimp only
  refine wpAny_bind (wpAny_dictEntries hob hdb ?_)
  by_cases hsz : es.size = es'.size
  case neg =>
    rw [if_pos (by simpa using hsz)]
    have hbf : (es.size == es'.size) = false := by simpa using hsz
    rw [hbf, Bool.false_and] at h
    exact wpAny_bind (wpAny_rule (wpAny_pure h))
  case pos =>
    have h' : Q r s := by simpa [hsz] using h
    have hits' := hits (by rw [hla, hlb]; exact hsz)
    rw [if_neg (by rw [hsz]; simp)]
    refine wpAny_bind (wpAny_dictEpoch hoa hda ?_)
    refine wpAny_bind ?_
    rw [Std.Legacy.Range.forIn_eq_forIn_range']
    simp only [Std.Legacy.Range.size, Nat.sub_zero, Nat.add_sub_cancel, Nat.div_one]
    refine wpAny_forIn_list _
      (fun rest q s' => s' = s ∧ q = (none, ()) ∧ ∃ i, rest = List.range' i (es.size - i) ∧ i ≤ es.size ∧ HitsH prog w A s kb (ka.drop i) r)
      _ ?_ ?_ _ _ ⟨rfl, rfl, 0, by simp, Nat.zero_le _, hits'⟩
    · rintro x rest q s' ⟨rfl, rfl, i, hr, hi, hpre⟩
      have hlt : i < es.size := by
        rcases Nat.lt_or_ge i es.size with h | h
        · exact h
        · rw [Nat.sub_eq_zero_of_le h] at hr; simp at hr
      obtain ⟨rfl, hrest⟩ : x = i ∧ rest = List.range' (i + 1) (es.size - (i + 1)) := by
        have e : es.size - i = (es.size - (i + 1)) + 1 := by omega
        rw [e, List.range'_succ] at hr
        injection hr with h1 h2
        exact ⟨h1, h2⟩
      refine wpAny_bind (wpAny_dictEntries hoa hda ?_)
      rw [Array.getElem?_eq_getElem hlt]
      have hlt' : x < ka.length := by rw [hla]; exact hlt
      obtain ⟨k, qa, v, hkv⟩ : ∃ k qa v, ka[x] = (k, qa, v) := ⟨_, _, _, rfl⟩
      have hdrop : ka.drop x = (k, qa, v) :: ka.drop (x + 1) := by rw [← hkv]; exact List.drop_eq_getElem_cons hlt'
      have een : es[x] = entryOfKey knd (k, qa, v) := by
        have e := entry_at hea x
        rw [Array.getElem?_eq_getElem hlt, List.getElem?_eq_getElem hlt', hkv] at e
        exact Option.some.inj e
      have hk : knd.is s'.heap k qa := by
        have := hisa (ka[x]) (List.getElem_mem hlt')
        rw [hkv] at this
        exact this
      rw [hdrop] at hpre
      show wpAny _ _ (holding [es[x].key, es[x].val] _ >>= _) _ _ _
      rw [een]
      show wpAny _ _ (holding [Value.ref qa, v] (dictFind b (.ref qa) (knd.hash k) >>= _) >>= _) _ _ _
      refine wpAny_bind (wpAny_holding (wpAny_bind (wpAny_dictFind_heap hu hk hob hdb heb hisb hnb (fun hno => ?_) (fun j p hj => ?_))))
      · have hn : atKey kb k = none := atKey_none_of_get hno
        rcases hpre.inv with ⟨_, er⟩ | ⟨y, _, _, hy, _⟩
        · rw [er] at h'
          refine wpAny_pure ?_
          show wpAny _ _ (if (!false) = true then _ else _) _ _ _
          rw [if_pos (by decide)]
          exact wpAny_pure (wpAny_pure h')
        · rw [hn] at hy; exact nomatch hy
      · have hv' : atKey kb k = some p := atKey_of_get hnb hj
        have ej := entry_at heb j
        rw [hj] at ej
        refine wpAny_bind (wpAny_dictEntries hob hdb ?_)
        rw [ej]
        rcases hpre.inv with ⟨hn, _⟩ | ⟨y, e, b', hy, he, hrr, er⟩
        · rw [hv'] at hn; exact nomatch hn
        · obtain rfl : p = y := Option.some.inj (hv'.symm.trans hy)
          show wpAny _ _ (holding [p.2] (eqBool v p.2)) _ _ _
          refine wpAny_holding (he _ _ ?_)
          cases e with
          | false =>
            rw [er, Bool.false_and] at h'
            show wpAny _ _ (if (!false) = true then _ else _) _ _ _
            rw [if_pos (by decide)]
            exact wpAny_pure (wpAny_pure h')
          | true =>
            rw [Bool.true_and] at er
            rw [← er] at hrr
            show wpAny _ _ (if (!true) = true then _ else _) _ _ _
            rw [if_neg (by decide)]
            refine wpAny_bind (wpAny_dictEpoch hoa hda ?_)
            rw [if_neg (by simp)]
            exact wpAny_pure ⟨rfl, rfl, x + 1, hrest, hlt, hrr⟩
    · rintro q s' ⟨rfl, rfl, i, hr, hi, hpre⟩
      have hin : i = es.size := by
        rcases Nat.lt_or_ge i es.size with h | h
        · have e : es.size - i = (es.size - (i + 1)) + 1 := by omega
          rw [e, List.range'_succ] at hr; exact nomatch hr
        · exact Nat.le_antisymm hi h
      refine wpAny_pure ?_
      rw [hin, ← hla, List.drop_length] at hpre
      cases hpre
      exact h'
theorem eqDH (ne : Bool) {a b : Addr} {ka kb : List (K × Addr × Value)} {r : Bool} (hr : knd.room A.in1) (ha : (a == sysModules) = false) (hb : (b == sysModules) = false)
    (da : s.heap.DictOfH knd a ka) (db : s.heap.DictOfH knd b kb) (hu : A.units < cLine) (hits : ka.length = kb.length → HitsH prog w A.in1 s kb ka r) {Q : Value → Shared → Prop} (h : Q (.bool (xor ne (ka.length == kb.length && r))) s) :
    wpAny (model prog w) A (compareOp (if ne then .NotEq else .Eq) (.ref a) (.ref b)) Q E s := by
  cases ne with
  | false =>
    refine wpAny_richCompare_same_room (op := .Eq) da.typeIs db.typeIs PySem.F.slot_dict_eq (wpAny_call_entry PySem.F.slot_dict_eq da.typeIs PySem.F.entry_dict_eq ?_ (PySem.F.args_dict_eq_2 _ _)) hu
    show wpAny _ _ (Builtin.Dict.dictSlotArgs "__eq__" ⟨[.ref a, .ref b], []⟩ >>= _) _ _ s
    refine wpAny_bind ?_
    unfold Builtin.Dict.dictSlotArgs
    refine wpAny_bind (wpAny_notOrdered_dict da.typeIs ?_)
    show wpAny _ _ (pure (Value.ref a, Value.ref b)) _ _ s
    refine wpAny_pure ?_
    refine wpAny_bind (wpAny_isInstance (T := "dict") db.typeIs PySem.F.sub_dict_dict ?_)
    simp only [Bool.not_true, Bool.false_eq_true, if_false]
    refine wpAny_bind (wpAny_pure (wpAny_bind (wpAny_pure ?_)))
    refine wpAny_bind (samePairsH ha hb hr da db hits ?_)
    refine wpAny_pure ⟨_, rfl, ?_, ?_⟩
    · exact fun x => nomatch x
    · simpa using h
  | true =>
    refine wpAny_richCompare_same_room (op := .NotEq) da.typeIs db.typeIs PySem.F.slot_dict_ne (wpAny_call_entry PySem.F.slot_dict_ne da.typeIs PySem.F.entry_dict_ne ?_ (PySem.F.args_dict_ne_2 _ _)) hu
    show wpAny _ _ (Builtin.Dict.dictSlotArgs "__ne__" ⟨[.ref a, .ref b], []⟩ >>= _) _ _ s
    refine wpAny_bind ?_
    unfold Builtin.Dict.dictSlotArgs
    refine wpAny_bind (wpAny_notOrdered_dict da.typeIs ?_)
    show wpAny _ _ (pure (Value.ref a, Value.ref b)) _ _ s
    refine wpAny_pure ?_
    refine wpAny_bind (wpAny_isInstance (T := "dict") db.typeIs PySem.F.sub_dict_dict ?_)
    simp only [Bool.not_true, Bool.false_eq_true, if_false]
    refine wpAny_bind (wpAny_pure (wpAny_bind (wpAny_pure ?_)))
    refine wpAny_bind (samePairsH ha hb hr da db hits ?_)
    refine wpAny_pure ⟨_, rfl, ?_, ?_⟩
    · exact fun x => nomatch x
    · simpa using h
end
/-! ### on data -/
def eqEnt (ls : List (List Key × D)) : List (List Key × D) → Option Bool
  | [] => some true
  | (k, .int i) :: r => (match lookT ls k with
    | none => some false
    | some (.int j) => (match eqEnt ls r with
      | some b => some ((i == j) && b)
      | none => none)
    | some _ => none)
  | _ => none
def eqDT (ks ls : List (List Key × D)) : Option Bool := match Nat.beq ks.length ls.length with
  | false => some false
  | true => eqEnt ls ks
def gEqM (ne : Bool) : D → D → Option D
  | .dT ks, .dT ls => (match eqDT ks ls with
    | some b => some (.bool (xor ne b))
    | none => none)
  | _, _ => none
theorem eqEnt_hits {prog : Program} {w : World} {A : Around} {s : Shared} {Hf Hl H H2 : Hp} {ls : List (List Key × D)} {lvs : List (List Key × V)} {lxs : List (List Key × Addr × Value)} (rl : RpT Hl lvs ls) (kl : KT H2 lvs lxs) : ∀ {ks : List (List Key × D)} {kvs : List (List Key × V)} {kxs : List (List Key × Addr × Value)} {b : Bool},
    RpT Hf kvs ks → KT H kvs kxs → eqEnt ls ks = some b → HitsH prog w A s lxs kxs b := by
  intro ks
  induction ks with
  | nil => intro kvs kxs b r k e; cases r; cases k; cases e; exact .nil
  | cons p ps ih =>
    intro kvs kxs b r k e
    obtain ⟨kk, pd⟩ := p
    cases r with
    | cons rv rt =>
      cases k with
      | @cons _ kx _ kxr kh kt =>
      obtain ⟨k1, k2, k3⟩ := kh
      obtain ⟨k9, qa, vv⟩ := kx
      obtain rfl : kk = k9 := k1
      unfold eqEnt at e
      split at e
      · rename_i e0; cases e0
      · rename_i k' i' r' e0
        obtain ⟨⟨rfl, rfl⟩, rfl⟩ : (kk = k' ∧ pd = .int i') ∧ ps = r' := by cases e0; exact ⟨⟨rfl, rfl⟩, rfl⟩
        cases rv
        obtain ⟨t, rfl⟩ := k3
        split at e
        · rename_i hl
          cases e
          refine .miss ?_
          have h1 := (rl.look (k := kk)).2 hl
          have h2 := kl.val kk
          rw [h1] at h2
          cases q : atKey lxs kk with
          | none => rfl
          | some z => rw [q] at h2; exact h2.elim
        · rename_i j hl
          split at e
          · rename_i b' eb
            cases e
            obtain ⟨v2, h1, h3⟩ := (rl.look (k := kk)).1 _ hl
            cases h3
            have h2 := kl.val kk
            rw [h1] at h2
            cases q : atKey lxs kk with
            | none => rw [q] at h2; exact h2.elim
            | some z =>
              rw [q] at h2
              obtain ⟨t2, h4⟩ := (show RelV (.int j) z.2 from h2)
              refine .hit q ?_ (ih rt kt eb)
              rw [h4]
              exact (SeqAt.EqAt.int_int _ _ _ _).eqP
          · cases e
        · cases e
      · cases e
section
variable {X : Cx}
def rEqM (X : Cx) (ne : Bool) : R2 := fun x y H Q => ∃ a b ks ls Hf k' l' r, x = .ref a ∧ y = .ref b ∧ Rd H a (.dT ks) ∧ Rd H b (.dT ls) ∧ RpT Hf ks k' ∧ RpT Hf ls l' ∧ eqDT k' l' = some r ∧ Q (.bl (xor ne r)) H
theorem op_eqM (ne : Bool) (hu : X.A.units + 8 < cLine) : OpR X (compareOp (if ne then .NotEq else .Eq)) (rEqM X ne) := by
  intro pins s σ H x y v u Q I rx ry ⟨a, b, ks, ls, Hf, k', l', r, ex, ey, ha, hb, hk, hl, er, q⟩
  subst ex ey
  obtain rfl : v = Value.ref a := rx
  obtain rfl : u = Value.ref b := ry
  obtain ⟨_, ya, xa, ra, da⟩ := dt_rd I.hok ha
  obtain ⟨_, yb, xb, rb, db⟩ := dt_rd I.hok hb
  have e1 : xa.length = k'.length := (Paired.length ra).symm.trans hk.length
  have e2 : xb.length = l'.length := (Paired.length rb).symm.trans hl.length
  unfold eqDT at er
  cases hq : Nat.beq k'.length l'.length with
  | false =>
    rw [hq] at er
    cases er
    have hne : xa.length ≠ xb.length := fun z => by
      rw [e1, e2] at z
      rw [z, Nat.beq_refl] at hq
      cases hq
    refine eqDH (knd := tupleKind (mixKind X.prog X.w)) (r := false) ne (show X.A.in1.units < cLine by show X.A.units + 1 < cLine; omega) ya yb da db (by omega) (fun z => absurd z hne) ⟨.bl _, H, I.tok _, rfl, ?_⟩
    have : (xa.length == xb.length && false) = false := by simp
    rw [this]
    exact q
  | true =>
    rw [hq] at er
    have heq : xa.length = xb.length := by rw [e1, e2]; exact Nat.eq_of_beq_eq_true hq
    refine eqDH (knd := tupleKind (mixKind X.prog X.w)) (r := r) ne (show X.A.in1.units < cLine by show X.A.units + 1 < cLine; omega) ya yb da db (by omega) (fun _ => eqEnt_hits hl rb hk ra er) ⟨.bl _, H, I.tok _, rfl, ?_⟩
    have : (xa.length == xb.length && r) = r := by rw [heq]; simp
    rw [this]
    exact q
theorem op_eqT (hu : X.A.units + 8 < cLine) : OpR X (compareOp .Eq) (rEqM X false) := op_eqM false hu
theorem op_neT (hu : X.A.units + 8 < cLine) : OpR X (compareOp .NotEq) (rEqM X true) := op_eqM true hu
theorem r2_eqM (ne : Bool) : R2F X (rEqM X ne) (gEqM ne) := fun B env ds σ Hf H d1 d2 d x y Q S r1 r2 e q => by
  unfold gEqM at e
  split at e
  · rename_i ks ls
    split at e
    · rename_i b eb
      cases e
      obtain ⟨a, kv, rfl, h1, h2⟩ := r1.dT S.sub
      obtain ⟨c, lv, rfl, h3, h4⟩ := r2.dT S.sub
      exact ⟨a, c, kv, lv, Hf, ks, ls, b, rfl, rfl, h1, h3, h2, h4, eb, q.now S (.bl _)⟩
    · cases e
  · cases e
end
end L2.Dn
set_option Elab.async false
set_option linter.all false
set_option maxRecDepth 100000
/-! dict displays: one pair, the key a tuple; pairs with ints or texts as keys -/
namespace L2.Dn
open PySem PySem.Spec PyProof.Rows
section
variable {X : Cx} {pos : Pos} {k v : Expr} {tk tv : TE}
def tDisp1T (tk tv : TE) : TE := fun σ H Q => ∀ p, H p = none → tk σ (upd H p (.dT [])) fun x H1 => tv σ H1 fun y H2 => ∃ (ks : List Key) (b : Addr), x = .ref b ∧ H2 b = some (.tup (ks.map kV)) ∧ H2 p = some (.dT []) ∧ Q (.ref p) (upd H2 p (.dT [(ks, y)]))
theorem pe_disp1T (hu : X.A.units + 8 < cLine) (hk : PE X k tk) (hv : PE X v tv) : PE X (.Dict [some k] [v] pos) (tDisp1T tk tv) := by
  refine ⟨fun pins s σ H Q I q => ?_⟩
  have hn := I.hok.fresh (Nat.le_refl s.heap.objs.size)
  have I1 := I.laid (a := s.heap.objs.size) (o := .dT []) (h' := s.heap.push { cls := .type "dict", data := .dict #[] }) (t' := s.toks) (fun _ _ q => Heap.get?_push_of_some _ q) (Nat.le_refl _) (dt_empty s.heap I.big)
  rw [arm_eval_Dict, zip_pairTrees [some k] [v] X.env pos rfl rfl, dictDisplay_pairs (pairTrees [some k] [v] X.env pos) (by simp [pairTrees]) (by simp [pairTrees])]
  refine wpAny_bind (wpAny_standAt (wpAny_bind (wpAny_subDictH (knd := tupleKind (mixKind X.prog X.w)) (show X.A.units < cLine by omega) (by simp [pairTrees]) ?_)))
  refine pairTrees_cons_walk (thn (hk.run pins _ σ _ _ I1 (q _ hn)) fun u s1 ⟨x, H1, I2, rx, q1⟩ => thn (hv.run pins s1 σ H1 _ I2 q1) fun u2 s2 ⟨y, H2, I3, ry, ks, b, ex, hb, hp, q2⟩ => pairTrees_nil_walk ?_)
  subst ex
  cases (show u = Value.ref b from rx)
  obtain ⟨z, hd, vs0, r0, dd⟩ := dt_of I3.hok hp
  cases r0
  refine ⟨[(ks, b, u2)], ⟨rfl, rfl, key_of I3.hok hb, True.intro⟩, dd, fun h' tk' dd' hs => wpAny_pure ⟨.ref s.heap.objs.size, _, ?_, rfl, q2⟩⟩
  have e1 : storedAllH ([] : List (List Key × Addr × Value)) [(ks, b, u2)] = [(ks, b, u2)] := by simp [storedAllH, storedH, atKey]
  rw [e1] at dd'
  obtain ⟨ob, es, ep, hq, h2, h3, h4, _, h5⟩ := dd'
  refine d_write I3 (by rw [hp]; exact True.intro) hs ⟨ob, hq⟩ ⟨by show 1 ≤ sizeLine; decide, hd, [(ks, b, u2)], .cons ⟨rfl, ?_, ry⟩ .nil, ob, es, ep, hq, h2, h3, h4, h5⟩
  show (upd H2 _ _) b = _
  rw [upd_ne (ne_of hb hp (fun z => nomatch z))]
  exact hb
def dDisp1 (fk fv : Den) : Den := fun env ds => bnd (fk env ds) fun k s => bnd (fv env s) fun v s1 => match keyOf? k with
  | some ks => some (.dT [(ks, v)], s1)
  | none => none
theorem evn_disp1 {fk fv : Den} (hu : X.A.units + 8 < cLine) (hk : EvF X k fk) (hv : EvF X v fv) : EvN X (.Dict [some k] [v] pos) (dDisp1 fk fv) := fun B env ds σ Hf H d ds' S hf Q q => by
  obtain ⟨a, s1, e1, hf⟩ := bnd_eq hf
  obtain ⟨b, s2, e2, hf⟩ := bnd_eq hf
  split at hf
  · rename_i ks ek
    cases hf
    refine SE.of (pe_disp1T hu (pe_se X k) (pe_se X v)) fun p np => ?_
    have nf := sub_none S np
    have F := S.fre np
    refine hk B env ds σ Hf (upd H p (.dT [])) _ _ (S.hp nf F) e1 _ fun x Hf1 H1 g1 S1 r1 => hv B env s1 σ Hf1 H1 _ _ S1 e2 _ fun y Hf2 H2 g2 S2 r2 => ?_
    obtain ⟨b2, rfl, hb⟩ := keyOf_rd (B := B) (H := H1) (.fz r1) ek
    have gg := g1.trans g2
    have hp2 : H2 p = some (.dT []) := gg.at upd_same F.nd
    have nf2 : Hf2 p = none := gg.noF nf (by rw [upd_same]; simp) (by intro xs z; rw [upd_same] at z; cases z)
    refine ⟨ks, b2, rfl, S2.sub _ _ (g2.ff _ _ hb), hp2, q p Hf2 _ ?_ (S2.hp nf2 F) np nf2 (.dT upd_same (.cons r2 .nil))⟩
    exact ((Gr.refl.hp np).trans gg).hp np
  · cases hf
end
/-! ints or texts -/
def dPairs : List (Den × Den) → En → DS → Option (List (Key × D) × DS)
  | [], _, s => some ([], s)
  | (fk, fv) :: r, env, s => bnd (fk env s) fun k s1 => bnd (fv env s1) fun v s2 => bnd (dPairs r env s2) fun l s3 => match key1? k with
    | some kk => some ((kk, v) :: l, s3)
    | none => none
def mergeD (kvs more : List (Key × D)) : List (Key × D) := match more with
  | [] => kvs
  | p :: r => mergeD (putKD kvs p.1 p.2) r
def dDispK (ps : List (Den × Den)) : Den := fun env ds => bnd (dPairs ps env ds) fun l s => some (.dK (mergeD [] l), s)
theorem merge_rp {Hf : Hp} : ∀ {l : List (Key × D)} {lv : List (Key × V)} {acc : List (Key × D)} {av : List (Key × V)}, RpK Hf lv l → RpK Hf av acc → RpK Hf (mergeK av lv) (mergeD acc l) := by
  intro l
  induction l with
  | nil => intro lv acc av r a; cases r; exact a
  | cons p ps ih =>
    obtain ⟨pk, pd⟩ := p
    intro lv acc av r a
    cases r with
    | cons r t =>
      have z := ih t (a.put (k := pk) r)
      exact z
/-- pairs of a display: the readings -/
inductive EvPs (X : Cx) : List (Option Expr) → List Expr → List (Den × Den) → Prop
  | nil : EvPs X [] [] []
  | cons {k v : Expr} {ks : List (Option Expr)} {vs : List Expr} {fk fv : Den} {ps : List (Den × Den)} : EvF X k fk → EvF X v fv → EvPs X ks vs ps → EvPs X (some k :: ks) (v :: vs) ((fk, fv) :: ps)
def trsOf (X : Cx) : List (Option Expr) → List Expr → List (TE × TE)
  | some k :: ks, v :: vs => (SE X k, SE X v) :: trsOf X ks vs
  | _, _ => []
theorem EvPs.pps {X : Cx} {pos : Pos} {ks : List (Option Expr)} {vs : List Expr} {ps : List (Den × Den)} (h : EvPs X ks vs ps) : PPs X pos ks vs (trsOf X ks vs) := by
  induction h with
  | nil => exact pps_nil
  | cons _ _ _ ih => exact pps_cons (pe_se X _) (pe_se X _) ih
theorem EvPs.len {X : Cx} {ks : List (Option Expr)} {vs : List Expr} {ps : List (Den × Den)} (h : EvPs X ks vs ps) : ks.length = vs.length ∧ ks.length = ps.length ∧ ks.all (·.isSome) = true := by
  induction h with
  | nil => exact ⟨rfl, rfl, rfl⟩
  | cons _ _ _ ih => exact ⟨by simp [ih.1], by simp [ih.2.1], by simpa using ih.2.2⟩
theorem dPairs_len : ∀ {ps : List (Den × Den)} {env : En} {s s' : DS} {l : List (Key × D)}, dPairs ps env s = some (l, s') → l.length = ps.length
  | [], _, _, _, _, h => by cases h; rfl
  | (fk, fv) :: r, env, s, s', l, h => by
    obtain ⟨a, s1, e1, h⟩ := bnd_eq h
    obtain ⟨b, s2, e2, h⟩ := bnd_eq h
    obtain ⟨c, s3, e3, h⟩ := bnd_eq h
    split at h
    · cases h
      rw [List.length_cons, List.length_cons, dPairs_len e3]
    · cases h
theorem evPs_run {X : Cx} {ks : List (Option Expr)} {vs : List Expr} {ps : List (Den × Den)} (h : EvPs X ks vs ps) : ∀ {B : Bs} {env : En} {ds ds' : DS} {σ : St} {Hf H : Hp} {l : List (Key × D)}, SR B X.K env ds σ Hf H → dPairs ps env ds = some (l, ds') → ∀ Q : List (V × V) → Hp → Prop,
    (∀ lv Hf' H', Gr B Hf H Hf' H' → SR B X.K env ds' σ Hf' H' → RpK Hf' lv l → Q (lv.map fun kv => (kV kv.1, kv.2)) H') → tPairs (trsOf X ks vs) σ H Q := by
  induction h with
  | nil => intro B env ds ds' σ Hf H l S e Q q; cases e; exact q [] _ _ Gr.refl S .nil
  | cons hk hv _ ih =>
    intro B env ds ds' σ Hf H l S e Q q
    obtain ⟨a, s1, e1, e⟩ := bnd_eq e
    obtain ⟨b, s2, e2, e⟩ := bnd_eq e
    obtain ⟨c, s3, e3, e⟩ := bnd_eq e
    split at e
    · rename_i kk ek
      cases e
      refine hk B env ds σ Hf H _ _ S e1 _ fun x Hf1 H1 g1 S1 r1 => hv B env s1 σ Hf1 H1 _ _ S1 e2 _ fun y Hf2 H2 g2 S2 r2 => ?_
      refine ih S2 e3 _ fun lv Hf3 H3 g3 S3 r3 => ?_
      cases key1_rp r1 ek
      exact q ((kk, y) :: lv) _ _ ((g1.trans g2).trans g3) S3 (.cons (r2.up g3.ff) r3)
    · cases e
section
variable {X : Cx} {pos : Pos}
theorem evn_dispK {ks : List (Option Expr)} {vs : List Expr} {ps : List (Den × Den)} (h : EvPs X ks vs ps) (h0 : ks ≠ []) (h15 : ks.length ≤ 15) : EvN X (.Dict ks vs pos) (dDispK ps) := fun B env ds σ Hf H d ds' S hf Q q => by
  obtain ⟨l, s1, e1, e2⟩ := bnd_eq hf
  cases e2
  obtain ⟨l1, l2, l3⟩ := h.len
  refine SE.of (pe_disp h.pps l3 l1 h0 h15) fun p np => ?_
  have nf := sub_none S np
  have F := S.fre np
  refine evPs_run h (S.hp nf F) e1 _ fun lv Hf1 H1 g1 S1 r1 => ?_
  have hp2 : H1 p = some (.dK []) := g1.at upd_same F.nd
  have nf2 : Hf1 p = none := g1.noF nf (by rw [upd_same]; simp) (by intro xs z; rw [upd_same] at z; cases z)
  refine ⟨hp2, lv, rfl, ?_, q p Hf1 _ (((Gr.refl.hp np).trans g1).hp np) (S1.hp nf2 F) np nf2 (.dK upd_same (merge_rp r1 .nil))⟩
  have := dPairs_len e1
  have e3 := r1.length
  omega
end
end L2.Dn
set_option Elab.async false
set_option linter.all false
set_option maxRecDepth 100000
/-! max(d, key=f) over the keys of a dict with tuple keys, f a def of the text that gives tuples of ints (after KE.DataMinKey) -/
namespace L2.Dn
open PySem PySem.Spec PyProof.Rows C8
section
variable {prog : Program} {w : World} {A : Around} {R : Result → Shared → Prop} {E : Value → Shared → Prop} {I S q : Addr} {fp wr : List Addr} {G : Array GenState → Array GenState → Prop} {n : Nat} {P : Nat → Value → Prop} {St : Nat → Shared → Prop} {bt : Nat → Nat → Bool}
abbrev lstO (xs : Array Value) (c : Nat) : Obj := { cls := .type "list", dict := none, data := .seq xs c, slots := #[] }
/-- what the keys' def does: T0 holds at the start, T b kb with kb the key of the best one, T2 i k b kb with the i-th's key k beside -/
structure KeyT (prog : Program) (w : World) (A : Around) (q S : Addr) (wr : List Addr) (G : Array GenState → Array GenState → Prop) (n : Nat) (P : Nat → Value → Prop) (St : Nat → Shared → Prop) (bt : Nat → Nat → Bool)
    (T0 : Shared → Prop) (T : Nat → Value → Shared → Prop) (T2 : Nat → Value → Nat → Value → Shared → Prop) : Prop where
  k0 : ∀ s s', T0 s → Moved (S :: wr) G s s' → T0 s'
  k1 : ∀ b kb s s', T b kb s → Moved (S :: wr) G s s' → T b kb s'
  t0 : ∀ v (s : Shared) (xs : Array Value) (c : Nat) (Q : Value → Shared → Prop) (E : Value → Shared → Prop), 0 < n → P 0 v → T0 s → St 1 s → s.heap.get? S = some (lstO xs c) →
    (∀ k s', T 0 k s' → St 1 s' → s'.heap.get? S = some (lstO xs c) → Q k s') → wpAny (model prog w) A (call (.ref q) [v]) Q E s
  t1 : ∀ i b kb v (s : Shared) (xs : Array Value) (c : Nat) (Q : Value → Shared → Prop) (E : Value → Shared → Prop), i < n → P i v → T b kb s → St (i + 1) s → s.heap.get? S = some (lstO xs c) →
    (∀ k s', T2 i k b kb s' → St (i + 1) s' → s'.heap.get? S = some (lstO xs c) → Q k s') → wpAny (model prog w) A (call (.ref q) [v]) Q E s
  cmp : ∀ i k b kb (s : Shared) (Q : Value → Shared → Prop) (E : Value → Shared → Prop), T2 i k b kb s → Q (.bool (bt i b)) s → wpAny (model prog w) A (richCompare .Gt k kb) Q E s
  l : ∀ i k b kb s, T2 i k b kb s → T i k s
  r : ∀ i k b kb s, T2 i k b kb s → T b kb s
variable {T0 : Shared → Prop} {T : Nat → Value → Shared → Prop} {T2 : Nat → Value → Nat → Value → Shared → Prop}
theorem maxT_loop (W : WalksS prog w A.in1 I fp wr G n P St) (hSf : S ∉ fp) (Y : KeyT prog w A.in1 q S wr G n P St bt T0 T T2) (kw : List (Str × Value)) :
    ∀ (k j : Nat) (s : Shared) (vb kb : Value) (c : Nat), n - (j + 1) = k → j + 1 ≤ n → St (j + 1) s → P (argBest bt j) vb → T (argBest bt j) kb s →
    s.heap.get? S = some (lstO #[vb, kb] c) →
    (∀ v b kb s', P (argBest bt (n - 1)) v → T b kb s' → R (.ok (.ret v)) s') → codeAny (model prog w) A (.builtin "max.loop" ⟨[.ref I, (.ref q), .ref S], kw⟩) R s := by
  have hSw : S ∉ wr := fun h => hSf (W.sub _ h)
  have hsub : ∀ b ∈ wr, b ∈ S :: wr := fun b hb => List.mem_cons_of_mem _ hb
  have hname : (toString "max" ++ toString ".loop" : String) = "max.loop" := by decide
  have notS : ∀ {b : Addr}, b ∉ S :: wr → S ≠ b := fun hb h => hb (by rw [h]; exact List.mem_cons_self)
  intro k
  induction k with
  | zero =>
    intro j s vb kb c hk hj hst hPb hT hS hR
    have hin : j + 1 = n := by omega
    refine codeAny_builtin F.entry_max_loop ?_
    rw [Around.under_plainId F.plain_max_loop _]
    show wpAny _ A.in1 (seqItems? (.ref S) >>= _) _ _ s
    refine wpAny_bind (wpAny_seqItems hS rfl ?_)
    show wpAny _ A.in1 (tryCatch (pyNext (.ref I)) _ >>= _) _ _ s
    refine wpAny_bind (wpAny_tryCatch (W.done s _ _ (hin ▸ hst) fun s' hm => ?_))
    have hS' := hm.heap S _ hSw hS
    show wpAny _ A.in1 (updateSeq S (fun _ => #[]) >>= _) _ _ _
    refine wpAny_bind ?_
    refine wpAny_updateSeq hS' rfl (wpAny_bind (wpAny_letGo (wpAny_pure ?_)))
    exact hR vb _ kb _ (by rw [← hin]; exact hPb) (Y.k1 _ _ _ _ hT ((hm.mono hsub).then_heap (tk := s'.toks) (Nat.le_refl _) fun b o hb e => (Heap.get?_update_other _ _ (notS hb)).trans e))
  | succ k ih =>
    intro j s vb kb c hk hj hst hPb hT hS hR
    have hlt : j + 1 < n := by omega
    refine codeAny_builtin F.entry_max_loop ?_
    rw [Around.under_plainId F.plain_max_loop _]
    show wpAny _ A.in1 (seqItems? (.ref S) >>= _) _ _ s
    refine wpAny_bind (wpAny_seqItems hS rfl ?_)
    show wpAny _ A.in1 (tryCatch (pyNext (.ref I)) _ >>= _) _ _ s
    refine wpAny_bind (wpAny_tryCatch (W.item (j + 1) s _ _ hlt hst fun v s' hP hst' hm => ?_))
    have hS' := hm.heap S _ hSw hS
    have hT' := Y.k1 _ _ _ _ hT (hm.mono hsub)
    show wpAny _ A.in1 (tryCatch (holding [v] (call (.ref q) [v])) _ >>= _) _ _ _
    refine wpAny_bind (wpAny_tryCatch (wpAny_holding (Y.t1 (j + 1) _ _ v s' _ _ _ _ hlt hP hT' hst' hS' fun kx s'' hT2 hst2 hS2 => ?_)))
    show wpAny _ A.in1 (tryCatch (holding [v, kx] (richCompare .Gt kx kb >>= _)) _ >>= _) _ _ _
    refine wpAny_bind (wpAny_tryCatch (wpAny_holding (wpAny_bind (Y.cmp (j + 1) kx (argBest bt j) kb s'' _ _ hT2 ?_))))
    refine wpAny_bind (wpAny_holding (wpAny_truthy_bool ?_))
    refine wpAny_bind (wpAny_letGo (wpAny_pure ?_))
    cases hb : bt (j + 1) (argBest bt j) with
    | true =>
      simp only [if_true]
      refine wpAny_bind ?_
      refine wpAny_updateSeq hS2 rfl (wpAny_bind (wpAny_letGo ?_))
      rw [hname]
      have hm2 : Moved (S :: wr) G s'' { s'' with heap := s''.heap.update S (Obj.mapSeq fun _ => #[v, kx]), toks := s''.toks } := (Moved.refl W.grefl).then_heap (tk := s''.toks) (Nat.le_refl _) fun b o hb e => (Heap.get?_update_other _ _ (notS hb)).trans e
      refine wpAny_pure ⟨plainId_quiet F.plain_max_loop _, ih (j + 1) _ v kx _ (by omega) hlt (W.frame _ s'' _ s''.toks hst2 (Nat.le_refl _) fun b hbf o e => ?_) (by simp only [argBest, hb, if_true]; exact hP) (by simp only [argBest, hb, if_true]; exact Y.k1 _ _ _ _ (Y.l _ _ _ _ _ hT2) hm2) (Heap.get?_update_self _ hS2 rfl) hR⟩
      exact (Heap.get?_update_other _ _ (fun h : S = b => hSf (by rw [h]; exact hbf))).trans e
    | false =>
      simp only [Bool.false_eq_true, if_false]
      refine wpAny_bind (wpAny_letGo ?_)
      rw [hname]
      exact wpAny_pure ⟨plainId_quiet F.plain_max_loop _, ih (j + 1) _ vb kb c (by omega) hlt hst2 (by simp only [argBest, hb, Bool.false_eq_true, if_false]; exact hPb) (by simp only [argBest, hb, Bool.false_eq_true, if_false]; exact Y.r _ _ _ _ _ hT2) hS2 hR⟩
theorem maxT_first (W : WalksS prog w A.in1 I fp wr G n P St) (hSf : S ∉ fp) (Y : KeyT prog w A.in1 q S wr G n P St bt T0 T T2) (kw : List (Str × Value)) (hn : 0 < n) {s : Shared} {c : Nat} (h0 : T0 s) (hst : St 0 s)
    (hS : s.heap.get? S = some (lstO #[] c)) (hR : ∀ v b kb s', P (argBest bt (n - 1)) v → T b kb s' → R (.ok (.ret v)) s') : codeAny (model prog w) A (.builtin "max.loop" ⟨[.ref I, (.ref q), .ref S], kw⟩) R s := by
  have hSw : S ∉ wr := fun h => hSf (W.sub _ h)
  have hsub : ∀ b ∈ wr, b ∈ S :: wr := fun b hb => List.mem_cons_of_mem _ hb
  have hname : (toString "max" ++ toString ".loop" : String) = "max.loop" := by decide
  have notS : ∀ {b : Addr}, b ∉ S :: wr → S ≠ b := fun hb h => hb (by rw [h]; exact List.mem_cons_self)
  refine codeAny_builtin F.entry_max_loop ?_
  rw [Around.under_plainId F.plain_max_loop _]
  show wpAny _ A.in1 (seqItems? (.ref S) >>= _) _ _ s
  refine wpAny_bind (wpAny_seqItems hS rfl ?_)
  show wpAny _ A.in1 (tryCatch (pyNext (.ref I)) _ >>= _) _ _ s
  refine wpAny_bind (wpAny_tryCatch (W.item 0 s _ _ hn hst fun v s' hP hst' hm => ?_))
  have hS' := hm.heap S _ hSw hS
  have h0' := Y.k0 _ _ h0 (hm.mono hsub)
  show wpAny _ A.in1 (tryCatch (holding [v] (call (.ref q) [v])) _ >>= _) _ _ _
  refine wpAny_bind (wpAny_tryCatch (wpAny_holding (Y.t0 v s' _ _ _ _ hn hP h0' hst' hS' fun kx s'' hT hst2 hS2 => ?_)))
  show wpAny _ A.in1 (updateSeq S (fun _ => #[v, kx]) >>= _) _ _ _
  refine wpAny_bind ?_
  refine wpAny_updateSeq hS2 rfl ?_
  rw [hname]
  have hm2 : Moved (S :: wr) G s'' { s'' with heap := s''.heap.update S (Obj.mapSeq fun _ => #[v, kx]), toks := s''.toks } := (Moved.refl W.grefl).then_heap (tk := s''.toks) (Nat.le_refl _) fun b o hb e => (Heap.get?_update_other _ _ (notS hb)).trans e
  refine wpAny_pure ⟨plainId_quiet F.plain_max_loop _, maxT_loop W hSf Y kw _ 0 _ v kx _ rfl hn (W.frame _ s'' _ s''.toks hst2 (Nat.le_refl _) fun b hbf o e => ?_) hP (Y.k1 _ _ _ _ hT hm2) (Heap.get?_update_self _ hS2 rfl) hR⟩
  exact (Heap.get?_update_other _ _ (fun h : S = b => hSf (by rw [h]; exact hbf))).trans e
theorem call_maxT {x : Value} {s : Shared} {Q : Value → Shared → Prop}
    (h : wpAny (model prog w) A.in1 (pyIter x) (fun it s₂ => ∃ I fp wr G n P St bt T0 T T2, it = .ref I ∧ WalksS prog w A.in1 I fp wr G n P St ∧ St 0 s₂ ∧ (∀ b ∈ fp, b < s₂.heap.objs.size) ∧ 0 < n ∧ (∀ a, G a a) ∧
      KeyT prog w A.in1 q s₂.heap.objs.size wr G n P St bt T0 T T2 ∧ T0 s₂ ∧ ∀ v b kb s', P (argBest bt (n - 1)) v → T b kb s' → Q v s') E s) :
    wpAny (model prog w) A (call (.builtin "max") [x] [(Str.ofString "key", .ref q)]) Q E s := by
  have hname : (toString "max" ++ toString ".loop" : String) = "max.loop" := by decide
  refine PyProof.Rows.kmk_tree F.kind_max F.plain_max F.entry_max (PyProof.Rows.kmk_max_key _ _) ?_
  show wpAny _ A.in1 (Builtin.Builtins.bindParams "max" ["key", "default"] 0 ⟨[], [(Str.ofString "key", .ref q)]⟩ >>= _) _ _ s
  refine wpAny_bind (wpAny_of_eq (show Builtin.Builtins.bindParams "max" ["key", "default"] 0 ⟨[], [(Str.ofString "key", .ref q)]⟩ = pure [some (.ref q), none] from rfl) ?_)
  refine wpAny_bind (wpAny_pure ?_)
  refine wpAny_bind (wpAny_mono h (fun it s₂ h₂ => ?_) fun _ _ e => e)
  obtain ⟨I, fp, wr, G, n, P, St, bt, T0, T, T2, rfl, W, hst, hfp, hn, hg, Y, h0, hQ⟩ := h₂
  refine wpAny_bind (wpAny_newObj_type ?_)
  have hSf : s₂.heap.objs.size ∉ fp := fun hm => Nat.lt_irrefl _ (hfp _ hm)
  rw [hname]
  have hm0 : Moved (s₂.heap.objs.size :: wr) G s₂ { s₂ with heap := s₂.heap.push { cls := .type "list", data := .seq #[] 0 }, toks := s₂.toks } := (Moved.refl W.grefl).then_heap (tk := s₂.toks) (Nat.le_refl _) fun b o _ e => Heap.get?_push_of_some _ e
  have hst' := W.frame 0 s₂ (s₂.heap.push { cls := .type "list", data := .seq #[] 0 }) s₂.toks hst (Nat.le_refl _) fun b _ o e => Heap.get?_push_of_some _ e
  exact wpAny_pure ⟨plainId_quiet F.plain_max_loop _, maxT_first W hSf Y _ hn (Y.k0 _ _ h0 hm0) hst' (Heap.get?_push_size _ rfl) hQ⟩
end
/-! ### a def called from within a built-in -/
theorem run_in {X : Cx} {k : Nat} {f : Addr} {fd : FuncData} {ps : List Str} {sp : Sp} {A' : Around} {pins : List (Addr × Obj)} {σ : St} {H : Hp} {s : Shared} {Q : VK} {us : List Value} {vs : List V} {E' : Value → Shared → Prop} (F : FnOk X.prog X.w X.K X.mg X.base CX0 k f fd ps sp) (hr : Room k A')
    (e0 : Env0 X.prog X.w X.K X.mg X.base A' X.stack s H) (hb : Binds X.K fd ps []) (I : Inv X pins σ H s) (r : Vals vs us) (h : sp vs H Q E0) : wpAny (model X.prog X.w) A' (call (.ref f) us) (EP X pins σ Q) E' s := by
  have hl : (us ++ []).length = ps.length := by rw [List.append_nil, ← r.length]; exact F.len _ _ _ _ h
  have hb' := hb s us I.kIn hl
  rw [List.append_nil] at hb'
  refine wpAny_call (codeAny_mono (F.run A' X.stack s H ⟨us, []⟩ us vs Q E0 hr e0 hb' r h) fun r s' hq => ?_)
  cases r with
  | error e => exact hq.elim
  | ok fl =>
    cases fl with
    | ret u => exact I.after hq
    | next => exact False.elim hq
    | brk => exact False.elim hq
    | cont => exact False.elim hq
/-! ### on data -/
def gtI : List Int → List Int → Bool
  | [], _ => false
  | _ :: _, [] => true
  | x :: xs, y :: ys => (match decide (x = y) with
    | true => gtI xs ys
    | false => decide (y < x))
theorem gtI_lex : ∀ (ns ms : List Int) (i : Nat), Ob.lexAt (fun j => decide (ns.getD (j - i) 0 = ms.getD (j - i) 0)) (fun j => decide (ms.getD (j - i) 0 < ns.getD (j - i) 0)) (decide (ns.length > ms.length)) i (min ns.length ms.length) = gtI ns ms
  | [], ms, i => by
    simp [gtI, Ob.lexAt]
  | x :: xs, [], i => by
    simp [gtI, Ob.lexAt]
  | x :: xs, y :: ys, i => by
    have e : min (x :: xs).length (y :: ys).length = min xs.length ys.length + 1 := by simp [Nat.succ_min_succ]
    rw [e, Ob.lexAt_succ]
    have ih := gtI_lex xs ys (i + 1)
    have c : ∀ (f g f' g' : Nat → Bool) (z : Bool) (k i : Nat), (∀ j, i ≤ j → f j = f' j) → (∀ j, i ≤ j → g j = g' j) → Ob.lexAt f g z i k = Ob.lexAt f' g' z i k := by
      intro f g f' g' z k
      induction k with
      | zero => intro i _ _; rfl
      | succ k ih =>
        intro i h1 h2
        rw [Ob.lexAt_succ, Ob.lexAt_succ, h1 i (Nat.le_refl _), h2 i (Nat.le_refl _), ih (i + 1) (fun j hj => h1 j (by omega)) fun j hj => h2 j (by omega)]
    simp only [Nat.sub_self, List.getD_cons_zero, decide_eq_true_eq]
    unfold gtI
    by_cases q : x = y
    · rw [if_pos q, decide_eq_true q]
      simp only []
      rw [← ih]
      have z : decide ((x :: xs).length > (y :: ys).length) = decide (xs.length > ys.length) := by simp
      rw [z]
      refine c _ _ _ _ _ _ _ (fun j hj => ?_) fun j hj => ?_
      · have : j - i = (j - (i + 1)) + 1 := by omega
        rw [this, List.getD_cons_succ, List.getD_cons_succ]
      · have : j - i = (j - (i + 1)) + 1 := by omega
        rw [this, List.getD_cons_succ, List.getD_cons_succ]
    · rw [if_neg q, decide_eq_false q]
def tupI? : D → Option (List Int)
  | .tuple ds => ints? ds
  | _ => none
def rowsK (f : List D → Option D) : List (List Key × D) → Option (List (List Key × List Int))
  | [] => some []
  | (k, _) :: r => (match f [keyT k] with
    | some d => (match tupI? d with
      | some ns => (match rowsK f r with
        | some l => some ((k, ns) :: l)
        | none => none)
      | none => none)
    | none => none)
def maxL (k : List Key) (r : List Int) : List (List Key × List Int) → List Key
  | [] => k
  | (k', r') :: l => (match gtI r' r with
    | true => maxL k' r' l
    | false => maxL k r l)
theorem rowsK_at {f : List D → Option D} : ∀ {ds : List (List Key × D)} {l : List (List Key × List Int)} {i : Nat} {k : List Key} {d : D}, rowsK f ds = some l → ds[i]? = some (k, d) → ∃ ns, f [keyT k] = some (.tuple (ns.map D.int)) ∧ l[i]? = some (k, ns)
  | [], _, _, _, _, h, e => by cases e
  | (k0, d0) :: r, l, i, k, d, h, e => by
    unfold rowsK at h
    split at h
    · rename_i x e1
      split at h
      · rename_i ns e2
        split at h
        · rename_i l' e3
          cases h
          cases i with
          | zero =>
            cases e
            refine ⟨ns, ?_, rfl⟩
            rw [e1]
            unfold tupI? at e2
            split at e2
            · rw [ints_eq e2]
            · cases e2
          | succ i => exact rowsK_at (i := i) e3 (by simpa using e)
        · cases h
      · cases h
    · cases h
theorem rowsK_len {f : List D → Option D} : ∀ {ds : List (List Key × D)} {l : List (List Key × List Int)}, rowsK f ds = some l → l.length = ds.length
  | [], _, h => by cases h; rfl
  | (k0, d0) :: r, l, h => by
    unfold rowsK at h
    split at h
    · split at h
      · split at h
        · rename_i l' e3
          cases h
          rw [List.length_cons, List.length_cons, rowsK_len e3]
        · cases h
      · cases h
    · cases h
def btL (l : List (List Key × List Int)) (i j : Nat) : Bool := gtI (l.getD i ([], [])).2 (l.getD j ([], [])).2
theorem maxL_arg (l : List (List Key × List Int)) : ∀ (k j : Nat), l.length - (j + 1) = k → j + 1 ≤ l.length → maxL (l.getD (argBest (btL l) j) ([], [])).1 (l.getD (argBest (btL l) j) ([], [])).2 (l.drop (j + 1)) = (l.getD (argBest (btL l) (l.length - 1)) ([], [])).1 := by
  intro k
  induction k with
  | zero =>
    intro j h1 h2
    have : j + 1 = l.length := by omega
    rw [this, List.drop_length]
    have : l.length - 1 = j := by omega
    rw [this]
    rfl
  | succ k ih =>
    intro j h1 h2
    have hlt : j + 1 < l.length := by omega
    rw [List.drop_eq_getElem_cons hlt]
    have e : l.getD (j + 1) ([], []) = l[j + 1] := by rw [List.getD_eq_getElem?_getD, List.getElem?_eq_getElem hlt]; rfl
    have ih' := ih (j + 1) (by omega) (by omega)
    show (match gtI (l[j + 1]).2 _ with | true => _ | false => _) = _
    have eb : gtI (l[j + 1]).2 (l.getD (argBest (btL l) j) ([], [])).2 = btL l (j + 1) (argBest (btL l) j) := by unfold btL; rw [e]
    rw [eb]
    cases hb : btL l (j + 1) (argBest (btL l) j) with
    | true =>
      simp only [argBest, hb, if_true] at ih'
      rw [e] at ih'
      exact ih'
    | false =>
      simp only [argBest, hb, Bool.false_eq_true, if_false] at ih'
      exact ih'
end L2.Dn
set_option Elab.async false
set_option linter.all false
set_option maxRecDepth 100000
namespace L2.Dn
open PySem PySem.Spec PyProof.Rows C8
/-- a state in which the call of the key's def may happen -/
structure Js (X : Cx) (pins : List (Addr × Obj)) (σ : St) (S it : Addr) (B : Bs) (env : En) (ds : DS) (σ' : St) (Hf H : Hp) (Hf' H' : Hp) (s : Shared) : Prop where
  I : Inv X pins σ H' s
  fS : FpOk X pins H' S
  fI : FpOk X pins H' it
  g : Gr B Hf H Hf' H'
  S : SR B X.K env ds σ' Hf' H'
theorem Js.moved {X : Cx} {pins : List (Addr × Obj)} {σ : St} {S it : Addr} {B : Bs} {env : En} {ds : DS} {σ' : St} {Hf H Hf' H' : Hp} {s s' : Shared} (j : Js X pins σ S it B env ds σ' Hf H Hf' H' s) (m : Moved (S :: [it]) (fun a b => b = a) s s') : Js X pins σ S it B env ds σ' Hf H Hf' H' s' := by
  obtain ⟨h', g', d', t', o'⟩ := s'
  have e1 : g' = s.gens := m.gens
  have e2 : d' = s.drawn := m.drawn
  have e3 : o' = s.os := m.os
  subst e1 e2 e3
  refine ⟨j.I.turnedL (t' := t') (ch := S :: [it]) (fun b o hb e => m.heap b o hb e) (fun b hb => ?_), j.fS, j.fI, j.g, j.S⟩
  rcases List.mem_cons.mp hb with rfl | hb
  · exact j.fS
  · rw [List.mem_singleton.mp hb]; exact j.fI
theorem fpStill {X : Cx} {pins : List (Addr × Obj)} {H H' : Hp} {b : Addr} (f : FpOk X pins H b) (n : H' b = none) : FpOk X pins H' b := ⟨n, f.2⟩
theorem SqTok {X : Cx} {pins : List (Addr × Obj)} {σ : St} {H : Hp} {s : Shared} {a : Addr} {xs : List V} (I : Inv X pins σ H s) (h : H a = some (.tup xs)) : xs.length ≤ sizeLine ∧ ∃ its : List Value, Vals xs its ∧ IsTup s.heap a its.toArray := by
  obtain ⟨its, r, p, z⟩ := I.tuple (.inl (.inl h))
  exact ⟨z, its, r, p⟩
theorem gt_tups {A : Around} {s : Shared} {a b : Addr} {its its2 : List Value} {ns ms : List Int} (i1 : IntsAre its ns) (i2 : IntsAre its2 ms) (p1 : IsTup s.heap a its.toArray) (p2 : IsTup s.heap b its2.toArray) (hu : A.units < cLine) : Ob.RcOp .Gt A s (.ref a) (.ref b) (gtI ns ms) := by
  have e1 : its.toArray.size = ns.length := by rw [List.size_toArray]; exact i1.length
  have e2 : its2.toArray.size = ms.length := by rw [List.size_toArray]; exact i2.length
  have at1 : ∀ j (h1 : j < its.toArray.size), ∃ t, its.toArray[j] = .int (ns.getD j 0) t := fun j h1 => PyProof.Rows.IntsAre.int_at i1 _ _ (by simp at h1; simp [h1])
  have at2 : ∀ j (h1 : j < its2.toArray.size), ∃ t, its2.toArray[j] = .int (ms.getD j 0) t := fun j h1 => PyProof.Rows.IntsAre.int_at i2 _ _ (by simp at h1; simp [h1])
  have R := Ob.RcOp.tuples_gt (A := A) (s := s) (e := fun j => decide (ns.getD j 0 = ms.getD j 0)) (r := fun j => decide (ms.getD j 0 < ns.getD j 0)) p1 p2 hu (fun j h1 h2 => by
    obtain ⟨t, et⟩ := at1 j h1
    obtain ⟨t', et'⟩ := at2 j h2
    rw [et, et']
    have z : (ns.getD j 0 == ms.getD j 0) = decide (ns.getD j 0 = ms.getD j 0) := by
      by_cases q : ns.getD j 0 = ms.getD j 0
      · rw [decide_eq_true q]; exact beq_iff_eq.mpr q
      · rw [decide_eq_false q]; exact beq_eq_false_iff_ne.mpr q
    rw [← z]
    exact SeqAt.EqAt.int_int _ _ _ _) (fun j h1 h2 _ => by
    obtain ⟨t, et⟩ := at1 j h1
    obtain ⟨t', et'⟩ := at2 j h2
    rw [et, et']
    exact Ob.RcOp.gt_int _ _ _ _)
  rw [e1, e2] at R
  have := gtI_lex ns ms 0
  simp only [Nat.sub_zero] at this
  rw [this] at R
  exact R
section
variable {X : Cx} {k j : Nat} {fa : Addr} {fd : FuncData} {ps : List Str} {fk : List D → Option D}
def rMaxK (X : Cx) (fa : Addr) (fk : List D → Option D) : List V → List V → Hp → VK → Prop := fun xs zs H Q => zs = [.ref fa] ∧ ∃ (a : Addr) (o : Obj) (kvs : List (List Key × V)) (ds : List (List Key × D)) (B : Bs) (env : En) (dst : DS) (σ' : St) (Hf : Hp) (k0 : List Key) (r0 : List Int) (rest : List (List Key × List Int)),
  xs = [.ref a] ∧ SR B X.K env dst σ' Hf H ∧ Hf a = some (.frz o (.dT kvs)) ∧ RpT Hf kvs ds ∧ rowsK fk ds = some ((k0, r0) :: rest) ∧
  ∀ q Hf' H', Gr B Hf H Hf' H' → SR B X.K env dst σ' Hf' H' → Rp Hf' (.ref q) (keyT (maxL k0 r0 rest)) → Q (.ref q) H'
theorem cr_maxK (hc : X.calm = true) (hu : X.A.units + 8 < cLine) (F : FnOk X.prog X.w X.K X.mg X.base CX0 k fa fd ps (spP 1 fk)) (hb : Binds X.K fd ps []) (hr : Room (k + 1) X.A) : CallRK X (.builtin "max") ["key"] (rMaxK X fa fk) := by
  intro pins s σ H xs zs us ws Q I rx rz ⟨ez, a, o, kvs, ds, B, env, dst, σ', Hf, k0, r0, rest, ex, S, ha, hk, hl, q⟩
  subst ex ez
  obtain ⟨u, eu, rx'⟩ := vals1 rx
  subst eu
  obtain rfl : u = Value.ref a := rx'
  obtain ⟨u2, eu2, rz'⟩ := vals1 rz
  subst eu2
  obtain rfl : u2 = Value.ref fa := rz'
  obtain ⟨hs, hgd, hx, es, ep, hdt, hsz, ent⟩ := frzTV I (S.sub _ _ ha)
  have hh : X.A.handled = none := I.ok.hd hc
  have lend := hk.length
  have lenl := rowsK_len hl
  have hfr : H s.heap.objs.size = none := I.fresh
  have hane : a ≠ s.heap.objs.size := Nat.ne_of_lt (Heap.lt_size hgd)
  show wpAny (model X.prog X.w) X.A (call (.builtin "max") [.ref a] [(Str.ofString "key", .ref fa)]) _ _ _
  refine call_maxT (q := fa) (iter_keys hs hgd hx hdt ?_)
  generalize hs2 : ({ s with heap := s.heap.push { cls := .type "dict_keyiterator", data := .fields #[.ref a, .int 0 0, .int es.size 0, .int ep 0] } } : Shared) = s2
  have I2 : Inv X pins σ H s2 := by
    rw [← hs2]
    exact I.kept (t' := s.toks) fun b ob e => Heap.get?_push_of_some _ e
  have z2 : s2.heap.objs.size = s.heap.objs.size + 1 := by rw [← hs2]; exact Heap.size_push _ _
  generalize hS : s2.heap.objs.size = So at z2 ⊢
  generalize hit : s.heap.objs.size = it at hane hfr z2 hs2 ⊢
  have hSn : H So = none := by rw [← hS]; exact I2.fresh
  have fS : FpOk X pins H So := I2.fpOk (Nat.le_of_eq hS) hSn
  have fI : FpOk X pins H it := I.fpOk (Nat.le_of_eq hit) hfr
  have hSI : So ≠ it := by omega
  have itO : s2.heap.get? it = some { cls := .type "dict_keyiterator", data := .fields #[.ref a, .int 0 0, .int es.size 0, .int ep 0] } := by
    rw [← hs2, ← hit]; exact Heap.get?_push_size _ rfl
  have W := (Walks.rawKeys (prog := X.prog) (w := X.w) (A := X.A.in1) (show X.A.in1.handled = none from hh) it a hane es ep).toS
  -- the call
  have run : ∀ (i : Nat) (hi : i < es.size) {Hf' H' : Hp} {s' : Shared} {xs : Array Value} {c : Nat} {Q' : Value → Shared → Prop} {E' : Value → Shared → Prop}, Js X pins σ So it B env dst σ' Hf H Hf' H' s' → s'.heap.IsKeyIter it a (i + 1) es.size ep → s'.heap.get? So = some (lstO xs c) →
      (∀ kq Hf'' H'' s'', Js X pins σ So it B env dst σ' Hf H Hf'' H'' s'' → Same Hf' Hf'' → Rp Hf'' (.ref kq) (.tuple ((((k0, r0) :: rest).getD i ([], [])).2.map D.int)) → (s''.heap.IsKeyIter it a (i + 1) es.size ep ∧ s''.heap.DictRaw a es ep) → s''.heap.get? So = some (lstO xs c) → Q' (.ref kq) s'') →
      wpAny (model X.prog X.w) X.A.in1 (call (.ref fa) [es[i].key]) Q' E' s' := by
    intro i hi Hf' H' s' xs c Q' E' j hki hSo hq
    obtain ⟨⟨kk, vv⟩, hkv⟩ : ∃ p, kvs[i]? = some p := ⟨kvs[i]'(by omega), List.getElem?_eq_getElem (by omega)⟩
    obtain ⟨_, qa, hkey, hqa, _⟩ := ent i kk vv hkv
    obtain ⟨⟨dk, dv⟩, hd⟩ : ∃ p, ds[i]? = some p := ⟨ds[i]'(by omega), List.getElem?_eq_getElem (by omega)⟩
    have ekk : dk = kk := (hk.at hkv hd).1
    subst ekk
    obtain ⟨ns, ef, el⟩ := rowsK_at hl hd
    have hq1 : H' qa = some (.tup (dk.map kV)) := j.g.at hqa (S.noDrT hqa)
    obtain ⟨Hf1, g1, S1, r1⟩ := fz_key j.S hq1
    obtain ⟨oi, e1, e2, e3⟩ := id hki
    have Ip : Inv X (pins ++ [(So, lstO xs c), (it, oi)]) σ H' s' := j.I.pins_of fun p hp => by
      rcases List.mem_append.mp hp with hp | hp
      · exact j.I.pin p (List.mem_append_right _ hp)
      · rcases List.mem_cons.mp hp with rfl | hp
        · exact ⟨hSo, j.fS.1, j.fS.2.1, j.fS.2.2.1, fun v z => nomatch z⟩
        · rw [List.mem_singleton.mp hp]
          exact ⟨e1, j.fI.1, j.fI.2.1, j.fI.2.2.1, fun v z => by rw [e3] at z; cases z⟩
    rw [hkey]
    refine thnF (run_in (vs := [V.ref qa]) F (hr.in1) Ip.env0.in1 hb Ip (.cons rfl .nil) ⟨rfl, Hf1, [keyT dk], .tuple (ns.map D.int), S1.sub, .cons r1 .nil, ef, fun v Hf2 H2 g2 sm2 r2 => (⟨Hf2, g2, sm2, r2⟩ : ∃ Hf2, Gr ⟨H', Hf1, none⟩ Hf1 H' Hf2 H2 ∧ Same Hf2 H2 ∧ Rp Hf2 v (.tuple (ns.map D.int)))⟩) fun u3 s3 ⟨v, H3, I3, rv, Hf3, g3, sm3, r3⟩ => ?_
    have gB : Gr B Hf1 H' Hf3 H3 := g3.of0 fun b xs h => S1.noDrT h
    have p1 := I3.pin (So, lstO xs c) (List.mem_append_right _ (List.mem_append_right _ (List.mem_cons_self ..)))
    have p2 := I3.pin (it, oi) (List.mem_append_right _ (List.mem_append_right _ (List.mem_cons_of_mem _ (List.mem_cons_self ..))))
    have S3 : SR B X.K env dst σ' Hf3 H3 := S1.move gB sm3 fun y l c' ed => by
      obtain ⟨h1, h2, h3, h4, h5⟩ := S1.draw y l c' ed
      have sH := g3.same0
      exact ⟨sH _ _ h1, sH _ _ h2, g3.noF h3 (by rw [h1]; simp) (by intro xs z; rw [h1] at z; cases z), g3.noF h4 (by rw [h2]; simp) (by intro xs z; rw [h2] at z; cases z), g3.ff _ _ h5⟩
    have I4 : Inv X pins σ H3 s3 := I3.pins_of fun p hp => I3.pin p (List.mem_append_right _ (List.mem_append_left _ hp))
    have ed : s3.heap.DictRaw a es ep := by
      obtain ⟨_, hgd3, _⟩ := frzTV I4 (S3.sub _ _ ((j.g.ff.trans (g1.ff.trans gB.ff)) _ _ ha))
      exact ⟨o, hgd3, hx, hdt⟩
    cases r3 with
    | @tup kq vs0 ds0 h3 h3' =>
      cases rv
      have el2 : (((k0, r0) :: rest).getD i ([], [])).2 = ns := by rw [List.getD_eq_getElem?_getD, el]; rfl
      exact hq kq Hf3 H3 s3 ⟨I4, fpStill j.fS p1.2.1, fpStill j.fI p2.2.1, (j.g.trans g1).trans gB, S3⟩ (g1.ff.trans gB.ff) (by rw [el2]; exact .tup h3 h3') ⟨⟨oi, p2.1, e2, e3⟩, ed⟩ p1.1
  let Rw : Nat → D := fun b => .tuple ((((k0, r0) :: rest).getD b ([], [])).2.map D.int)
  refine ⟨it, [it, a], [it], _, es.size, _, _, btL ((k0, r0) :: rest), fun s' => ∃ Hf' H', Js X pins σ So it B env dst σ' Hf H Hf' H' s',
    fun b kb s' => ∃ kq Hf' H', kb = .ref kq ∧ Js X pins σ So it B env dst σ' Hf H Hf' H' s' ∧ Rp Hf' (.ref kq) (Rw b),
    fun i kx b kb s' => ∃ q1 q2 Hf' H', kx = .ref q1 ∧ kb = .ref q2 ∧ Js X pins σ So it B env dst σ' Hf H Hf' H' s' ∧ Rp Hf' (.ref q1) (Rw i) ∧ Rp Hf' (.ref q2) (Rw b), rfl, W, ?_, ?_, ?_, fun _ => rfl, ?_, ⟨Hf, H, I2, fS, fI, Gr.refl, S⟩, ?_⟩
  · refine ⟨⟨_, itO, rfl, rfl⟩, ⟨o, ?_, hx, hdt⟩⟩
    rw [← hs2]; exact Heap.get?_push_of_some _ hgd
  · intro b hb
    have la := Heap.lt_size hgd
    rw [z2]
    rcases List.mem_cons.mp hb with eb | hb
    · rw [eb]; exact Nat.lt_succ_self _
    · rw [List.mem_singleton.mp hb]
      rw [hit] at la
      exact Nat.lt_succ_of_lt la
  · rw [hsz, lend, ← lenl]; simp
  · refine ⟨?_, ?_, ?_, ?_, ?_, ?_, ?_⟩
    · rintro s' s'' ⟨Hf', H', j⟩ m
      exact ⟨Hf', H', j.moved m⟩
    · rintro b kb s' s'' ⟨kq, Hf', H', e, j, r⟩ m
      exact ⟨kq, Hf', H', e, j.moved m, r⟩
    · rintro v s' xs c Q' E' hn ⟨hi, rfl⟩ ⟨Hf', H', j⟩ st hSo hq
      exact run 0 hi j st.1 hSo fun kq Hf2 H2 s2 j2 _ r2 st2 hS2 => hq _ _ ⟨kq, Hf2, H2, rfl, j2, r2⟩ st2 hS2
    · rintro i b kb v s' xs c Q' E' hn ⟨hi, rfl⟩ ⟨kq, Hf', H', rfl, j, r⟩ st hSo hq
      exact run i hi j st.1 hSo fun kq2 Hf2 H2 s2 j2 ff r2 st2 hS2 => hq _ _ ⟨kq2, kq, Hf2, H2, rfl, rfl, j2, r2, r.up ff⟩ st2 hS2
    · rintro i kx b kb s' Q' E' ⟨q1, q2, Hf', H', rfl, rfl, j, r1, r2⟩ hq
      cases r1 with
      | tup h1 h1' =>
        cases r2 with
        | tup h2 h2' =>
          obtain ⟨_, its1, v1, t1⟩ := SqTok (X := X) j.I (j.S.sub _ _ h1)
          obtain ⟨_, its2, v2, t2⟩ := SqTok (X := X) j.I (j.S.sub _ _ h2)
          rw [rpl_ints h1'] at v1
          rw [rpl_ints h2'] at v2
          have R := gt_tups (A := X.A.in1) (s := s') (Vals.ints v1) (Vals.ints v2) t1 t2 (by show X.A.units + 1 < cLine; omega)
          exact R X.prog X.w E' Q' hq
    · rintro i kx b kb s' ⟨q1, q2, Hf', H', rfl, rfl, j, r1, r2⟩
      exact ⟨q1, Hf', H', rfl, j, r1⟩
    · rintro i kx b kb s' ⟨q1, q2, Hf', H', rfl, rfl, j, r1, r2⟩
      exact ⟨q2, Hf', H', rfl, j, r2⟩
  · rintro v b kb s' ⟨hi, rfl⟩ ⟨kq, Hf', H', _, j, _⟩
    generalize hbi : argBest (btL ((k0, r0) :: rest)) (es.size - 1) = bi at hi ⊢
    obtain ⟨⟨kk, vv⟩, hkv⟩ : ∃ p, kvs[bi]? = some p := ⟨kvs[bi]'(by omega), List.getElem?_eq_getElem (by omega)⟩
    obtain ⟨_, qa, hkey, hqa, _⟩ := ent bi kk vv hkv
    obtain ⟨⟨dk, dv⟩, hd⟩ : ∃ p, ds[bi]? = some p := ⟨ds[bi]'(by omega), List.getElem?_eq_getElem (by omega)⟩
    have ekk : dk = kk := (hk.at hkv hd).1
    subst ekk
    obtain ⟨ns, ef, el⟩ := rowsK_at hl hd
    have hq1 : H' qa = some (.tup (dk.map kV)) := j.g.at hqa (S.noDrT hqa)
    obtain ⟨Hf1, g1, S1, r1⟩ := fz_key j.S hq1
    have em : maxL k0 r0 rest = dk := by
      have h1 := maxL_arg ((k0, r0) :: rest) _ 0 rfl (by simp)
      have h2 : ((k0, r0) :: rest).length - 1 = es.size - 1 := by rw [lenl, ← lend, hsz]
      rw [h2, hbi] at h1
      have h3 : (((k0, r0) :: rest).getD bi ([], [])).1 = dk := by rw [List.getD_eq_getElem?_getD, el]; rfl
      rw [h3] at h1
      exact h1
    rw [hkey]
    exact ⟨.ref qa, H', j.I, rfl, q qa Hf1 H' (j.g.trans g1) S1 (by rw [em]; exact r1)⟩
def dMaxK (fk : List D → Option D) (f : Den) : Den := fun env ds => bnd (f env ds) fun a s => match a with
  | .dT kvs => (match rowsK fk kvs with
    | some ((k0, r0) :: rest) => some (keyT (maxL k0 r0 rest), s)
    | _ => none)
  | _ => none
theorem evf_maxK {x : Str} {e : Expr} {f : Den} {p p2 kpos pos : Pos} (hm : X.mg "max" = none) (hc : X.calm = true) (c : Cal X.prog X.w X.K X.mg X.base k x (spP 1 fk) []) (hr : Room j X.A) (hk : k + 1 ≤ j) (he : EvF X e f) (hgx : Gl X x := by rfl) (hg : Gl X "max" := by rfl)
    (hdb : (x == ("__debug__" : Str)) = false := by decide) (hs : starEach [e] X.env = [(false, eval e X.env)] := by rfl) (h1 : backTo pos (starEach (e :: []) X.env) = (false, eval e X.env) :: backTo pos (starEach [] X.env) := by rfl)
    (h3 : (backToKw pos (keywordEach [⟨some "key", .Name x p2, kpos⟩] X.env)).all (·.1.isSome) = true := by rfl) (h4 : (backToKw pos (keywordEach [⟨some "key", .Name x p2, kpos⟩] X.env)).any (·.1.isNone) = false := by rfl) (h5 : (backToKw pos (keywordEach [⟨some "key", .Name x p2, kpos⟩] X.env)).filterMap (·.1) = [("key" : Str)] := by rfl) :
    EvF X (.Call (.Name "max" p) [e] [⟨some "key", .Name x p2, kpos⟩] pos) (dMaxK fk f) := fun B env ds σ Hf H d ds' S hf Q q => by
  obtain ⟨fa, fd, ps, dd, F, hmx, kp, hb, hd⟩ := c.ex
  cases hd
  obtain ⟨a, s1, e1, e2⟩ := bnd_eq hf
  split at e2
  · rename_i kvs
    split at e2
    · rename_i k0 r0 rest hl
      cases e2
      have hr' : Room (k + 1) X.A := hr.mono hk
      refine SE.of (pe_callBK (cr_maxK (fk := fk) hc (by have := hr'.units; omega) F hb hr') hg hm boot_max (pa_cons (pe_se X e) pa_nil hs) (pk_cons (pe_glob (v := .ref fa) hgx hmx rfl hdb) pk_nil) (by decide) (by decide) h1 (by rw [h1]; rfl) h3 h4 h5) ?_
      refine he B env ds σ Hf H _ _ S e1 _ fun v Hf1 H1 g1 S1 r1 => ?_
      cases r1 with
      | @dT a o kv _ h1 h2 =>
        exact ⟨rfl, a, o, kv, kvs, B, env, _, σ, Hf1, k0, r0, rest, rfl, S1, h1, h2, hl, fun q' Hf' H' g' S' r' => q _ _ _ (g1.trans g') S' r'⟩
    · cases e2
  · cases e2
end
end L2.Dn
set_option Elab.async false
set_option linter.all false
set_option maxRecDepth 100000
/-! enumerate(v), enumerate(v, k) over lists and tuples (after HandS.Iter, KE.GoesEnum) -/
namespace L2.Dn
open PySem PySem.Spec PyProof.Rows
set_option maxHeartbeats 1000000 in
theorem meets_enumB1 {v : Value} {o : Obj} {H : Heap → Prop} (B : Begins v o H) :
    Meets (Builtin.«enumerate.__new__» ⟨[.type "enumerate", v], []⟩) (fun _ R s => H s.heap ∧
      R (.ok (.ret (.ref (s.heap.push o).objs.size))) { s with heap := (s.heap.push o).push { cls := .type "enumerate", data := .fields #[.none, .bool false, .ref s.heap.objs.size, rawInt 0, .none, .none] } }) :=
  .of_wp fun prog w A R s h => by
    obtain ⟨hp, g, d, tk, os⟩ := s; obtain ⟨h1, h⟩ := h
    have hsub := sub_enumerate
    have q1 : ∀ {A' : Around} {E : Value → Shared → Prop} {Q : Value → Shared → Prop}, Q (.ref hp.objs.size) ⟨hp.push o, g, d, tk, os⟩ → wpAny (model prog w) A' (pyIter v) Q E ⟨hp, g, d, tk, os⟩ :=
      fun q => B.iter prog w _ _ ⟨hp, g, d, tk, os⟩ _ h1 q
    wp_walk using q1
    refine wpAny_stack_any fun st => wpAny_pure ?_
    split
    · rename_i c _ _ _ _ _
      cases (c == Value.type "enumerate")
      · wp_walk using q1
        exact ⟨_, rfl, h⟩
      · wp_walk using q1
        exact ⟨_, rfl, h⟩
    · wp_walk using q1
      exact ⟨_, rfl, h⟩
section
variable {prog : Program} {w : World} {A : Around} {E : Value → Shared → Prop} {s : Shared}
theorem enum_begins1 {v : Value} {o : Obj} {H : Heap → Prop} {Q : Value → Shared → Prop} (B : Begins v o H) (h1 : H s.heap)
    (h : ∀ h', IsEnum h' (s.heap.objs.size + 1) s.heap.objs.size 0 .none → h'.get? s.heap.objs.size = some o → h'.objs.size = s.heap.objs.size + 2 →
      (∀ b o, s.heap.get? b = some o → h'.get? b = some o) → Q (.ref (s.heap.objs.size + 1)) { s with heap := h' }) :
    wpAny (model prog w) A (call (.type "enumerate") [v]) Q E s := by
  refine callType_new F.called_enumerate (by decide) (F.typeCall_enumerate_1 _) (F.newCall_enumerate_1 _) (fun obj => F.args_object_init_2 obj _) F.entry_enumerate_new
    (meets_enumB1 B) ⟨h1, ?_⟩
  have hz : (s.heap.push o).objs.size = s.heap.objs.size + 1 := Heap.size_push ..
  show _ ∧ _
  rw [hz]
  have he : IsEnum ((s.heap.push o).push { cls := .type "enumerate", data := .fields #[.none, .bool false, .ref s.heap.objs.size, rawInt 0, .none, .none] }) (s.heap.objs.size + 1) s.heap.objs.size 0 .none := by
    have := Heap.get?_push_size (s.heap.push o) (o := { cls := .type "enumerate", data := .fields #[.none, .bool false, .ref s.heap.objs.size, rawInt 0, .none, .none] }) rfl
    rw [hz] at this; exact this
  exact ⟨⟨_, he, rfl⟩, h _ he (Heap.get?_push_of_some _ (Heap.get?_push_size _ B.free)) (by rw [Heap.size_push, hz]) fun b o x => Heap.get?_push_of_some _ (Heap.get?_push_of_some _ x)⟩
end
/-- a list (false) or a tuple (true) -/
def SqX (t : Bool) (K : PySem.W.Frag) (H : Hp) (a : Addr) (xs : List V) : Prop := match t with
  | false => SqL K H a xs
  | true => SqT K H a xs
def ItX (t : Bool) (h : Heap) (it a : Addr) (i : Nat) : Prop := match t with
  | false => h.IsListIter it a i
  | true => h.IsTupleIter it a i
def IsX (t : Bool) (h : Heap) (a : Addr) (items : Array Value) : Prop := match t with
  | false => h.IsList a items
  | true => h.IsTuple a items
theorem ItX.at {t : Bool} {h h' : Heap} {it a : Addr} {i : Nat} (x : ItX t h it a i) (k : ∀ o, h.get? it = some o → h'.get? it = some o) : ItX t h' it a i := by
  cases t with
  | false => exact Heap.IsListIter.at x k
  | true => exact Heap.IsTupleIter.at x k
theorem ItX.lt {t : Bool} {h : Heap} {it a : Addr} {i : Nat} (x : ItX t h it a i) : it < h.objs.size := by
  cases t with
  | false => obtain ⟨_, q, _⟩ := x; exact Heap.lt_size q
  | true => obtain ⟨_, q, _⟩ := x; exact Heap.lt_size q
theorem drawsX (t : Bool) {prog : Program} {w : World} {A : Around} (hh : A.handled = none) (it a : Addr) (hne : a ≠ it) (items : Array Value) :
    Draws prog w A it [it, a] items.size (fun i v => items[i]? = some v) (fun i h => ItX t h it a i ∧ IsX t h a items) := by
  cases t with
  | false => exact Draws.list hh it a hne items
  | true => exact Draws.tuple hh it a hne items
theorem beginsX (t : Bool) (a : Addr) (items : Array Value) : ∃ o, Begins (.ref a) o (fun h => IsX t h a items) ∧ ∀ (h : Heap) (it : Addr), h.get? it = some o → ItX t h it a 0 := by
  cases t with
  | false => exact ⟨_, begins_list a items, fun h it e => ⟨_, e, rfl, rfl⟩⟩
  | true => exact ⟨_, begins_tuple a items, fun h it e => ⟨_, e, rfl, rfl⟩⟩
theorem seqX {t : Bool} {X : Cx} {pins : List (Addr × Obj)} {σ : St} {H : Hp} {s : Shared} {a : Addr} {xs : List V} (I : Inv X pins σ H s) (h : SqX t X.K H a xs) : ∃ its : List Value, Vals xs its ∧ IsX t s.heap a its.toArray := by
  cases t with
  | false => obtain ⟨its, r, p, _⟩ := I.list h; exact ⟨its, r, p.isList⟩
  | true => obtain ⟨its, r, p, _⟩ := I.tuple h; exact ⟨its, r, p⟩
theorem IsX.ne {t : Bool} {h : Heap} {a e : Addr} {items : Array Value} {it : Addr} {c : Int} {old : Value} (x : IsX t h a items) (he : IsEnum h e it c old) : e ≠ a := fun z => by
  subst z
  unfold IsEnum at he
  cases t with
  | false => obtain ⟨o, ho, hc, _⟩ := x; rw [he] at ho; cases ho; exact absurd (show Value.type "enumerate" = .type "list" from hc) (fun z => absurd (Value.type.inj z) (by decide))
  | true => obtain ⟨o, ho, hc, _⟩ := x; rw [he] at ho; cases ho; exact absurd (show Value.type "enumerate" = .type "tuple" from hc) (fun z => absurd (Value.type.inj z) (by decide))
theorem IsX.neIt {t : Bool} {h : Heap} {a it : Addr} {items : Array Value} {i : Nat} (x : IsX t h a items) (y : ItX t h it a i) : a ≠ it := fun z => by
  subst z
  cases t with
  | false => obtain ⟨o, ho, hc, _⟩ := x; obtain ⟨o', ho', hc', _⟩ := y; rw [ho] at ho'; cases ho'; rw [hc] at hc'; exact absurd (Value.type.inj hc') (by decide)
  | true => obtain ⟨o, ho, hc, _⟩ := x; obtain ⟨o', ho', hc', _⟩ := y; rw [ho] at ho'; cases ho'; rw [hc] at hc'; exact absurd (Value.type.inj hc') (by decide)
theorem enumX_end (t : Bool) {prog : Program} {w : World} {A : Around} {E : Value → Shared → Prop} {s : Shared} {e it a : Addr} {c : Int} {old : Value} {i : Nat} {items : Array Value} {Q : Option Value → Shared → Prop}
    (hh : A.handled = none) (he : IsEnum s.heap e it c old) (hit : ItX t s.heap it a i) (p : IsX t s.heap a items) (hge : items.size ≤ i)
    (hQ : ∀ h', Heap.ExtBut it s.heap h' → Q none { s with heap := h' }) : wpAny (model prog w) A (pyNext (.ref e)) Q E s := by
  have hT : s.TypeIs (.ref e) "enumerate" := ⟨_, he, rfl⟩
  have hx : items[i]? = none := Array.getElem?_eq_none hge
  unfold pyNext
  refine wpAny_bind (wpAny_attempt (wpAny_callSpecial?_slot (name := Str.ofString "__next__") hT F.slot_enumerate_next
    (wpAny_call_entry F.slot_enumerate_next hT F.entry_enumerate_next ?_ (F.args_enumerate_next_1 _))))
  show wpAny _ _ (field (.ref e) 2 >>= _) _ _ _
  refine wpAny_bind (wpAny_field he rfl (x := .ref it) rfl ?_)
  cases t with
  | false => exact wpAny_bind (wpAny_nextOf_list_end (show A.in1.handled = none from hh) hit p hx fun h' x he' hx' => by
      obtain ⟨o, ho, hc⟩ := hx'
      refine wpAny_bind (wpAny_isInstance (T := "StopIteration") (b := true) ⟨o, ho, hc⟩ isSubtype_stop ?_)
      exact wpAny_pure (hQ _ he'))
  | true => exact wpAny_bind (wpAny_nextOf_tuple_end (show A.in1.handled = none from hh) hit p hx fun h' x he' hx' => by
      obtain ⟨o, ho, hc⟩ := hx'
      refine wpAny_bind (wpAny_isInstance (T := "StopIteration") (b := true) ⟨o, ho, hc⟩ isSubtype_stop ?_)
      exact wpAny_pure (hQ _ he'))
/-- the items of the list or tuple at a, counted from k, each in a new pair -/
def IteX (t : Bool) (K : PySem.W.Frag) (a : Addr) (xs : List V) (k : Int) : It :=
  ⟨fun i H => i < xs.length ∧ SqX t K H a xs, fun i H v H' => ∃ T x, v = .ref T ∧ H T = none ∧ xs[i]? = some x ∧ H' = upd H T (.tup [.int (k + (i : Nat)), x]), fun i H => xs.length ≤ i ∧ SqX t K H a xs⟩
theorem turn_enumX (t : Bool) {P : Program} {w : World} {K : PySem.W.Frag} {elts : List Expr} {kk : Nat} {tpos : Pos} (a e it : Addr) (xs : List V) (k : Int) :
    Turn P w K (.Tuple elts kk tpos) (IteX t K a xs k) [e, it] e (fun i h => (∃ old, IsEnum h e it (k + ((i : Nat) : Int)) old) ∧ ItX t h it a i ∧ e ≠ it) where
  mem := by simp
  obj := fun i h st b hb => by
    obtain ⟨⟨old, he⟩, hi, _⟩ := st
    have e' : b = e ∨ b = it := by simpa using hb
    rcases e' with z | z
    · rw [z]; exact ⟨_, he, fun v q => nomatch q⟩
    · rw [z]
      cases t with
      | false => obtain ⟨o, ho, hc, hd⟩ := hi; exact ⟨o, ho, fun v q => by rw [hd] at q; cases q⟩
      | true => obtain ⟨o, ho, hc, hd⟩ := hi; exact ⟨o, ho, fun v q => by rw [hd] at q; cases q⟩
  keep := fun i h h' st kp => let ⟨⟨old, he⟩, hi, hne⟩ := st; ⟨⟨old, kp e (by simp) _ he⟩, hi.at fun o q => kp it (by simp) o q, hne⟩
  item := by
    intro X hP hw hK hc i pins s σ H E I hf st ⟨hi, hq⟩
    subst hP hw hK
    obtain ⟨⟨old, he⟩, hit, hne⟩ := st
    obtain ⟨its, rv, p⟩ := seqX I hq
    obtain ⟨u, hu, ru⟩ := rv.get (List.getElem?_eq_getElem hi)
    have hel : e < s.heap.objs.size := Heap.lt_size he
    have hil := hit.lt
    have hli := rv.length
    refine wpAny_pyNext_enum_itemC (drawsX t (A := X.A.in1) (show X.A.in1.handled = none from I.ok.hd hc) it a (p.neIt hit) its.toArray) he ⟨hit, p⟩ (by rw [List.size_toArray]; omega) hne (by simp [hne, p.ne he]) fun x h' tk hx ho hst hT hsz hk => ?_
    have ex : x = u := by
      have h1 : its.toArray[i]? = some x := hx
      have h2 : its.toArray[i]? = some u := by simpa using hu
      rw [h2] at h1
      exact (Option.some.inj h1).symm
    subst ex
    refine ⟨_, rfl, wpAny_letOwnedTupleGo_enum (s := { s with heap := h', toks := tk + 1 }) ho fun h'' he' sb => ?_⟩
    have hT2 : h''.get? s.heap.objs.size = some { cls := .type "tuple", data := .seq #[.int (k + ((i : Nat) : Int)) tk, x] } := (sb.2 _ (Nat.ne_of_gt hel)).trans hT
    have new : ObjOk X.prog X.w (upd H s.heap.objs.size (.tup [.int (k + ((i : Nat) : Int)), xs[i]])) h'' s.heap.objs.size (.tup [.int (k + ((i : Nat) : Int)), xs[i]]) :=
      ⟨by show 2 ≤ sizeLine; decide, [.int (k + ((i : Nat) : Int)) tk, x], .cons ⟨_, rfl⟩ (.cons ru .nil), ⟨_, hT2, rfl, _, rfl⟩⟩
    have I1 : Inv X pins σ (upd H s.heap.objs.size (.tup [.int (k + ((i : Nat) : Int)), xs[i]])) { s with heap := h'', toks := tk + 1 } :=
      I.turnedNew (ch := [e, it]) (fun b ob hb q => (sb.2 b (fun z => hb (by simp [z]))).trans (hk b ob (fun z => hb (by simp [z])) (fun z => hb (by simp [z])) q)) hf (Nat.le_refl _) new
    refine ⟨.ref s.heap.objs.size, _, I1, rfl, ⟨_, xs[i], rfl, I.fresh, List.getElem?_eq_getElem hi, rfl⟩, ⟨⟨x, ?_⟩, hst.1.at fun o q => (sb.2 it (Ne.symm hne)).trans q, hne⟩, fun b hb => ?_⟩
    · have e1 : k + ((i + 1 : Nat) : Int) = k + ((i : Nat) : Int) + 1 := by omega
      rw [e1]; exact he'
    · have hb' : b < s.heap.objs.size := by
        have e' : b = e ∨ b = it := by simpa using hb
        rcases e' with z | z
        · rw [z]; exact hel
        · rw [z]; exact hil
      rw [upd_ne (Nat.ne_of_lt hb')]
      exact (hf b hb).1
  done := by
    intro X hP hw hK hc i pins s σ H E I hf st ⟨hi, hq⟩
    subst hP hw hK
    obtain ⟨⟨old, he⟩, hit, hne⟩ := st
    obtain ⟨its, rv, p⟩ := seqX I hq
    obtain ⟨f0, f1, f2, f3, f4, f5⟩ := hf it (by simp)
    have hl := rv.length
    exact enumX_end t (I.ok.hd hc) he hit p (by rw [List.size_toArray]; omega) fun h' eb => ⟨rfl, I.turned (t' := s.toks) (fun b o hb q => eb b o hb q) f0 f1 f3 f4 f5⟩
  self := fun A i s Q E st h => let ⟨⟨_, he⟩, _⟩ := st; wpAny_pyIter_enum he h
def iEnX (t : Bool) (K : PySem.W.Frag) (ta : TA) : TI := fun σ H R => ta σ H fun vs H1 => ∃ a xs, (vs = [.ref a] ∧ SqX t K H1 a xs ∧ R (IteX t K a xs 0) H1) ∨ ∃ k : Int, vs = [.ref a, .int k] ∧ (-(2 ^ 62) ≤ k ∧ k < 2 ^ 62) ∧ SqX t K H1 a xs ∧ R (IteX t K a xs k) H1
section
variable {X : Cx} {tg e b : Expr} {es : List Expr} {f h : Den}
theorem pi_enX (t : Bool) {ta : TA} {p pos tpos : Pos} {elts : List Expr} {kk : Nat} (hg : Gl X "enumerate") (hm : X.mg "enumerate" = none) (ha : PA X (e :: es) ta) (hs : starEach (e :: es) X.env = (false, eval e X.env) :: starEach es X.env) (hpl : (backTo pos (starEach es X.env)).any (·.1) = false) :
    PI X (.Tuple elts kk tpos) (.Call (.Name "enumerate" p) (e :: es) [] pos) (iEnX t X.K ta) := by
  refine ⟨fun pins s σ H R I h => ?_⟩
  refine Call_ (ld_blt I hg hm boot_enumerate (PyProof.Rows.callWith_type1 (thn (ha.run pos pins s σ H _ I h) fun us s1 ⟨vs, H1, I1, r1, a, xs, q1⟩ => ?_) hs hpl))
  have go : ∀ (k : Int) (h' : Heap) (o : Obj) (its : Array Value), (∀ (h : Heap) (it : Addr), h.get? it = some o → ItX t h it a 0) → IsEnum h' (s1.heap.objs.size + 1) s1.heap.objs.size k .none → h'.get? s1.heap.objs.size = some o → h'.objs.size = s1.heap.objs.size + 2 → (∀ b o, s1.heap.get? b = some o → h'.get? b = some o) → SqX t X.K H1 a xs → R (IteX t X.K a xs k) H1 →
      wpAny (model X.prog X.w) X.A (pyIter (.ref (s1.heap.objs.size + 1))) (PIE X pins σ (.Tuple elts kk tpos) R) X.xe { s1 with heap := h' } := fun k h' o its B2 he hit hsz hk hq q => by
    refine wpAny_pyIter_enum he ?_
    have I2 : Inv X pins σ H1 { s1 with heap := h' } := I1.kept (t' := s1.toks) hk
    refine ⟨s1.heap.objs.size + 1, [s1.heap.objs.size + 1, s1.heap.objs.size], _, _, H1, rfl, I2, turn_enumX t a (s1.heap.objs.size + 1) s1.heap.objs.size xs k, ⟨⟨.none, ?_⟩, B2 _ _ hit, Nat.succ_ne_self _⟩, fun b hb => ?_, q⟩
    · have e1 : k + ((0 : Nat) : Int) = k := by simp
      rw [e1]; exact he
    have e' : b = s1.heap.objs.size + 1 ∨ b = s1.heap.objs.size := by simpa using hb
    have hle : s1.heap.objs.size ≤ b := by
      rcases e' with z | z
      · rw [z]; exact Nat.le_add_right _ _
      · rw [z]; exact Nat.le_refl _
    exact I1.fpOk hle (I1.hok.fresh hle)
  rcases q1 with ⟨ev, hq, q⟩ | ⟨k, ev, hk, hq, q⟩
  · subst ev
    cases r1 with
    | cons r rr =>
      cases rr
      cases r
      obtain ⟨its, rv, p'⟩ := seqX I1 hq
      obtain ⟨o, B, B2⟩ := beginsX t a its.toArray
      exact enum_begins1 B p' fun h' he hit hsz hk => go 0 h' o its.toArray B2 he hit hsz hk hq q
  · subst ev
    cases r1 with
    | cons r rr =>
      cases rr with
      | cons r2 rr =>
        cases rr
        cases r
        obtain ⟨tk, rfl⟩ := r2
        obtain ⟨its, rv, p'⟩ := seqX I1 hq
        obtain ⟨o, B, B2⟩ := beginsX t a its.toArray
        exact enum_begins B p' (by omega) (by omega) fun h' he hit hsz hkk => go k h' o its.toArray B2 he hit hsz hkk hq q
def enumD (k : Int) : List D → List D
  | [] => []
  | d :: r => .tuple [.int k, d] :: enumD (k + 1) r
theorem enumD_len : ∀ (k : Int) (xs : List D), (enumD k xs).length = xs.length
  | _, [] => rfl
  | k, _ :: r => congrArg Nat.succ (enumD_len (k + 1) r)
theorem enumD_get : ∀ (k : Int) (xs : List D) (i : Nat), (enumD k xs)[i]? = (xs[i]?).map fun d => .tuple [.int (k + i), d]
  | _, [], _ => rfl
  | k, d :: r, 0 => by simp [enumD]
  | k, d :: r, i + 1 => by
    show (enumD (k + 1) r)[i]? = _
    rw [enumD_get (k + 1) r i]
    have : k + 1 + (i : Int) = k + ((i + 1 : Nat) : Int) := by omega
    rw [this]
    rfl
theorem yl_enX (t : Bool) {B : Bs} {K : PySem.W.Frag} {a : Addr} {vs : List V} {items : List D} {Hf0 : Hp} {k : Int} (h : Hf0 a = some (match t with | false => .lst vs | true => .tup vs)) (r : RpL Hf0 vs items) : Yl B K (IteX t K a vs k) (enumD k items) Hf0 := fun i env ds σ Hf H s S => by
  have hl := r.length
  have hq : SqX t K H a vs := by
    have := S.sub _ _ (s _ _ h)
    cases t with
    | false => exact .inl (.inl this)
    | true => exact .inl (.inl this)
  rw [enumD_len]
  refine ⟨fun hi => ⟨⟨by omega, hq⟩, fun x H' y d hd => ?_⟩, fun hi => ⟨by omega, hq⟩⟩
  obtain ⟨T, v, rfl, nT, ev, rfl⟩ := y
  rw [enumD_get, List.getElem?_eq_getElem hi] at hd
  cases hd
  obtain ⟨d', h1, h2⟩ := r.get' ev
  rw [List.getElem?_eq_getElem hi] at h1
  cases h1
  have nf := sub_none S nT
  have F := S.fre nT
  exact ⟨_, (Gr.refl.hp nT).fz nT nf, (S.hp nf F).fz nf upd_same F, .tup upd_same ((RpL.cons (.int _) (.cons (h2.up s) .nil)).up (same_fz nf))⟩
theorem yl_enP {B : Bs} {K : PySem.W.Frag} {a : Addr} {vs : List V} {items : List D} {Hf0 : Hp} {k : Int} {o : Obj} (h : Hf0 a = some (.frz o (.tup vs))) (r : RpL Hf0 vs items) : Yl B K (IteX true K a vs k) (enumD k items) Hf0 := fun i env ds σ Hf H s S => by
  have hl := r.length
  have hq : SqX true K H a vs := by
    have := S.sub _ _ (s _ _ h)
    exact .inl (.inr ⟨o, this⟩)
  rw [enumD_len]
  refine ⟨fun hi => ⟨⟨by omega, hq⟩, fun x H' y d hd => ?_⟩, fun hi => ⟨by omega, hq⟩⟩
  obtain ⟨T, v, rfl, nT, ev, rfl⟩ := y
  rw [enumD_get, List.getElem?_eq_getElem hi] at hd
  cases hd
  obtain ⟨d', h1, h2⟩ := r.get' ev
  rw [List.getElem?_eq_getElem hi] at h1
  cases h1
  have nf := sub_none S nT
  have F := S.fre nT
  exact ⟨_, (Gr.refl.hp nT).fz nT nf, (S.hp nf F).fz nf upd_same F, .tup upd_same ((RpL.cons (.int _) (.cons (h2.up s) .nil)).up (same_fz nf))⟩
def seqI : D → Option (List D)
  | .list xs => some xs
  | .tuple xs => some xs
  | .ptup xs => some xs
  | _ => none
def dEn1 (f : Den) : DenA := fun env ds => bnd (f env ds) fun a s => match seqI a with
  | some xs => some (enumD 0 xs, s)
  | none => none
def dEn2 (f h : Den) : DenA := fun env ds => bnd (f env ds) fun a s => bnd (h env s) fun b s1 => match b with
  | .int k => if -100000 < k ∧ k < 100000 then (match seqI a with
    | some xs => some (enumD k xs, s1)
    | none => none) else none
  | _ => none
theorem evi_en1 {p pos tpos : Pos} {elts : List Expr} {kk : Nat} (hm : X.mg "enumerate" = none) (hf : EvF X e f) (hg : Gl X "enumerate" := by rfl) (hs : starEach [e] X.env = (false, eval e X.env) :: starEach [] X.env := by rfl) :
    EvI X (.Tuple elts kk tpos) (.Call (.Name "enumerate" p) [e] [] pos) (dEn1 f) := fun B env ds σ Hf H items ds' S he R q => by
  obtain ⟨v1, s1, e1, e2⟩ := bnd_eq he
  cases v1 with
  | list xs =>
    cases e2
    refine SI.of (pi_enX false hg hm (pa_cons (pe_se X _) pa_nil hs) hs rfl) (hf B env ds σ Hf H _ _ S e1 _ fun v Hf1 H1 g1 S1 r1 => ?_)
    cases r1 with
    | lst h1 r => exact ⟨_, _, .inl ⟨rfl, .inl (.inl (S1.sub _ _ h1)), q _ _ _ g1 S1 (yl_enX false h1 r)⟩⟩
  | tuple xs =>
    cases e2
    refine SI.of (pi_enX true hg hm (pa_cons (pe_se X _) pa_nil hs) hs rfl) (hf B env ds σ Hf H _ _ S e1 _ fun v Hf1 H1 g1 S1 r1 => ?_)
    cases r1 with
    | tup h1 r => exact ⟨_, _, .inl ⟨rfl, .inl (.inl (S1.sub _ _ h1)), q _ _ _ g1 S1 (yl_enX true h1 r)⟩⟩
  | ptup xs =>
    cases e2
    refine SI.of (pi_enX true hg hm (pa_cons (pe_se X _) pa_nil hs) hs rfl) (hf B env ds σ Hf H _ _ S e1 _ fun v Hf1 H1 g1 S1 r1 => ?_)
    cases r1 with
    | ptup h1 hd r => exact ⟨_, _, .inl ⟨rfl, .inl (.inr ⟨_, S1.sub _ _ h1⟩), q _ _ _ g1 S1 (yl_enP h1 r)⟩⟩
  | _ => cases e2
theorem evi_en2 {p pos tpos : Pos} {elts : List Expr} {kk : Nat} (hm : X.mg "enumerate" = none) (hf : EvF X e f) (hb : EvR X b h) (hg : Gl X "enumerate" := by rfl) (hs : starEach [e, b] X.env = (false, eval e X.env) :: starEach [b] X.env := by rfl) (hs2 : starEach [b] X.env = (false, eval b X.env) :: starEach [] X.env := by rfl)
    (hpl : (backTo pos (starEach [b] X.env)).any (·.1) = false := by rfl) : EvI X (.Tuple elts kk tpos) (.Call (.Name "enumerate" p) [e, b] [] pos) (dEn2 f h) := fun B env ds σ Hf H items ds' S he R q => by
  obtain ⟨v1, s1, e1, e2⟩ := bnd_eq he
  obtain ⟨v2, s2, e3, e4⟩ := bnd_eq e2
  cases v2 with
  | int k =>
    have e4 : (if -100000 < k ∧ k < 100000 then (match seqI v1 with | some xs => some (enumD k xs, s2) | none => none) else none) = some (items, ds') := e4
    split at e4
    · rename_i hk
      cases v1 with
      | list xs =>
        cases e4
        refine SI.of (pi_enX false hg hm (pa_cons (pe_se X _) (pa_cons (pe_se X _) pa_nil hs2) hs) hs hpl) (hf B env ds σ Hf H _ _ S e1 _ fun v Hf1 H1 g1 S1 r1 => hb B env s1 σ Hf1 H1 _ _ S1 e3 _ fun v2 Hf2 H2 g2 S2 r2 => ?_)
        cases r2.int
        cases r1.up g2.ff with
        | lst h1 r => exact ⟨_, _, .inr ⟨k, rfl, by omega, .inl (.inl (S2.sub _ _ h1)), q _ _ _ (g1.trans g2) S2 (yl_enX false h1 r)⟩⟩
      | tuple xs =>
        cases e4
        refine SI.of (pi_enX true hg hm (pa_cons (pe_se X _) (pa_cons (pe_se X _) pa_nil hs2) hs) hs hpl) (hf B env ds σ Hf H _ _ S e1 _ fun v Hf1 H1 g1 S1 r1 => hb B env s1 σ Hf1 H1 _ _ S1 e3 _ fun v2 Hf2 H2 g2 S2 r2 => ?_)
        cases r2.int
        cases r1.up g2.ff with
        | tup h1 r => exact ⟨_, _, .inr ⟨k, rfl, by omega, .inl (.inl (S2.sub _ _ h1)), q _ _ _ (g1.trans g2) S2 (yl_enX true h1 r)⟩⟩
      | ptup xs =>
        cases e4
        refine SI.of (pi_enX true hg hm (pa_cons (pe_se X _) (pa_cons (pe_se X _) pa_nil hs2) hs) hs hpl) (hf B env ds σ Hf H _ _ S e1 _ fun v Hf1 H1 g1 S1 r1 => hb B env s1 σ Hf1 H1 _ _ S1 e3 _ fun v2 Hf2 H2 g2 S2 r2 => ?_)
        cases r2.int
        cases r1.up g2.ff with
        | ptup h1 hd r => exact ⟨_, _, .inr ⟨k, rfl, by omega, .inl (.inr ⟨_, S2.sub _ _ h1⟩), q _ _ _ (g1.trans g2) S2 (yl_enP h1 r)⟩⟩
      | _ => cases e4
    · cases e4
  | _ => cases e4
end
end L2.Dn
set_option Elab.async false
set_option linter.all false
set_option maxRecDepth 100000
/-! built-in functions and methods on data -/
namespace L2.Dn
open PySem PySem.Spec PyProof.Rows
section
variable {X : Cx}
/-! len -/
def rLen1 (X : Cx) : List V → Hp → VK → Prop := fun xs H Q => ((∃ x n, xs = [x] ∧ LenV X.K x H n ∧ Q (.int n) H) ∨ rLenTR xs H Q) ∨ rLenKR xs H Q
theorem cr_len : CallR X (.builtin "len") (rLen1 X) := CallR.or (CallR.or call_len call_len_dTR) call_len_dKR
def gLen : List D → Option D
  | [.list xs] => some (.int (xs.length : Nat))
  | [.tuple xs] => some (.int (xs.length : Nat))
  | [.ptup xs] => some (.int (xs.length : Nat))
  | [.dT xs] => some (.int (xs.length : Nat))
  | [.dK xs] => some (.int (xs.length : Nat))
  | _ => none
theorem rc_len : RCF X (rLen1 X) gLen := fun B env ds σ Hf H args d vs Q S r e q => by
  unfold gLen at e
  split at e
  · cases e
    cases r with
    | cons r t =>
      cases t
      obtain ⟨a, ws, rfl, h1, h2⟩ := r.lst S.sub
      exact .inl (.inl ⟨_, _, rfl, .inl ⟨ws, .inl (.inl h1), h2.length.symm⟩, q.now S (.int _)⟩)
  · cases e
    cases r with
    | cons r t =>
      cases t
      obtain ⟨a, ws, rfl, h1, h2⟩ := r.tup
      exact .inl (.inl ⟨_, _, rfl, .inr ⟨ws, .inl (.inl (S.sub _ _ h1)), h2.length.symm⟩, q.now S (.int _)⟩)
  · cases e
    cases r with
    | cons r t =>
      cases t
      obtain ⟨a, ws, o, rfl, h1, _, h2⟩ := r.ptup
      exact .inl (.inl ⟨_, _, rfl, .inr ⟨ws, .inl (.inr ⟨o, S.sub _ _ h1⟩), h2.length.symm⟩, q.now S (.int _)⟩)
  · cases e
    cases r with
    | cons r t =>
      cases t
      obtain ⟨a, ws, rfl, h1, h2⟩ := r.dT S.sub
      refine .inl (.inr ⟨_, _, rfl, h1, ?_⟩)
      rw [h2.length]
      exact q.now S (.int _)
  · cases e
    cases r with
    | cons r t =>
      cases t
      obtain ⟨a, ws, rfl, h1, h2⟩ := r.dK S.sub
      refine .inr ⟨_, _, rfl, h1, ?_⟩
      rw [h2.length]
      exact q.now S (.int _)
  · cases e
/-! list(x), tuple(x) -/
def gListS : List D → Option D
  | [.list xs] => some (.list xs)
  | [.tuple xs] => some (.list xs)
  | [.ptup xs] => some (.list xs)
  | _ => none
theorem rc_list : RCN X (fun xs H Q => ∃ p ys, xs = [.ref p] ∧ (SqL X.K H p ys ∨ SqT X.K H p ys) ∧ ∀ l, H l = none → Q (.ref l) (upd H l (.lst ys))) gListS := fun B env ds σ Hf H args d vs Q S r e q => by
  unfold gListS at e
  split at e
  · cases e
    cases r with
    | cons r t =>
      cases t
      obtain ⟨a, ws, rfl, h1, h2⟩ := r.lst S.sub
      exact ⟨_, ws, rfl, .inl (.inl (.inl h1)), q.lst S h2⟩
  · cases e
    cases r with
    | cons r t =>
      cases t
      obtain ⟨a, ws, rfl, h1, h2⟩ := r.tup
      exact ⟨_, ws, rfl, .inr (.inl (.inl (S.sub _ _ h1))), q.lst S h2⟩
  · cases e
    cases r with
    | cons r t =>
      cases t
      obtain ⟨a, ws, o, rfl, h1, _, h2⟩ := r.ptup
      exact ⟨_, ws, rfl, .inr (.inl (.inr ⟨o, S.sub _ _ h1⟩)), q.lst S h2⟩
  · cases e
def gTupS : List D → Option D
  | [.list xs] => some (.tuple xs)
  | [.tuple xs] => some (.tuple xs)
  | [.ptup xs] => some (.ptup xs)
  | _ => none
theorem rc_tuple : RCF X (fun xs H Q => ∃ p ys, xs = [.ref p] ∧ ((SqL X.K H p ys ∧ ∀ l, H l = none → Q (.ref l) (upd H l (.tup ys))) ∨ (SqT X.K H p ys ∧ Q (.ref p) H))) gTupS := fun B env ds σ Hf H args d vs Q S r e q => by
  unfold gTupS at e
  split at e
  · cases e
    cases r with
    | cons r t =>
      cases t
      obtain ⟨a, ws, rfl, h1, h2⟩ := r.lst S.sub
      exact ⟨_, ws, rfl, .inl ⟨.inl (.inl h1), q.tup S h2⟩⟩
  · cases e
    cases r with
    | cons r t =>
      cases t
      obtain ⟨a, ws, rfl, h1, h2⟩ := r.tup
      exact ⟨_, ws, rfl, .inr ⟨.inl (.inl (S.sub _ _ h1)), q.now S (.tup h1 h2)⟩⟩
  · cases e
    cases r with
    | cons r t =>
      cases t
      obtain ⟨a, ws, o, rfl, h1, hd, h2⟩ := r.ptup
      exact ⟨_, ws, rfl, .inr ⟨.inl (.inr ⟨o, S.sub _ _ h1⟩), q.now S (.ptup h1 hd h2)⟩⟩
  · cases e
/-! all, sum, max, min -/
def gAll : List D → Option D
  | [.list xs] => (match bools? xs with
    | some bs => some (.bool (bs.all id))
    | none => none)
  | _ => none
theorem rc_all : RCF X (rAll X.K) gAll := fun B env ds σ Hf H args d vs Q S r e q => by
  unfold gAll at e
  split at e
  · split at e
    · rename_i bs hb
      cases e
      cases r with
      | cons r t =>
        cases t
        obtain ⟨a, ws, rfl, h1, h2⟩ := r.lst S.sub
        rw [bools_eq hb] at h2
        rw [rpl_bools h2] at h1
        exact ⟨a, bs, rfl, .inl (.inl h1), q.now S (.bl _)⟩
    · cases e
  · cases e
def gSum : List D → Option D
  | [.list xs] => (match ints? xs with
    | some ns => some (.int ns.sum)
    | none => none)
  | _ => none
theorem rc_sum : RCF X (rSum X.K) gSum := fun B env ds σ Hf H args d vs Q S r e q => by
  unfold gSum at e
  split at e
  · split at e
    · rename_i bs hb
      cases e
      cases r with
      | cons r t =>
        cases t
        obtain ⟨a, ws, rfl, h1, h2⟩ := r.lst S.sub
        rw [ints_eq hb] at h2
        rw [rpl_ints h2] at h1
        exact ⟨a, bs, rfl, .inl (.inl h1), q.now S (.int _)⟩
    · cases e
  · cases e
def maxI (m : Int) : List Int → Int
  | [] => m
  | x :: r => (match decide (m < x) with
    | true => maxI x r
    | false => maxI m r)
theorem maxI_ge : ∀ (l : List Int) (m : Int), m ≤ maxI m l ∧ (∀ y ∈ l, y ≤ maxI m l) ∧ (maxI m l = m ∨ maxI m l ∈ l)
  | [], m => ⟨Int.le_refl _, fun y h => absurd h (by simp), .inl rfl⟩
  | x :: r, m => by
    unfold maxI
    cases q : decide (m < x) with
    | true =>
      have q := of_decide_eq_true q
      obtain ⟨h1, h2, h3⟩ := maxI_ge r x
      simp only []
      refine ⟨by omega, fun y hy => ?_, ?_⟩
      · rcases List.mem_cons.mp hy with rfl | hy
        · exact h1
        · exact h2 y hy
      · rcases h3 with h3 | h3
        · exact .inr (by rw [h3]; exact List.mem_cons_self ..)
        · exact .inr (List.mem_cons_of_mem _ h3)
    | false =>
      have q := of_decide_eq_false q
      obtain ⟨h1, h2, h3⟩ := maxI_ge r m
      simp only []
      refine ⟨h1, fun y hy => ?_, ?_⟩
      · rcases List.mem_cons.mp hy with rfl | hy
        · omega
        · exact h2 y hy
      · rcases h3 with h3 | h3
        · exact .inl h3
        · exact .inr (List.mem_cons_of_mem _ h3)
def gMaxL : List D → Option D
  | [.list xs] => (match ints? xs with
    | some (n :: ns) => some (.int (maxI n ns))
    | _ => none)
  | _ => none
theorem rc_maxL : RCF X (rMax X.K) gMaxL := fun B env ds σ Hf H args d vs Q S r e q => by
  unfold gMaxL at e
  split at e
  · split at e
    · rename_i n ns hb
      cases e
      cases r with
      | cons r t =>
        cases t
        obtain ⟨a, ws, rfl, h1, h2⟩ := r.lst S.sub
        rw [ints_eq hb] at h2
        rw [rpl_ints h2] at h1
        refine ⟨a, n :: ns, rfl, .inl (.inl h1), by simp, fun m hm hle => ?_⟩
        obtain ⟨g1, g2, g3⟩ := maxI_ge ns n
        have : m = maxI n ns := by
          apply Int.le_antisymm
          · rcases List.mem_cons.mp hm with rfl | hm
            · exact g1
            · exact g2 m hm
          · rcases g3 with g3 | g3
            · rw [g3]; exact hle n (List.mem_cons_self ..)
            · exact hle _ (List.mem_cons_of_mem _ g3)
        subst this
        exact q.now S (.int _)
    · cases e
  · cases e
def gMax2 : List D → Option D
  | [.int i, .int j] => some (.int (if j > i then j else i))
  | _ => none
def gMin2 : List D → Option D
  | [.int i, .int j] => some (.int (if j < i then j else i))
  | _ => none
theorem rc_max2 : RCF X (fun xs H Q => ∃ i j, xs = [.int i, .int j] ∧ Q (.int (if j > i then j else i)) H) gMax2 := fun B env ds σ Hf H args d vs Q S r e q => by
  unfold gMax2 at e
  split at e
  · cases e
    cases r with
    | cons r t =>
      cases t with
      | cons r2 t =>
        cases t
        cases r.int
        cases r2.int
        exact ⟨_, _, rfl, q.now S (.int _)⟩
  · cases e
theorem rc_min2 : RCF X (fun xs H Q => ∃ i j, xs = [.int i, .int j] ∧ Q (.int (if j < i then j else i)) H) gMin2 := fun B env ds σ Hf H args d vs Q S r e q => by
  unfold gMin2 at e
  split at e
  · cases e
    cases r with
    | cons r t =>
      cases t with
      | cons r2 t =>
        cases t
        cases r.int
        cases r2.int
        exact ⟨_, _, rfl, q.now S (.int _)⟩
  · cases e
/-! sorted, of ints -/
def insI (x : Int) : List Int → List Int
  | [] => [x]
  | y :: r => (match decide (x ≤ y) with
    | true => x :: y :: r
    | false => y :: insI x r)
def isort : List Int → List Int
  | [] => []
  | x :: r => insI x (isort r)
theorem insI_perm (x : Int) : ∀ l : List Int, (insI x l).Perm (x :: l)
  | [] => .refl _
  | y :: r => by
    unfold insI
    split
    · exact .refl _
    · exact ((insI_perm x r).cons y).trans (.swap x y r)
theorem insI_mem {x z : Int} {l : List Int} : z ∈ insI x l → z = x ∨ z ∈ l := fun h => List.mem_cons.mp ((insI_perm x l).mem_iff.mp h)
theorem insI_sorted (x : Int) : ∀ {l : List Int}, l.Pairwise (· ≤ ·) → (insI x l).Pairwise (· ≤ ·)
  | [], _ => by simp [insI]
  | y :: r, h => by
    unfold insI
    obtain ⟨h1, h2⟩ := List.pairwise_cons.mp h
    split
    · rename_i e
      have e := of_decide_eq_true e
      exact List.pairwise_cons.mpr ⟨fun z hz => by
        rcases List.mem_cons.mp hz with rfl | hz
        · exact e
        · exact Int.le_trans e (h1 z hz), h⟩
    · rename_i e
      have e := of_decide_eq_false e
      exact List.pairwise_cons.mpr ⟨fun z hz => by
        rcases insI_mem hz with rfl | hz
        · omega
        · exact h1 z hz, insI_sorted x h2⟩
theorem isort_perm : ∀ l : List Int, (isort l).Perm l
  | [] => .refl _
  | x :: r => (insI_perm x (isort r)).trans ((isort_perm r).cons x)
theorem isort_sorted : ∀ l : List Int, (isort l).Pairwise (· ≤ ·)
  | [] => .nil
  | x :: r => insI_sorted x (isort_sorted r)
theorem isort_only {l l' : List Int} (h : l'.Perm l) (s : l'.Pairwise (· ≤ ·)) : l' = isort l :=
  List.Perm.eq_of_pairwise (fun a b _ _ h1 h2 => Int.le_antisymm h1 h2) s (isort_sorted l) (h.trans (isort_perm l).symm)
def rSorted2 (X : Cx) : List V → Hp → VK → Prop := fun vs H Q => rSortedI X.K vs H Q ∨ rSortedA X.K vs H Q
theorem cr_sorted2 : CallR X (.builtin "sorted") (rSorted2 X) := CallR.or cr_sortedI cr_sortedA
def gSorted : List D → Option D
  | [.list xs] => (match ints? xs with
    | some ns => some (.list ((isort ns).map D.int))
    | none => none)
  | [.tuple xs] => (match ints? xs with
    | some ns => some (.list ((isort ns).map D.int))
    | none => none)
  | [.ptup xs] => (match ints? xs with
    | some ns => some (.list ((isort ns).map D.int))
    | none => none)
  | _ => none
theorem rc_sorted : RCN X (rSorted2 X) gSorted := fun B env ds σ Hf H args d vs Q S r e q => by
  unfold gSorted at e
  split at e
  · split at e
    · rename_i ns hb
      cases e
      cases r with
      | cons r t =>
        cases t
        obtain ⟨a, ws, rfl, h1, h2⟩ := r.lst S.sub
        rw [ints_eq hb] at h2
        rw [rpl_ints h2] at h1
        refine .inl ⟨a, ns, rfl, .inl (.inl h1), fun ns' p hp hs hn => ?_⟩
        rw [isort_only hp hs]
        exact q.lst S (ints_rpl _) p hn
    · cases e
  · split at e
    · rename_i ns hb
      cases e
      cases r with
      | cons r t =>
        cases t
        obtain ⟨a, ws, rfl, h1, h2⟩ := r.tup
        rw [ints_eq hb] at h2
        rw [rpl_ints h2] at h1
        refine .inr ⟨a, ns, rfl, .inl (.inl (S.sub _ _ h1)), fun ns' p hp hs hn => ?_⟩
        rw [isort_only hp hs]
        exact q.lst S (ints_rpl _) p hn
    · cases e
  · split at e
    · rename_i ns hb
      cases e
      cases r with
      | cons r t =>
        cases t
        obtain ⟨a, ws, o, rfl, h1, _, h2⟩ := r.ptup
        rw [ints_eq hb] at h2
        rw [rpl_ints h2] at h1
        refine .inr ⟨a, ns, rfl, .inl (.inr ⟨o, S.sub _ _ h1⟩), fun ns' p hp hs hn => ?_⟩
        rw [isort_only hp hs]
        exact q.lst S (ints_rpl _) p hn
    · cases e
  · cases e
end
/-! ### isinstance(e, T) -/
inductive Ty where
  | int | bool | str | list | tuple | dict
def Ty.nm : Ty → String
  | .int => "int"
  | .bool => "bool"
  | .str => "str"
  | .list => "list"
  | .tuple => "tuple"
  | .dict => "dict"
def tyD : D → String
  | .none => "NoneType"
  | .bool _ => "bool"
  | .int _ => "int"
  | .str _ => "str"
  | .list _ => "list"
  | .tuple _ => "tuple"
  | .ptup _ => "tuple"
  | .dT _ => "dict"
  | .dK _ => "dict"
def isi : Ty → D → Bool
  | .int, .int _ => true
  | .int, .bool _ => true
  | .bool, .bool _ => true
  | .str, .str _ => true
  | .list, .list _ => true
  | .tuple, .tuple _ => true
  | .tuple, .ptup _ => true
  | .dict, .dT _ => true
  | .dict, .dK _ => true
  | _, _ => false
theorem isi_kit (t : Ty) (d : D) : kitB (tyD d) t.nm = some (isi t d) := by
  cases t <;> cases d <;> kernel_rfl
def dIsi (t : Ty) (f : Den) : Den := fun env ds => bnd (f env ds) fun a s => some (.bool (isi t a), s)
section
variable {X : Cx} {e : Expr} {f : Den} {p p2 pos : Pos}
def rIsi2 (X : Cx) : List V → Hp → VK → Prop := fun xs H Q => rIsi X.K xs H Q ∨ rIsiD X.K xs H Q
theorem cr_isi2 : CallR X (.builtin "isinstance") (rIsi2 X) := CallR.or call_isi call_isiD
theorem evf_isi (t : Ty) {tn : Str} (hv : bootBuiltins tn = some (.type t.nm)) (hm : X.mg "isinstance" = none) (hmt : X.mg tn = none) (he : EvR X e f) (hgt : Gl X tn := by rfl) (hg : Gl X "isinstance" := by rfl) (hnt : tn ≠ "__name__" := by decide) (hdt : (tn == ("__debug__" : Str)) = false := by decide)
    (hs : starEach [e, .Name tn p2] X.env = (false, eval e X.env) :: starEach [.Name tn p2] X.env := by rfl) (hs2 : starEach [.Name tn p2] X.env = (false, eval (.Name tn p2) X.env) :: starEach [] X.env := by rfl) (hpl : (backTo pos (starEach [.Name tn p2] X.env)).any (·.1) = false := by rfl) :
    EvF X (.Call (.Name "isinstance" p) [e, .Name tn p2] [] pos) (dIsi t f) := fun B env ds σ Hf H d ds' S hf Q q => by
  obtain ⟨a, s1, e1, e2⟩ := bnd_eq hf
  cases e2
  refine SE.of (pe_callB cr_isi2 hg hm boot_isinstance (pa_cons (pe_se X e) (pa_cons (pe_bltn (v := .ty t.nm) hgt hmt hv rfl hnt hdt) pa_nil hs2) hs) (by decide) (by decide) hs hpl) ?_
  refine he B env ds σ Hf H _ _ S e1 _ fun v Hf1 H1 g1 S1 r1 => ?_
  have k := isi_kit t a
  have fin : Q (.bl (isi t a)) H1 := q _ _ _ g1 S1 (.bl _)
  have base : ∀ {tv : Value}, TyX X.K H1 v tv → tv = .type (tyD a) → rIsi2 X [v, .ty t.nm] H1 Q := fun {tv} h eq => by
    subst eq
    exact .inl ⟨v, .ty t.nm, _, .type t.nm, _, rfl, .ty _, h, kit_ty k, fin⟩
  cases a with
  | none => cases r1.non; exact base (.base .non) rfl
  | bool b => cases r1.bl; exact base (.base (.bl _)) rfl
  | int i => cases r1.int; exact base (.base (.int _)) rfl
  | str x => cases r1.str; exact base (.base (.str _)) rfl
  | list xs =>
    obtain ⟨c, ws, rfl, h1, h2⟩ := r1.lst S1.sub
    exact base (.base (.lst h1)) rfl
  | tuple xs =>
    obtain ⟨c, ws, rfl, h1, h2⟩ := r1.tup
    exact base (.base (.tup (S1.sub _ _ h1))) rfl
  | ptup xs =>
    obtain ⟨c, ws, o, rfl, h1, _, h2⟩ := r1.ptup
    exact base (.fTuple (S1.sub _ _ h1)) rfl
  | dT kvs =>
    obtain ⟨c, ws, rfl, h1, h2⟩ := r1.dT S1.sub
    exact .inr ⟨c, .ty t.nm, .type t.nm, _, rfl, .ty _, .inl ⟨_, h1⟩, kit_ty k, fin⟩
  | dK kvs =>
    obtain ⟨c, ws, rfl, h1, h2⟩ := r1.dK S1.sub
    exact .inr ⟨c, .ty t.nm, .type t.nm, _, rfl, .ty _, .inr ⟨_, h1⟩, kit_ty k, fin⟩
end
/-! ### ranges as values -/
def rgS (a c : Int) : Nat → List D
  | 0 => []
  | n + 1 => .int a :: rgS (a + c) c n
theorem rgV_rp {Hf : Hp} (a : Int) : ∀ (n : Nat) (b : Int), b = a → RpL Hf ((List.range n).map fun i => V.int (b + (i : Nat))) (rgD b n) := by
  intro n b _
  induction n generalizing b a with
  | zero => exact .nil
  | succ n ih =>
    rw [List.range_succ_eq_map, List.map_cons, List.map_map]
    have e : (fun i : Nat => V.int (b + (i : Nat))) ∘ Nat.succ = fun i : Nat => V.int (b + 1 + (i : Nat)) := by
      funext i
      show V.int (b + ((i + 1 : Nat) : Int)) = _
      congr 1
      omega
    rw [e]
    have z : (b + ((0 : Nat) : Int)) = b := by simp
    rw [z]
    exact .cons (.int b) (ih (b + 1) (b + 1) rfl)
theorem rgV_rpl {Hf : Hp} (a b : Int) : RpL Hf (rgV a b) (rgD a (b - a).toNat) := rgV_rp a _ a rfl
theorem rgS_rp {Hf : Hp} (c : Int) : ∀ (n : Nat) (b : Int), RpL Hf ((List.range n).map fun i => V.int (b + (i : Nat) * c)) (rgS b c n) := by
  intro n
  induction n with
  | zero => intro b; exact .nil
  | succ n ih =>
    intro b
    rw [List.range_succ_eq_map, List.map_cons, List.map_map]
    have e : (fun i : Nat => V.int (b + (i : Nat) * c)) ∘ Nat.succ = fun i : Nat => V.int (b + c + (i : Nat) * c) := by
      funext i
      show V.int (b + ((i + 1 : Nat) : Int) * c) = _
      congr 1
      rw [Int.natCast_succ, Int.add_mul]
      omega
    rw [e]
    have z : (b + ((0 : Nat) : Int) * c) = b := by simp
    rw [z]
    exact .cons (.int b) (ih (b + c))
def dTupI (g : DenA) : Den := fun env ds => bnd (g env ds) fun xs s => if xs.length ≤ 100000 then some (.tuple xs, s) else none
def dLstI (g : DenA) : Den := fun env ds => bnd (g env ds) fun xs s => if xs.length ≤ 100000 then some (.list xs, s) else none
/-- an expression that makes a range -/
def EvRg (X : Cx) (e : Expr) (g : DenA) : Prop := ∃ te, PRg X e te ∧ ∀ B env ds σ Hf H items ds', SR B X.K env ds σ Hf H → g env ds = some (items, ds') → ∀ Q : Int → Int → Hp → Prop,
  (∀ a b Hf' H', Gr B Hf H Hf' H' → SR B X.K env ds' σ Hf' H' → (-100000 < a ∧ a < 100000 ∧ -100000 < b ∧ b < 100000) → items = rgD a (b - a).toNat → Q a b H') → te σ H Q
section
variable {X : Cx} {a b e : Expr} {f h : Den} {g : DenA} {p pos : Pos}
theorem evrg_1 (hm : X.mg "range" = none) (ha : EvR X a f) (hg : Gl X "range" := by rfl) (hs : starEach [a] X.env = (false, eval a X.env) :: starEach [] X.env := by rfl) : EvRg X (.Call (.Name "range" p) [a] [] pos) (dRg1 f) := ⟨_, prg_1 hg hm (pe_se X a) hs, fun B env ds σ Hf H items ds' S he Q q => by
  obtain ⟨v1, s1, e1, e⟩ := bnd_eq he
  cases v1 with
  | int n =>
    have e : (if n < 100000 ∧ -100000 < n then some (rgD 0 n.toNat, s1) else none) = some (items, ds') := e
    split at e
    · rename_i hn
      cases e
      refine ha B env ds σ Hf H _ _ S e1 _ fun v Hf1 H1 g1 S1 r1 => ?_
      cases r1.int
      exact ⟨n, rfl, q 0 n _ _ g1 S1 ⟨by omega, by omega, hn.2, hn.1⟩ (by rw [Int.sub_zero])⟩
    · cases e
  | _ => cases e⟩
theorem evrg_2 (hm : X.mg "range" = none) (ha : EvR X a f) (hb : EvR X b h) (hg : Gl X "range" := by rfl) (hs : starEach [a, b] X.env = (false, eval a X.env) :: starEach [b] X.env := by rfl) (hs2 : starEach [b] X.env = (false, eval b X.env) :: starEach [] X.env := by rfl) (hpl : (backTo pos (starEach [b] X.env)).any (·.1) = false := by rfl) :
    EvRg X (.Call (.Name "range" p) [a, b] [] pos) (dRg2 f h) := ⟨_, prg_2 hg hm (pe_se X a) (pe_se X b) hs hs2 hpl, fun B env ds σ Hf H items ds' S he Q q => by
  obtain ⟨v1, s1, e1, e⟩ := bnd_eq he
  obtain ⟨v2, s2, e2, e⟩ := bnd_eq e
  cases v1 with
  | int i =>
    cases v2 with
    | int j =>
      have e : (if -100000 < i ∧ i < 100000 ∧ -100000 < j ∧ j < 100000 then some (rgD i (j - i).toNat, s2) else none) = some (items, ds') := e
      split at e
      · rename_i hn
        cases e
        refine ha B env ds σ Hf H _ _ S e1 _ fun v Hf1 H1 g1 S1 r1 => hb B env s1 σ Hf1 H1 _ _ S1 e2 _ fun v2 Hf2 H2 g2 S2 r2 => ?_
        cases r1.int
        cases r2.int
        exact ⟨i, j, rfl, rfl, q i j _ _ (g1.trans g2) S2 hn rfl⟩
      · cases e
    | _ => cases e
  | _ => cases e⟩
theorem evn_listRg (hc : X.calm = true) (hm : X.mg "list" = none) (he : EvRg X e g) (hg : Gl X "list" := by rfl) (hs : starEach [e] X.env = (false, eval e X.env) :: starEach [] X.env := by rfl) : EvN X (.Call (.Name "list" p) [e] [] pos) (dLstI g) := fun B env ds σ Hf H d ds' S hf Q q => by
  obtain ⟨te, pt, kt⟩ := he
  obtain ⟨items, s1, e1, e2⟩ := bnd_eq hf
  split at e2
  · cases e2
    refine SE.of (pe_listRg hc hg hm pt hs) (kt B env ds σ Hf H _ _ S e1 _ fun a b Hf1 H1 g1 S1 hb ei => ?_)
    refine ⟨⟨by omega, by omega, by omega, by omega, by omega⟩, ?_⟩
    rw [ei] at q
    exact (q.step g1).lst S1 (rgV_rpl a b)
  · cases e2
theorem evf_tupRg (hc : X.calm = true) (hm : X.mg "tuple" = none) (he : EvRg X e g) (hg : Gl X "tuple" := by rfl) (hs : starEach [e] X.env = (false, eval e X.env) :: starEach [] X.env := by rfl) : EvF X (.Call (.Name "tuple" p) [e] [] pos) (dTupI g) := fun B env ds σ Hf H d ds' S hf Q q => by
  obtain ⟨te, pt, kt⟩ := he
  obtain ⟨items, s1, e1, e2⟩ := bnd_eq hf
  split at e2
  · cases e2
    refine SE.of (pe_tupRg hc hg hm pt hs) (kt B env ds σ Hf H _ _ S e1 _ fun a b Hf1 H1 g1 S1 hb ei => ?_)
    refine ⟨⟨by omega, by omega, by omega, by omega, by omega⟩, ?_⟩
    rw [ei] at q
    exact (q.step g1).tup S1 (rgV_rpl a b)
  · cases e2
/-! tuple(range(a, b, -1)) -/
def dRg3 (f h : Den) : DenA := fun env ds => bnd (f env ds) fun a s => bnd (h env s) fun b s1 => match a, b with
  | .int i, .int j => if -100000 < i ∧ i < 100000 ∧ -100000 < j ∧ j < 100000 then some (rgS i (-1) (i - j).toNat, s1) else none
  | _, _ => none
theorem evf_tupRg3 {p2 pos2 p3 p4 : Pos} {k : Nat} (hc : X.calm = true) (hm : X.mg "tuple" = none) (hmr : X.mg "range" = none) (ha : EvR X a f) (hb : EvR X b h) (hg : Gl X "tuple" := by rfl) (hgr : Gl X "range" := by rfl)
    (hs0 : starEach [.Call (.Name "range" p2) [a, b, .UnaryOp .USub (.Constant (.int 1) k p3) p4] [] pos2] X.env = (false, eval (.Call (.Name "range" p2) [a, b, .UnaryOp .USub (.Constant (.int 1) k p3) p4] [] pos2) X.env) :: starEach [] X.env := by rfl)
    (hs : starEach [a, b, .UnaryOp .USub (.Constant (.int 1) k p3) p4] X.env = (false, eval a X.env) :: starEach [b, .UnaryOp .USub (.Constant (.int 1) k p3) p4] X.env := by rfl) (hs1 : starEach [b, .UnaryOp .USub (.Constant (.int 1) k p3) p4] X.env = (false, eval b X.env) :: starEach [.UnaryOp .USub (.Constant (.int 1) k p3) p4] X.env := by rfl)
    (hs2 : starEach [.UnaryOp .USub (.Constant (.int 1) k p3) p4] X.env = (false, eval (.UnaryOp .USub (.Constant (.int 1) k p3) p4) X.env) :: starEach [] X.env := by rfl) (hpl : (backTo pos2 (starEach [b, .UnaryOp .USub (.Constant (.int 1) k p3) p4] X.env)).any (·.1) = false := by rfl) :
    EvF X (.Call (.Name "tuple" p) [.Call (.Name "range" p2) [a, b, .UnaryOp .USub (.Constant (.int 1) k p3) p4] [] pos2] [] pos) (dTupI (dRg3 f h)) := fun B env ds σ Hf H d ds' S hf Q q => by
  obtain ⟨items, s3, e0, e2⟩ := bnd_eq hf
  split at e2
  · cases e2
    obtain ⟨v1, s1, e1, e⟩ := bnd_eq e0
    obtain ⟨v2, s2, e3, e⟩ := bnd_eq e
    cases v1 with
    | int i =>
      cases v2 with
      | int j =>
        have e : (if -100000 < i ∧ i < 100000 ∧ -100000 < j ∧ j < 100000 then some (rgS i (-1) (i - j).toNat, s2) else none) = some (items, ds') := e
        split at e
        · rename_i hn
          cases e
          intro pins s I
          have hneg : EvF X (.UnaryOp .USub (.Constant (.int 1) k p3) p4) (d1 gNeg (dC (.int 1))) := evf_neg (EvF.r evf_int)
          refine Call_ (ld_blt I hg hm boot_tuple (PyProof.Rows.callWith_type1 (args_cons ?_ hs0) hs0))
          refine Call_ (ld_blt I hgr hmr boot_range (PyProof.Rows.callWith_type1 (args_cons (thn (ha B env ds σ Hf H _ _ S e1 (fun x H1 => x = .int i ∧ ∃ Hf1, Gr B Hf H Hf1 H1 ∧ SR B X.K env s1 σ Hf1 H1) (fun v Hf1 H1 g1 S1 r1 => by cases r1.int; exact ⟨rfl, Hf1, g1, S1⟩) pins s I) fun v sA ⟨x, H1, I1, r1, ex, Hf1, g1, S1⟩ =>
            args_cons (thn (hb B env s1 σ Hf1 H1 _ _ S1 e3 (fun x H2 => x = .int j ∧ ∃ Hf2, Gr B Hf1 H1 Hf2 H2 ∧ SR B X.K env ds' σ Hf2 H2) (fun v Hf2 H2 g2 S2 r2 => by cases r2.int; exact ⟨rfl, Hf2, g2, S2⟩) pins sA I1) fun v2 sB ⟨x2, H2, I2, r2, ex2, Hf2, g2, S2⟩ =>
            args_cons (thn (hneg B env ds' σ Hf2 H2 (.int (-1)) ds' S2 rfl (fun x H3 => x = .int (-1) ∧ ∃ Hf3, Gr B Hf2 H2 Hf3 H3 ∧ SR B X.K env ds' σ Hf3 H3) (fun v Hf3 H3 g3 S3 r3 => by cases r3; exact ⟨rfl, Hf3, g3, S3⟩) pins sB I2) fun v3 sC ⟨x3, H3, I3, r3, ex3, Hf3, g3, S3⟩ => args_nil ?_) hs2) hs1) hs) hs hpl))
          subst ex ex2 ex3
          obtain ⟨t, rfl⟩ := r1
          obtain ⟨t', rfl⟩ := r2
          obtain ⟨t'', rfl⟩ := r3
          have hgc := RgC.neg (i := i) (j := j) (by omega) (by omega) (by omega) (by omega)
          obtain ⟨c0, c1, c2, c3⟩ := hgc
          refine call_range_3 c0 ?_ (.inl (PyProof.noPylong_small c1))
          have I4 : Inv X pins σ H3 { sC with heap := sC.heap.push { cls := .type "range", data := .fields #[.int i t, .int j t', .int (-1) t''] } } := I3.kept (t' := sC.toks) fun b o e => Heap.get?_push_of_some _ e
          refine args_nil ?_
          refine call_tuple_range (n := (i - j).toNat) (I3.ok.hd hc) (IsRange.new ..) c2 c3 (by omega) fun h' tk acc hk hi => ?_
          have I5 : Inv X pins σ H3 { sC with heap := h', toks := tk } := I4.kept hk
          have rv : Vals ((List.range (i - j).toNat).map fun m => V.int (i + (m : Nat) * (-1))) acc.toList := by
            have e : acc.toList.length = (i - j).toNat := by rw [Array.length_toList]; exact hi.1
            rw [← e]
            refine vals_of_get acc.toList _ fun m u hm => ?_
            obtain ⟨t, rfl⟩ := hi.2 m u (by rw [← hm, Array.getElem?_toList])
            exact ⟨t, rfl⟩
          have qq := (q.step ((g1.trans g2).trans g3)).tup S3 (rgS_rp (Hf := Hf3) (-1) (i - j).toNat i)
          refine ⟨.ref h'.objs.size, upd H3 h'.objs.size (.tup ((List.range (i - j).toNat).map fun m => V.int (i + (m : Nat) * (-1)))), I5.laid (t' := tk) (fun c o e => Heap.get?_push_of_some _ e) (Nat.le_refl _) ⟨?_, acc.toList, rv, ?_⟩, rfl, qq _ I5.fresh⟩
          · rw [List.length_map, List.length_range, sizeLine_eq]; omega
          · rw [Array.toArray_toList]; exact IsTup.new _ _
        · cases e
      | _ => cases e
    | _ => cases e
  · cases e2
end
end L2.Dn
set_option Elab.async false
set_option linter.all false
set_option maxRecDepth 100000
/-! two clauses; t.index(x), d.get(k, x) -/
namespace L2.Dn
open PySem PySem.Spec PyProof.Rows
/-- a target makes no own slot -/
def GOk (ts : List Nat) (g : DenG) : Prop := ∀ d env env' j x, g d env = some env' → env'[j]? = some (some (.own x)) → j ∉ ts ∧ env[j]? = some (some (.own x))
def GsOk (ts : List Nat) (g : List D → En → Option En) : Prop := ∀ d env env' j x, g d env = some env' → env'[j]? = some (some (.own x)) → j ∉ ts ∧ env[j]? = some (some (.own x))
theorem gok_nm (i : Nat) : GOk [i] (gNm i) := fun d env env' j x e h => by
  cases e
  by_cases q : i = j
  · subst q
    rw [List.getElem?_set_self'] at h
    cases z : env[i]? with
    | none => rw [z] at h; cases h
    | some y => rw [z] at h; cases h
  · rw [List.getElem?_set_ne q] at h
    exact ⟨by simp; omega, h⟩
theorem gok_nil : GsOk [] gsNil := fun d env env' j x e h => by
  cases d with
  | nil => cases e; exact ⟨by simp, h⟩
  | cons _ _ => cases e
theorem gok_cons {ts us : List Nat} {g : DenG} {gs : List D → En → Option En} (h1 : GOk ts g) (h2 : GsOk us gs) : GsOk (ts ++ us) (gsCons g gs) := fun d env env' j x e h => by
  cases d with
  | nil => cases e
  | cons d r =>
    have e : (match g d env with | none => none | some env' => gs r env') = some env' := e
    cases q : g d env with
    | none => rw [q] at e; cases e
    | some env1 =>
      rw [q] at e
      obtain ⟨a1, a2⟩ := h2 r env1 env' j x e h
      obtain ⟨b1, b2⟩ := h1 d env env1 j x q a2
      exact ⟨fun z => (List.mem_append.mp z).elim b1 a1, b2⟩
theorem gok_tp {ts : List Nat} {gs : List D → En → Option En} (h1 : GsOk ts gs) : GOk ts (gTp gs) := fun d env env' j x e h => by
  unfold gTp at e
  split at e
  · exact h1 _ _ _ _ _ e h
  · cases e
theorem wipeE_some {env : En} {j : Nat} {s : Sl} : ∀ {vs : List Nat}, (wipeE env vs)[j]? = some (some s) → j ∉ vs ∧ env[j]? = some (some s)
  | [], h => ⟨by simp, h⟩
  | v :: vs, h => by
    have h : ((wipeE env vs).set v none)[j]? = some (some s) := h
    by_cases e : v = j
    · subst e
      rw [List.getElem?_set_self'] at h
      cases z : (wipeE env vs)[v]? with
      | none => rw [z] at h; cases h
      | some y => rw [z] at h; cases h
    · rw [List.getElem?_set_ne e] at h
      obtain ⟨a, b⟩ := wipeE_some h
      exact ⟨by simp; exact ⟨fun z => e z.symm, a⟩, b⟩
/-- an inner block's state beside its outer one's -/
theorem SR.inner {B : Bs} {K : PySem.W.Frag} {env env' : En} {ds dt : DS} {σ σ' : St} {Hf H Hf0 H0 : Hp} {ts own : List Nat} {g : DenG} {d : D} (S : SR B K env ds σ Hf H) (S' : SR B K env' dt σ' Hf0 H0) (s : Same Hf0 Hf) (ok : GOk ts g) (eg : g d (wipeE env own) = some env') (o : ∀ j, j ∉ ts → σ'[j]? = (L2.wipe σ own)[j]?) : SR B K env' ds σ' Hf H := by
  have own' : ∀ j x, env'[j]? = some (some (Sl.own x)) → env[j]? = some (some (Sl.own x)) ∧ σ'[j]? = σ[j]? := fun j x e => by
    obtain ⟨h1, h2⟩ := ok _ _ _ _ _ eg e
    obtain ⟨h3, h4⟩ := wipeE_some h2
    exact ⟨h4, (o j h1).trans (wipe_out h3)⟩
  exact {
    sub := S.sub
    base := S.base
    fbase := S.fbase
    fnew := S.fnew
    slots := fun i sl e => by
      have h := S'.slots i sl e
      cases sl with
      | val d =>
        obtain ⟨v, e1, r⟩ := h
        exact ⟨v, e1, r.up s⟩
      | own d =>
        obtain ⟨e1, e2⟩ := own' i d e
        obtain ⟨a, h1, h2⟩ := S.slots i _ e1
        exact ⟨a, e2.trans h1, h2⟩
      | draw => exact h
      | scr ns => exact h
    apart := fun i j d e a hne h1 h2 h3 h4 => by
      obtain ⟨a1, a2⟩ := own' i d h1
      obtain ⟨b1, b2⟩ := own' j e h2
      exact S.apart i j d e a hne a1 b1 (a2 ▸ h3) (b2 ▸ h4)
    draw := S.draw
    len := S'.len }
def lc2Loop (gg : DenG) (t : DenT) (gi1 : DenA) (vs1 : List Nat) (gg1 : DenG) (t1 : DenT) (fe : Den) (env0 : En) : List D → DS → Option (List D × DS)
  | [], s => some ([], s)
  | d :: r, s => match gg d env0 with
    | none => none
    | some env' => bnd (t env' s) fun b s1 => match b with
      | false => lc2Loop gg t gi1 vs1 gg1 t1 fe env0 r s1
      | true => bnd (gi1 env' s1) fun items1 s2 => bnd (lcLoop gg1 t1 fe (wipeE env' vs1) items1 s2) fun ys s3 => bnd (lc2Loop gg t gi1 vs1 gg1 t1 fe env0 r s3) fun zs s4 => some (ys ++ zs, s4)
def dLc2 (gi : DenA) (own : List Nat) (gg : DenG) (t : DenT) (gi1 : DenA) (vs1 : List Nat) (gg1 : DenG) (t1 : DenT) (fe : Den) : Den := fun env ds => bnd (gi env ds) fun items s => bnd (lc2Loop gg t gi1 vs1 gg1 t1 fe (wipeE env own) items s) fun r s' => if r.length ≤ 100000 then some (.list r, s') else none
theorem lc2Loop_cons {gg gg1 : DenG} {t t1 : DenT} {gi1 : DenA} {vs1 : List Nat} {fe : Den} {env0 : En} {d : D} {r : List D} {s s' : DS} {ys : List D} (h : lc2Loop gg t gi1 vs1 gg1 t1 fe env0 (d :: r) s = some (ys, s')) :
    ∃ env' b s1, gg d env0 = some env' ∧ t env' s = some (b, s1) ∧ ((b = false ∧ lc2Loop gg t gi1 vs1 gg1 t1 fe env0 r s1 = some (ys, s')) ∨ (b = true ∧ ∃ items1 s2 y s3 zs, gi1 env' s1 = some (items1, s2) ∧ lcLoop gg1 t1 fe (wipeE env' vs1) items1 s2 = some (y, s3) ∧ lc2Loop gg t gi1 vs1 gg1 t1 fe env0 r s3 = some (zs, s') ∧ ys = y ++ zs)) := by
  unfold lc2Loop at h
  split at h
  · cases h
  · rename_i env' e1
    obtain ⟨b, s1, e2, h⟩ := bnd_eq h
    refine ⟨env', b, s1, e1, e2, ?_⟩
    cases b with
    | false => exact .inl ⟨rfl, h⟩
    | true =>
      obtain ⟨i, s2, e3, h⟩ := bnd_eq h
      obtain ⟨y, s3, e4, h⟩ := bnd_eq h
      obtain ⟨zs, s4, e5, h⟩ := bnd_eq h
      cases h
      exact .inr ⟨rfl, i, s2, y, s3, zs, e3, e4, e5, rfl⟩
/-- an iteration source, in all blocks -/
def SIb (X : Cx) (scope : Scope) (tg iter : Expr) (σ : St) (H : Hp) (R : It → Hp → Prop) : Prop := ∀ (s : Shared) (H0 : Hp) (C : Addr) (cl : List (Str × Addr)) (fp : List Addr), SI (X.blk s H0 scope (compEnvC scope cl C X.env) fp) tg iter σ H R
section
variable {X : Cx} {tg iter tg1 iter1 elt : Expr} {ifs ifs1 : List Expr} {scope : Scope} {own : List (Str × Nat)} {vs1 : List Nat} {pos : Pos} {gi gi1 : DenA} {ts ts1 : List Nat} {gg gg1 : DenG} {t t1 : DenT} {fe : Den}
theorem lc2_reading {tt tt1 : TT} (hi : EvI X tg iter gi) (hg : Blks X scope fun Y => EvG Y tg ts gg) (hok : GOk ts gg)
    (ht : ∀ B env ds σ Hf H d ds', SR B X.K env ds σ Hf H → t env ds = some (d, ds') → ∀ Q : Bool → Hp → Prop, CT B X.K env ds' σ Hf H d Q → tt σ H Q)
    (hi1 : Blks X scope fun Y => EvI Y tg1 iter1 gi1) (hg1 : Blks X scope fun Y => EvG Y tg1 ts1 gg1)
    (ht1 : ∀ B env ds σ Hf H d ds', SR B X.K env ds σ Hf H → t1 env ds = some (d, ds') → ∀ Q : Bool → Hp → Prop, CT B X.K env ds' σ Hf H d Q → tt1 σ H Q)
    (he : Blks X scope fun Y => EvF Y elt fe) (hts : ∀ j ∈ ts, j ∈ own.map (·.2)) (hts1 : ∀ j ∈ ts1, j ∈ vs1) {B : Bs} {env : En} {ds ds' : DS} {σ : St} {Hf H : Hp} {d : D} (S : SR B X.K env ds σ Hf H) (hf : dLc2 gi (own.map (·.2)) gg t gi1 vs1 gg1 t1 fe env ds = some (d, ds')) {Q : VK} (q : CN B X.K env ds' σ Hf H d Q) :
    ∀ (cs : Shared) (cH : Hp) (cC : Addr) (ccl : List (Str × Addr)) (cfp : List Addr), True → tLc2 (SI X tg iter) (SGb X scope tg) tt (SIb X scope tg1 iter1) (SGb X scope tg1) tt1 (SEb X scope elt) (own.map (·.2)) vs1 σ H Q := by
  intro cs cH cC ccl cfp _
  obtain ⟨items, s1, e1, e⟩ := bnd_eq hf
  obtain ⟨r, s2, e2, e⟩ := bnd_eq e
  have e : (if r.length ≤ 100000 then some (D.list r, s2) else none) = some (d, ds') := e
  split at e
  · rename_i hz
    cases e
    refine hi B env ds σ Hf H _ _ S e1 _ fun J Hf1 H1 g1 S1 y1 => ?_
    intro Dd nD
    have nD0 : H Dd = none := g1.fresh nD
    have nfD1 : Hf1 Dd = none := sub_none S1 nD
    have ndD : ¬ B.isDr Dd := S1.noDr nD
    have F : Fre B env σ Dd := S1.fre nD
    have ne3 : ∀ {Hx : Hp} {l : List V}, Hx Dd = some (.lst l) → Hx Dd ≠ none := fun h => by rw [h]; simp
    have nt3 : ∀ {Hx : Hp} {l : List V}, Hx Dd = some (.lst l) → ∀ xs, Hx Dd ≠ some (.tup xs) := fun h xs z => by rw [h] at z; cases z
    refine ⟨fun i m H' => m = items.length - i ∧ i ≤ items.length ∧ ∃ Hf' si accV acc ys, Gr B Hf1 H1 Hf' H' ∧ Hf' Dd = none ∧ SR B X.K env si σ Hf' H' ∧ H' Dd = some (.lst accV) ∧ RpL Hf' accV acc ∧ lc2Loop gg t gi1 vs1 gg1 t1 fe (wipeE env (own.map (·.2))) (items.drop i) si = some (ys, ds') ∧ acc ++ ys = r,
      ⟨items.length, by simp, Nat.zero_le _, Hf1, s1, [], [], r, Gr.refl.hp nD, nfD1, S1.hp nfD1 F, upd_same, .nil, by rw [List.drop_zero]; exact e2, by simp⟩, ?_⟩
    rintro i m H' ⟨rfl, hi', Hf', si, accV, acc, ys, g2, nfD, S2, hD, rD, el, ea⟩
    obtain ⟨yg, ys0⟩ := y1 i env si σ Hf' H' g2.ff S2
    cases hd : items.drop i with
    | nil =>
      have hl : items.length ≤ i := by
        rcases Nat.lt_or_ge i items.length with z | z
        · rw [List.drop_eq_getElem_cons z] at hd; cases hd
        · exact z
      rw [hd] at el
      cases el
      rw [List.append_nil] at ea
      subst ea
      exact .inl ⟨ys0 hl, q Dd Hf' H' (g1.trans g2) S2 nD0 nfD (.lst hD rD)⟩
    | cons it rest =>
      obtain ⟨hlt, hit, hrest⟩ := drop_at hd
      rw [hd] at el
      obtain ⟨env', b, s3, k1, k2, k3⟩ := lc2Loop_cons el
      obtain ⟨yg1, yg2⟩ := yg hlt
      refine .inr ⟨yg1, fun H2 => (items.length - (i + 1) = items.length - (i + 1) ∧ i + 1 ≤ items.length ∧ ∃ Hf' si accV acc ys, Gr B Hf1 H1 Hf' H2 ∧ Hf' Dd = none ∧ SR B X.K env si σ Hf' H2 ∧ H2 Dd = some (.lst accV) ∧ RpL Hf' accV acc ∧ lc2Loop gg t gi1 vs1 gg1 t1 fe (wipeE env (own.map (·.2))) (items.drop (i + 1)) si = some (ys, ds') ∧ acc ++ ys = r), fun H2 h2 => ⟨_, by omega, h2⟩, fun x H3 yx => ?_⟩
      obtain ⟨Hf3, g3, S3, r3⟩ := yg2 x H3 yx it hit
      intro bs bH bC bcl bfp
      refine hg bs bH bC bcl bfp B _ env' si _ Hf3 H3 it x (S3.wipe _) r3 k1 _ fun σ4 S4 l4 o4 => ?_
      refine ⟨(wipe_eq (ts := ts) l4 o4 hts).trans (wipe_idem _ _), ?_⟩
      refine ht B env' si σ4 Hf3 H3 b s3 S4 k2 _ fun Hf5 H5 g5 S5 => ?_
      have gA := (g2.trans g3).trans g5
      have hD3 : H3 Dd = some (.lst accV) := g3.at hD ndD
      have hD5 : H5 Dd = some (.lst accV) := g5.at hD3 ndD
      have rD5 : RpL Hf5 accV acc := (rD.up g3.ff).up g5.ff
      have So := (S2.moveTo g3 S3).moveTo g5 S5
      have nfD3 : Hf3 Dd = none := g3.noF nfD (ne3 hD) (nt3 hD)
      have nfD5 : Hf5 Dd = none := g5.noF nfD3 (ne3 hD3) (nt3 hD3)
      rcases k3 with ⟨rfl, k3⟩ | ⟨rfl, items1, s6, y, s7, zs, k4, k5, k6, rfl⟩
      · rw [if_neg Bool.false_ne_true]
        exact ⟨rfl, hlt, Hf5, s3, accV, acc, ys, gA, nfD5, So, hD5, rD5, by rw [hrest]; exact k3, ea⟩
      · rw [if_pos rfl]
        intro ds1 dH dC dcl dfp
        refine hi1 ds1 dH dC dcl dfp B env' s3 σ4 Hf5 H5 _ _ S5 k4 _ fun J1 Hf6 H6 g6 S6 y6 => ?_
        have hD6 : H6 Dd = some (.lst accV) := g6.at hD5 ndD
        refine ⟨fun j k H' => k = items1.length - j ∧ j ≤ items1.length ∧ ∃ Hf' sj accV acc ys, Gr B Hf1 H1 Hf' H' ∧ Same Hf6 Hf' ∧ Hf' Dd = none ∧ SR B X.K env sj σ Hf' H' ∧ H' Dd = some (.lst accV) ∧ RpL Hf' accV acc ∧ lcLoop gg1 t1 fe (wipeE env' vs1) (items1.drop j) sj = some (ys, s7) ∧ acc ++ (ys ++ zs) = r,
          ⟨items1.length, by simp, Nat.zero_le _, Hf6, s6, accV, acc, y, gA.trans g6, fun _ _ z => z, g6.noF nfD5 (ne3 hD5) (nt3 hD5), So.moveTo g6 S6, hD6, rD5.up g6.ff, by rw [List.drop_zero]; exact k5, ea⟩, ?_⟩
        rintro j k H7 ⟨rfl, hj', Hf7, sj, accV7, acc7, ys7, g7, sm7, nfD7, S7, hD7, rD7, el7, ea7⟩
        have S7' : SR B X.K env' sj σ4 Hf7 H7 := S7.inner S4 ((g5.ff.trans g6.ff).trans sm7) hok k1 o4
        obtain ⟨yg7, ys07⟩ := y6 j env' sj σ4 Hf7 H7 sm7 S7'
        cases hd7 : items1.drop j with
        | nil =>
          have hl : items1.length ≤ j := by
            rcases Nat.lt_or_ge j items1.length with z | z
            · rw [List.drop_eq_getElem_cons z] at hd7; cases hd7
            · exact z
          rw [hd7] at el7
          cases el7
          exact .inl ⟨ys07 hl, rfl, hlt, Hf7, s7, accV7, acc7, zs, g7, nfD7, S7, hD7, rD7, by rw [hrest]; exact k6, ea7⟩
        | cons it1 rest1 =>
          obtain ⟨hlt1, hit1, hrest1⟩ := drop_at hd7
          rw [hd7] at el7
          obtain ⟨env8, b8, s8, m1, m2, m3⟩ := lcLoop_cons el7
          obtain ⟨yg71, yg72⟩ := yg7 hlt1
          refine .inr ⟨yg71, fun H2 => (items1.length - (j + 1) = items1.length - (j + 1) ∧ j + 1 ≤ items1.length ∧ ∃ Hf' sj accV acc ys, Gr B Hf1 H1 Hf' H2 ∧ Same Hf6 Hf' ∧ Hf' Dd = none ∧ SR B X.K env sj σ Hf' H2 ∧ H2 Dd = some (.lst accV) ∧ RpL Hf' accV acc ∧ lcLoop gg1 t1 fe (wipeE env' vs1) (items1.drop (j + 1)) sj = some (ys, s7) ∧ acc ++ (ys ++ zs) = r), fun H2 h2 => ⟨_, by omega, h2⟩, fun x1 H8 yx1 => ?_⟩
          obtain ⟨Hf8, g8, S8, r8⟩ := yg72 x1 H8 yx1 it1 hit1
          intro es eH eC ecl efp
          refine hg1 es eH eC ecl efp B _ env8 sj _ Hf8 H8 it1 x1 (S8.wipe _) r8 m1 _ fun σ9 S9 l9 o9 => ?_
          refine ⟨(wipe_eq (ts := ts1) l9 o9 hts1).trans (wipe_idem _ _), ?_⟩
          refine ht1 B env8 sj σ9 Hf8 H8 b8 s8 S9 m2 _ fun Hf10 H10 g10 S10 => ?_
          have gB := g8.trans g10
          have hD8 : H8 Dd = some (.lst accV7) := g8.at hD7 ndD
          have hD10 : H10 Dd = some (.lst accV7) := g10.at hD8 ndD
          have nfD8 : Hf8 Dd = none := g8.noF nfD7 (ne3 hD7) (nt3 hD7)
          have nfD10 : Hf10 Dd = none := g10.noF nfD8 (ne3 hD8) (nt3 hD8)
          have rD10 : RpL Hf10 accV7 acc7 := (rD7.up g8.ff).up g10.ff
          have So10 := (S7.moveTo g8 S8).moveTo g10 S10
          rcases m3 with ⟨rfl, m3⟩ | ⟨rfl, y9, s9, zs9, m4, m5, rfl⟩
          · rw [if_neg Bool.false_ne_true]
            exact ⟨rfl, hlt1, Hf10, s8, accV7, acc7, ys7, g7.trans gB, sm7.trans gB.ff, nfD10, So10, hD10, rD10, by rw [hrest1]; exact m3, ea7⟩
          · rw [if_pos rfl]
            intro fs fH fC fcl ffp
            refine he fs fH fC fcl ffp B env8 s8 σ9 Hf10 H10 y9 s9 S10 m4 _ fun v Hf11 H11 g11 S11 r11 => ?_
            have hD11 : H11 Dd = some (.lst accV7) := g11.at hD10 ndD
            have nfD11 : Hf11 Dd = none := g11.noF nfD10 (ne3 hD10) (nt3 hD10)
            have la : accV7.length < sizeLine := by
              have h1 := rD7.length
              have h2 : (acc7 ++ (y9 :: zs9 ++ zs)).length ≤ 100000 := by rw [ea7]; exact hz
              rw [List.length_append, List.cons_append, List.length_cons] at h2
              rw [sizeLine_eq]; omega
            have S12 := (So10.moveTo g11 S11).hp (o := .lst (accV7 ++ [v])) nfD11 F
            exact ⟨accV7, hD11, la, rfl, hlt1, Hf11, s9, accV7 ++ [v], acc7 ++ [y9], zs9, ((g7.trans gB).trans g11).hp nD, (sm7.trans gB.ff).trans g11.ff, nfD11, S12, upd_same, (rD10.up g11.ff).append (.cons r11 .nil), by rw [hrest1]; exact m5, by rw [List.append_assoc]; exact ea7⟩
  · cases e
theorem evn_lc2 (hc : X.calm = true) (hN : X.N.Nodup) (ok : BlkOk X.N X.env.scope scope own) (hv : ∀ i ∈ vs1, i ∈ own.map (·.2)) (hi : EvI X tg iter gi) (hg : Blks X scope fun Y => EvG Y tg ts gg) (hok : GOk ts gg) (ht : EvTb X scope ifs t)
    (hi1 : Blks X scope fun Y => EvI Y tg1 iter1 gi1) (hg1 : Blks X scope fun Y => EvG Y tg1 ts1 gg1) (ht1 : EvTb X scope ifs1 t1) (he : Blks X scope fun Y => EvF Y elt fe) (hts : ∀ j ∈ ts, j ∈ own.map (·.2)) (hts1 : ∀ j ∈ ts1, j ∈ vs1)
    (hs : ∀ x, foldedSetIterable iter X.env x = pure x := by intro _; rfl) (hs1 : ∀ env x, foldedSetIterable iter1 env x = pure x := by intro _ _; rfl) : EvN X (.ListComp elt [⟨tg, iter, ifs, 0⟩, ⟨tg1, iter1, ifs1, 0⟩] scope pos) (dLc2 gi (own.map (·.2)) gg t gi1 vs1 gg1 t1 fe) := fun B env ds σ Hf H d ds' S hf Q q => by
  obtain ⟨tt, pt, kt⟩ := ht
  obtain ⟨tt1, pt1, kt1⟩ := ht1
  intro pins s I
  exact SE.of (pe_lc2 (wi := SI X tg iter) (g := SGb X scope tg) (tt := tt) (wi1 := SIb X scope tg1 iter1) (g1 := SGb X scope tg1) (tt1 := tt1) (te := SEb X scope elt) hc hN (pi_si X tg iter) ok hv (fun s H C cl fp => ⟨fun pins s' σ' H' v u Q' I r h => h s H C cl fp pins s' u I r⟩) pt
    (fun s H C cl fp => ⟨fun pins s' σ' H' R I h => h s H C cl fp pins s' I⟩) (fun s H C cl fp => ⟨fun pins s' σ' H' v u Q' I r h => h s H C cl fp pins s' u I r⟩) pt1 (fun s H C cl fp => ⟨fun pins s' σ' H' Q' I h => h s H C cl fp pins s' I⟩) hs hs1)
    (lc2_reading hi hg hok kt hi1 hg1 kt1 he hts hts1 S hf q s H 0 [] [] trivial) pins s I
end
/-! ### t.index(x), xs.index(x); d.get(k, x) -/
def idxI (x : Int) : List Int → Nat → Option Nat
  | [], _ => none
  | y :: r, n => (match decide (y = x) with
    | true => some n
    | false => idxI x r (n + 1))
theorem idxI_ok {x : Int} : ∀ {l : List Int} {n j : Nat}, idxI x l n = some j → n ≤ j ∧ l[j - n]? = some x ∧ ∀ m, m < j - n → l[m]? ≠ some x
  | [], _, _, h => by cases h
  | y :: r, n, j, h => by
    unfold idxI at h
    split at h
    · rename_i e
      cases h
      refine ⟨Nat.le_refl _, ?_, fun m hm => by omega⟩
      rw [Nat.sub_self]
      simp [of_decide_eq_true e]
    · rename_i e
      obtain ⟨h1, h2, h3⟩ := idxI_ok h
      have e2 : j - n = (j - (n + 1)) + 1 := by omega
      refine ⟨by omega, ?_, fun m hm => ?_⟩
      · rw [e2]; simpa using h2
      · cases m with
        | zero => simpa using of_decide_eq_false e
        | succ m => simpa using h3 m (by omega)
section
variable {X : Cx}
theorem flat_intsV (ys : List Int) : (ys.map V.int).all flatV = true := by
  rw [List.all_eq_true]
  intro v hv
  obtain ⟨y, _, rfl⟩ := List.mem_map.mp hv
  rfl
theorem mt_tupIndexI : MtR X "tuple.index" (fun x xs H Q => ∃ p, ∃ ys : List Int, ∃ z j, x = .ref p ∧ xs = [.int z] ∧ SqT X.K H p (ys.map V.int) ∧ ys[j]? = some z ∧ (∀ m, m < j → ys[m]? ≠ some z) ∧ Q (.int (j : Nat)) H) := by
  intro pins s σ H x xs v us Q I rx rs h
  obtain ⟨p, ys, z, j, rfl, rfl, hq, hy, hno, q⟩ := h
  cases rx
  obtain ⟨u, rfl, t, rfl⟩ := vals1 rs
  obtain ⟨its, r, pl, hz⟩ := I.tuple hq
  obtain ⟨⟨cls, dd, dt, sl⟩, ho, hc, n, hd⟩ := pl
  simp only at hc hd
  subst hc
  subst hd
  have hl : its.toArray.size = ys.length := by rw [List.size_toArray, ← r.length, List.length_map]
  have hj : j < its.toArray.size := by rw [hl]; exact (List.getElem?_eq_some_iff.mp hy).1
  have at' : ∀ (m : Nat) (hm : m < its.toArray.size), ∃ y t', ys[m]? = some y ∧ its.toArray[m] = Value.int y t' := fun m hm => by
    have hm' : m < ys.length := by rw [← hl]; exact hm
    obtain ⟨w, hw, t', hw'⟩ := r.get (i := m) (x := .int ys[m]) (by simp [hm'])
    refine ⟨ys[m], t', List.getElem?_eq_getElem hm', ?_⟩
    have e := (List.getElem?_eq_some_iff.mp hw).2
    rw [← hw', ← e]
    simp
  refine call_meets PySem.F.slot_tuple_index ⟨_, ho, rfl⟩ PySem.F.entry_tuple_index (PySem.F.args_tuple_index_2 _ _) (TI.tuple_indexAt p its.toArray n dd sl (.int z t) (eqU (.int z)) j hj ?_ ?_)
    ⟨ho, fun w hw => mem_eqAt (x := .int z) ⟨t, rfl⟩ rfl r (flat_intsV ys) w (by simpa using hw), ⟨.int (j : Nat), H, I.tok _, ⟨_, rfl⟩, q⟩⟩
  · obtain ⟨y, t', h1, h2⟩ := at' j hj
    rw [hy] at h1
    cases h1
    rw [h2]
    show (z == z) = true
    exact beq_self_eq_true z
  · intro m hm hmj
    obtain ⟨y, t', h1, h2⟩ := at' m hm
    rw [h2]
    show (y == z) = false
    exact beq_eq_false_iff_ne.mpr fun e => hno m hmj (e ▸ h1)
def gIdx : D → D → Option D
  | .ptup xs, .int z => (match ints? xs with
    | some ns => (match idxI z ns 0 with
      | some j => some (.int (j : Nat))
      | none => none)
    | none => none)
  | _, _ => none
abbrev rIdxT (X : Cx) : V → List V → Hp → VK → Prop := fun x xs H Q => ∃ p, ∃ ys : List Int, ∃ z j, x = .ref p ∧ xs = [.int z] ∧ SqT X.K H p (ys.map V.int) ∧ ys[j]? = some z ∧ (∀ m, m < j → ys[m]? ≠ some z) ∧ Q (.int (j : Nat)) H
/-- a method of a tuple whose object is known -/
def tPM (r : V → List V → Hp → VK → Prop) (to : TE) (t : TA) : TE := fun σ H Q => to σ H fun x H1 => (∃ (a : Addr) (o : Obj) (vs : List V), x = .ref a ∧ H1 a = some (.frz o (.tup vs)) ∧ o.dict = none) ∧ t σ H1 fun xs H2 => r x xs H2 Q
theorem pe_pm {o e : Expr} {es : List Expr} {to : TE} {t : TA} {name : Str} {apos cpos : Pos} {id : String} {r : V → List V → Hp → VK → Prop} (slot : Slot "tuple" name id) (hty : typeOf (.builtin id) = pure (.type "method_descriptor")) (hm : MtR X id r) (ho : PE X o to) (ha : PA X (e :: es) t)
    (hbase : attributeBase o name X.env (eval o X.env) = eval o X.env := by rfl)
    (hfew : ((backTo cpos (starEach (e :: es) X.env)).all (fun x => !x.1) && (backToKw cpos (keywordEach [] X.env)).all (fun x => x.1.isSome)
      && decide ((e :: es).length + ([] : List Keyword).length + (if ([] : List Keyword).isEmpty then 0 else 1) < 30)) = true := by rfl)
    (hline : (apos.endLine == cpos.line) = true := by rfl) (hs : starEach (e :: es) X.env = (false, eval e X.env) :: starEach es X.env := by rfl) (hplain : (backTo cpos (starEach es X.env)).any (·.1) = false := by rfl) :
    PE X (.Call (.Attribute o name apos) (e :: es) [] cpos) (tPM r to t) := by
  refine ⟨fun pins s σ H Q I h => ?_⟩
  refine wpAny_Call_method_late hbase hfew hline rfl (thn (ho.run pins s σ H _ I h) fun v s1 ⟨x, H1, I1, r1, ⟨a, ob, vs, ex, hx, hd⟩, q1⟩ => ?_)
  subst ex
  obtain rfl : v = Value.ref a := r1
  obtain ⟨e1, _, its, rv, o', e2, e3, n, e4⟩ := (show ObjOk X.prog X.w H1 s1.heap a (.frz ob (.tup vs)) from I1.hok a _ hx)
  have eo : o' = ob := Option.some.inj (e2.symm.trans e1)
  subst eo
  refine ⟨"tuple", id, PySem.F.plainAttrs_tuple, slot, hty, ⟨o', e1, e3⟩, fun b eb => by cases eb; exact ⟨o', e1, hd⟩, ?_⟩
  have hA := ha.run cpos pins s1 σ H1 _ I1 q1
  rw [hs] at hA ⊢
  refine Calls.callWith_builtin (by show (false || (backTo cpos (starEach es X.env)).any (·.1)) = false; rw [hplain] <;> rfl) (Calls.evalArgs_plain ?_)
  exact thn hA fun us s2 ⟨vs, H2, I2, r2, q2⟩ => hm pins s2 σ H2 (.ref a) vs _ us Q I2 rfl r2 q2
/-- t.index(x) of a plain tuple that stays -/
theorem evf_idx {st o e : Expr} {f h : Den} (pm : PE X st (tPM (rIdxT X) (SE X o) (tCons (SE X e) tNil))) (hf : EvF X o f) (hh : EvR X e h) : EvF X st (d2 gIdx f h) := fun B env ds σ Hf H d ds' S hd Q q => by
  obtain ⟨v1, s1, e1, e2⟩ := bnd_eq hd
  obtain ⟨v2, s2, e3, e4⟩ := bnd_eq e2
  obtain ⟨e5, rfl⟩ := op1_eq e4
  unfold gIdx at e5
  split at e5
  · rename_i xs z
    split at e5
    · rename_i ns en
      split at e5
      · rename_i j ej
        cases e5
        refine SE.of pm (hf B env ds σ Hf H _ _ S e1 _ fun v Hf1 H1 g1 S1 r1 => ?_)
        cases r1 with
        | @ptup a ob ws _ h1 hd h2 =>
          refine ⟨⟨a, ob, ws, rfl, S1.sub _ _ h1, hd⟩, hh B env s1 σ Hf1 H1 _ _ S1 e3 _ fun v2 Hf2 H2 g2 S2 r2 => ?_⟩
          cases r2.int
          rw [ints_eq en] at h2
          rw [rpl_ints h2] at h1
          obtain ⟨_, i1, i2⟩ := idxI_ok ej
          rw [Nat.sub_zero] at i1 i2
          exact ⟨a, ns, z, j, rfl, rfl, .inl (.inr ⟨ob, S2.sub _ _ (g2.ff _ _ h1)⟩), i1, i2, q _ _ _ (g1.trans g2) S2 (.int _)⟩
      · cases e5
    · cases e5
  · cases e5
/-- tuple(list) as a plain tuple -/
def rPtup (X : Cx) : List V → Hp → VK → Prop := fun xs H Q => ∃ p ys, xs = [.ref p] ∧ SqL X.K H p ys ∧ ∀ (l : Addr) (o : Obj), H l = none → o.dict = none → Q (.ref l) (upd H l (.frz o (.tup ys)))
theorem cr_ptup : CallR X (.type "tuple") (rPtup X) := by
  intro pins s σ H xs us Q I r ⟨p, ys, ex, hs, q⟩
  subst ex
  obtain ⟨u, rfl, rx⟩ := vals1 r
  obtain rfl : u = Value.ref p := rx
  obtain ⟨its, rv, pl, hz⟩ := I.list hs
  refine call_tuple_list pl.isList (fun h' hk => ?_) (by rw [List.size_toArray, ← rv.length]; exact hz)
  have I1 : Inv X pins σ H { s with heap := h' } := I.kept (t' := s.toks) hk
  have e := Heap.get?_push_size h' (o := { cls := .type "tuple", data := .seq its.toArray }) rfl
  have I2 : Inv X pins σ (upd H h'.objs.size (.frz { cls := .type "tuple", data := .seq its.toArray } (.tup ys))) { s with heap := h'.push { cls := .type "tuple", data := .seq its.toArray } } :=
    I1.laid (t' := s.toks) (fun b o e => Heap.get?_push_of_some _ e) (Nat.le_refl _) ⟨e, hz, its, rv, IsTup.new _ _⟩
  exact ⟨.ref h'.objs.size, _, I2, rfl, q _ _ I1.fresh rfl⟩
def gPtup : List D → Option D
  | [.list xs] => some (.ptup xs)
  | _ => none
theorem rc_ptup : RCF X (rPtup X) gPtup := fun B env ds σ Hf H args d vs Q S r e q => by
  unfold gPtup at e
  split at e
  · cases e
    cases r with
    | cons r t =>
      cases t
      obtain ⟨a, ws, rfl, h1, h2⟩ := r.lst S.sub
      exact ⟨_, ws, rfl, .inl (.inl h1), fun l o hl hd => q.ptup S h2 hd l hl⟩
  · cases e
def gGet : D → D → D → Option D
  | .dT kvs, k, x => (match keyOf? k with
    | some ks => (match lookT kvs ks with
      | some v => some v
      | none => some x)
    | none => none)
  | .dK kvs, k, x => (match key1? k with
    | some ks => (match lookK kvs ks with
      | some v => some v
      | none => some x)
    | none => none)
  | _, _, _ => none
def dGet2 (f h u : Den) : Den := fun env ds => bnd (f env ds) fun a s => bnd (h env s) fun b s1 => bnd (u env s1) fun c s2 => op1 (gGet a b c) s2
theorem evf_get {o e1 e2 : Expr} {f h u : Den} {apos cpos : Pos} (hu : X.A.units + 8 < cLine) (ho : EvR X o f) (he : EvR X e1 h) (hx : EvF X e2 u) (m : M2 X o "get" apos e1 e2 cpos) : EvF X (.Call (.Attribute o "get" apos) [e1, e2] [] cpos) (dGet2 f h u) := fun B env ds σ Hf H d ds' S hd Q q => by
  obtain ⟨v1, s1, k1, hd⟩ := bnd_eq hd
  obtain ⟨v2, s2, k2, hd⟩ := bnd_eq hd
  obtain ⟨v3, s3, k3, hd⟩ := bnd_eq hd
  obtain ⟨k4, rfl⟩ := op1_eq hd
  refine SE.of (pe_dget2 (by omega) (pe_se X o) (pe_se X e1) (pe_se X e2) m) (ho B env ds σ Hf H _ _ S k1 _ fun x Hf1 H1 g1 S1 r1 => ?_)
  unfold gGet at k4
  split at k4
  · rename_i kvs
    split at k4
    · rename_i ks ek
      obtain ⟨a, kv, rfl, h1, h2⟩ := r1.dT S1.sub
      refine ⟨a, rfl, .inr ⟨_, h1⟩, he B env s1 σ Hf1 H1 _ _ S1 k2 _ fun y Hf2 H2 g2 S2 r2 => hx B env s2 σ Hf2 H2 _ _ S2 k3 _ fun z Hf3 H3 g3 S3 r3 => ?_⟩
      obtain ⟨b, rfl, hb⟩ := keyOf_rd r2 ek
      obtain ⟨a', kv', ea, h1', h2'⟩ := (r1.up (g2.trans g3)).dT S3.sub
      cases ea
      have hb3 := S3.sub _ _ (g3.ff _ _ hb)
      have gg := (g1.trans g2).trans g3
      split at k4
      · rename_i w hw
        cases k4
        obtain ⟨vv, l1, l2⟩ := (h2'.look (k := ks)).1 _ hw
        exact ⟨some vv, .inr ⟨kv', ks, b, h1', rfl, hb3, l1.symm⟩, q _ _ _ gg S3 l2⟩
      · rename_i hw
        cases k4
        exact ⟨none, .inr ⟨kv', ks, b, h1', rfl, hb3, ((h2'.look (k := ks)).2 hw).symm⟩, q _ _ _ gg S3 r3⟩
    · cases k4
  · rename_i kvs
    split at k4
    · rename_i ks ek
      obtain ⟨a, kv, rfl, h1, h2⟩ := r1.dK S1.sub
      refine ⟨a, rfl, .inl ⟨_, h1⟩, he B env s1 σ Hf1 H1 _ _ S1 k2 _ fun y Hf2 H2 g2 S2 r2 => hx B env s2 σ Hf2 H2 _ _ S2 k3 _ fun z Hf3 H3 g3 S3 r3 => ?_⟩
      cases key1_rd r2 ek
      obtain ⟨a', kv', ea, h1', h2'⟩ := (r1.up (g2.trans g3)).dK S3.sub
      cases ea
      have gg := (g1.trans g2).trans g3
      split at k4
      · rename_i w hw
        cases k4
        obtain ⟨vv, l1, l2⟩ := (h2'.look (k := ks)).1 _ hw
        exact ⟨some vv, .inl ⟨kv', ks, h1', rfl, l1.symm⟩, q _ _ _ gg S3 l2⟩
      · rename_i hw
        cases k4
        exact ⟨none, .inl ⟨kv', ks, h1', rfl, ((h2'.look (k := ks)).2 hw).symm⟩, q _ _ _ gg S3 r3⟩
    · cases k4
  · cases k4
end
end L2.Dn
set_option Elab.async false
set_option linter.all false
set_option maxRecDepth 100000
/-! the draws, the script, abs, int, ** -/
namespace L2.Dn
open PySem PySem.Spec PyProof.Rows
section
variable {X : Cx}
def gAbs : List D → Option D
  | [.int i] => some (.int (if i < 0 then -i else i))
  | _ => none
theorem rc_abs : RCF X (fun xs H Q => ∃ i, xs = [.int i] ∧ Q (.int (if i < 0 then -i else i)) H) gAbs := fun B env ds σ Hf H args d vs Q S r e q => by
  unfold gAbs at e
  split at e
  · cases e
    cases r with
    | cons r t =>
      cases t
      cases r.int
      exact ⟨_, rfl, q.now S (.int _)⟩
  · cases e
def gInt1 : List D → Option D
  | [.int i] => some (.int i)
  | [.bool b] => some (.int (if b then 1 else 0))
  | _ => none
theorem rc_int1 : RCF X (fun xs H Q => (∃ i, xs = [.int i] ∧ Q (.int i) H) ∨ ∃ k, xs = [.bl k] ∧ Q (.int (if k then 1 else 0)) H) gInt1 := fun B env ds σ Hf H args d vs Q S r e q => by
  unfold gInt1 at e
  split at e
  · cases e
    cases r with
    | cons r t =>
      cases t
      cases r.int
      exact .inl ⟨_, rfl, q.now S (.int _)⟩
  · cases e
    cases r with
    | cons r t =>
      cases t
      cases r.bl
      exact .inr ⟨_, rfl, q.now S (.int _)⟩
  · cases e
def gPow : D → D → Option D
  | .int i, .int j => if 0 ≤ j ∧ j ≤ 1000000 ∧ i.natAbs < 18446744073709551616 then some (.int (i ^ j.toNat)) else none
  | _, _ => none
theorem r2_pow : R2F X (rI CPow fun i j => .int (i ^ j.toNat)) gPow := fun B env ds σ Hf H d1 d2 d x y Q S r1 r2 e q => by
  unfold gPow at e
  split at e
  · split at e
    · rename_i h
      cases e
      cases r1.int
      cases r2.int
      exact ⟨_, _, rfl, rfl, ⟨h.1, h.2.1, by have := h.2.2; omega⟩, q.now S (.int _)⟩
    · cases e
  · cases e
/-! == and != of data with or without dicts -/
def rEqU (X : Cx) : R2 := fun x y H Q => rEqD X.K x y H Q ∨ rEqM X false x y H Q
def rNeU (X : Cx) : R2 := fun x y H Q => rNeD X.K x y H Q ∨ rEqM X true x y H Q
theorem op_eqU (hu : X.A.units + 100 < cLine) : OpR X (compareOp .Eq) (rEqU X) := OpR.or (op_eqD (by omega)) (op_eqT (by omega))
theorem op_neU (hu : X.A.units + 100 < cLine) : OpR X (compareOp .NotEq) (rNeU X) := OpR.or (op_neD (by omega)) (op_neT (by omega))
def gEqU (x y : D) : Option D := match gEqD x y with
  | some d => some d
  | none => gEqM false x y
def gNeU (x y : D) : Option D := match gNeD x y with
  | some d => some d
  | none => gEqM true x y
theorem r2_eqU : R2F X (rEqU X) gEqU := fun B env ds σ Hf H d1 d2 d x y Q S r1 r2 e q => by
  unfold gEqU at e
  split at e
  · rename_i h
    cases e
    exact .inl (r2_eqD _ _ _ _ _ _ _ _ _ _ _ _ S r1 r2 h q)
  · exact .inr (r2_eqM false _ _ _ _ _ _ _ _ _ _ _ _ S r1 r2 e q)
theorem r2_neU : R2F X (rNeU X) gNeU := fun B env ds σ Hf H d1 d2 d x y Q S r1 r2 e q => by
  unfold gNeU at e
  split at e
  · rename_i h
    cases e
    exact .inl (r2_neD _ _ _ _ _ _ _ _ _ _ _ _ S r1 r2 h q)
  · exact .inr (r2_eqM true _ _ _ _ _ _ _ _ _ _ _ _ S r1 r2 e q)
end
/-! ### the draws' dict -/
section
variable {B : Bs} {K : PySem.W.Frag} {env : En} {ds ds' : DS} {σ : St} {Hf H : Hp} {x l c : Addr}
theorem kv_rest : valV (drawKV l c ds) (.inr "rest") = some (.int ds.rest) := by rfl
theorem kv_turn : valV (drawKV l c ds) (.inr "turn") = some (.int ds.turn) := by rfl
theorem kv_large : valV (drawKV l c ds) (.inr "large") = some (.ref l) := by rfl
theorem kv_cells : valV (drawKV l c ds) (.inr "cells") = some (.ref c) := by rfl
theorem put_rest {n : Int} : putK (drawKV l c ds) (.inr "rest") (.int n) = drawKV l c { ds with rest := n } := by rfl
theorem put_turn {n : Int} : putK (drawKV l c ds) (.inr "turn") (.int n) = drawKV l c { ds with turn := n } := by rfl
theorem SR.dr (S : SR B K env ds σ Hf H) (e : B.dr = some (x, l, c)) : H x = some (.dK (drawKV l c ds)) ∧ H l = some (.lst (ds.large.map V.int)) ∧ Hf x = none ∧ Hf l = none ∧ Hf c = some (.lst (ds.cells.map V.int)) := S.draw x l c e
/-- an object of the draws is changed -/
theorem SR.drw {a : Addr} {o : HO} (S : SR B K env ds σ Hf H) (n : B.isDr a) (dr : DrawR B.dr ds' Hf (upd H a o)) : SR B K env ds' σ Hf (upd H a o) where
  sub := fun b u e => by rw [upd_ne (ne_of_none e (S.isDr n).2)]; exact S.sub b u e
  base := fun b u e => by
    by_cases h : b = a
    · subst h
      exact ⟨o, upd_same, fun z => absurd n z⟩
    · rw [upd_ne h]; exact S.base b u e
  fbase := S.fbase
  fnew := S.fnew
  slots := fun i s e => (S.slots i s e).hp fun d q => by
    subst q
    intro z
    obtain ⟨b, e1, _, _, n3, _⟩ := S.slots i _ e
    rw [z] at e1
    cases e1
    exact n3 n
  apart := S.apart
  draw := dr
  len := S.len
theorem Gr.drw {a : Addr} {o : HO} (n : B.isDr a) : Gr B Hf H Hf (upd H a o) where
  hh := fun b u e => by
    by_cases h : b = a
    · subst h
      exact ⟨o, upd_same, fun z => absurd n z⟩
    · exact ⟨u, by rw [upd_ne h]; exact e, fun _ => rfl⟩
  ff := fun _ _ e => e
  nw := fun _ h => .inl h
end
def dRest (i : Nat) : Den := fun env ds => match env[i]? with
  | some (some .draw) => some (.int ds.rest, ds)
  | _ => none
def dTurn (i : Nat) : Den := fun env ds => match env[i]? with
  | some (some .draw) => some (.int ds.turn, ds)
  | _ => none
def dCells (i : Nat) : Den := fun env ds => match env[i]? with
  | some (some .draw) => some (.list (ds.cells.map D.int), ds)
  | _ => none
def dPopL (i : Nat) : Den := fun env ds => match env[i]? with
  | some (some .draw) => (match ds.large with
    | n :: r => some (.int n, { ds with large := r })
    | [] => none)
  | _ => none
def tLarge (i : Nat) : DenT := fun env ds => match env[i]? with
  | some (some .draw) => some ((match ds.large with
    | [] => false
    | _ => true), ds)
  | _ => none
def dSetR (i : Nat) (f : Den) : DenS := fun env ds => bnd (f env ds) fun v s => match v, env[i]? with
  | .int n, some (some .draw) => some (.nx env, { s with rest := n })
  | _, _ => none
def dSetTn (i : Nat) (f : Den) : DenS := fun env ds => bnd (f env ds) fun v s => match v, env[i]? with
  | .int n, some (some .draw) => some (.nx env, { s with turn := n })
  | _, _ => none
section
variable {X : Cx} {e a b : Expr} {f : Den} {ss : Stmt}
theorem evf_rest (i : Nat) (pm : PE X e (tDGet (tVar i) (tC (.str "rest")))) : EvF X e (dRest i) := fun B env ds σ Hf H d ds' S hd Q q => by
  unfold dRest at hd
  split at hd
  · rename_i ei
    cases hd
    obtain ⟨x, l, c, ed, ex⟩ := S.slots i _ ei
    obtain ⟨h1, h2, h3, h4, h5⟩ := S.dr ed
    exact SE.of pm ⟨_, ex, x, _, rfl, .inl ⟨_, .inr "rest", .inl h1, rfl, kv_rest.symm⟩, q.now S (.int _)⟩
  · cases hd
theorem evf_turn (i : Nat) (pm : PE X e (tDGet (tVar i) (tC (.str "turn")))) : EvF X e (dTurn i) := fun B env ds σ Hf H d ds' S hd Q q => by
  unfold dTurn at hd
  split at hd
  · rename_i ei
    cases hd
    obtain ⟨x, l, c, ed, ex⟩ := S.slots i _ ei
    obtain ⟨h1, h2, h3, h4, h5⟩ := S.dr ed
    exact SE.of pm ⟨_, ex, x, _, rfl, .inl ⟨_, .inr "turn", .inl h1, rfl, kv_turn.symm⟩, q.now S (.int _)⟩
  · cases hd
theorem evf_cells (i : Nat) (pm : PE X e (tDGet (tVar i) (tC (.str "cells")))) : EvF X e (dCells i) := fun B env ds σ Hf H d ds' S hd Q q => by
  unfold dCells at hd
  split at hd
  · rename_i ei
    cases hd
    obtain ⟨x, l, c, ed, ex⟩ := S.slots i _ ei
    obtain ⟨h1, h2, h3, h4, h5⟩ := S.dr ed
    exact SE.of pm ⟨_, ex, x, _, rfl, .inl ⟨_, .inr "cells", .inl h1, rfl, kv_cells.symm⟩, q.now S (.lst h5 (ints_rpl _))⟩
  · cases hd
theorem evf_popL (i : Nat) (pm : PE X e (tBM X.K "list" rPopAt (tDGet (tVar i) (tC (.str "large"))) (tCons (tC (.int 0)) tNil))) : EvF X e (dPopL i) := fun B env ds σ Hf H d ds' S hd Q q => by
  unfold dPopL at hd
  split at hd
  · rename_i ei
    split at hd
    · rename_i n r en
      cases hd
      obtain ⟨x, l, c, ed, ex⟩ := S.slots i _ ei
      obtain ⟨h1, h2, h3, h4, h5⟩ := S.dr ed
      have hl : B.isDr l := ⟨x, l, c, ed, .inr rfl⟩
      have hne : x ≠ l := fun z => by subst z; rw [h1] at h2; cases h2
      rw [en] at h2
      refine SE.of pm ⟨_, ex, x, _, rfl, .inl ⟨_, .inr "large", .inl h1, rfl, kv_large.symm⟩, .inl ⟨rfl, _, .inl (.inl h2)⟩, ?_⟩
      refine ⟨l, _, 0, 0, .int n, rfl, rfl, h2, by decide, by decide, ?_, rfl, ?_⟩
      · rw [List.length_map]; exact seqIx (by decide) (by simp)
      · refine q _ Hf _ (Gr.drw hl) (S.drw hl fun y m k ey => ?_) (.int n)
        rw [ed] at ey
        cases ey
        refine ⟨?_, ?_, h3, h4, h5⟩
        · rw [upd_ne hne]; exact h1
        · rw [upd_same]; rfl
    · cases hd
  · cases hd
theorem evt_large (hu : X.A.units + 100 < cLine) (i : Nat) {pos p2 : Pos} (pm : PE X a (tDGet (tVar i) (tC (.str "large")))) : EvT X (.Compare a [.NotEq] [.List [] p2] pos) (tLarge i) := fun B env ds σ Hf H d ds' S hd Q q => by
  unfold tLarge at hd
  split at hd
  · rename_i ei
    obtain ⟨rfl, rfl⟩ : (match ds.large with | [] => false | _ => true) = d ∧ ds = ds' := by cases hd; exact ⟨rfl, rfl⟩
    obtain ⟨x, l, c, ed, ex⟩ := S.slots i _ ei
    obtain ⟨h1, h2, h3, h4, h5⟩ := S.dr ed
    have hb : EvN X (.List [] p2) (dLst aNil) := evn_lst eva_nil
    refine STt.of (pt_cmpR (op_neD (by omega)) pm (pe_se X _) (nomark _)) ⟨_, ex, x, _, rfl, .inl ⟨_, .inr "large", .inl h1, rfl, kv_large.symm⟩, ?_⟩
    refine hb B env ds σ Hf H (.list []) ds S rfl _ fun b Hf2 H2 g2 S2 n2 nf2 t2 => ?_
    have ok : ∀ ns : List Int, eqOk 8 (.list (ns.map D.int)) = true := fun ns => by
      show (ns.map D.int).all (eqOk 7) = true
      rw [List.all_eq_true]
      intro d hd
      obtain ⟨n, _, rfl⟩ := List.mem_map.mp hd
      rfl
    obtain ⟨k1, k2, _, _, k5⟩ := S2.dr ed
    have lay := (eqOk_lay 8 _ (ok ds.large)).1
    have d1 : Dp X.K H2 (.ref l) (toPy (.list (ds.large.map D.int))) := .lst (.inl (.inl k2)) (RpL.dp S2.sub _ _ (by simpa only [toPy, PyData.canLay0] using lay) (ints_rpl _))
    cases t2 with
    | lst e1 e2 =>
      have d2 : Dp X.K H2 (.ref b) (toPy (.list [])) := .lst (.inl (.inl e1)) (RpL.dp S2.sub _ _ (by rfl) e2)
      refine ⟨_, _, d1, d2, eqOk_shaped (n := 8) (by decide) (ok _), eqOk_shaped (n := 8) (by decide) rfl, _, rfl, ?_⟩
      rw [deq_eqv 8 _ _ (ok _) rfl]
      have : (!deq 8 (.list (ds.large.map D.int)) (.list [])) = (match ds.large with | [] => false | _ => true) := by
        cases ds.large <;> rfl
      rw [this]
      exact q _ _ g2 S2
  · cases hd
theorem evs_setR (i : Nat) (pm : PS X ss (sDPut (tVar i) (tC (.str "rest")) (SE X e))) (he : EvR X e f) : EvS X ss (dSetR i f) := fun B env ds σ Hf H o ds' S hD Dd cc => by
  obtain ⟨v, s1, e1, e2⟩ := bnd_eq hD
  split at e2
  · rename_i n ei
    cases e2
    refine SS.of pm (he B env ds σ Hf H _ _ S e1 _ fun w Hf1 H1 g1 S1 r1 => ?_)
    cases r1.int
    obtain ⟨x, l, c, ed, ex⟩ := S1.slots i _ ei
    obtain ⟨h1, h2, h3, h4, h5⟩ := S1.dr ed
    have hx : B.isDr x := ⟨x, l, c, ed, .inl rfl⟩
    have hne : l ≠ x := fun z => by subst z; rw [h2] at h1; cases h1
    refine ⟨_, ex, x, _, rfl, DPut.k (k := .inr "rest") h1 (by show 4 < sizeLine; decide), ?_⟩
    rw [put_rest]
    refine cc _ _ _ g1.ff (S1.drw hx fun y m k ey => ?_)
    rw [ed] at ey
    cases ey
    exact ⟨upd_same, by rw [upd_ne hne]; exact h2, h3, h4, h5⟩
  · cases e2
theorem evs_setTn (i : Nat) (pm : PS X ss (sDPut (tVar i) (tC (.str "turn")) (SE X e))) (he : EvR X e f) : EvS X ss (dSetTn i f) := fun B env ds σ Hf H o ds' S hD Dd cc => by
  obtain ⟨v, s1, e1, e2⟩ := bnd_eq hD
  split at e2
  · rename_i n ei
    cases e2
    refine SS.of pm (he B env ds σ Hf H _ _ S e1 _ fun w Hf1 H1 g1 S1 r1 => ?_)
    cases r1.int
    obtain ⟨x, l, c, ed, ex⟩ := S1.slots i _ ei
    obtain ⟨h1, h2, h3, h4, h5⟩ := S1.dr ed
    have hx : B.isDr x := ⟨x, l, c, ed, .inl rfl⟩
    have hne : l ≠ x := fun z => by subst z; rw [h2] at h1; cases h1
    refine ⟨_, ex, x, _, rfl, DPut.k (k := .inr "turn") h1 (by show 4 < sizeLine; decide), ?_⟩
    rw [put_turn]
    refine cc _ _ _ g1.ff (S1.drw hx fun y m k ey => ?_)
    rw [ed] at ey
    cases ey
    exact ⟨upd_same, by rw [upd_ne hne]; exact h2, h3, h4, h5⟩
  · cases e2
end
/-! ### the script -/
theorem scr_sq {B : Bs} {K : PySem.W.Frag} {env : En} {ds : DS} {σ : St} {Hf H : Hp} {a : Addr} {xs : List V} (S : SR B K env ds σ Hf H) (nd : ∀ o, B.H0 a = some o → ¬ B.isDr a) (h : SqL K B.H0 a xs) : SqL K H a xs := by
  rcases h with h | h
  · rcases h with h | ⟨o, h⟩
    · obtain ⟨o', e, n⟩ := S.base a _ h
      exact .inl (.inl (by rw [e, n (nd _ h)]))
    · obtain ⟨o', e, n⟩ := S.base a _ h
      exact .inl (.inr ⟨o, by rw [e, n (nd _ h)]⟩)
  · exact .inr h
def iScr (i : Nat) : DenA := fun env ds => match env[i]? with
  | some (some (.scr ns)) => some (ns.map D.int, ds)
  | _ => none
def dLenS (i : Nat) : Den := fun env ds => match env[i]? with
  | some (some (.scr ns)) => some (.int (ns.length : Nat), ds)
  | _ => none
section
variable {X : Cx} {tg e : Expr}
theorem evi_scr (i : Nat) (pm : PE X e (tVar i)) : EvI X tg e (iScr i) := fun B env ds σ Hf H items ds' S he R q => by
  unfold iScr at he
  split at he
  · rename_i ns ei
    cases he
    obtain ⟨a, ea, nd, hs⟩ := S.slots i _ ei
    refine SI.of (pi_list pm) ⟨_, ea, a, rfl, ⟨_, scr_sq S nd hs⟩, q _ _ _ Gr.refl S fun j env ds σ Hf H s S => ?_⟩
    have hq := scr_sq S nd hs
    rw [List.length_map]
    refine ⟨fun hi => ?_, fun hi => ⟨_, hq, by rw [List.length_map]; exact hi⟩⟩
    have e1 : (ns.map V.int)[j]? = some (.int ns[j]) := by rw [List.getElem?_map, List.getElem?_eq_getElem hi]; rfl
    refine ⟨⟨_, _, hq, e1⟩, fun x H' y d hd => ?_⟩
    obtain ⟨rfl, y⟩ := y
    have := y _ hq
    rw [e1] at this
    cases this
    rw [List.getElem?_map, List.getElem?_eq_getElem hi] at hd
    cases hd
    exact ⟨Hf, Gr.refl, S, .int _⟩
  · cases he
theorem evf_lenS (i : Nat) (pm : PE X e (tCB (fun xs H Q => ∃ p ys, xs = [.ref p] ∧ (SqL X.K H p ys ∨ SqT X.K H p ys) ∧ Q (.int (ys.length : Nat)) H) (tCons (tVar i) tNil))) : EvF X e (dLenS i) := fun B env ds σ Hf H d ds' S hd Q q => by
  unfold dLenS at hd
  split at hd
  · rename_i ns ei
    cases hd
    obtain ⟨a, ea, nd, hs⟩ := S.slots i _ ei
    refine SE.of pm ⟨_, ea, a, _, rfl, .inl (scr_sq S nd hs), ?_⟩
    rw [List.length_map]
    exact q.now S (.int _)
  · cases hd
end
end L2.Dn
set_option Elab.async false
set_option linter.all false
set_option maxRecDepth 100000
/-! small rules that the printed walks need -/
namespace L2.Dn
open PySem PySem.Spec PyProof.Rows
theorem _root_.L2.Room.us {k : Nat} {A : Around} (r : Room k A) : A.units + 1 < cLine ∧ A.units + 8 < cLine ∧ A.units + 65 < cLine ∧ A.units + 100 < cLine := by
  have := r.un
  exact ⟨by omega, by omega, by omega, by omega⟩
def dDropS (f : Den) : DenS := fun env ds => bnd (f env ds) fun _ s => some (.nx env, s)
section
variable {X : Cx} {e a b c : Expr} {f h u : Den} {k l m : Bool} {pos pos' : Pos}
theorem evs_drop (he : EvF X e f) (hs : swapsWith e none pos.line X.env = pure false := by rfl) : EvS X (.Expr e pos) (dDropS f) := fun B env ds σ Hf H o ds' S hd Dd cc => by
  obtain ⟨d, s1, e1, e2⟩ := bnd_eq hd
  cases e2
  exact SS.of (ps_expr (pe_se X e) hs) (he B env ds σ Hf H _ _ S e1 _ fun v Hf' H' g S' r => cc _ _ _ g.ff S')
theorem evs_doc {x j} : EvS X (.Expr (.Constant (.str x) j pos) pos') dNx := fun B env ds σ Hf H o ds' S hd Dd cc => by
  cases hd
  exact SS.of ps_doc (cc σ Hf H (fun _ _ e => e) S)
theorem evs_part (i j : Nat) {x y : Str} {px py pt : Pos} {kt k2 pt2} (hc : X.calm = true) (hN : X.N.Nodup) (ha : EvU X a k f) (hb : EvU X b l h) (hij : i ≠ j) (hi : X.N[i]? = some x := by rfl) (hj : X.N[j]? = some y := by rfl)
    (hx : Loc X.env.scope x := by first | exact Or.inl rfl | exact Or.inr rfl) (hy : Loc X.env.scope y := by first | exact Or.inl rfl | exact Or.inr rfl)
    (fx : X.fn x = true ∨ X.env.scope.names.lookup x = some .local := by first | exact .inl rfl | exact .inr rfl) (fy : X.fn y = true ∨ X.env.scope.names.lookup y = some .local := by first | exact .inl rfl | exact .inr rfl)
    (hw : swappedStores [.Tuple [.Name x px, .Name y py] kt pt] (.Tuple [a, b] k2 pt2) X.env = pure none := by rfl)
    (hs : swapsWithSole [.Tuple [.Name x px, .Name y py] kt pt] (.Tuple [a, b] k2 pt2) pos.line X.env = pure false := by rfl) (h1 : starEach [a, b] X.env = (false, eval a X.env) :: starEach [b] X.env := by rfl) (h2 : starEach [b] X.env = (false, eval b X.env) :: starEach [] X.env := by rfl)
    (g1 : (assignEach [.Name x px, .Name y py] X.env).map (·.2) = assign (.Name x px) X.env :: (assignEach [.Name y py] X.env).map (·.2) := by rfl) (g2 : (assignEach [.Name y py] X.env).map (·.2) = assign (.Name y py) X.env :: (assignEach [] X.env).map (·.2) := by rfl)
    (hn : (assignEach [.Name x px, .Name y py] X.env).length = 2 := by rfl) (hst : (assignEach [.Name x px, .Name y py] X.env).findIdx? (·.1) = none := by rfl)
    (e1 : (assignEach [.Tuple [.Name x px, .Name y py] kt pt] X.env).map (·.2) = [assign (.Tuple [.Name x px, .Name y py] kt pt) X.env] := by rfl) :
    EvS X (.Assign [.Tuple [.Name x px, .Name y py] kt pt] (.Tuple [a, b] k2 pt2) pos) (dPar i j k l f h) := fun B env ds σ Hf H o ds' S hd Dd cc => by
  obtain ⟨d1, s1, q1, hd⟩ := bnd_eq hd
  obtain ⟨d2, s2, q2, e3⟩ := bnd_eq hd
  cases e3
  refine SS.of (ps_asg (pe_tup (pa_cons (pe_se X a) (pa_cons (pe_se X b) pa_nil h2) h1)) (pg_tup hc (pgs_cons (pg_name hN hi hx fx) (pgs_cons (pg_name hN hj hy fy) pgs_nil g2) g1) hn hst) hs hw e1) ?_
  refine ha B env ds σ Hf H _ _ S q1 _ fun v Hf1 H1 g1 S1 n1 => hb B env s1 σ Hf1 H1 _ _ S1 q2 _ fun w Hf2 H2 g2 S2 n2 => ⟨show 2 ≤ sizeLine by decide, fun q hq => ?_⟩
  refine ⟨q, [v, w], rfl, .inl (.inl upd_same), rfl, v, [w], rfl, w, [], rfl, rfl, ?_⟩
  have S2' : SR B X.K env ds' σ Hf2 (upd H2 q (.tup [v, w])) := S2.hp (sub_none S2 hq) (S2.fre hq)
  have g3 : Gr B Hf2 H2 Hf2 (upd H2 q (.tup [v, w])) := Gr.refl.hp hq
  exact cc _ _ _ (g1.ff.trans g2.ff) ((S2'.setU ((n1.up g2).up g3) i).setU ((n1.over n2 i).up g3) j)
theorem evs_par3t (i j p : Nat) {x y z : Str} {px py pz pt : Pos} {kt k2 pt2} (hc : X.calm = true) (hN : X.N.Nodup) (ha : EvU X a k f) (hb : EvU X b l h) (hcc : EvU X c m u) (hij : i ≠ j) (hil : i ≠ p) (hjl : j ≠ p) (hi : X.N[i]? = some x := by rfl) (hj : X.N[j]? = some y := by rfl) (hl : X.N[p]? = some z := by rfl)
    (hx : Loc X.env.scope x := by first | exact Or.inl rfl | exact Or.inr rfl) (hy : Loc X.env.scope y := by first | exact Or.inl rfl | exact Or.inr rfl) (hz : Loc X.env.scope z := by first | exact Or.inl rfl | exact Or.inr rfl)
    (fx : X.fn x = true ∨ X.env.scope.names.lookup x = some .local := by first | exact .inl rfl | exact .inr rfl) (fy : X.fn y = true ∨ X.env.scope.names.lookup y = some .local := by first | exact .inl rfl | exact .inr rfl) (fz : X.fn z = true ∨ X.env.scope.names.lookup z = some .local := by first | exact .inl rfl | exact .inr rfl)
    (hw : swappedStores [.Tuple [.Name x px, .Name y py, .Name z pz] kt pt] (.Tuple [a, b, c] k2 pt2) X.env = pure none := by rfl)
    (hs : swapsWithSole [.Tuple [.Name x px, .Name y py, .Name z pz] kt pt] (.Tuple [a, b, c] k2 pt2) pos.line X.env = pure false := by rfl) (h1 : starEach [a, b, c] X.env = (false, eval a X.env) :: starEach [b, c] X.env := by rfl) (h2 : starEach [b, c] X.env = (false, eval b X.env) :: starEach [c] X.env := by rfl) (h3 : starEach [c] X.env = (false, eval c X.env) :: starEach [] X.env := by rfl)
    (g1 : (assignEach [.Name x px, .Name y py, .Name z pz] X.env).map (·.2) = assign (.Name x px) X.env :: (assignEach [.Name y py, .Name z pz] X.env).map (·.2) := by rfl) (g2 : (assignEach [.Name y py, .Name z pz] X.env).map (·.2) = assign (.Name y py) X.env :: (assignEach [.Name z pz] X.env).map (·.2) := by rfl) (g3 : (assignEach [.Name z pz] X.env).map (·.2) = assign (.Name z pz) X.env :: (assignEach [] X.env).map (·.2) := by rfl)
    (hn : (assignEach [.Name x px, .Name y py, .Name z pz] X.env).length = 3 := by rfl) (hst : (assignEach [.Name x px, .Name y py, .Name z pz] X.env).findIdx? (·.1) = none := by rfl)
    (e1 : (assignEach [.Tuple [.Name x px, .Name y py, .Name z pz] kt pt] X.env).map (·.2) = [assign (.Tuple [.Name x px, .Name y py, .Name z pz] kt pt) X.env] := by rfl) :
    EvS X (.Assign [.Tuple [.Name x px, .Name y py, .Name z pz] kt pt] (.Tuple [a, b, c] k2 pt2) pos) (dPar3 i j p k l m f h u) := fun B env ds σ Hf H o ds' S hd Dd cc => by
  obtain ⟨d1, s1, q1, hd⟩ := bnd_eq hd
  obtain ⟨d2, s2, q2, hd⟩ := bnd_eq hd
  obtain ⟨d3, s3, q3, e4⟩ := bnd_eq hd
  cases e4
  refine SS.of (ps_asg (pe_tup (pa_cons (pe_se X a) (pa_cons (pe_se X b) (pa_cons (pe_se X c) pa_nil h3) h2) h1)) (pg_tup hc (pgs_cons (pg_name hN hi hx fx) (pgs_cons (pg_name hN hj hy fy) (pgs_cons (pg_name hN hl hz fz) pgs_nil g3) g2) g1) hn hst) hs hw e1) ?_
  refine ha B env ds σ Hf H _ _ S q1 _ fun v Hf1 H1 g1 S1 n1 => hb B env s1 σ Hf1 H1 _ _ S1 q2 _ fun w Hf2 H2 g2 S2 n2 => hcc B env s2 σ Hf2 H2 _ _ S2 q3 _ fun t Hf3 H3 g3 S3 n3 => ⟨show 3 ≤ sizeLine by decide, fun q hq => ?_⟩
  refine ⟨q, [v, w, t], rfl, .inl (.inl upd_same), rfl, v, [w, t], rfl, w, [t], rfl, t, [], rfl, rfl, ?_⟩
  have S3' : SR B X.K env ds' σ Hf3 (upd H3 q (.tup [v, w, t])) := S3.hp (sub_none S3 hq) (S3.fre hq)
  have g4 : Gr B Hf3 H3 Hf3 (upd H3 q (.tup [v, w, t])) := Gr.refl.hp hq
  have n1' := n1.up g2
  exact cc _ _ _ ((g1.ff.trans g2.ff).trans g3.ff) (((S3'.setU ((n1'.up g3).up g4) i).setU (((n1.over n2 i).up g3).up g4) j).setU (((n1.over n2 i).over (n1'.over n3 i) j).up g4) p)
end
end L2.Dn
set_option Elab.async false
set_option linter.all false
set_option maxRecDepth 100000
/-! the law's begin: the dict of the draws is made; from then on the base tells it -/
namespace L2.Dn
open PySem PySem.Spec PyProof.Rows C8
def envS (n : Nat) (ns : List Int) : En := some (.scr ns) :: List.replicate (n - 1) none
theorem sr_startS {K : PySem.W.Frag} {H : Hp} {a : Addr} {ns : List Int} {ds : DS} (N : List Str) (h : SqL K H a (ns.map V.int)) : SR ⟨H, fun _ => none, none⟩ K (envS N.length ns) ds (start N [.ref a]) (fun _ => none) H where
  sub := fun _ _ e => by cases e
  base := fun a o e => ⟨o, e, fun _ => rfl⟩
  fbase := fun _ _ e => e
  fnew := fun a h => .inl h
  slots := fun i sl e => by
    unfold envS at e
    cases i with
    | zero => cases e; exact ⟨a, rfl, fun _ _ => nodr, h⟩
    | succ i =>
      have e : (List.replicate (N.length - 1) (none : Option Sl))[i]? = some (some sl) := e
      rw [List.getElem?_replicate] at e
      split at e <;> cases e
  apart := fun i j d e a _ h1 => by
    unfold envS at h1
    cases i with
    | zero => cases h1
    | succ i =>
      have h1 : (List.replicate (N.length - 1) (none : Option Sl))[i]? = some (some (.own d)) := h1
      rw [List.getElem?_replicate] at h1
      split at h1 <;> cases h1
  draw := fun x l c e => by cases e
  len := by
    unfold envS start
    simp
/-- the draws of a script: large, cells -/
def spB (large cells : List Int → List Int) (K : PySem.W.Frag) : Sp := fun vs H Q _ => vs.length = 1 ∧ ∃ a ns, vs = [.ref a] ∧ SqL K H a (ns.map V.int) ∧ ns.length ≤ 63 ∧ ∀ x l c H', Same H H' → H x = none → H l = none → H c = none → x ≠ l → c ≠ x → c ≠ l →
  H' x = some (.dK (drawKV l c ⟨large ns, 0, cells ns, 0⟩)) → H' l = some (.lst ((large ns).map V.int)) → H' c = some (.lst ((cells ns).map V.int)) → Q (.ref x) H'
section
variable {P : Program} {w : World} {K : PySem.W.Frag} {mg : Str → Option Value} {base : Heap} {x : Str} {params : Arguments} {scope : Scope} {f : Addr} {fd : FuncData} {N ps : List Str} {k : Nat} {large cells : List Int → List Int}
theorem calB {d1 : DenS} {c1 : Den} {st1 : Stmt} {ec : Expr} {j1 j2 j3 j4 j5 j6 : Nat} {p1 p2 p3 p4 p5 p6 p7 pd pr : Pos}
    (F : FunD K x x params [st1, .Return (some (.Dict [some (.Constant (.str "large") j1 p1), some (.Constant (.str "rest") j2 p2), some (.Constant (.str "cells") j3 p3), some (.Constant (.str "turn") j4 p4)] [.Name "large" p5, .Constant (.int 0) j5 p6, ec, .Constant (.int 0) j6 p7] pd)) pr] scope [] [] f fd)
    (hm : mg x = some (.ref f)) (S : FnScope N ps scope) (hn : ps.length = 1) (hb : Binds K fd ps [])
    (hd : ∀ ns : List Int, ns.length ≤ 63 → ∃ env1, d1 (envS N.length ns) ds0 = some (.nx env1, ds0) ∧ env1[1]? = some (some (.own (.list ((large ns).map D.int)))) ∧ c1 env1 ds0 = some (.list ((cells ns).map D.int), ds0))
    (h : ∀ (cdv : Value) (A : Around) (outer : List Env) (s : Shared) (H : Hp) (E : XK), Room k (A.deeper (envOfC x scope s.heap.objs.size f cdv)) →
      EvS (cxB P w K mg base N x scope f cdv A outer s H E) st1 d1 ∧ PE (cxB P w K mg base N x scope f cdv A outer s H E) (.Name "large" p5) (tVar 1) ∧ EvN (cxB P w K mg base N x scope f cdv A outer s H E) ec c1) : Cal P w K mg base (k + 1) x (spB large cells K) [] :=
  ⟨f, fd, ps, [], F.ok S (fun vs H Q E h => h.1.trans hn.symm) (fun cdv A outer s H vs Q E hr hsp => ⟨SSs (cxB P w K mg base N x scope f cdv A outer s H E) _, PSs.nox (pss_ss _ _), by
    obtain ⟨_, a, ns, rfl, hq, hl, q⟩ := hsp
    obtain ⟨env1, e1, e2, e3⟩ := hd ns hl
    obtain ⟨h1, h2, h3⟩ := h cdv A outer s H E hr
    refine SSs.of (pss_cons (ps_ss _ st1) (pss_one (ps_ret (pe_disp (pps_cons pe_str h2 (pps_cons pe_str pe_int (pps_cons pe_str (pe_se _ ec) (pps_cons pe_str pe_int pps_nil)))) rfl rfl (by simp) (by show 4 ≤ 15; omega))))) ?_
    refine h1 ⟨H, fun _ => none, none⟩ (envS N.length ns) ds0 (start N [.ref a]) (fun _ => none) H _ _ (sr_startS N hq) e1 _ fun σ1 Hf1 H1 s1 S1 => ?_
    intro p np
    obtain ⟨l, el, nfl, hl0, ndl, tl⟩ := S1.slots 1 _ e2
    have nf := sub_none S1 np
    have Fp := S1.fre np
    have S2 := S1.hp (o := .dK []) nf Fp
    refine ⟨_, el, ?_⟩
    refine h3 _ _ _ _ _ _ _ _ S2 e3 _ fun c Hf3 H3 g3 S3 n3 nf3 t3 => ?_
    have np3 : H3 p = some (.dK []) := g3.at upd_same Fp.nd
    refine ⟨np3, [(.inr "large", .ref l), (.inr "rest", .int 0), (.inr "cells", .ref c), (.inr "turn", .int 0)], rfl, by show 4 ≤ 15; omega, ?_⟩
    cases tl with
    | lst hl1 rl =>
      cases t3 with
      | lst hc1 rc =>
        have hlp : l ≠ p := fun z => by subst z; rw [np] at hl1; cases hl1
        have hcp : c ≠ p := fun z => by subst z; rw [upd_same] at n3; cases n3
        have hl3 : H3 l = _ := g3.at (show upd H1 p (.dK []) l = _ by rw [upd_ne hlp]; exact hl1) ndl
        have hcl : c ≠ l := fun z => by
          subst z
          rw [upd_ne hlp, hl1] at n3; cases n3
        cases rpl_ints rl
        cases rpl_ints rc
        refine q p l c _ (fun b o e => ?_) Fp.h0 hl0 (S2.fre n3).h0 hlp.symm hcp hcl ?_ (by rw [upd_ne hlp]; exact hl3) (by rw [upd_ne hcp]; exact hc1)
        · obtain ⟨o', e', n'⟩ := S3.base b o e
          rw [upd_ne (ne_of_none e Fp.h0), e', n' nodr]
        · rw [upd_same]
          rfl⟩), hm, F.kp, hb, .nil⟩
/-- the first statement of a law -/
theorem law_start {X : Cx} {sn dn : Str} {j : Nat} {a : Addr} {ns : List Int} {H : Hp} {rest : List Stmt} {d : DenS} {ds' : DS} {Dd : Ends} {p1 p2 p3 p4 p5 : Pos} (hN : X.N.Nodup) (c : Cal X.prog X.w X.K X.mg X.base k x (spB large cells X.K) []) (hr : Room j X.A) (hk : k ≤ j)
    (hi : X.N[1]? = some dn) (h0 : PE X (.Name sn p3) (tVar 0)) (hx : Loc X.env.scope dn) (hf : X.fn dn = true ∨ X.env.scope.names.lookup dn = some .local) (hg : Gl X x)
    (hs : swapsWith (.Call (.Name x p2) [.Name sn p3] [] p4) (some (.Name dn p1)) p5.line X.env = pure false) (hdb : (x == ("__debug__" : Str)) = false)
    (he : starEach [.Name sn p3] X.env = (false, eval (.Name sn p3) X.env) :: starEach [] X.env) (hpl : (backTo p4 (starEach [] X.env)).any (·.1) = false)
    (hq : SqL X.K H a (ns.map V.int)) (hl : ns.length ≤ 63) (hrest : EvSs X rest d) (hd : d ((envS X.N.length ns).set 1 (some .draw)) ⟨large ns, 0, cells ns, 0⟩ = some (.rt (.bool true), ds'))
    (ht : ∀ H', Dd.rt (.bl true) H') : SSs X (.Assign [.Name dn p1] (.Call (.Name x p2) [.Name sn p3] [] p4) p5 :: rest) Dd (start X.N [.ref a]) H := by
  have hN1 : 1 < X.N.length := (List.getElem?_eq_some_iff.mp hi).1
  refine SSs.of (pss_cons (ps_set hN hi hx (pe_c c hr hk hg (pa_cons h0 pa_nil he) hdb he hpl) hs hf) (pss_ss X rest)) ?_
  refine ⟨_, rfl, rfl, a, ns, rfl, hq, hl, fun y l cc H' sm hy hll hc n1 n2 n3 ey el ec => ?_⟩
  have S0 := sr_startS (ds := ⟨large ns, 0, cells ns, 0⟩) X.N hq
  have nd : ∀ b, H b ≠ none → ¬ (Bs.mk H (fun _ => none) (some (y, l, cc))).isDr b := fun b hb ⟨_, _, _, e, z⟩ => by
    cases e
    rcases z with rfl | rfl
    · exact hb hy
    · exact hb hll
  refine hrest ⟨H, fun _ => none, some (y, l, cc)⟩ _ _ _ (upd (fun _ => none) cc (.lst ((cells ns).map V.int))) H' _ _ ⟨?_, ?_, ?_, ?_, ?_, ?_, ?_, ?_⟩ hd _ fun v _ _ _ H2 _ _ r => ?_
  · intro b o e
    by_cases z : b = cc
    · subst z; rw [upd_same] at e; cases e; exact ec
    · rw [upd_ne z] at e; cases e
  · exact fun b o e => ⟨o, sm b o e, fun _ => rfl⟩
  · exact fun _ _ e => by cases e
  · intro b e
    by_cases z : b = cc
    · subst z; exact .inr (.inl hc)
    · rw [upd_ne z] at e; exact absurd rfl e
  · intro i sl e
    by_cases z : 1 = i
    · subst z
      rw [List.getElem?_set_self (by unfold envS; simp; omega)] at e
      cases e
      exact ⟨y, l, cc, rfl, List.getElem?_set_self (by unfold start; simp; omega)⟩
    · rw [List.getElem?_set_ne z] at e
      have q := S0.slots i sl e
      cases sl with
      | scr ms =>
        obtain ⟨b, e1, n, e2⟩ := q
        exact ⟨b, by rw [List.getElem?_set_ne z]; exact e1, fun o eo => nd b (fun z => by have eo : H b = some o := eo; rw [z] at eo; cases eo), e2⟩
      | val d => obtain ⟨v, e1, r⟩ := q; unfold envS at e; cases i with
        | zero => cases e
        | succ i =>
          have e : (List.replicate (X.N.length - 1) (none : Option Sl))[i]? = some (some (.val d)) := e
          rw [List.getElem?_replicate] at e
          split at e <;> cases e
      | own d => unfold envS at e; cases i with
        | zero => cases e
        | succ i =>
          have e : (List.replicate (X.N.length - 1) (none : Option Sl))[i]? = some (some (.own d)) := e
          rw [List.getElem?_replicate] at e
          split at e <;> cases e
      | draw => unfold envS at e; cases i with
        | zero => cases e
        | succ i =>
          have e : (List.replicate (X.N.length - 1) (none : Option Sl))[i]? = some (some .draw) := e
          rw [List.getElem?_replicate] at e
          split at e <;> cases e
  · intro i j' d e b z h1
    by_cases y1 : 1 = i
    · subst y1
      rw [List.getElem?_set_self (by unfold envS; simp; omega)] at h1
      cases h1
    · rw [List.getElem?_set_ne y1] at h1
      unfold envS at h1
      cases i with
      | zero => cases h1
      | succ i =>
        have h1 : (List.replicate (X.N.length - 1) (none : Option Sl))[i]? = some (some (.own d)) := h1
        rw [List.getElem?_replicate] at h1
        split at h1 <;> cases h1
  · intro x' l' c' e
    cases e
    exact ⟨ey, el, by rw [upd_ne n2.symm], by rw [upd_ne n3.symm], upd_same⟩
  · have := S0.len
    simpa using this
  · cases r
    exact ht _
end
end L2.Dn
set_option Elab.async false
set_option linter.all false
set_option maxRecDepth 100000
/-! a == {k: v}, the key any tuple of ints -/
namespace L2.Dn
open PySem PySem.Spec PyProof.Rows C8
def D1O (P : Program) (w : World) (p b : Addr) (ks : List Key) (y : V) : HO := .ext fun h => ∃ o es ep u, h.get? p = some o ∧ o.ExactDict ∧ o.data = .dict es ep ∧ es.toList = [(ks, b, u)].map (entryOfKey (tupleKind (mixKind P w))) ∧ RelV y u
theorem key_ofR {P : Program} {w : World} {H : Hp} {h : Heap} {a : Addr} {ks : List Key} (ok : HOk P w H h) (e : Rd H a (.tup (ks.map kV))) : (tupleKind (mixKind P w)).is h ks a := by
  obtain ⟨_, its, r, o, h1, h2, n, h3⟩ := (show ObjOk P w H h a (.tup (ks.map kV)) from rd_of ok e)
  exact ⟨o, its.toArray, n, h1, h2, h3, by simpa using items_are r⟩
section
variable {X : Cx} {pos : Pos} {k v : Expr} {tk tv : TE}
def tDisp1P (X : Cx) (tk tv : TE) : TE := fun σ H Q => ∀ p, H p = none → (p == sysModules) = false → tk σ (upd H p (.dT [])) fun x H1 => tv σ H1 fun y H2 => ∃ (ks : List Key) (b : Addr), x = .ref b ∧ Rd H2 b (.tup (ks.map kV)) ∧ H2 p = some (.dT []) ∧ Q (.ref p) (upd H2 p (D1O X.prog X.w p b ks y))
theorem pe_disp1P (hu : X.A.units + 8 < cLine) (hk : PE X k tk) (hv : PE X v tv) : PE X (.Dict [some k] [v] pos) (tDisp1P X tk tv) := by
  refine ⟨fun pins s σ H Q I q => ?_⟩
  have hn := I.hok.fresh (Nat.le_refl s.heap.objs.size)
  have hsm : (s.heap.objs.size == sysModules) = false := by
    have := I.big
    exact beq_eq_false_iff_ne.mpr (fun z => by rw [z] at this; exact Nat.lt_irrefl _ this)
  have I1 := I.laid (a := s.heap.objs.size) (o := .dT []) (h' := s.heap.push { cls := .type "dict", data := .dict #[] }) (t' := s.toks) (fun _ _ q => Heap.get?_push_of_some _ q) (Nat.le_refl _) (dt_empty s.heap I.big)
  rw [arm_eval_Dict, zip_pairTrees [some k] [v] X.env pos rfl rfl, dictDisplay_pairs (pairTrees [some k] [v] X.env pos) (by simp [pairTrees]) (by simp [pairTrees])]
  refine wpAny_bind (wpAny_standAt (wpAny_bind (wpAny_subDictH (knd := tupleKind (mixKind X.prog X.w)) (show X.A.units < cLine by omega) (by simp [pairTrees]) ?_)))
  refine pairTrees_cons_walk (thn (hk.run pins _ σ _ _ I1 (q _ hn hsm)) fun u s1 ⟨x, H1, I2, rx, q1⟩ => thn (hv.run pins s1 σ H1 _ I2 q1) fun u2 s2 ⟨y, H2, I3, ry, ks, b, ex, hb, hp, q2⟩ => pairTrees_nil_walk ?_)
  subst ex
  cases (show u = Value.ref b from rx)
  obtain ⟨z, hd, vs0, r0, dd⟩ := dt_of I3.hok hp
  cases r0
  refine ⟨[(ks, b, u2)], ⟨rfl, rfl, key_ofR I3.hok hb, True.intro⟩, dd, fun h' tk' dd' hs => wpAny_pure ⟨.ref s.heap.objs.size, _, ?_, rfl, q2⟩⟩
  have e1 : storedAllH ([] : List (List Key × Addr × Value)) [(ks, b, u2)] = [(ks, b, u2)] := by simp [storedAllH, storedH, atKey]
  rw [e1] at dd'
  obtain ⟨ob, es, ep, hq, h2, h3, h4, _, h5⟩ := dd'
  refine d_write I3 (by rw [hp]; exact True.intro) hs ⟨ob, hq⟩ ⟨⟨ob, es, ep, u2, hq, h2, h3, h4, ry⟩, ⟨ob, hq⟩, ?_⟩
  rintro g1 g2 ⟨o, es, ep, u, a1, a2, a3, a4, a5⟩ kk
  exact ⟨o, es, ep, u, kk _ a1, a2, a3, a4, a5⟩
def rEq1 (X : Cx) (ne : Bool) : R2 := fun x y H Q => ∃ a p b ks kvs Hf k' i r, x = .ref a ∧ y = .ref p ∧ (p == sysModules) = false ∧ Rd H a (.dT kvs) ∧ H p = some (D1O X.prog X.w p b ks (.int i)) ∧ Rd H b (.tup (ks.map kV)) ∧ RpT Hf kvs k' ∧ eqDT k' [(ks, .int i)] = some r ∧ Q (.bl (xor ne r)) H
theorem op_eq1 (ne : Bool) (hu : X.A.units + 8 < cLine) : OpR X (compareOp (if ne then .NotEq else .Eq)) (rEq1 X ne) := by
  intro pins s σ H x y v u Q I rx ry ⟨a, p, b, ks, kvs, Hf, k', i, r, ex, ey, yb, ha, hp, hb, hk, er, q⟩
  subst ex ey
  obtain rfl : v = Value.ref a := rx
  obtain rfl : u = Value.ref p := ry
  obtain ⟨_, ya, xa, ra, da⟩ := dt_rd I.hok ha
  obtain ⟨⟨o, es, ep, u, a1, a2, a3, a4, a5⟩, _⟩ := (show ObjOk X.prog X.w H s.heap p (D1O X.prog X.w p b ks (.int i)) from I.hok p _ hp)
  have kb := key_ofR I.hok hb
  have db : s.heap.DictOfH (tupleKind (mixKind X.prog X.w)) p [(ks, b, u)] := ⟨o, es, ep, a1, a2, a3, a4, fun x hx => by
    rcases List.mem_cons.mp hx with rfl | hx
    · exact kb
    · exact (nomatch hx), by simp⟩
  have e1 : xa.length = k'.length := (Paired.length ra).symm.trans hk.length
  have rb : KT (fun _ => some (.tup (ks.map kV))) [(ks, V.int i)] [(ks, b, u)] := .cons ⟨rfl, rfl, a5⟩ .nil
  have hl : RpT (fun _ => none) [(ks, V.int i)] [(ks, D.int i)] := .cons (.int i) .nil
  unfold eqDT at er
  cases hq : Nat.beq k'.length [(ks, D.int i)].length with
  | false =>
    rw [hq] at er
    cases er
    have hne : xa.length ≠ [(ks, b, u)].length := fun z => by
      rw [e1] at z
      have z : k'.length = 1 := z
      rw [z] at hq
      cases hq
    refine eqDH (knd := tupleKind (mixKind X.prog X.w)) (r := false) ne (show X.A.in1.units < cLine by show X.A.units + 1 < cLine; omega) ya yb da db (by omega) (fun z => absurd z hne) ⟨.bl _, H, I.tok _, rfl, ?_⟩
    have : (xa.length == [(ks, b, u)].length && false) = false := by simp
    rw [this]
    exact q
  | true =>
    rw [hq] at er
    have heq : xa.length = [(ks, b, u)].length := by rw [e1]; exact Nat.eq_of_beq_eq_true hq
    refine eqDH (knd := tupleKind (mixKind X.prog X.w)) (r := r) ne (show X.A.in1.units < cLine by show X.A.units + 1 < cLine; omega) ya yb da db (by omega) (fun _ => eqEnt_hits hl rb hk ra er) ⟨.bl _, H, I.tok _, rfl, ?_⟩
    have : (xa.length == [(ks, b, u)].length && r) = r := by rw [heq]; simp
    rw [this]
    exact q
def keyOfP? : D → Option (List Key)
  | .tuple ds => keys? ds
  | .ptup ds => keys? ds
  | _ => none
def dEq1 (ne : Bool) (f fk fv : Den) : Den := fun env ds => bnd (f env ds) fun x s => bnd (fk env s) fun k s1 => bnd (fv env s1) fun v s2 => match x, keyOfP? k, v with
  | .dT kvs, some ks, .int i => (match eqDT kvs [(ks, .int i)] with
    | some b => some (.bool (xor ne b), s2)
    | none => none)
  | _, _, _ => none
theorem keyOfP_rp {Hf : Hp} {v : V} {d : D} {k : List Key} (r : Rp Hf v d) (h : keyOfP? d = some k) : ∃ b, v = .ref b ∧ Rd Hf b (.tup (k.map kV)) := by
  cases d with
  | tuple ds =>
    cases r with
    | tup e t =>
      have := keys_rp t (show keys? ds = some k from h)
      subst this
      exact ⟨_, rfl, .inl e⟩
  | ptup ds =>
    cases r with
    | ptup e hd t =>
      have := keys_rp t (show keys? ds = some k from h)
      subst this
      exact ⟨_, rfl, .inr ⟨_, e⟩⟩
  | _ => cases h
theorem rd_sub {H H' : Hp} {a : Addr} {o : HO} (h : Rd H a o) (s : Same H H') : Rd H' a o := by
  rcases h with h | ⟨u, h⟩
  · exact .inl (s _ _ h)
  · exact .inr ⟨u, s _ _ h⟩
theorem eq1_core {a : Expr} {f fk fv : Den} (ne : Bool) (hu : X.A.units + 8 < cLine) (ha : EvR X a f) (hk : EvF X k fk) (hv : EvF X v fv) {B env ds σ Hf H d ds'} {Q : VK} (S : SR B X.K env ds σ Hf H) (hf : dEq1 ne f fk fv env ds = some (d, ds'))
    (q : ∀ b Hf' H', d = .bool b → Gr B Hf H Hf' H' → SR B X.K env ds' σ Hf' H' → Q (.bl b) H') : tOp (rEq1 X ne) (SE X a) (tDisp1P X (SE X k) (SE X v)) σ H Q := by
  obtain ⟨dx, s1, e1, hf1⟩ := bnd_eq hf
  obtain ⟨dk, s2, e2, hf2⟩ := bnd_eq hf1
  obtain ⟨dv, s3, e3, hf3⟩ := bnd_eq hf2
  clear hf hf1 hf2
  split at hf3
  · rename_i kvs ks i ek
    split at hf3
    · rename_i b eb
      cases hf3
      refine ha B env ds σ Hf H _ _ S e1 _ fun x Hf1 H1 g1 S1 r1 => ?_
      intro p np hsm
      have nf := sub_none S1 np
      have F := S1.fre np
      have S2 := S1.hp (o := .dT []) nf F
      refine hk B env s1 σ Hf1 (upd H1 p (.dT [])) _ _ S2 e2 _ fun y Hf2 H2 g2 S2' r2 => hv B env s2 σ Hf2 H2 _ _ S2' e3 _ fun z Hf3 H3 g3 S3 r3 => ?_
      have gg := g2.trans g3
      have hp3 : H3 p = some (.dT []) := gg.at upd_same F.nd
      have nf3 : Hf3 p = none := gg.noF nf (by rw [upd_same]; simp) (by intro xs z; rw [upd_same] at z; cases z)
      obtain ⟨b2, rfl, hb⟩ := keyOfP_rp r2 ek
      have hb3 : Rd Hf3 b2 _ := rd_sub hb g3.ff
      have hb4 : Rd H3 b2 _ := rd_sub hb3 S3.sub
      cases r3
      refine ⟨ks, b2, rfl, hb4, hp3, ?_⟩
      have gx : Gr B Hf1 H1 Hf3 (upd H3 p (D1O X.prog X.w p b2 ks (.int i))) := ((Gr.refl.hp np).trans gg).hp np
      have S4 := S3.hp (o := D1O X.prog X.w p b2 ks (.int i)) nf3 F
      have r4 := r1.up gx
      obtain ⟨a, kv, rfl, h1, h2⟩ := r4.dT S4.sub
      refine ⟨a, p, b2, ks, kv, Hf3, kvs, i, b, rfl, rfl, hsm, h1, upd_same, rd_sub hb3 S4.sub, h2, eb, q _ _ _ rfl (g1.trans gx) S4⟩
    · cases hf3
  · cases hf3
theorem evf_eq1 {a : Expr} {f fk fv : Den} {pos' : Pos} (hu : X.A.units + 8 < cLine) (ha : EvR X a f) (hk : EvF X k fk) (hv : EvF X v fv) : EvF X (.Compare a [.Eq] [.Dict [some k] [v] pos] pos') (dEq1 false f fk fv) := fun B env ds σ Hf H d ds' S hf Q q =>
  SE.of (pe_cmpR (op_eq1 false hu) (pe_se X a) (pe_disp1P hu (pe_se X k) (pe_se X v)) (nomark _)) (eq1_core false hu ha hk hv S hf fun b Hf' H' e g S' => by subst e; exact q _ _ _ g S' (.bl b))
theorem evf_ne1 {a : Expr} {f fk fv : Den} {pos' : Pos} (hu : X.A.units + 8 < cLine) (ha : EvR X a f) (hk : EvF X k fk) (hv : EvF X v fv) : EvF X (.Compare a [.NotEq] [.Dict [some k] [v] pos] pos') (dEq1 true f fk fv) := fun B env ds σ Hf H d ds' S hf Q q =>
  SE.of (pe_cmpR (op_eq1 true hu) (pe_se X a) (pe_disp1P hu (pe_se X k) (pe_se X v)) (nomark _)) (eq1_core true hu ha hk hv S hf fun b Hf' H' e g S' => by subst e; exact q _ _ _ g S' (.bl b))
theorem evt_ne1 {a : Expr} {f fk fv : Den} {pos' : Pos} (hu : X.A.units + 8 < cLine) (ha : EvR X a f) (hk : EvF X k fk) (hv : EvF X v fv) : EvT X (.Compare a [.NotEq] [.Dict [some k] [v] pos] pos') (dTest (dEq1 true f fk fv)) := fun B env ds σ Hf H d ds' S hf Q q =>
  STt.of (pt_cmpR (op_eq1 true hu) (pe_se X a) (pe_disp1P hu (pe_se X k) (pe_se X v)) (nomark _)) (eq1_core true hu ha hk hv S (dTest_eq hf) fun b Hf' H' e g S' => by cases e; exact ⟨_, rfl, q _ _ g S'⟩)
theorem evt_eq1 {a : Expr} {f fk fv : Den} {pos' : Pos} (hu : X.A.units + 8 < cLine) (ha : EvR X a f) (hk : EvF X k fk) (hv : EvF X v fv) : EvT X (.Compare a [.Eq] [.Dict [some k] [v] pos] pos') (dTest (dEq1 false f fk fv)) := fun B env ds σ Hf H d ds' S hf Q q =>
  STt.of (pt_cmpR (op_eq1 false hu) (pe_se X a) (pe_disp1P hu (pe_se X k) (pe_se X v)) (nomark _)) (eq1_core false hu ha hk hv S (dTest_eq hf) fun b Hf' H' e g S' => by cases e; exact ⟨_, rfl, q _ _ g S'⟩)
end
end L2.Dn
set_option Elab.async false
set_option linter.all false
set_option maxRecDepth 100000
/-! the law's def: its promise; the draws of a script -/
namespace L2.Dn
open PySem PySem.Spec PyProof.Rows C8
def iab (i : Int) : Int := if i < 0 then -i else i
def bgLarge (ns : List Int) : List Int := (ns.filter fun i => decide (1000000000000000000 ≤ iab i)).map fun i => iab i - 1000000000000000000
def bgCells (ns : List Int) : List Int := ns.map iab
def N__law_begun : List Str := ["script", "large", "cell"]
def d1_begun : DenS := dSet 1 true (dLc (iScr 0) [2] (gNm 2) (dTest (d2 gGe (dB gAbs (aCons (dRd 2) (aNil))) (d2 gPow (dC (.int 10)) (dC (.int 18))))) (d2 L2.Dn.gSub (dB gAbs (aCons (dRd 2) (aNil))) (d2 gPow (dC (.int 10)) (dC (.int 18)))))
def c1_begun : Den := dLc (iScr 0) [2] (gNm 2) (tYesD) (dB gAbs (aCons (dRd 2) (aNil)))
theorem pow_18 : d2 gPow (dC (.int 10)) (dC (.int 18)) = dC (.int 1000000000000000000) := by
  funext env ds
  rfl
theorem beg_test (a b : Option Sl) (i : Int) (ds : DS) : dTest (d2 gGe (dB gAbs (aCons (dRd 2) aNil)) (dC (.int 1000000000000000000))) [a, b, some (.val (.int i))] ds = some (decide (1000000000000000000 ≤ iab i), ds) := rfl
theorem beg_elt (a b : Option Sl) (i : Int) (ds : DS) : d2 L2.Dn.gSub (dB gAbs (aCons (dRd 2) aNil)) (dC (.int 1000000000000000000)) [a, b, some (.val (.int i))] ds = some (.int (iab i - 1000000000000000000), ds) := rfl
theorem beg_loop (a b : Option Sl) (ds : DS) : ∀ l : List Int, lcLoop (gNm 2) (dTest (d2 gGe (dB gAbs (aCons (dRd 2) aNil)) (dC (.int 1000000000000000000)))) (d2 L2.Dn.gSub (dB gAbs (aCons (dRd 2) aNil)) (dC (.int 1000000000000000000))) [a, b, none] (l.map D.int) ds = some ((bgLarge l).map D.int, ds)
  | [] => rfl
  | i :: r => by
    have ih := beg_loop a b ds r
    have e : gNm 2 (.int i) [a, b, none] = some [a, b, some (.val (.int i))] := rfl
    rw [List.map_cons, lcLoop, e]
    dsimp only
    rw [beg_test]
    unfold bnd
    dsimp only
    by_cases h : 1000000000000000000 ≤ iab i
    · rw [decide_eq_true h]
      dsimp only
      rw [beg_elt]
      dsimp only
      rw [ih]
      have : bgLarge (i :: r) = (iab i - 1000000000000000000) :: bgLarge r := by
        unfold bgLarge
        rw [List.filter_cons_of_pos (by simpa using h)]
        rfl
      rw [this]
      rfl
    · rw [decide_eq_false h]
      dsimp only
      rw [ih]
      have : bgLarge (i :: r) = bgLarge r := by
        unfold bgLarge
        rw [List.filter_cons_of_neg (by simpa using h)]
      rw [this]
theorem beg_loop2 (a b : Option Sl) (ds : DS) : ∀ l : List Int, lcLoop (gNm 2) tYesD (dB gAbs (aCons (dRd 2) aNil)) [a, b, none] (l.map D.int) ds = some ((bgCells l).map D.int, ds)
  | [] => rfl
  | i :: r => by
    have ih := beg_loop2 a b ds r
    have e : gNm 2 (.int i) [a, b, none] = some [a, b, some (.val (.int i))] := rfl
    have e2 : dB gAbs (aCons (dRd 2) aNil) [a, b, some (.val (.int i))] ds = some (.int (iab i), ds) := rfl
    have e3 : tYesD [a, b, some (.val (.int i))] ds = some (true, ds) := rfl
    rw [List.map_cons, lcLoop, e]
    dsimp only
    rw [e3]
    unfold bnd
    dsimp only
    rw [e2]
    dsimp only
    rw [ih]
    rfl
theorem bgLarge_len (ns : List Int) : (bgLarge ns).length ≤ ns.length := by
  unfold bgLarge
  rw [List.length_map]
  exact List.length_filter_le _ _
theorem begun_den (ns : List Int) (hl : ns.length ≤ 63) : ∃ env1, d1_begun (envS N__law_begun.length ns) ds0 = some (.nx env1, ds0) ∧ env1[1]? = some (some (.own (.list ((bgLarge ns).map D.int)))) ∧ c1_begun env1 ds0 = some (.list ((bgCells ns).map D.int), ds0) := by
  refine ⟨[some (.scr ns), some (.own (.list ((bgLarge ns).map D.int))), none], ?_, rfl, ?_⟩
  · unfold d1_begun
    rw [pow_18]
    have e : dLc (iScr 0) [2] (gNm 2) (dTest (d2 gGe (dB gAbs (aCons (dRd 2) aNil)) (dC (.int 1000000000000000000)))) (d2 L2.Dn.gSub (dB gAbs (aCons (dRd 2) aNil)) (dC (.int 1000000000000000000))) [some (.scr ns), none, none] ds0 = some (.list ((bgLarge ns).map D.int), ds0) := by
      unfold dLc
      show bnd (some (ns.map D.int, ds0)) _ = _
      unfold bnd
      dsimp only
      rw [show wipeE [some (Sl.scr ns), none, none] [2] = [some (.scr ns), none, none] from rfl, beg_loop]
      dsimp only
      rw [if_pos]
      rw [List.length_map]
      have := bgLarge_len ns
      omega
    show bnd (dLc _ _ _ _ _ [some (.scr ns), none, none] ds0) _ = _
    rw [e]
    rfl
  · show dLc (iScr 0) [2] (gNm 2) (tYesD) (dB gAbs (aCons (dRd 2) (aNil))) _ _ = _
    unfold dLc
    show bnd (some (ns.map D.int, ds0)) _ = _
    unfold bnd
    dsimp only
    rw [show wipeE [some (Sl.scr ns), some (Sl.own (D.list ((bgLarge ns).map D.int))), none] [2] = [some (.scr ns), some (.own (.list ((bgLarge ns).map D.int))), none] from rfl, beg_loop2]
    dsimp only
    rw [if_pos]
    rw [List.length_map]
    unfold bgCells
    rw [List.length_map]
    omega
/-- the law's promise -/
def spL (K : PySem.W.Frag) : Sp := fun vs H Q _ => vs.length = 1 ∧ ∃ (a : Addr) (ns : List Int), vs = [.ref a] ∧ SqL K H a (ns.map V.int) ∧ ns.length ≤ 63 ∧ ∀ H', Q (.bl true) H'
/-- the plain law: what the def's denotation answers -/
def LawHolds (N : List Str) (d : DenS) : Prop := ∀ ns : List Int, ns.length ≤ 63 → ∃ ds', d ((envS N.length ns).set 1 (some .draw)) ⟨bgLarge ns, 0, bgCells ns, 0⟩ = some (.rt (.bool true), ds')
structure LawSt (X : Cx) (x sn dn : Str) (p1 p2 p3 p4 p5 : Pos) : Prop where
  h0 : PE X (.Name sn p3) (tVar 0)
  hx : Loc X.env.scope dn
  hf : X.fn dn = true ∨ X.env.scope.names.lookup dn = some .local
  hg : Gl X x
  hs : swapsWith (.Call (.Name x p2) [.Name sn p3] [] p4) (some (.Name dn p1)) p5.line X.env = pure false
  he : starEach [.Name sn p3] X.env = (false, eval (.Name sn p3) X.env) :: starEach [] X.env
  hpl : (backTo p4 (starEach [] X.env)).any (·.1) = false
section
variable {P : Program} {w : World} {K : PySem.W.Frag} {mg : Str → Option Value} {base : Heap} {x bx sn dn : Str} {params : Arguments} {scope : Scope} {f : Addr} {fd : FuncData} {N ps : List Str} {k j : Nat}
theorem calL {rest : List Stmt} {d : DenS} {p1 p2 p3 p4 p5 : Pos} (F : FunD K x x params (.Assign [.Name dn p1] (.Call (.Name bx p2) [.Name sn p3] [] p4) p5 :: rest) scope [] [] f fd) (S : FnScope N ps scope) (hn : ps.length = 1) (hi : N[1]? = some dn)
    (c : Cal P w K mg base j bx (spB bgLarge bgCells K) []) (hk : j ≤ k) (hd : LawHolds N d)
    (h : ∀ (cdv : Value) (A : Around) (outer : List Env) (s : Shared) (H : Hp) (E : XK), Room k (A.deeper (envOfC x scope s.heap.objs.size f cdv)) →
      LawSt (cxB P w K mg base N x scope f cdv A outer s H E) bx sn dn p1 p2 p3 p4 p5 ∧ EvSs (cxB P w K mg base N x scope f cdv A outer s H E) rest d)
    (hdb : (bx == ("__debug__" : Str)) = false := by decide) : FnOk P w K mg base CX0 (k + 1) f fd ps (spL K) :=
  F.ok S (fun vs H Q E h => h.1.trans hn.symm) (fun cdv A outer s H vs Q E hr hsp => ⟨SSs (cxB P w K mg base N x scope f cdv A outer s H E) _, PSs.nox (pss_ss _ _), by
    obtain ⟨_, a, ns, rfl, hq, hl, q⟩ := hsp
    obtain ⟨ds', e⟩ := hd ns hl
    obtain ⟨⟨h0, hx, hf, hg, hs, he, hpl⟩, hr2⟩ := h cdv A outer s H E hr
    exact law_start S.nd c hr hk hi h0 hx hf hg hs hdb he hpl hq hl hr2 e q⟩)
end
end L2.Dn
set_option Elab.async false
set_option linter.all false
set_option maxRecDepth 100000
/-! the draws: a number that is taken lies below its bound-/
namespace L2.Dn
open PySem PySem.Spec PyProof.Rows C8
def N__law_mixed : List Str := ["draw", "lap", "found", "great", "blend", "cell"]
def d__law_mixed : DenS := dSeq (dSetTn 0 (d2 gAdd (dTurn 0) (dC (.int 1)))) (dSeq (dPar 1 2 false false (dB gInt1 (aCons (dTurn 0) (aNil))) (dC (.int 0))) (dSeq (dFor (dItems (dLst (aCons (dC (.int 2147483647)) (aCons (dC (.int 2147483629)) (aCons (dC (.int 2147483587)) (aNil)))))) (gNm 3) (dSeq (dSet 4 false (d2 gMod (d2 gAdd (d2 gMul (dRd 1) (dC (.int 48271))) (d2 gDiv (dRd 3) (dC (.int 11)))) (dRd 3))) (dSeq (dFor (dItems (dCells 0)) (gNm 5) (dSeq (dSet 4 false (d2 gMod (d2 gAdd (d2 gAdd (d2 gMul (dRd 4) (dC (.int 69621))) (dB gInt1 (aCons (dRd 5) (aNil)))) (dRd 1)) (dRd 3))) (dNx))) (dSeq (dSet 2 false (d2 gAdd (d2 gMul (dRd 2) (dC (.int 2147483659))) (d2 gMod (d2 gPow (dRd 4) (dC (.int 5))) (dRd 3)))) (dNx))))) (dSeq (dRet (dVar 2)) (dNx))))
def f__law_mixed : List D → DS → Option (D × DS) := fnD N__law_mixed.length d__law_mixed
def N__law_take : List Str := ["draw", "amount", "found"]
def d__law_take : DenS := dSeq (dIfS (dTest (d2 gEqU (dRest 0) (dC (.int 0)))) (dSeq (dSetR 0 (dIf (tLarge 0) (dPopL 0) (dCallD 0 0 f__law_mixed (aNil)))) (dNx)) (dNx)) (dSeq (dSet 2 false (d2 gMod (dB gInt1 (aCons (dRest 0) (aNil))) (dRd 1))) (dSeq (dSetR 0 (d2 gDiv (dB gInt1 (aCons (dRest 0) (aNil))) (dRd 1))) (dSeq (dRet (dVar 2)) (dNx))))
def f__law_take : List D → DS → Option (D × DS) := fnD N__law_take.length d__law_take
def N__law_pick : List Str := ["draw", "some"]
def d__law_pick : DenS := dSeq (dRet (d2 gIx (dRd 1) (dCallD 0 1 f__law_take (aCons (dB gLen (aCons (dRd 1) (aNil))) (aNil))))) (dNx)
def f__law_pick : List D → DS → Option (D × DS) := fnD N__law_pick.length d__law_pick
def N__law_shuffled : List Str := ["draw", "some", "rest", "found"]
def d__law_shuffled : DenS := dSeq (dPar 2 3 true true (dB gListS (aCons (dRd 1) (aNil))) (dLst (aNil))) (dSeq (whLoop (dTest (d2 gNeU (dRd 2) (dLst (aNil)))) (dSeq (dAppPop 3 2 (dCallD 0 1 f__law_take (aCons (dB gLen (aCons (dRd 2) (aNil))) (aNil)))) (dNx)) 1000) (dSeq (dFrz 3 (dRet (dVar 3))) (dNx)))
def f__law_shuffled : List D → DS → Option (D × DS) := fnD N__law_shuffled.length d__law_shuffled
def N__law_sequence : List Str := ["draw", "wires"]
def d__law_sequence : DenS := dSeq (dRet (dB gPtup (aCons (dCallD 0 1 f__law_shuffled (aCons (dLstI (dRg2 (dC (.int 1)) (d2 gAdd (dRd 1) (dC (.int 1))))) (aNil))) (aNil)))) (dNx)
def f__law_sequence : List D → DS → Option (D × DS) := fnD N__law_sequence.length d__law_sequence
theorem d2_eq {g : D → D → Option D} {f h : Den} {env : En} {ds s s1 : DS} {a b c : D} (e1 : f env ds = some (a, s)) (e2 : h env s = some (b, s1)) (e3 : g a b = some c) : d2 g f h env ds = some (c, s1) := by
  unfold d2
  rw [e1]
  show bnd (h env s) _ = _
  rw [e2]
  show op1 (g a b) s1 = _
  rw [e3]
  rfl
theorem dSet_eq {i : Nat} {k : Bool} {f : Den} {env : En} {ds s : DS} {a : D} (e : f env ds = some (a, s)) : dSet i k f env ds = some (.nx (env.set i (some (mkSl k a))), s) := by
  unfold dSet
  rw [e]
  rfl
theorem dSeq_eq {f g : DenS} {env e : En} {ds s : DS} (h : f env ds = some (.nx e, s)) : dSeq f g env ds = g e s := by
  unfold dSeq
  rw [h]
theorem gMulR (i j : Int) (h : -(2 ^ 64) < j ∧ j < 2 ^ 64) : gMul (.int i) (.int j) = some (.int (i * j)) := if_pos (.inr h)
theorem gModR (i j : Int) (h : 0 < j) : gMod (.int i) (.int j) = some (.int (i % j)) := if_pos h
theorem gDivR (i j : Int) (h : 0 < j ∧ j < 2 ^ 80) : gDiv (.int i) (.int j) = some (.int (i / j)) := if_pos h
def mixIn : DenS := dSeq (dSet 4 false (d2 gMod (d2 gAdd (d2 gAdd (d2 gMul (dRd 4) (dC (.int 69621))) (dB gInt1 (aCons (dRd 5) (aNil)))) (dRd 1)) (dRd 3))) (dNx)
theorem mixIn_eq (l f g b c : Int) (s : DS) (hg : 0 < g) : mixIn [some .draw, some (.val (.int l)), some (.val (.int f)), some (.val (.int g)), some (.val (.int b)), some (.val (.int c))] s =
    some (.nx [some .draw, some (.val (.int l)), some (.val (.int f)), some (.val (.int g)), some (.val (.int ((b * 69621 + c + l) % g))), some (.val (.int c))], s) := by
  unfold mixIn
  rw [dSeq_eq (dSet_eq (d2_eq (d2_eq (d2_eq (d2_eq rfl rfl (gMulR b 69621 (by decide))) (b := .int c) rfl rfl) (b := .int l) rfl rfl) (b := .int g) rfl (gModR _ _ hg)))]
  rfl
theorem mix_cells (l f g : Int) (hg : 0 < g) (s : DS) : ∀ (cs : List Int) (b : Int) (x : Option Sl), ∃ b' x', forLoop (gNm 5) mixIn (cs.map D.int) [some .draw, some (.val (.int l)), some (.val (.int f)), some (.val (.int g)), some (.val (.int b)), x] s =
    some (.nx [some .draw, some (.val (.int l)), some (.val (.int f)), some (.val (.int g)), some (.val (.int b')), x'], s) ∧ (0 ≤ b ∧ b < g → 0 ≤ b' ∧ b' < g)
  | [], b, x => ⟨b, x, rfl, id⟩
  | c :: cs, b, x => by
    obtain ⟨b', x', h1, h2⟩ := mix_cells l f g hg s cs ((b * 69621 + c + l) % g) (some (.val (.int c)))
    refine ⟨b', x', ?_, fun _ => h2 ⟨Int.emod_nonneg _ (by omega), Int.emod_lt_of_pos _ hg⟩⟩
    rw [List.map_cons, forLoop]
    show (match mixIn [some .draw, some (.val (.int l)), some (.val (.int f)), some (.val (.int g)), some (.val (.int b)), some (.val (.int c))] s with | none => none | some (.nx e, s') => forLoop (gNm 5) mixIn (cs.map D.int) e s' | some (.ct e, s') => forLoop (gNm 5) mixIn (cs.map D.int) e s' | some (.bk e, s') => some (.nx e, s') | some (.rt d, s') => some (.rt d, s')) = _
    rw [mixIn_eq l f g b c s hg]
    exact h1
def mixOut : DenS := dSeq (dSet 4 false (d2 gMod (d2 gAdd (d2 gMul (dRd 1) (dC (.int 48271))) (d2 gDiv (dRd 3) (dC (.int 11)))) (dRd 3))) (dSeq (dFor (dItems (dCells 0)) (gNm 5) mixIn) (dSeq (dSet 2 false (d2 gAdd (d2 gMul (dRd 2) (dC (.int 2147483659))) (d2 gMod (d2 gPow (dRd 4) (dC (.int 5))) (dRd 3)))) (dNx)))
theorem mixOut_eq (l f g : Int) (s : DS) (hg : 0 < g ∧ g < 2147483648) (x4 x5 : Option Sl) : ∃ f' y4 y5, mixOut [some .draw, some (.val (.int l)), some (.val (.int f)), some (.val (.int g)), x4, x5] s =
    some (.nx [some .draw, some (.val (.int l)), some (.val (.int f')), some (.val (.int g)), y4, y5], s) := by
  obtain ⟨b', x', h1, h2⟩ := mix_cells l f g hg.1 s s.cells ((l * 48271 + g / 11) % g) x5
  have h3 := h2 ⟨Int.emod_nonneg _ (by omega), Int.emod_lt_of_pos _ hg.1⟩
  refine ⟨f * 2147483659 + (b' ^ 5 % g), some (.val (.int b')), x', ?_⟩
  unfold mixOut
  refine (dSeq_eq (dSet_eq (d2_eq (d2_eq (d2_eq rfl rfl (gMulR l 48271 (by decide))) (d2_eq rfl rfl (gDivR g 11 (by decide))) rfl) (b := .int g) rfl (gModR _ _ hg.1)))).trans ?_
  have e : dFor (dItems (dCells 0)) (gNm 5) mixIn [some .draw, some (.val (.int l)), some (.val (.int f)), some (.val (.int g)), some (.val (.int ((l * 48271 + g / 11) % g))), x5] s = _ := h1
  refine (dSeq_eq (f := dFor (dItems (dCells 0)) (gNm 5) mixIn) e).trans ?_
  have hp : gPow (.int b') (.int 5) = some (.int (b' ^ 5)) := if_pos ⟨by decide, by decide, by omega⟩
  refine (dSeq_eq (dSet_eq (d2_eq (d2_eq rfl rfl (gMulR f 2147483659 (by decide))) (d2_eq (d2_eq rfl rfl hp) (b := .int g) rfl (gModR _ _ hg.1)) rfl))).trans ?_
  rfl
theorem mixed_ok (ds : DS) : ∃ m ds', f__law_mixed [] ds = some (.int m, ds') := by
  obtain ⟨f1, a4, a5, e1⟩ := mixOut_eq (ds.turn + 1) 0 2147483647 { ds with turn := ds.turn + 1 } (by decide) none none
  obtain ⟨f2, b4, b5, e2⟩ := mixOut_eq (ds.turn + 1) f1 2147483629 { ds with turn := ds.turn + 1 } (by decide) a4 a5
  obtain ⟨f3, c4, c5, e3⟩ := mixOut_eq (ds.turn + 1) f2 2147483587 { ds with turn := ds.turn + 1 } (by decide) b4 b5
  refine ⟨f3, { ds with turn := ds.turn + 1 }, ?_⟩
  have ef : dFor (dItems (dLst (aCons (dC (.int 2147483647)) (aCons (dC (.int 2147483629)) (aCons (dC (.int 2147483587)) (aNil)))))) (gNm 3) mixOut [some .draw, some (.val (.int (ds.turn + 1))), some (.val (.int 0)), none, none, none] { ds with turn := ds.turn + 1 } =
      some (.nx [some .draw, some (.val (.int (ds.turn + 1))), some (.val (.int f3)), some (.val (.int 2147483587)), c4, c5], { ds with turn := ds.turn + 1 }) := by
    show forLoop (gNm 3) mixOut [.int 2147483647, .int 2147483629, .int 2147483587] [some .draw, some (.val (.int (ds.turn + 1))), some (.val (.int 0)), none, none, none] { ds with turn := ds.turn + 1 } = _
    rw [forLoop, show gNm 3 (.int 2147483647) [some .draw, some (.val (.int (ds.turn + 1))), some (.val (.int 0)), none, none, none] = some [some .draw, some (.val (.int (ds.turn + 1))), some (.val (.int 0)), some (.val (.int 2147483647)), none, none] from rfl]
    dsimp only
    rw [e1]
    dsimp only
    rw [forLoop, show gNm 3 (.int 2147483629) [some .draw, some (.val (.int (ds.turn + 1))), some (.val (.int f1)), some (.val (.int 2147483647)), a4, a5] = some [some .draw, some (.val (.int (ds.turn + 1))), some (.val (.int f1)), some (.val (.int 2147483629)), a4, a5] from rfl]
    dsimp only
    rw [e2]
    dsimp only
    rw [forLoop, show gNm 3 (.int 2147483587) [some .draw, some (.val (.int (ds.turn + 1))), some (.val (.int f2)), some (.val (.int 2147483629)), b4, b5] = some [some .draw, some (.val (.int (ds.turn + 1))), some (.val (.int f2)), some (.val (.int 2147483587)), b4, b5] from rfl]
    dsimp only
    rw [e3]
    rfl
  show outD (dSeq (dFor (dItems (dLst (aCons (dC (.int 2147483647)) (aCons (dC (.int 2147483629)) (aCons (dC (.int 2147483587)) (aNil)))))) (gNm 3) mixOut) (dSeq (dRet (dVar 2)) (dNx)) [some .draw, some (.val (.int (ds.turn + 1))), some (.val (.int 0)), none, none, none] { ds with turn := ds.turn + 1 }) = _
  rw [dSeq_eq ef]
  rfl
end L2.Dn
set_option Elab.async false
set_option linter.all false
set_option maxRecDepth 100000
/-! the draws, plain: taking, picking, shuffling -/
namespace L2.Dn
open PySem PySem.Spec PyProof.Rows C8
theorem dCallD_eq {i n : Nat} {f : List D → DS → Option (D × DS)} {g : DenA} {env : En} {ds s : DS} {as : List D} (hi : env[i]? = some (some .draw)) (h : g env ds = some (as, s)) (hn : as.length = n) : dCallD i n f g env ds = f as s := by
  unfold dCallD
  rw [hi]
  show bnd (g env ds) _ = _
  rw [h]
  exact if_pos hn
theorem aCons1 {f : Den} {env : En} {ds s : DS} {a : D} (h : f env ds = some (a, s)) : aCons f aNil env ds = some ([a], s) := by
  unfold aCons
  rw [h]
  rfl
theorem erase_perm {α : Type} : ∀ (xs : List α) (i : Nat) (x : α), xs[i]? = some x → (x :: xs.eraseIdx i).Perm xs
  | [], i, x, h => by simp at h
  | y :: ys, 0, x, h => by
    simp at h
    subst h
    exact List.Perm.refl _
  | y :: ys, i + 1, x, h => by
    have ih := erase_perm ys i x (by simpa using h)
    exact (List.Perm.swap y x _).trans (List.Perm.cons y ih)
theorem dTest_of {f : Den} {env : En} {ds s : DS} {b : Bool} (h : f env ds = some (.bool b, s)) : dTest f env ds = some (b, s) := by
  unfold dTest
  rw [h]
  rfl
theorem dIfS_t {t : DenT} {f g : DenS} {env : En} {ds s : DS} (h : t env ds = some (true, s)) : dIfS t f g env ds = f env s := by
  unfold dIfS
  rw [h]
  rfl
theorem dIfS_f {t : DenT} {f g : DenS} {env : En} {ds s : DS} (h : t env ds = some (false, s)) : dIfS t f g env ds = g env s := by
  unfold dIfS
  rw [h]
  rfl
def envT (n : Int) : En := [some .draw, some (.val (.int n)), none]
theorem take_rest (n : Int) (ds : DS) : ∃ ds1, dIfS (dTest (d2 gEqU (dRest 0) (dC (.int 0)))) (dSeq (dSetR 0 (dIf (tLarge 0) (dPopL 0) (dCallD 0 0 f__law_mixed (aNil)))) (dNx)) (dNx) (envT n) ds = some (.nx (envT n), ds1) := by
  by_cases h : ds.rest = 0
  · have e1 : dTest (d2 gEqU (dRest 0) (dC (.int 0))) (envT n) ds = some (true, ds) := dTest_of (d2_eq (a := .int ds.rest) rfl rfl (by
      show some (D.bool (decide (ds.rest = 0))) = _
      rw [decide_eq_true h]))
    rw [dIfS_t e1]
    cases hl : ds.large with
    | nil =>
      obtain ⟨m, ds', em⟩ := mixed_ok ds
      refine ⟨{ ds' with rest := m }, ?_⟩
      have e2 : dIf (tLarge 0) (dPopL 0) (dCallD 0 0 f__law_mixed (aNil)) (envT n) ds = some (.int m, ds') := by
        have e3 : tLarge 0 (envT n) ds = some (false, ds) := by
          show some ((match ds.large with | [] => false | _ => true), ds) = _
          rw [hl]
        unfold dIf
        rw [e3]
        show dCallD 0 0 f__law_mixed aNil (envT n) ds = _
        exact (dCallD_eq (i := 0) (n := 0) (g := aNil) (env := envT n) (as := []) (s := ds) rfl rfl rfl).trans em
      have e4 : dSetR 0 (dIf (tLarge 0) (dPopL 0) (dCallD 0 0 f__law_mixed (aNil))) (envT n) ds = some (.nx (envT n), { ds' with rest := m }) := by
        unfold dSetR
        rw [e2]
        rfl
      exact (dSeq_eq e4).trans rfl
    | cons m r =>
      refine ⟨{ { ds with large := r } with rest := m }, ?_⟩
      have e2 : dIf (tLarge 0) (dPopL 0) (dCallD 0 0 f__law_mixed (aNil)) (envT n) ds = some (.int m, { ds with large := r }) := by
        have e3 : tLarge 0 (envT n) ds = some (true, ds) := by
          show some ((match ds.large with | [] => false | _ => true), ds) = _
          rw [hl]
        unfold dIf
        rw [e3]
        show (match ds.large with | n :: r => some (D.int n, { ds with large := r }) | [] => none) = _
        rw [hl]
      have e4 : dSetR 0 (dIf (tLarge 0) (dPopL 0) (dCallD 0 0 f__law_mixed (aNil))) (envT n) ds = some (.nx (envT n), { { ds with large := r } with rest := m }) := by
        unfold dSetR
        rw [e2]
        rfl
      exact (dSeq_eq e4).trans rfl
  · have e1 : dTest (d2 gEqU (dRest 0) (dC (.int 0))) (envT n) ds = some (false, ds) := dTest_of (d2_eq (a := .int ds.rest) rfl rfl (by
      show some (D.bool (decide (ds.rest = 0))) = _
      rw [decide_eq_false h]))
    exact ⟨ds, (dIfS_f e1).trans rfl⟩
/-- a number below n -/
theorem take_ok (n : Int) (hn : 0 < n ∧ n < 2 ^ 80) (ds : DS) : ∃ r ds', f__law_take [.int n] ds = some (.int r, ds') ∧ 0 ≤ r ∧ r < n := by
  obtain ⟨ds1, e1⟩ := take_rest n ds
  refine ⟨ds1.rest % n, { ds1 with rest := ds1.rest / n }, ?_, Int.emod_nonneg _ (by omega), Int.emod_lt_of_pos _ hn.1⟩
  show outD (d__law_take (envT n) ds) = _
  have e2 : dSet 2 false (d2 gMod (dB gInt1 (aCons (dRest 0) (aNil))) (dRd 1)) (envT n) ds1 = some (.nx [some .draw, some (.val (.int n)), some (.val (.int (ds1.rest % n)))], ds1) :=
    dSet_eq (i := 2) (k := false) (env := envT n) (d2_eq (a := .int ds1.rest) (b := .int n) rfl rfl (gModR _ _ hn.1))
  have e3 : d2 gDiv (dB gInt1 (aCons (dRest 0) (aNil))) (dRd 1) [some .draw, some (.val (.int n)), some (.val (.int (ds1.rest % n)))] ds1 = some (.int (ds1.rest / n), ds1) := d2_eq (a := .int ds1.rest) (b := .int n) rfl rfl (gDivR _ _ hn)
  have e4 : dSetR 0 (d2 gDiv (dB gInt1 (aCons (dRest 0) (aNil))) (dRd 1)) [some .draw, some (.val (.int n)), some (.val (.int (ds1.rest % n)))] ds1 = some (.nx [some .draw, some (.val (.int n)), some (.val (.int (ds1.rest % n)))], { ds1 with rest := ds1.rest / n }) := by
    unfold dSetR
    rw [e3]
    rfl
  unfold d__law_take
  rw [dSeq_eq e1, dSeq_eq e2, dSeq_eq e4]
  rfl
theorem atI_nat {α : Type} (xs : List α) (r : Int) (h : 0 ≤ r ∧ r < xs.length) : ∃ x, atI xs r = some x ∧ x ∈ xs ∧ xs[r.toNat]? = some x := by
  have hl : r.toNat < xs.length := by omega
  refine ⟨xs[r.toNat], ?_, List.getElem_mem hl, List.getElem?_eq_getElem hl⟩
  unfold atI ixN
  rw [if_pos h.1, if_pos h.2]
  exact List.getElem?_eq_getElem hl
/-- one of them -/
theorem pick_ok (xs : List D) (h0 : xs ≠ []) (hl : xs.length < 1073741824) (ds : DS) : ∃ x ds', f__law_pick [.list xs] ds = some (x, ds') ∧ x ∈ xs := by
  have hp : 0 < xs.length := List.length_pos_iff.mpr h0
  obtain ⟨r, ds', e, h1⟩ := take_ok (xs.length : Nat) (by omega) ds
  obtain ⟨x, e2, hx, _⟩ := atI_nat xs r (by omega)
  refine ⟨x, ds', ?_, hx⟩
  have e3 : dCallD 0 1 f__law_take (aCons (dB gLen (aCons (dRd 1) (aNil))) (aNil)) [some .draw, some (.val (.list xs))] ds = some (.int r, ds') := (dCallD_eq (as := [.int (xs.length : Nat)]) rfl rfl rfl).trans e
  have e4 : d2 gIx (dRd 1) (dCallD 0 1 f__law_take (aCons (dB gLen (aCons (dRd 1) (aNil))) (aNil))) [some .draw, some (.val (.list xs))] ds = some (x, ds') := d2_eq (a := .list xs) rfl e3 e2
  show outD (d__law_pick [some .draw, some (.val (.list xs))] ds) = _
  unfold d__law_pick dSeq dRet
  rw [e4]
  rfl
def shBody : DenS := dSeq (dAppPop 3 2 (dCallD 0 1 f__law_take (aCons (dB gLen (aCons (dRd 2) (aNil))) (aNil)))) (dNx)
def shEnv (a : Sl) (rest found : List D) : En := [some .draw, some a, some (.own (.list rest)), some (.own (.list found))]
theorem sh_loop (a : Sl) : ∀ (m : Nat) (rest found : List D) (fuel : Nat) (ds : DS), rest.length = m → m < fuel → m + found.length < 100000 → (∀ d ∈ rest, eqOk 7 d = true) →
    ∃ res ds', whLoop (dTest (d2 gNeU (dRd 2) (dLst (aNil)))) shBody fuel (shEnv a rest found) ds = some (.nx (shEnv a [] res), ds') ∧ res.Perm (found ++ rest)
  | 0, rest, found, fuel, ds, hm, hf, hs, hk => by
    cases rest with
    | cons _ _ => cases hm
    | nil =>
      cases fuel with
      | zero => omega
      | succ fuel => exact ⟨found, ds, rfl, by simp⟩
  | m + 1, rest, found, fuel, ds, hm, hf, hs, hk => by
    cases fuel with
    | zero => omega
    | succ fuel =>
      obtain ⟨r, ds', e, h1, h2⟩ := take_ok (rest.length : Nat) (by omega) ds
      obtain ⟨x, e2, hx, e3⟩ := atI_nat rest r (by omega)
      have hr : r.toNat < rest.length := by omega
      obtain ⟨res, ds2, e4, hp⟩ := sh_loop a m (rest.eraseIdx r.toNat) (found ++ [x]) fuel ds' (by rw [List.length_eraseIdx_of_lt hr]; omega) (by omega) (by rw [List.length_append]; simp; omega) fun d hd => hk d (List.mem_of_mem_eraseIdx hd)
      refine ⟨res, ds2, ?_, hp.trans ?_⟩
      · have ht : dTest (d2 gNeU (dRd 2) (dLst (aNil))) (shEnv a rest found) ds = some (true, ds) := by
          refine dTest_of (d2_eq (a := .list rest) (b := .list []) rfl rfl ?_)
          have hh : eqOk 8 (.list rest) = true := by
            show rest.all (eqOk 7) = true
            rw [List.all_eq_true]
            exact hk
          have h9 : gNeD (.list rest) (.list []) = some (.bool true) := by
            unfold gNeD
            rw [hh, show eqOk 8 (.list []) = true from rfl]
            cases rest with
            | nil => cases hm
            | cons _ _ => rfl
          unfold gNeU
          rw [h9]
        rw [whLoop]
        unfold bnd
        rw [ht]
        dsimp only
        have e5 : dCallD 0 1 f__law_take (aCons (dB gLen (aCons (dRd 2) (aNil))) (aNil)) (shEnv a rest found) ds = some (.int r, ds') := (dCallD_eq (as := [.int (rest.length : Nat)]) rfl rfl rfl).trans e
        have e6 : shBody (shEnv a rest found) ds = some (.nx (shEnv a (rest.eraseIdx r.toNat) (found ++ [x])), ds') := by
          have e7 : dAppPop 3 2 (dCallD 0 1 f__law_take (aCons (dB gLen (aCons (dRd 2) (aNil))) (aNil))) (shEnv a rest found) ds = some (.nx (shEnv a (rest.eraseIdx r.toNat) (found ++ [x])), ds') := by
            unfold dAppPop
            rw [e5]
            show (if (found.length < 100000 ∧ rest.length < 100000) ∧ 0 ≤ r ∧ r < rest.length then _ else none) = _
            rw [if_pos ⟨⟨by omega, by omega⟩, by omega, by omega⟩, e3]
            rfl
          exact (dSeq_eq e7).trans rfl
        rw [e6]
        exact e4
      · have h5 : (x :: rest.eraseIdx r.toNat).Perm rest := erase_perm rest _ x e3
        rw [List.append_assoc]
        exact List.Perm.append_left found h5
/-- the same things in another order -/
theorem shuffled_ok (xs : List D) (hl : xs.length < 1000) (hk : ∀ d ∈ xs, eqOk 7 d = true) (ds : DS) : ∃ ys ds', f__law_shuffled [.list xs] ds = some (.list ys, ds') ∧ ys.Perm xs := by
  obtain ⟨res, ds', e, hp⟩ := sh_loop (.val (.list xs)) xs.length xs [] 1000 ds rfl hl (by simp; omega) hk
  refine ⟨res, ds', ?_, by simpa using hp⟩
  show outD (d__law_shuffled [some .draw, some (.val (.list xs)), none, none] ds) = _
  have e1 : dPar 2 3 true true (dB gListS (aCons (dRd 1) (aNil))) (dLst (aNil)) [some .draw, some (.val (.list xs)), none, none] ds = some (.nx (shEnv (.val (.list xs)) xs []), ds) := rfl
  have e2 : dSeq (dFrz 3 (dRet (dVar 3))) (dNx) (shEnv (.val (.list xs)) [] res) ds' = some (.rt (.list res), ds') := rfl
  show outD (dSeq (dPar 2 3 true true (dB gListS (aCons (dRd 1) (aNil))) (dLst (aNil))) (dSeq (whLoop (dTest (d2 gNeU (dRd 2) (dLst (aNil)))) shBody 1000) (dSeq (dFrz 3 (dRet (dVar 3))) (dNx))) [some .draw, some (.val (.list xs)), none, none] ds) = _
  rw [dSeq_eq e1, dSeq_eq e, e2]
  rfl
theorem rgD_ok : ∀ (n : Nat) (a : Int), ∀ d ∈ rgD a n, eqOk 7 d = true
  | 0, a, d, h => by cases h
  | n + 1, a, d, h => by
    rcases List.mem_cons.mp h with rfl | h
    · rfl
    · exact rgD_ok n (a + 1) d h
/-- a shuffled 1 .. n -/
theorem sequence_ok (n : Nat) (hn : n < 900) (ds : DS) : ∃ ys ds', f__law_sequence [.int n] ds = some (.ptup ys, ds') ∧ ys.Perm (rgD 1 n) := by
  obtain ⟨ys, ds', e, hp⟩ := shuffled_ok (rgD 1 n) (by rw [rgD_len]; omega) (rgD_ok n 1) ds
  refine ⟨ys, ds', ?_, hp⟩
  have e1 : dLstI (dRg2 (dC (.int 1)) (d2 gAdd (dRd 1) (dC (.int 1)))) [some .draw, some (.val (.int n))] ds = some (.list (rgD 1 n), ds) := by
    have e2 : dRg2 (dC (.int 1)) (d2 gAdd (dRd 1) (dC (.int 1))) [some .draw, some (.val (.int n))] ds = some (rgD 1 n, ds) := by
      have q : d2 gAdd (dRd 1) (dC (.int 1)) [some .draw, some (.val (.int n))] ds = some (.int ((n : Int) + 1), ds) := rfl
      have q1 : dC (.int 1) [some .draw, some (.val (.int n))] ds = some (.int 1, ds) := rfl
      unfold dRg2
      rw [q1]
      unfold bnd
      dsimp only
      rw [q]
      dsimp only
      rw [if_pos ⟨by omega, by omega, by omega, by omega⟩]
      have : ((n : Int) + 1 - 1).toNat = n := by omega
      rw [this]
    unfold dLstI
    rw [e2]
    show (if (rgD 1 n).length ≤ 100000 then _ else none) = _
    rw [if_pos (by rw [rgD_len]; omega)]
  have e4 : dCallD 0 1 f__law_shuffled (aCons (dLstI (dRg2 (dC (.int 1)) (d2 gAdd (dRd 1) (dC (.int 1))))) (aNil)) [some .draw, some (.val (.int n))] ds = some (.list ys, ds') := (dCallD_eq rfl (aCons1 e1) rfl).trans e
  have e5 := aCons1 e4
  show outD (d__law_sequence [some .draw, some (.val (.int n))] ds) = _
  unfold d__law_sequence dSeq dRet dB
  rw [e5]
  rfl
end L2.Dn
set_option Elab.async false
set_option linter.all false
set_option maxRecDepth 100000
/-! the draws, plain: a list of numbers that are taken -/
namespace L2.Dn
open PySem PySem.Spec PyProof.Rows C8
def intsTo (n : Nat) : List Int := (List.range n).map Int.ofNat
theorem intsTo_mem {n : Nat} {r : Int} (h : 0 ≤ r ∧ r < n) : r ∈ intsTo n := List.mem_map.mpr ⟨r.toNat, List.mem_range.mpr (by omega), Int.toNat_of_nonneg h.1⟩
/-- all lists of k numbers below n -/
def allsN (n : Nat) : Nat → List (List Int)
  | 0 => [[]]
  | k + 1 => (intsTo n).flatMap fun a => (allsN n k).map (a :: ·)
theorem allsN_mem {n : Nat} : ∀ (l : List Int), (∀ r ∈ l, 0 ≤ r ∧ r < n) → l ∈ allsN n l.length
  | [], _ => List.mem_singleton.mpr rfl
  | r :: l, h => List.mem_flatMap.mpr ⟨r, intsTo_mem (h r (List.mem_cons_self ..)), List.mem_map.mpr ⟨l, allsN_mem l (fun z hz => h z (List.mem_cons_of_mem _ hz)), rfl⟩⟩
/-- [take(draw, env[k]) for i in items] -/
theorem takes_loop (i k : Nat) (n : Int) (hn : 0 < n ∧ n < 2 ^ 80) (env0 : En) (h1 : ∀ d, (env0.set i (some (.val d)))[1]? = some (some .draw)) (h2 : ∀ d, (env0.set i (some (.val d)))[k]? = some (some (.val (.int n)))) :
    ∀ (items : List D) (ds : DS), ∃ (l : List Int) (ds' : DS), lcLoop (gNm i) tYesD (dCallD 1 1 f__law_take (aCons (dVar k) (aNil))) env0 items ds = some (l.map D.int, ds') ∧ l.length = items.length ∧ ∀ r ∈ l, 0 ≤ r ∧ r < n
  | [], ds => ⟨[], ds, rfl, rfl, fun _ h => by cases h⟩
  | d :: items, ds => by
    obtain ⟨r, ds1, e1, hr⟩ := take_ok n hn ds
    obtain ⟨l, ds2, e2, h3, h4⟩ := takes_loop i k n hn env0 h1 h2 items ds1
    refine ⟨r :: l, ds2, ?_, by simp [h3], fun z hz => ?_⟩
    · have e3 : dVar k (env0.set i (some (.val d))) ds = some (.int n, ds) := by
        unfold dVar
        rw [h2 d]
      have e4 : dCallD 1 1 f__law_take (aCons (dVar k) (aNil)) (env0.set i (some (.val d))) ds = some (.int r, ds1) := (dCallD_eq (h1 d) (aCons1 e3) rfl).trans e1
      rw [lcLoop, show gNm i d env0 = some (env0.set i (some (.val d))) from rfl]
      dsimp only
      rw [show tYesD (env0.set i (some (.val d))) ds = some (true, ds) from rfl]
      unfold bnd
      dsimp only
      rw [e4]
      dsimp only
      rw [e2]
      rfl
    · rcases List.mem_cons.mp hz with rfl | hz
      · exact hr
      · exact h4 z hz
def chkSeq (seqs : List (List Int)) : Option Sl → Bool
  | some (.val (.ptup ys)) => (match ints? ys with
    | some l => seqs.contains l
    | none => false)
  | _ => false
theorem chkSeq_eq {seqs : List (List Int)} {x : Option Sl} (h : chkSeq seqs x = true) : ∃ l ∈ seqs, x = some (.val (.ptup (l.map D.int))) := by
  unfold chkSeq at h
  split at h
  · rename_i ys
    split at h
    · rename_i l e
      exact ⟨l, by simpa using h, by rw [ints_eq e]⟩
    · cases h
  · cases h
theorem map_at {α β : Type} {f g : α → β} : ∀ {l : List α}, l.map f = l.map g → ∀ x ∈ l, f x = g x
  | [], _, x, h => by cases h
  | y :: ys, e, x, h => by
    rw [List.map_cons, List.map_cons] at e
    rcases List.mem_cons.mp h with rfl | h
    · exact (List.cons.inj e).1
    · exact map_at (List.cons.inj e).2 x h
end L2.Dn
set_option Elab.async false
set_option linter.all false
set_option maxRecDepth 100000
/-! zip of two lists or two tuples, walked; two items of a list stored at once -/
namespace L2.Dn
open PySem PySem.Spec PyProof.Rows
def zipD : List D → List D → List D
  | x :: xs, y :: ys => .tuple [x, y] :: zipD xs ys
  | _, _ => []
theorem zipD_len : ∀ (xs ys : List D), (zipD xs ys).length = min xs.length ys.length
  | [], _ => by simp [zipD]
  | _ :: _, [] => by simp [zipD]
  | x :: xs, y :: ys => by
    simp only [zipD, List.length_cons, zipD_len xs ys]
    omega
theorem zipD_get : ∀ (xs ys : List D) (i : Nat) (x y : D), xs[i]? = some x → ys[i]? = some y → (zipD xs ys)[i]? = some (.tuple [x, y])
  | [], _, i, x, y, h, _ => by simp at h
  | _ :: _, [], i, x, y, _, h => by simp at h
  | a :: xs, b :: ys, 0, x, y, h1, h2 => by
    simp at h1 h2
    subst h1 h2
    rfl
  | a :: xs, b :: ys, i + 1, x, y, h1, h2 => zipD_get xs ys i x y (by simpa using h1) (by simpa using h2)
theorem yl_zipL {B : Bs} {K : PySem.W.Frag} {a b : Addr} {vs ws : List V} {xs ys : List D} {Hf0 : Hp} (hx : ∀ H, Same Hf0 H → SqL K H a vs) (hy : ∀ H, Same Hf0 H → SqL K H b ws) (r : RpL Hf0 vs xs) (r2 : RpL Hf0 ws ys) : Yl B K (Itz K a b) (zipD xs ys) Hf0 := fun i env ds σ Hf H s S => by
  have l1 := r.length
  have l2 := r2.length
  have qx := hx H (s.trans S.sub)
  have qy := hy H (s.trans S.sub)
  rw [zipD_len]
  refine ⟨fun hi => ?_, fun hi => ⟨vs, ws, qx, qy, by omega⟩⟩
  obtain ⟨v, e1, r1⟩ := r.get (List.getElem?_eq_getElem (show i < xs.length by omega))
  obtain ⟨w, e2, r3⟩ := r2.get (List.getElem?_eq_getElem (show i < ys.length by omega))
  refine ⟨⟨vs, ws, v, w, qx, qy, e1, e2⟩, fun x H' y d hd => ?_⟩
  obtain ⟨T, v', w', rfl, nT, rfl, y1, y2⟩ := y
  have z1 := y1 vs qx
  have z2 := y2 ws qy
  rw [e1] at z1
  rw [e2] at z2
  cases z1
  cases z2
  rw [zipD_get _ _ _ _ _ (List.getElem?_eq_getElem (show i < xs.length by omega)) (List.getElem?_eq_getElem (show i < ys.length by omega))] at hd
  cases hd
  have nf := sub_none S nT
  have F := S.fre nT
  exact ⟨_, (Gr.refl.hp nT).fz nT nf, (S.hp nf F).fz nf upd_same F, .tup upd_same ((RpL.cons (r1.up s) (.cons (r3.up s) .nil)).up (same_fz nf))⟩
theorem yl_zipT {B : Bs} {K : PySem.W.Frag} {a b : Addr} {vs ws : List V} {xs ys : List D} {Hf0 : Hp} (hx : ∀ H, Same Hf0 H → SqT K H a vs) (hy : ∀ H, Same Hf0 H → SqT K H b ws) (r : RpL Hf0 vs xs) (r2 : RpL Hf0 ws ys) : Yl B K (RZ.ItzT K a b) (zipD xs ys) Hf0 := fun i env ds σ Hf H s S => by
  have l1 := r.length
  have l2 := r2.length
  have qx := hx H (s.trans S.sub)
  have qy := hy H (s.trans S.sub)
  rw [zipD_len]
  refine ⟨fun hi => ?_, fun hi => ⟨vs, ws, qx, qy, by omega⟩⟩
  obtain ⟨v, e1, r1⟩ := r.get (List.getElem?_eq_getElem (show i < xs.length by omega))
  obtain ⟨w, e2, r3⟩ := r2.get (List.getElem?_eq_getElem (show i < ys.length by omega))
  refine ⟨⟨vs, ws, v, w, qx, qy, e1, e2⟩, fun x H' y d hd => ?_⟩
  obtain ⟨T, v', w', rfl, nT, rfl, y1, y2⟩ := y
  have z1 := y1 vs qx
  have z2 := y2 ws qy
  rw [e1] at z1
  rw [e2] at z2
  cases z1
  cases z2
  rw [zipD_get _ _ _ _ _ (List.getElem?_eq_getElem (show i < xs.length by omega)) (List.getElem?_eq_getElem (show i < ys.length by omega))] at hd
  cases hd
  have nf := sub_none S nT
  have F := S.fre nT
  exact ⟨_, (Gr.refl.hp nT).fz nT nf, (S.hp nf F).fz nf upd_same F, .tup upd_same ((RpL.cons (r1.up s) (.cons (r3.up s) .nil)).up (same_fz nf))⟩
def tupD? : D → Option (List D)
  | .tuple xs => some xs
  | .ptup xs => some xs
  | _ => none
theorem tupD_rp {Hf : Hp} {v : V} {d : D} {xs : List D} (r : Rp Hf v d) (h : tupD? d = some xs) : ∃ a vs, v = .ref a ∧ RpL Hf vs xs ∧ ∀ (K : PySem.W.Frag) (H : Hp), Same Hf H → SqT K H a vs := by
  cases r with
  | tup h1 r =>
    cases h
    exact ⟨_, _, rfl, r, fun K H s => .inl (.inl (s _ _ h1))⟩
  | ptup h1 hd r =>
    cases h
    exact ⟨_, _, rfl, r, fun K H s => .inl (.inr ⟨_, s _ _ h1⟩)⟩
  | _ => cases h
def zipV : D → D → Option (List D)
  | .list xs, .list ys => some (zipD xs ys)
  | a, b => match tupD? a with
    | some xs => match tupD? b with
      | some ys => some (zipD xs ys)
      | none => none
    | none => none
def dZip (f h : Den) : DenA := fun env ds => bnd (f env ds) fun a s => bnd (h env s) fun b s1 => op1 (zipV a b) s1
section
variable {X : Cx} {e e2 : Expr} {f h : Den}
theorem evi_zip {p pos tpos : Pos} {elts : List Expr} {kk : Nat} (hm : X.mg "zip" = none) (hf : EvF X e f) (hb : EvF X e2 h) (hg : Gl X "zip" := by rfl) (hs : starEach [e, e2] X.env = (false, eval e X.env) :: starEach [e2] X.env := by rfl) (hs2 : starEach [e2] X.env = (false, eval e2 X.env) :: starEach [] X.env := by rfl)
    (hpl : (backTo pos (starEach [e2] X.env)).any (·.1) = false := by rfl) : EvI X (.Tuple elts kk tpos) (.Call (.Name "zip" p) [e, e2] [] pos) (dZip f h) := fun B env ds σ Hf H items ds' S he R q => by
  obtain ⟨v1, s1, e1, e3⟩ := bnd_eq he
  obtain ⟨v2, s2, e4, e5⟩ := bnd_eq e3
  obtain ⟨e6, rfl⟩ := op1_eq e5
  refine SI.of (RZ.pi_zipA hg hm (pa_cons (pe_se X _) (pa_cons (pe_se X _) pa_nil hs2) hs) hs hpl) (hf B env ds σ Hf H _ _ S e1 _ fun v Hf1 H1 g1 S1 r1 => hb B env s1 σ Hf1 H1 _ _ S1 e4 _ fun w Hf2 H2 g2 S2 r2 => ?_)
  have r1' := r1.up g2.ff
  unfold zipV at e6
  split at e6
  · cases e6
    cases r1' with
    | lst h1 t1 =>
      cases r2 with
      | lst h2 t2 =>
        exact ⟨_, _, _, _, rfl, .inl ⟨.inl (.inl (S2.sub _ _ h1)), .inl (.inl (S2.sub _ _ h2)), q _ _ _ (g1.trans g2) S2 (yl_zipL (fun H s => .inl (.inl (s _ _ h1))) (fun H s => .inl (.inl (s _ _ h2))) t1 t2)⟩⟩
  · split at e6
    · rename_i xs hx
      split at e6
      · rename_i ys hy
        cases e6
        obtain ⟨a, vs, rfl, t1, q1⟩ := tupD_rp r1' hx
        obtain ⟨b, ws, rfl, t2, q2⟩ := tupD_rp r2 hy
        exact ⟨_, _, _, _, rfl, .inr ⟨q1 _ _ S2.sub, q2 _ _ S2.sub, q _ _ _ (g1.trans g2) S2 (yl_zipT (q1 _) (q2 _) t1 t2)⟩⟩
      · cases e6
    · cases e6
end
/-- xs[k], xs[l] = a, b -/
def dSwap (i : Nat) (f h1 h2 : Den) : DenS := fun env ds => bnd (f env ds) fun v s => bnd (h1 env s) fun k s1 => match v, env[i]?, k with
  | .tuple [a, b], some (some (.own (.list xs))), .int n => (match ixN xs.length n with
    | some j => bnd (h2 (env.set i (some (.own (.list (xs.set j a))))) s1) fun k2 s2 => (match k2 with
      | .int n2 => (match ixN xs.length n2 with
        | some j2 => some (.nx (env.set i (some (.own (.list ((xs.set j a).set j2 b))))), s2)
        | none => none)
      | _ => none)
    | none => none)
  | _, _, _ => none
section
variable {X : Cx} {e c1 c2 : Expr} {f h1 h2 : Den} {ss : Stmt}
theorem evs_swap (i : Nat) (pm : PS X ss (tAsg (SE X e) (gTup X.K 2 (gCons (L2.gSub (tVar i) (SE X c1) rSetL) (gCons (L2.gSub (tVar i) (SE X c2) rSetL) gNil))))) (he : EvF X e f) (hk : EvR X c1 h1) (hk2 : EvR X c2 h2) : EvS X ss (dSwap i f h1 h2) := fun B env ds σ Hf H o ds' S hD Dd cc => by
  obtain ⟨d, s1, e1, e2⟩ := bnd_eq hD
  obtain ⟨k, s2, e3, e4⟩ := bnd_eq e2
  refine SS.of pm ?_
  refine he B env ds σ Hf H _ _ S e1 _ fun v Hf1 H1 g1 S1 rv => ?_
  split at e4
  · rename_i a b xs n ei
    obtain ⟨ad, ea, nf, nd, t⟩ := S.own ei
    cases rv with
    | tup ht rt =>
      cases rt with
      | cons r1 rt =>
        cases rt with
        | cons r2 rt =>
          cases rt
          refine ⟨_, _, rfl, .inl (.inl (S1.sub _ _ ht)), rfl, ?_⟩
          refine ⟨_, _, rfl, ?_⟩
          refine ⟨_, ea, hk B env s1 σ Hf1 H1 _ _ S1 e3 _ fun w Hf2 H2 g2 S2 rw' => ?_⟩
          cases rw'.int
          split at e4
          · rename_i j ej
            obtain ⟨k2, s3, e5, e6⟩ := bnd_eq e4
            cases t with
            | lst h1 r =>
              have gg := g1.trans g2
              refine ⟨ad, _, n, j, rfl, rfl, gg.at h1 nd, by rw [r.length]; exact ej, ?_⟩
              have S3 := S2.chg ei ea (.lst (upd_same (H := H2)) (RpL.set (r1.up g2.ff) j (r.up gg.ff)))
              have hlt : i < env.length := by
                rcases Nat.lt_or_ge i env.length with h | h
                · exact h
                · rw [List.getElem?_eq_none h] at ei; cases ei
              have ei3 : (env.set i (some (.own (.list (xs.set j a)))))[i]? = some (some (.own (.list (xs.set j a)))) := by
                rw [List.getElem?_set_self hlt]
              refine ⟨_, _, rfl, ?_⟩
              refine ⟨_, ea, hk2 B _ s2 σ Hf2 _ _ _ S3 e5 _ fun w2 Hf4 H4 g4 S4 rw2 => ?_⟩
              split at e6
              · rename_i n2
                cases rw2.int
                split at e6
                · rename_i j2 ej2
                  cases e6
                  obtain ⟨a2, ea2, nf2, nd2, t2⟩ := S4.own ei3
                  rw [ea] at ea2
                  cases ea2
                  cases t2 with
                  | lst h3 r3 =>
                    refine ⟨ad, _, n2, j2, rfl, rfl, h3, by rw [r3.length, List.length_set]; exact ej2, ?_⟩
                    refine ⟨rfl, ?_⟩
                    have S5 := S4.chg ei3 ea (.lst (upd_same (H := H4)) (RpL.set ((r2.up g2.ff).up g4.ff) j2 r3))
                    rw [List.set_set] at S5
                    exact cc _ _ _ (gg.ff.trans g4.ff) S5
                · cases e6
              · cases e6
          · cases e4
  · cases e4
end
end L2.Dn
set_option Elab.async false
set_option linter.all false
set_option maxRecDepth 100000
/-! x is True; k in a dict -/
namespace L2.Dn
open PySem PySem.Spec PyProof.Rows
section
variable {X : Cx}
def rIsB (neg : Bool) : R2 := fun x y H Q => ∃ a b, x = .bl a ∧ y = .bl b ∧ Q (.bl (xor neg (a == b))) H
theorem op_isB : OpR X (compareOp .Is) (rIsB false) := by
  intro pins s σ H x y v u Q I rx ry h
  obtain ⟨a, b, rfl, rfl, q⟩ := h
  cases rx
  cases ry
  show wpAny _ _ ((isSame (Value.bool a) (Value.bool b)) >>= fun z => pure (Value.bool z)) _ _ s
  exact wpAny_bind (wpAny_isSame_plain (by cases a <;> cases b <;> rfl) (wpAny_pure (fin_bl I q (by cases a <;> cases b <;> rfl))))
theorem op_isNB : OpR X (compareOp .IsNot) (rIsB true) := by
  intro pins s σ H x y v u Q I rx ry h
  obtain ⟨a, b, rfl, rfl, q⟩ := h
  cases rx
  cases ry
  show wpAny _ _ ((isSame (Value.bool a) (Value.bool b)) >>= fun z => pure (Value.bool (!z))) _ _ s
  exact wpAny_bind (wpAny_isSame_plain (by cases a <;> cases b <;> rfl) (wpAny_pure (fin_bl I q (by cases a <;> cases b <;> rfl))))
def gIsB (neg : Bool) : D → D → Option D
  | .bool a, .bool b => some (.bool (xor neg (a == b)))
  | _, _ => none
theorem r2_isB (neg : Bool) : R2F X (rIsB neg) (gIsB neg) := fun B env ds σ Hf H d1 d2 d x y Q S r1 r2 e q => by
  unfold gIsB at e
  split at e
  · cases e
    cases r1.bl; cases r2.bl
    exact ⟨_, _, rfl, rfl, q.now S (.bl _)⟩
  · cases e
end
/-! k in d -/
def gInM (neg : Bool) : D → D → Option D
  | k, .dT kvs => (match keyOf? k with
    | some ks => some (.bool (xor neg (lookT kvs ks).isSome))
    | none => none)
  | k, .dK kvs => (match key1? k with
    | some ks => some (.bool (xor neg (lookK kvs ks).isSome))
    | none => none)
  | _, _ => none
section
variable {X : Cx} {a b : Expr} {f h : Den} {pos : Pos}
theorem inM_core {neg : Bool} {k d x : D} {B : Bs} {env : En} {ds : DS} {σ : St} {Hf H : Hp} {y z : V} (S : SR B X.K env ds σ Hf H) (rk : Rd1 B Hf H y k) (rd : Rd1 B Hf H z d) (e : gInM neg k d = some x) : ∃ a o, z = .ref a ∧ DGet H a y o ∧ x = .bool (xor neg o.isSome) := by
  unfold gInM at e
  split at e
  · split at e
    · rename_i ks ek
      cases e
      obtain ⟨b, rfl, hb⟩ := keyOf_rd rk ek
      obtain ⟨a', kv', rfl, h1', h2'⟩ := rd.dT S.sub
      have hb3 := S.sub _ _ hb
      cases hw : lookT _ ks with
      | some w =>
        obtain ⟨vv, l1, l2⟩ := (h2'.look (k := ks)).1 _ hw
        exact ⟨_, some vv, rfl, .inr ⟨kv', ks, b, h1', rfl, hb3, l1.symm⟩, by simp [hw]⟩
      | none => exact ⟨_, none, rfl, .inr ⟨kv', ks, b, h1', rfl, hb3, ((h2'.look (k := ks)).2 hw).symm⟩, by simp [hw]⟩
    · cases e
  · split at e
    · rename_i ks ek
      cases e
      cases key1_rd rk ek
      obtain ⟨a', kv', rfl, h1', h2'⟩ := rd.dK S.sub
      cases hw : lookK _ ks with
      | some w =>
        obtain ⟨vv, l1, l2⟩ := (h2'.look (k := ks)).1 _ hw
        exact ⟨_, some vv, rfl, .inl ⟨kv', ks, h1', rfl, l1.symm⟩, by simp [hw]⟩
      | none => exact ⟨_, none, rfl, .inl ⟨kv', ks, h1', rfl, ((h2'.look (k := ks)).2 hw).symm⟩, by simp [hw]⟩
    · cases e
  · cases e
theorem evf_inM (hu : X.A.units + 1 < cLine) (ha : EvR X a f) (hb : EvR X b h) (h1 : behindInMarks .In b = false := by rfl) : EvF X (.Compare a [.In] [b] pos) (d2 (gInM false) f h) := fun B env ds σ Hf H d ds' S hf Q q => by
  obtain ⟨v1, s1, e1, e⟩ := bnd_eq hf
  obtain ⟨v2, s2, e2, e⟩ := bnd_eq e
  obtain ⟨e3, rfl⟩ := op1_eq e
  refine SE.of (pe_cmp (pc_din hu (pe_se X a) (pe_se X b)) h1) (ha B env ds σ Hf H _ _ S e1 _ fun y Hf1 H1 g1 S1 r1 => hb B env s1 σ Hf1 H1 _ _ S1 e2 _ fun z Hf2 H2 g2 S2 r2 => ?_)
  obtain ⟨a, o, rfl, dg, rfl⟩ := inM_core S2 (r1.up g2) r2 e3
  exact ⟨a, o, rfl, dg, by simpa using q _ _ _ (g1.trans g2) S2 (.bl _)⟩
theorem evf_notInM (hu : X.A.units + 1 < cLine) (ha : EvR X a f) (hb : EvR X b h) (h1 : behindInMarks .NotIn b = false := by rfl) : EvF X (.Compare a [.NotIn] [b] pos) (d2 (gInM true) f h) := fun B env ds σ Hf H d ds' S hf Q q => by
  obtain ⟨v1, s1, e1, e⟩ := bnd_eq hf
  obtain ⟨v2, s2, e2, e⟩ := bnd_eq e
  obtain ⟨e3, rfl⟩ := op1_eq e
  refine SE.of (pe_cmp (pc_dnotin hu (pe_se X a) (pe_se X b)) h1) (ha B env ds σ Hf H _ _ S e1 _ fun y Hf1 H1 g1 S1 r1 => hb B env s1 σ Hf1 H1 _ _ S1 e2 _ fun z Hf2 H2 g2 S2 r2 => ?_)
  obtain ⟨a, o, rfl, dg, rfl⟩ := inM_core S2 (r1.up g2) r2 e3
  exact ⟨a, o, rfl, dg, by simpa using q _ _ _ (g1.trans g2) S2 (.bl _)⟩
theorem evt_inM (hu : X.A.units + 1 < cLine) (ha : EvR X a f) (hb : EvR X b h) (h1 : behindInMarks .In b = false := by rfl) : EvT X (.Compare a [.In] [b] pos) (dTest (d2 (gInM false) f h)) := fun B env ds σ Hf H d ds' S hf Q q => by
  obtain ⟨v1, s1, e1, e⟩ := bnd_eq (dTest_eq hf)
  obtain ⟨v2, s2, e2, e⟩ := bnd_eq e
  obtain ⟨e3, rfl⟩ := op1_eq e
  refine STt.of (pt_cmp (pc_din hu (pe_se X a) (pe_se X b)) h1) (ha B env ds σ Hf H _ _ S e1 _ fun y Hf1 H1 g1 S1 r1 => hb B env s1 σ Hf1 H1 _ _ S1 e2 _ fun z Hf2 H2 g2 S2 r2 => ?_)
  obtain ⟨a, o, rfl, dg, ex⟩ := inM_core S2 (r1.up g2) r2 e3
  cases ex
  exact ⟨a, o, rfl, dg, _, rfl, by simpa using q _ _ (g1.trans g2) S2⟩
theorem evt_notInM (hu : X.A.units + 1 < cLine) (ha : EvR X a f) (hb : EvR X b h) (h1 : behindInMarks .NotIn b = false := by rfl) : EvT X (.Compare a [.NotIn] [b] pos) (dTest (d2 (gInM true) f h)) := fun B env ds σ Hf H d ds' S hf Q q => by
  obtain ⟨v1, s1, e1, e⟩ := bnd_eq (dTest_eq hf)
  obtain ⟨v2, s2, e2, e⟩ := bnd_eq e
  obtain ⟨e3, rfl⟩ := op1_eq e
  refine STt.of (pt_cmp (pc_dnotin hu (pe_se X a) (pe_se X b)) h1) (ha B env ds σ Hf H _ _ S e1 _ fun y Hf1 H1 g1 S1 r1 => hb B env s1 σ Hf1 H1 _ _ S1 e2 _ fun z Hf2 H2 g2 S2 r2 => ?_)
  obtain ⟨a, o, rfl, dg, ex⟩ := inM_core S2 (r1.up g2) r2 e3
  cases ex
  exact ⟨a, o, rfl, dg, _, rfl, by simpa using q _ _ (g1.trans g2) S2⟩
end
end L2.Dn
set_option Elab.async false
set_option linter.all false
set_option maxRecDepth 100000
/-! dict(pairs), the keys tuples -/
namespace L2.Dn
open PySem PySem.Spec PyProof.Rows
def foldPut (qs : List (List Key × Addr × V)) : List (List Key × V) := qs.foldl (fun acc q => putK acc q.1 q.2.2) []
abbrev PrV (H : Hp) : List V → List (List Key × Addr × V) → Prop := Paired fun (x : V) (q : List Key × Addr × V) => ∃ t, x = V.ref t ∧ H t = some (.tup [.ref q.2.1, q.2.2]) ∧ H q.2.1 = some (.tup (q.1.map kV))
def tsA (its : List Value) (j : Nat) : Addr := match its[j]? with
  | some (.ref t) => t
  | _ => 0
section
variable {X : Cx} {pins : List (Addr × Obj)} {σ : St} {H : Hp} {s : Shared}
theorem pairs_at (I : Inv X pins σ H s) : ∀ {ts : List V} {qs : List (List Key × Addr × V)} {its : List Value}, PrV H ts qs → Vals ts its →
    ∃ ws : List (List Key × Addr × Value), Paired (fun q w => q.1 = w.1 ∧ H w.2.1 = some (.tup (q.1.map kV)) ∧ RelV q.2.2 w.2.2) qs ws ∧ its.length = ws.length ∧
      ∀ (j : Nat) (k : List Key) (b : Addr) (u : Value), ws[j]? = some (k, b, u) → ∃ t : Addr, its[j]? = some (Value.ref t) ∧ PairAt s.heap t (.ref b) u := by
  intro ts qs its h
  induction h generalizing its with
  | nil =>
    intro v
    cases v
    exact ⟨[], .nil, rfl, fun j k b u e => (by cases e)⟩
  | @cons x0 q ts0 qs0 hx t ih =>
    intro v
    cases v with
    | @cons _ w0 _ _ r rv =>
      obtain ⟨ws, h1, h2, h3⟩ := ih rv
      obtain ⟨ta, rfl, ht, hk⟩ := hx
      cases r
      obtain ⟨i2, r2, p2, _⟩ := I.tuple (show SqT X.K H ta _ from .inl (.inl ht))
      cases r2 with
      | cons ra r2 =>
        cases r2 with
        | @cons _ u _ _ rb r2 =>
          cases r2
          cases ra
          refine ⟨(q.1, q.2.1, u) :: ws, .cons ⟨rfl, hk, rb⟩ h1, by simp [h2], fun j k b w e => ?_⟩
          cases j with
          | zero =>
            simp at e
            obtain ⟨rfl, rfl, rfl⟩ := e
            exact ⟨ta, by simp, .inl p2⟩
          | succ j => exact h3 j k b w (by simpa using e)
theorem putK_length (kvs : List (List Key × V)) (k : List Key) (y : V) : (putK kvs k y).length ≤ kvs.length + 1 := by
  unfold putK
  split <;> simp
theorem foldPut_length : ∀ (qs : List (List Key × Addr × V)) (acc : List (List Key × V)), (qs.foldl (fun acc q => putK acc q.1 q.2.2) acc).length ≤ acc.length + qs.length
  | [], acc => by simp
  | q :: qs, acc => by
    have h1 := foldPut_length qs (putK acc q.1 q.2.2)
    have h2 := putK_length acc q.1 q.2.2
    simp only [List.foldl_cons, List.length_cons]
    omega
theorem foldPut_kt {qs : List (List Key × Addr × V)} {ws : List (List Key × Addr × Value)} (h : Paired (fun q w => q.1 = w.1 ∧ H w.2.1 = some (.tup (q.1.map kV)) ∧ RelV q.2.2 w.2.2) qs ws) :
    ∀ {acc : List (List Key × V)} {xs : List (List Key × Addr × Value)}, KT H acc xs → KT H (qs.foldl (fun acc q => putK acc q.1 q.2.2) acc) (storedAllH xs ws) := by
  induction h with
  | nil => intro acc xs k; exact k
  | @cons q w qs' ws' hx t ih =>
    intro acc xs k
    obtain ⟨h1, h2, h3⟩ := hx
    have := KT.put k q.1 h2 h3
    rw [h1] at this
    show KT H (List.foldl _ (putK acc q.1 q.2.2) qs') (List.foldl _ (storedH xs w.1 w.2.1 w.2.2) ws')
    rw [h1]
    exact ih this
end
def rDictP (X : Cx) : List V → Hp → VK → Prop := fun xs H Q => ∃ (a : Addr) (ts : List V) (qs : List (List Key × Addr × V)), xs = [.ref a] ∧ H a = some (.lst ts) ∧ PrV H ts qs ∧ ∀ p, H p = none → Q (.ref p) (upd H p (.dT (foldPut qs)))
theorem call_dictP {X : Cx} (hc : X.calm = true) (hu : X.A.units + 8 < cLine) : CallR X (.type "dict") (rDictP X) := by
  intro pins s σ H xs us Q I r ⟨a, ts, qs, ex, hd, hp, q⟩
  subst ex
  obtain ⟨u, eu, rx⟩ := vals1 r
  subst eu
  cases rx
  obtain ⟨its, rv, pl, hz⟩ := I.list (show SqL X.K H a ts from .inl (.inl hd))
  obtain ⟨ws, h1, h2, h3⟩ := pairs_at I hp rv
  have hlt : ts.length = its.length := rv.length
  let ps : List (Value × Value) := ws.map fun w => (Value.ref w.2.1, w.2.2)
  have hps : ps.length = ws.length := List.length_map _
  have hit : PairItems s.heap its.toArray (tsA its) ps := by
    refine ⟨by rw [List.size_toArray, hps, h2], fun j k v e => ?_⟩
    rw [List.getElem?_map] at e
    obtain ⟨w, e1, e2⟩ := Option.map_eq_some_iff.mp e
    cases e2
    obtain ⟨t, e3, e4⟩ := h3 j w.1 w.2.1 w.2.2 e1
    have e5 : tsA its j = t := by unfold tsA; rw [e3]
    rw [e5]
    exact ⟨by simpa using e3, e4⟩
  have keys : ∀ x ∈ ws, IsTupleKey (mixKind X.prog X.w) s.heap x.1 x.2.1 := by
    have : ∀ {qs : List (List Key × Addr × V)} {ws : List (List Key × Addr × Value)}, Paired (fun q w => q.1 = w.1 ∧ H w.2.1 = some (.tup (q.1.map kV)) ∧ RelV q.2.2 w.2.2) qs ws → ∀ x ∈ ws, IsTupleKey (mixKind X.prog X.w) s.heap x.1 x.2.1 := by
      intro qs ws h
      induction h with
      | nil => intro x hx; exact nomatch hx
      | cons hq t ih =>
        intro x hx
        rcases List.mem_cons.mp hx with e | hx
        · subst e
          exact key_of I.hok (by rw [← hq.1]; exact hq.2.1)
        · exact ih x hx
    exact this h1
  refine call_dict_pairsH (knd := tupleKind (mixKind X.prog X.w)) (ps := ws) (PairArg.list a its.toArray (tsA its) ps) (I.ok.hd hc) (show X.A.in1.in1.units < cLine by show X.A.units + 1 + 1 < cLine; omega) ⟨?_, hit⟩ ⟨hps.symm, fun i key v e => ?_⟩ (fun h' hk x hx => ?_) (by rw [hps, ← h2, ← hlt]; exact hz) fun h' tk d' hk => ?_
  · obtain ⟨o, n, e1, e2, e3, e4⟩ := pl
    exact ⟨o, n, e1, e2, e3, e4⟩
  · have e : ps[i]? = some (key, v) := e
    rw [List.getElem?_map] at e
    obtain ⟨w, e1, e2⟩ := Option.map_eq_some_iff.mp e
    cases e2
    exact ⟨w.1, w.2.1, e1, rfl⟩
  · obtain ⟨o, items, n, e1, e2, e3, e4⟩ := keys x hx
    exact ⟨o, items, n, hk _ _ (Nat.ne_of_lt (Heap.lt_size e1)) (by simp) e1, e2, e3, e4⟩
  · have hm : (s.heap.objs.size == sysModules) = false := beq_eq_false_iff_ne.mpr (Nat.ne_of_gt I.big)
    obtain ⟨ob, es, ep, hq, e2, e3, e4, _, e5⟩ := d'
    have kt := foldPut_kt h1 (acc := []) (xs := []) .nil
    have z : (foldPut qs).length ≤ sizeLine := by
      have z1 := foldPut_length qs []
      have z2 : qs.length = ws.length := Paired.length h1
      simp only [List.length_nil] at z1
      show (qs.foldl _ []).length ≤ _
      omega
    refine ⟨.ref s.heap.objs.size, upd H s.heap.objs.size (.dT (foldPut qs)), I.laid (t' := tk) (fun b o e => hk b o (by simp) e) (Nat.le_refl _) ⟨z, hm, storedAllH [] ws, kt.keeps fun c ys ec => ?_, ob, es, ep, hq, e2, e3, e4, e5⟩, rfl, q _ I.fresh⟩
    rw [upd_ne (ne_of_none ec I.fresh)]
    exact ec
/-! on data -/
def pairsD? : List D → Option (List (List Key × D))
  | [] => some []
  | .tuple [k, v] :: r => (match keyOf? k with
    | some ks => (match pairsD? r with
      | some l => some ((ks, v) :: l)
      | none => none)
    | none => none)
  | _ => none
def foldPutD (l : List (List Key × D)) (acc : List (List Key × D)) : List (List Key × D) := match l with
  | [] => acc
  | (k, v) :: r => foldPutD r (putT acc k v)
def gDictP : List D → Option D
  | [.list ds] => (match pairsD? ds with
    | some l => some (.dT (foldPutD l []))
    | none => none)
  | _ => none
theorem pairsD_rp {Hf : Hp} : ∀ {ds : List D} {ts : List V} {l : List (List Key × D)}, RpL Hf ts ds → pairsD? ds = some l → ∃ qs : List (List Key × Addr × V), PrV Hf ts qs ∧ Paired (fun q p => q.1 = p.1 ∧ Rp Hf q.2.2 p.2) qs l
  | [], _, l, r, h => by
    cases r
    cases h
    exact ⟨[], .nil, .nil⟩
  | .tuple [k, v] :: ds, _, l, .cons r t, h => by
    unfold pairsD? at h
    split at h
    · rename_i ks ek
      split at h
      · rename_i l' el
        cases h
        obtain ⟨qs, h1, h2⟩ := pairsD_rp t el
        cases r with
        | tup ht rt =>
          cases rt with
          | cons rk rt =>
            cases rt with
            | cons rv rt =>
              cases rt
              obtain ⟨b, rfl, hb⟩ := keyOf_rd (B := ⟨Hf, Hf, none⟩) (H := Hf) (.fz rk) ek
              exact ⟨(ks, b, _) :: qs, .cons ⟨_, rfl, ht, hb⟩ h1, .cons ⟨rfl, rv⟩ h2⟩
      · cases h
    · cases h
  | .none :: _, _, _, _, h => by simp [pairsD?] at h
  | .bool _ :: _, _, _, _, h => by simp [pairsD?] at h
  | .int _ :: _, _, _, _, h => by simp [pairsD?] at h
  | .str _ :: _, _, _, _, h => by simp [pairsD?] at h
  | .list _ :: _, _, _, _, h => by simp [pairsD?] at h
  | .ptup _ :: _, _, _, _, h => by simp [pairsD?] at h
  | .dT _ :: _, _, _, _, h => by simp [pairsD?] at h
  | .dK _ :: _, _, _, _, h => by simp [pairsD?] at h
  | .tuple [] :: _, _, _, _, h => by simp [pairsD?] at h
  | .tuple [_] :: _, _, _, _, h => by simp [pairsD?] at h
  | .tuple (_ :: _ :: _ :: _) :: _, _, _, _, h => by simp [pairsD?] at h
theorem foldPut_rp {Hf : Hp} {qs : List (List Key × Addr × V)} {l : List (List Key × D)} (h : Paired (fun q p => q.1 = p.1 ∧ Rp Hf q.2.2 p.2) qs l) :
    ∀ {acc : List (List Key × V)} {ad : List (List Key × D)}, RpT Hf acc ad → RpT Hf (qs.foldl (fun acc q => putK acc q.1 q.2.2) acc) (foldPutD l ad) := by
  induction h with
  | nil => intro acc ad k; exact k
  | @cons q p qs' l' hx t ih =>
    intro acc ad k
    obtain ⟨h1, h2⟩ := hx
    have := k.put (k := q.1) h2
    show RpT Hf (List.foldl _ (putK acc q.1 q.2.2) qs') (foldPutD l' (putT ad p.1 p.2))
    rw [← h1]
    exact ih this
theorem prV_up {H H' : Hp} (s : Same H H') {ts : List V} {qs : List (List Key × Addr × V)} (h : PrV H ts qs) : PrV H' ts qs := Paired.mapP h fun _ _ ⟨t, e, h1, h2⟩ => ⟨t, e, s _ _ h1, s _ _ h2⟩
theorem rc_dictP {X : Cx} : RCN X (rDictP X) gDictP := fun B env ds σ Hf H args d vs Q S r e q => by
  unfold gDictP at e
  split at e
  · rename_i xs
    cases r with
    | cons r t =>
      cases t
      split at e
      · rename_i l el
        cases e
        obtain ⟨a, ts, rfl, h1, h2⟩ := r.lst S.sub
        obtain ⟨qs, p1, p2⟩ := pairsD_rp h2 el
        exact ⟨a, ts, qs, rfl, h1, prV_up S.sub p1, q.dT S (foldPut_rp p2 .nil)⟩
      · cases e
  · cases e
end L2.Dn
set_option Elab.async false
set_option linter.all false
set_option maxRecDepth 100000
/-! the drawn sequence as a tuple that may be a key -/
namespace L2.Dn
open PySem PySem.Spec PyProof.Rows C8
def N__law_sequence_t : List Str := ["draw", "wires"]
def d__law_sequence_t : DenS := dSeq (dRet (dB gTupS (aCons (dCallD 0 1 f__law_shuffled (aCons (dLstI (dRg2 (dC (.int 1)) (d2 gAdd (dRd 1) (dC (.int 1))))) (aNil))) (aNil)))) (dNx)
def f__law_sequence_t : List D → DS → Option (D × DS) := fnD N__law_sequence_t.length d__law_sequence_t
/-- a shuffled 1 .. n -/
theorem sequenceT_ok (n : Nat) (hn : n < 900) (ds : DS) : ∃ ys ds', f__law_sequence_t [.int n] ds = some (.tuple ys, ds') ∧ ys.Perm (rgD 1 n) := by
  obtain ⟨ys, ds', e, hp⟩ := shuffled_ok (rgD 1 n) (by rw [rgD_len]; omega) (rgD_ok n 1) ds
  refine ⟨ys, ds', ?_, hp⟩
  have e1 : dLstI (dRg2 (dC (.int 1)) (d2 gAdd (dRd 1) (dC (.int 1)))) [some .draw, some (.val (.int n))] ds = some (.list (rgD 1 n), ds) := by
    have e2 : dRg2 (dC (.int 1)) (d2 gAdd (dRd 1) (dC (.int 1))) [some .draw, some (.val (.int n))] ds = some (rgD 1 n, ds) := by
      have q : d2 gAdd (dRd 1) (dC (.int 1)) [some .draw, some (.val (.int n))] ds = some (.int ((n : Int) + 1), ds) := rfl
      have q1 : dC (.int 1) [some .draw, some (.val (.int n))] ds = some (.int 1, ds) := rfl
      unfold dRg2
      rw [q1]
      unfold bnd
      dsimp only
      rw [q]
      dsimp only
      rw [if_pos ⟨by omega, by omega, by omega, by omega⟩]
      have : ((n : Int) + 1 - 1).toNat = n := by omega
      rw [this]
    unfold dLstI
    rw [e2]
    show (if (rgD 1 n).length ≤ 100000 then _ else none) = _
    rw [if_pos (by rw [rgD_len]; omega)]
  have e4 : dCallD 0 1 f__law_shuffled (aCons (dLstI (dRg2 (dC (.int 1)) (d2 gAdd (dRd 1) (dC (.int 1))))) (aNil)) [some .draw, some (.val (.int n))] ds = some (.list ys, ds') := (dCallD_eq rfl (aCons1 e1) rfl).trans e
  have e5 := aCons1 e4
  show outD (d__law_sequence_t [some .draw, some (.val (.int n))] ds) = _
  unfold d__law_sequence_t dSeq dRet dB
  rw [e5]
  rfl
end L2.Dn
set_option Elab.async false
set_option linter.all false
set_option maxRecDepth 100000
/-! plain tuples: t + u, t[a:b], (a, b), tuple(range(..)) -/
namespace L2.Dn
open PySem PySem.Spec PyProof.Rows C8
section
variable {X : Cx}
def rCatP (K : PySem.W.Frag) : R2 := fun x y H Q => ∃ a b xs ys, x = .ref a ∧ y = .ref b ∧ SqT K H a xs ∧ SqT K H b ys ∧ xs.length + ys.length ≤ sizeLine ∧
  (xs = [] → Q (.ref b) H) ∧ (xs ≠ [] → ys = [] → Q (.ref a) H) ∧ (xs ≠ [] → ys ≠ [] → ∀ (p : Addr) (o : Obj), H p = none → o.dict = none → Q (.ref p) (upd H p (.frz o (.tup (xs ++ ys)))))
theorem op_catP : OpR X (binaryOp .Add) (rCatP X.K) := by
  intro pins s σ H x y v u Q I rx ry h
  obtain ⟨a, b, xs, ys, rfl, rfl, ha, hb, hz, q0, q1, q2⟩ := h
  by_cases hx : xs = []
  · subst hx
    cases rx
    cases ry
    obtain ⟨its, r1, p1, _⟩ := I.tuple ha
    obtain ⟨its2, r2, p2, _⟩ := I.tuple hb
    cases r1
    exact cat_tup0 p1 p2 ⟨.ref b, H, I, rfl, q0 rfl⟩
  · cases rx
    cases ry
    obtain ⟨its, r1, p1, _⟩ := I.tuple ha
    obtain ⟨its2, r2, p2, _⟩ := I.tuple hb
    refine HT.cat_tup p1 p2 (fun z => hx (r1.nil_iff.mp z)) (fun z => ⟨.ref a, H, I, rfl, q1 hx (r2.nil_iff.mp z)⟩) (fun z => ?_) (by rw [← r1.length, ← r2.length]; exact hz)
    refine ⟨.ref s.heap.objs.size, _, I.laid (t' := s.toks) (o := .frz { cls := .type "tuple", data := .seq (its ++ its2).toArray } (.tup (xs ++ ys))) (fun b ob q => Heap.get?_push_of_some _ q) (Nat.le_refl _) ?_, rfl, q2 hx (fun w => z (r2.nil_iff.mpr w)) _ _ (I.hok.fresh (Nat.le_refl _)) rfl⟩
    exact ⟨Heap.get?_push_size _ rfl, by rw [List.length_append]; exact hz, _, r1.append r2, IsTup.new _ _⟩
def gCatP : D → D → Option D := fun a b => match tupD? a, tupD? b with
  | some xs, some ys => if xs.length + ys.length ≤ 100000 then some (match xs, ys with
    | [], _ => b
    | _, [] => a
    | _, _ => .ptup (xs ++ ys)) else none
  | _, _ => none
theorem tup_of {B : Bs} {env : En} {ds : DS} {σ : St} {Hf H : Hp} (S : SR B X.K env ds σ Hf H) {v : V} {d : D} {xs : List D} (r : Rd1 B Hf H v d) (h : tupD? d = some xs) : ∃ a vs, v = .ref a ∧ SqT X.K H a vs ∧ RpL Hf vs xs ∧ Rp Hf v d := by
  cases d with
  | tuple ys =>
    cases h
    obtain ⟨a, vs, rfl, h1, t1⟩ := r.tup
    exact ⟨a, vs, rfl, .inl (.inl (S.sub _ _ h1)), t1, .tup h1 t1⟩
  | ptup ys =>
    cases h
    obtain ⟨a, vs, o, rfl, h1, hd, t⟩ := r.ptup
    exact ⟨a, vs, rfl, .inl (.inr ⟨o, S.sub _ _ h1⟩), t, .ptup h1 hd t⟩
  | _ => cases h
theorem r2_catP : R2F X (rCatP X.K) gCatP := fun B env ds σ Hf H d1 d2 d x y Q S r1 r2 e q => by
  unfold gCatP at e
  split at e
  · rename_i xs ys e1 e2
    split at e
    · rename_i hz
      cases e
      obtain ⟨a, vs, rfl, h1, t1, p1⟩ := tup_of S r1 e1
      obtain ⟨b, ws, rfl, h2, t2, p2⟩ := tup_of S r2 e2
      have l1 := t1.length
      have l2 := t2.length
      refine ⟨a, b, vs, ws, rfl, rfl, h1, h2, sz_ok (by omega), fun z1 => ?_, fun z1 z2 => ?_, fun z1 z2 => ?_⟩
      · subst z1
        cases t1
        exact q.now S p2
      · subst z2
        cases t2
        cases t1 with
        | nil => exact absurd rfl z1
        | cons _ _ => exact q.now S p1
      · cases t1 with
        | nil => exact absurd rfl z1
        | cons r1 t1 =>
          cases t2 with
          | nil => exact absurd rfl z2
          | cons r2 t2 => exact fun p o hp hd => q.ptup S ((RpL.cons r1 t1).append (.cons r2 t2)) hd p hp
    · cases e
  · cases e
/-! t[a:b] -/
def rSlP (K : PySem.W.Frag) : V → Option Int → Option Int → Hp → VK → Prop := fun x lo hi H Q => ∃ a xs, x = .ref a ∧ SqT K H a xs ∧
  (HT.sIx xs.length 0 lo = 0 ∧ HT.sIx xs.length xs.length hi = xs.length → Q (.ref a) H) ∧ (¬ (HT.sIx xs.length 0 lo = 0 ∧ HT.sIx xs.length xs.length hi = xs.length) → ∀ (p : Addr) (o : Obj), H p = none → o.dict = none → Q (.ref p) (upd H p (.frz o (.tup (cutV xs lo hi)))))
theorem sl_tupP : SlR X (rSlP X.K) := by
  intro pins s σ H x v vl vu lo hi sl Q I rx hs pl pu h
  obtain ⟨a, xs, rfl, hx, q1, q2⟩ := h
  by_cases hw : HT.sIx xs.length 0 lo = 0 ∧ HT.sIx xs.length xs.length hi = xs.length
  · cases rx
    obtain ⟨its, r, ht, hz⟩ := I.tuple hx
    have hlen : its.toArray.size = xs.length := by rw [List.size_toArray]; exact r.length.symm
    refine ⟨"tuple", _, PyProof.Rows.slot_tuple_getitem.lookup, ht.typeIs, ?_⟩
    exact getItem_tuple_whole ht hs pl pu (by rw [hlen]; exact hw) ⟨.ref a, H, I, rfl, q1 hw⟩
  · cases rx
    obtain ⟨its, r, ht, hz⟩ := I.tuple hx
    have hlen : its.toArray.size = xs.length := by rw [List.size_toArray]; exact r.length.symm
    refine ⟨"tuple", _, PyProof.Rows.slot_tuple_getitem.lookup, ht.typeIs, ?_⟩
    refine HT.getItem_tuple_cut ht hs pl pu (by rw [hlen]; exact hw) ?_ (by rw [hlen]; exact hz)
    rw [hlen]
    refine ⟨.ref s.heap.objs.size, _, I.laid (t' := s.toks) (o := .frz { cls := .type "tuple", data := .seq (List.take (HT.sIx xs.length xs.length hi - HT.sIx xs.length 0 lo) (List.drop (HT.sIx xs.length 0 lo) its.toArray.toList)).toArray } (.tup (cutV xs lo hi))) (fun b ob q => Heap.get?_push_of_some _ q) (Nat.le_refl _) ?_, rfl, q2 hw _ _ (I.hok.fresh (Nat.le_refl _)) rfl⟩
    exact ⟨Heap.get?_push_size _ rfl, Nat.le_trans (cutV_length xs lo hi) hz, _, (r.drop (HT.sIx xs.length 0 lo)).take (HT.sIx xs.length xs.length hi - HT.sIx xs.length 0 lo), IsTup.new _ _⟩
def dSlP (f : Den) (lo hi : Option Den) : Den := fun env ds => bnd (f env ds) fun a s => bnd (dPart lo env s) fun l s1 => bnd (dPart hi env s1) fun u s2 => match tupD? a with
  | some xs => some (if HT.sIx xs.length 0 l = 0 ∧ HT.sIx xs.length xs.length u = xs.length then a else .ptup (cutD xs l u), s2)
  | none => none
theorem evf_sliceP {a : Expr} {f : Den} {pos : Pos} {lo hi : Option Expr} {fl fh : Option Den} {p2 : Pos} (ha : EvR X a f) (hl : EvP X lo fl) (hh : EvP X hi fh) : EvF X (.Subscript a (.Slice lo hi none p2) pos) (dSlP f fl fh) := fun B env ds σ Hf H d ds' S hf Q q => by
  obtain ⟨v1, s1, e1, e⟩ := bnd_eq hf
  obtain ⟨l, s2, e2, e⟩ := bnd_eq e
  obtain ⟨u, s3, e3, e⟩ := bnd_eq e
  obtain ⟨tl, pl, kl⟩ := hl
  obtain ⟨th, ph, kh⟩ := hh
  refine SE.of (pe_slice sl_tupP (pe_se X a) pl ph) ?_
  refine ha B env ds σ Hf H _ _ S e1 _ fun x Hf1 H1 g1 S1 r1 => kl B env s1 σ Hf1 H1 _ _ S1 e2 _ fun Hf2 H2 g2 S2 => kh B env s2 σ Hf2 H2 _ _ S2 e3 _ fun Hf3 H3 g3 S3 => ?_
  split at e
  · rename_i xs ex
    cases e
    have g := (g1.trans g2).trans g3
    obtain ⟨p, vs, rfl, h1, t, rp⟩ := tup_of S3 ((r1.up g2).up g3) ex
    refine ⟨p, vs, rfl, h1, fun w => ?_, fun w => ?_⟩
    · rw [t.length] at w
      rw [if_pos w] at q
      exact q _ _ _ g S3 rp
    · rw [t.length] at w
      rw [if_neg w] at q
      exact fun p o hp hd => (q.step g).ptup S3 (t.cut l u) hd p hp
  · cases e
/-! (a, b) -/
def tTupP (t : TA) : TE := fun σ H Q => t σ H fun xs H1 => xs.length ≤ sizeLine ∧ ∀ (p : Addr) (o : Obj), H1 p = none → o.dict = none → Q (.ref p) (upd H1 p (.frz o (.tup xs)))
theorem pe_tupP {es : List Expr} {t : TA} {pos : Pos} {x1} (h : PA X es t) : PE X (.Tuple es x1 pos) (tTupP t) := by
  refine ⟨fun pins s σ H Q I hq => ?_⟩
  refine wpAny_Tuple_spliced (thn (h.run pos pins s σ H _ I hq) fun us s1 ⟨xs, H1, I1, r, z, q⟩ => ⟨by rw [← r.length]; exact z, ?_⟩)
  have hf : H1 s1.heap.objs.size = none := I1.hok.fresh (Nat.le_refl _)
  refine ⟨.ref s1.heap.objs.size, upd H1 s1.heap.objs.size (.frz { cls := .type "tuple", data := .seq us.toArray } (.tup xs)), I1.laid (t' := s1.toks) (fun b u e => Heap.get?_push_of_some _ e) (Nat.le_refl _) ?_, rfl, q _ _ hf rfl⟩
  exact ⟨Heap.get?_push_size _ rfl, z, us, r, ⟨_, Heap.get?_push_size _ rfl, rfl, _, rfl⟩⟩
def dTupP (g : DenA) : Den := fun env ds => bnd (g env ds) fun r s => if r.length ≤ 100000 then some (.ptup r, s) else none
theorem evf_tupP {es : List Expr} {g : DenA} {pos : Pos} {x1} (h : EvA X es g) : EvF X (.Tuple es x1 pos) (dTupP g) := fun B env ds σ Hf H d ds' S hf Q q => by
  obtain ⟨v1, s1, e1, e⟩ := bnd_eq hf
  split at e
  · rename_i hz
    cases e
    refine SE.of (pe_tupP (pa_sa X es)) (h B env ds σ Hf H _ _ S e1 _ fun xs Hf1 H1 g1 S1 r1 => ⟨by rw [r1.length]; exact sz_ok hz, fun p o hp hd => (q.step g1).ptup S1 r1 hd p hp⟩)
  · cases e
/-! tuple(range(..)) -/
def tTupRgP (te : St → Hp → (Int → Int → Hp → Prop) → Prop) : TE := fun σ H Q => te σ H fun a b H1 => RgOk a b ∧ ∀ (q : Addr) (o : Obj), H1 q = none → o.dict = none → Q (.ref q) (upd H1 q (.frz o (.tup (rgV a b))))
theorem pe_tupRgP {e : Expr} {te} {p pos : Pos} (hc : X.calm = true) (hg : Gl X "tuple") (hm : X.mg "tuple" = none) (he : PRg X e te) (na : starEach [e] X.env = (false, eval e X.env) :: starEach [] X.env := by rfl) : PE X (.Call (.Name "tuple" p) [e] [] pos) (tTupRgP te) := by
  refine ⟨fun pins s σ H Q I h => ?_⟩
  refine Call_ (ld_blt I hg hm boot_tuple (PyProof.Rows.callWith_type1 (args_cons (thn (he pins s σ H _ I h) fun x s1 ⟨r, a, b, t, u, v, H1, ex, hr, I1, ok, q⟩ => args_nil ?_) na) na))
  subst ex
  obtain ⟨b1, b2, b3, b4, b5⟩ := ok
  refine call_tuple_range (n := (b - a).toNat) (I1.ok.hd hc) hr (small_one b1 b2 b3 b4) (rangeSize_nat a b) b5 fun h' tk acc hk hi => ?_
  have I2 : Inv X pins σ H1 { s1 with heap := h', toks := tk } := I1.kept hk
  refine ⟨.ref h'.objs.size, upd H1 h'.objs.size (.frz { cls := .type "tuple", data := .seq acc } (.tup (rgV a b))), I2.laid (t' := tk) (fun c o e => Heap.get?_push_of_some _ e) (Nat.le_refl _) (show ObjOk X.prog X.w _ _ _ (.frz _ (.tup (rgV a b))) from ⟨Heap.get?_push_size _ rfl, ?_, acc.toList, vals_rg hi, ?_⟩), rfl, q _ _ (I2.hok.fresh (Nat.le_refl _)) rfl⟩
  · rw [rgV_length, sizeLine_eq]; omega
  · rw [Array.toArray_toList]; exact IsTup.new _ _
def dTupIP (g : DenA) : Den := fun env ds => bnd (g env ds) fun xs s => if xs.length ≤ 100000 then some (.ptup xs, s) else none
theorem evf_tupRgP {e : Expr} {g : DenA} {p pos : Pos} (hc : X.calm = true) (hm : X.mg "tuple" = none) (he : EvRg X e g) (hg : Gl X "tuple" := by rfl) (hs : starEach [e] X.env = (false, eval e X.env) :: starEach [] X.env := by rfl) : EvF X (.Call (.Name "tuple" p) [e] [] pos) (dTupIP g) := fun B env ds σ Hf H d ds' S hf Q q => by
  obtain ⟨te, pt, kt⟩ := he
  obtain ⟨items, s1, e1, e2⟩ := bnd_eq hf
  split at e2
  · cases e2
    refine SE.of (pe_tupRgP hc hg hm pt hs) (kt B env ds σ Hf H _ _ S e1 _ fun a b Hf1 H1 g1 S1 hb ei => ?_)
    refine ⟨⟨by omega, by omega, by omega, by omega, by omega⟩, fun l o hl hd => ?_⟩
    rw [ei] at q
    exact (q.step g1).ptup S1 (rgV_rpl a b) hd l hl
  · cases e2
end
end L2.Dn
set_option Elab.async false
set_option linter.all false
set_option maxRecDepth 100000
/-! tuple(range(a, b, -1)), a plain tuple -/
namespace L2.Dn
open PySem PySem.Spec PyProof.Rows C8
section
variable {X : Cx} {a b e : Expr} {f h : Den} {g : DenA} {p pos : Pos}
theorem evf_tupRg3P {p2 pos2 p3 p4 : Pos} {k : Nat} (hc : X.calm = true) (hm : X.mg "tuple" = none) (hmr : X.mg "range" = none) (ha : EvR X a f) (hb : EvR X b h) (hg : Gl X "tuple" := by rfl) (hgr : Gl X "range" := by rfl)
    (hs0 : starEach [.Call (.Name "range" p2) [a, b, .UnaryOp .USub (.Constant (.int 1) k p3) p4] [] pos2] X.env = (false, eval (.Call (.Name "range" p2) [a, b, .UnaryOp .USub (.Constant (.int 1) k p3) p4] [] pos2) X.env) :: starEach [] X.env := by rfl)
    (hs : starEach [a, b, .UnaryOp .USub (.Constant (.int 1) k p3) p4] X.env = (false, eval a X.env) :: starEach [b, .UnaryOp .USub (.Constant (.int 1) k p3) p4] X.env := by rfl) (hs1 : starEach [b, .UnaryOp .USub (.Constant (.int 1) k p3) p4] X.env = (false, eval b X.env) :: starEach [.UnaryOp .USub (.Constant (.int 1) k p3) p4] X.env := by rfl)
    (hs2 : starEach [.UnaryOp .USub (.Constant (.int 1) k p3) p4] X.env = (false, eval (.UnaryOp .USub (.Constant (.int 1) k p3) p4) X.env) :: starEach [] X.env := by rfl) (hpl : (backTo pos2 (starEach [b, .UnaryOp .USub (.Constant (.int 1) k p3) p4] X.env)).any (·.1) = false := by rfl) :
    EvF X (.Call (.Name "tuple" p) [.Call (.Name "range" p2) [a, b, .UnaryOp .USub (.Constant (.int 1) k p3) p4] [] pos2] [] pos) (dTupIP (dRg3 f h)) := fun B env ds σ Hf H d ds' S hf Q q => by
  obtain ⟨items, s3, e0, e2⟩ := bnd_eq hf
  split at e2
  · cases e2
    obtain ⟨v1, s1, e1, e⟩ := bnd_eq e0
    obtain ⟨v2, s2, e3, e⟩ := bnd_eq e
    cases v1 with
    | int i =>
      cases v2 with
      | int j =>
        have e : (if -100000 < i ∧ i < 100000 ∧ -100000 < j ∧ j < 100000 then some (rgS i (-1) (i - j).toNat, s2) else none) = some (items, ds') := e
        split at e
        · rename_i hn
          cases e
          intro pins s I
          have hneg : EvF X (.UnaryOp .USub (.Constant (.int 1) k p3) p4) (d1 gNeg (dC (.int 1))) := evf_neg (EvF.r evf_int)
          refine Call_ (ld_blt I hg hm boot_tuple (PyProof.Rows.callWith_type1 (args_cons ?_ hs0) hs0))
          refine Call_ (ld_blt I hgr hmr boot_range (PyProof.Rows.callWith_type1 (args_cons (thn (ha B env ds σ Hf H _ _ S e1 (fun x H1 => x = .int i ∧ ∃ Hf1, Gr B Hf H Hf1 H1 ∧ SR B X.K env s1 σ Hf1 H1) (fun v Hf1 H1 g1 S1 r1 => by cases r1.int; exact ⟨rfl, Hf1, g1, S1⟩) pins s I) fun v sA ⟨x, H1, I1, r1, ex, Hf1, g1, S1⟩ =>
            args_cons (thn (hb B env s1 σ Hf1 H1 _ _ S1 e3 (fun x H2 => x = .int j ∧ ∃ Hf2, Gr B Hf1 H1 Hf2 H2 ∧ SR B X.K env ds' σ Hf2 H2) (fun v Hf2 H2 g2 S2 r2 => by cases r2.int; exact ⟨rfl, Hf2, g2, S2⟩) pins sA I1) fun v2 sB ⟨x2, H2, I2, r2, ex2, Hf2, g2, S2⟩ =>
            args_cons (thn (hneg B env ds' σ Hf2 H2 (.int (-1)) ds' S2 rfl (fun x H3 => x = .int (-1) ∧ ∃ Hf3, Gr B Hf2 H2 Hf3 H3 ∧ SR B X.K env ds' σ Hf3 H3) (fun v Hf3 H3 g3 S3 r3 => by cases r3; exact ⟨rfl, Hf3, g3, S3⟩) pins sB I2) fun v3 sC ⟨x3, H3, I3, r3, ex3, Hf3, g3, S3⟩ => args_nil ?_) hs2) hs1) hs) hs hpl))
          subst ex ex2 ex3
          obtain ⟨t, rfl⟩ := r1
          obtain ⟨t', rfl⟩ := r2
          obtain ⟨t'', rfl⟩ := r3
          have hgc := RgC.neg (i := i) (j := j) (by omega) (by omega) (by omega) (by omega)
          obtain ⟨c0, c1, c2, c3⟩ := hgc
          refine call_range_3 c0 ?_ (.inl (PyProof.noPylong_small c1))
          have I4 : Inv X pins σ H3 { sC with heap := sC.heap.push { cls := .type "range", data := .fields #[.int i t, .int j t', .int (-1) t''] } } := I3.kept (t' := sC.toks) fun b o e => Heap.get?_push_of_some _ e
          refine args_nil ?_
          refine call_tuple_range (n := (i - j).toNat) (I3.ok.hd hc) (IsRange.new ..) c2 c3 (by omega) fun h' tk acc hk hi => ?_
          have I5 : Inv X pins σ H3 { sC with heap := h', toks := tk } := I4.kept hk
          have rv : Vals ((List.range (i - j).toNat).map fun m => V.int (i + (m : Nat) * (-1))) acc.toList := by
            have e : acc.toList.length = (i - j).toNat := by rw [Array.length_toList]; exact hi.1
            rw [← e]
            refine vals_of_get acc.toList _ fun m u hm => ?_
            obtain ⟨t, rfl⟩ := hi.2 m u (by rw [← hm, Array.getElem?_toList])
            exact ⟨t, rfl⟩
          have qq := (q.step ((g1.trans g2).trans g3)).ptup S3 (rgS_rp (Hf := Hf3) (-1) (i - j).toNat i) (o := { cls := .type "tuple", data := .seq acc }) rfl
          refine ⟨.ref h'.objs.size, upd H3 h'.objs.size (.frz { cls := .type "tuple", data := .seq acc } (.tup ((List.range (i - j).toNat).map fun m => V.int (i + (m : Nat) * (-1))))), I5.laid (t' := tk) (fun c o e => Heap.get?_push_of_some _ e) (Nat.le_refl _) ⟨Heap.get?_push_size _ rfl, ?_, acc.toList, rv, ?_⟩, rfl, qq _ I5.fresh⟩
          · rw [List.length_map, List.length_range, sizeLine_eq]; omega
          · rw [Array.toArray_toList]; exact IsTup.new _ _
        · cases e
      | _ => cases e
    | _ => cases e
  · cases e2
end
end L2.Dn
set_option Elab.async false
set_option linter.all false
set_option maxRecDepth 100000
set_option maxHeartbeats 1000000
/-! zip of a list and a tuple, walked -/
namespace L2.Dn
open PySem PySem.Spec PyProof.Rows
section
variable {prog : Program} {w : World} {A : Around} {E : Value → Shared → Prop} {s : Shared} {zz pI pO j1 j2 m1 m2 : Addr} {k1 k2 : Nat} {xs ys : Array Value} {a b : Value}
abbrev But4 (zz pO j1 j2 : Addr) (h h' : Heap) : Prop := ∀ c o, c ≠ zz → c ≠ pO → c ≠ j1 → c ≠ j2 → h.get? c = some o → h'.get? c = some o
/-- where the objects of a zip stand: the list's iterator and the tuple's at their items -/
structure ZAt (h : Heap) (zz pI pO j1 j2 m1 m2 : Addr) (f0 a b : Value) (k1 k2 : Nat) : Prop where
  z : IsZip h zz pI pO f0
  i : IsPair h pI (.ref j1) (.ref j2)
  o : IsPair h pO a b
  l : h.IsListIter j1 m1 k1
  t : h.IsTupleIter j2 m2 k2
theorem zipM_item {x y : Value} {Q : Value → Shared → Prop} (D : ZipApart zz pI pO j1 j2 m1 m2) (st : ZAt s.heap zz pI pO j1 j2 m1 m2 .none a b k1 k2) (q1 : s.heap.IsList m1 xs) (q2 : s.heap.IsTuple m2 ys) (ex : xs[k1]? = some x) (ey : ys[k2]? = some y)
    (go : ∀ h', IsZip h' zz pI pO (rawInt s.heap.objs.size) → IsPair h' pO x y → h'.IsListIter j1 m1 (k1 + 1) → h'.IsTupleIter j2 m2 (k2 + 1) → IsPair h' s.heap.objs.size x y → But4 zz pO j1 j2 s.heap h' → Q (.ref s.heap.objs.size) { s with heap := h' }) :
    wpAny (model prog w) A (Builtin.«zip.__next__» ⟨[.ref zz], []⟩) (fun fin s' => ∃ v, fin = .done (.ret v) ∧ Q v s') E s := by
  obtain ⟨z0, i0, o0, l0, t0⟩ := st
  show wpAny (model prog w) A (field (.ref zz) 2 >>= _) _ E s; refine wpAny_bind (wpAny_field z0 rfl (x := .bool false) rfl ?_)
  show wpAny (model prog w) A (field (.ref zz) 3 >>= _) _ E s; refine wpAny_bind (wpAny_field z0 rfl (x := .ref pI) rfl (wpAny_bind (wpAny_seqItems i0 rfl ?_)))
  show wpAny (model prog w) A (Builtin.SmallTypes.ownedTupleIsFree (.ref zz) >>= _) _ E s; refine wpAny_bind ?_; unfold Builtin.SmallTypes.ownedTupleIsFree
  refine wpAny_bind (wpAny_field z0 rfl (x := .none) rfl (wpAny_pure ?_)); simp only [if_true]; refine wpAny_bind (wpAny_rule (wpAny_bind (wpAny_field z0 rfl (x := .ref pO) rfl ?_)))
  refine wpAny_bind (wpAny_setField_rec z0 (by simp) fun g1 z1 sb1 => ?_)
  have z1 : IsZip g1 zz pI pO .ellipsis := z1
  refine wpAny_bind ?_; simp only [List.zipIdx_cons, List.zipIdx_nil, List.forIn_cons, List.forIn_nil]; refine wpAny_bind (wpAny_bind (wpAny_onRaise ?_))
  show wpAny (model prog w) A (Builtin.SmallTypes.nextOf (.ref j1) >>= _) _ _ _
  refine wpAny_bind (wpAny_nextOf_list_item (l0.extBut sb1.extBut D.i1z) (q1.extBut sb1.extBut D.l1z) ex fun g2 l2 sb2 => wpAny_pure ?_)
  have o2 : IsPair g2 pO a b := sb2.extBut _ _ D.TOi1 (sb1.extBut _ _ D.TOz o0)
  refine wpAny_bind (wpAny_seqItems o2 rfl (wpAny_bind (wpAny_updateSeq_pair o2 fun g3 o3 sb3 => ?_)))
  have o3 : IsPair g3 pO x b := o3
  refine wpAny_bind (wpAny_letGo (wpAny_pure (wpAny_bind (wpAny_bind (wpAny_onRaise ?_)))))
  show wpAny (model prog w) A (Builtin.SmallTypes.nextOf (.ref j2) >>= _) _ _ _
  refine wpAny_bind (RZ.nextOf_tuple_item (((t0.extBut sb1.extBut D.i2z).extBut sb2.extBut D.i12.symm).extBut sb3.extBut D.TOi2.symm) (((q2.extBut sb1.extBut D.l2z).extBut sb2.extBut D.l2i1).extBut sb3.extBut D.l2TO) ey fun g4 t4 sb4 => wpAny_pure ?_)
  have o4 : IsPair g4 pO x b := sb4.extBut _ _ D.TOi2 o3
  refine wpAny_bind (wpAny_seqItems o4 rfl (wpAny_bind (wpAny_updateSeq_pair o4 fun g5 o5 sb5 => ?_)))
  have o5 : IsPair g5 pO x y := o5
  refine wpAny_bind (wpAny_letGo (wpAny_pure (wpAny_pure (wpAny_bind (wpAny_seqItems o5 rfl (wpAny_bind (wpAny_newTuple ?_)))))))
  have sz : g5.objs.size = s.heap.objs.size := sb5.1.trans (sb4.1.trans (sb3.1.trans (sb2.1.trans sb1.1)))
  have z5 : IsZip g5 zz pI pO .ellipsis := sb5.extBut _ _ D.TOz.symm (sb4.extBut _ _ D.i2z.symm (sb3.extBut _ _ D.TOz.symm (sb2.extBut _ _ D.i1z.symm z1)))
  have b5 : But4 zz pO j1 j2 s.heap g5 := fun c o n1 n2 n3 n4 e => sb5.extBut _ _ n2 (sb4.extBut _ _ n4 (sb3.extBut _ _ n2 (sb2.extBut _ _ n3 (sb1.extBut _ _ n1 e))))
  have l5 : g5.IsListIter j1 m1 (k1 + 1) := ((l2.extBut sb3.extBut D.TOi1.symm).extBut sb4.extBut D.i12).extBut sb5.extBut D.TOi1.symm
  have t5 : g5.IsTupleIter j2 m2 (k2 + 1) := t4.extBut sb5.extBut D.TOi2.symm
  have zlt : zz < g5.objs.size := Heap.lt_size z5
  show wpAny (model prog w) A (Builtin.SmallTypes.ownedTupleHandOut (.ref zz) (.ref g5.objs.size) >>= _) _ _ _; refine wpAny_bind ?_; unfold Builtin.SmallTypes.ownedTupleHandOut
  have z6 : IsZip (g5.push { cls := .type "tuple", data := .seq #[x, y] }) zz pI pO .ellipsis := Heap.get?_push_of_some _ z5
  refine wpAny_bind (wpAny_setField_rec z6 (by simp) fun g7 z7 sb7 => ?_)
  have z7 : IsZip g7 zz pI pO (rawInt g5.objs.size) := z7
  refine wpAny_setField_rec z7 (by simp) fun g8 z8 sb8 => ?_
  have z8 : IsZip g8 zz pI pO (rawInt g5.objs.size) := z8
  have up : ∀ c o, c ≠ zz → g5.get? c = some o → g8.get? c = some o := fun c o n e => sb8.extBut _ _ n (sb7.extBut _ _ n (Heap.get?_push_of_some _ e))
  have t8 : IsPair g8 g5.objs.size x y := sb8.extBut _ _ (Nat.ne_of_gt zlt) (sb7.extBut _ _ (Nat.ne_of_gt zlt) (Heap.get?_push_size _ rfl))
  rw [sz] at z8 t8
  refine wpAny_pure ⟨_, rfl, ?_⟩
  show Q (.ref g5.objs.size) _
  rw [sz]
  exact go g8 z8 (up _ _ D.TOz o5) (l5.at fun o e => up _ o D.i1z e) (t5.at fun o e => up _ o D.i2z e) t8 fun c o n1 n2 n3 n4 e => up c o n1 (b5 c o n1 n2 n3 n4 e)
theorem zipM_end {Q : PySem.Fin → Shared → Prop} (hh : A.handled = none) (D : ZipApart zz pI pO j1 j2 m1 m2) (st : ZAt s.heap zz pI pO j1 j2 m1 m2 .none a b k1 k2) (q1 : s.heap.IsList m1 xs) (q2 : s.heap.IsTuple m2 ys) (en : xs[k1]? = none ∨ ys[k2]? = none)
    (go : ∀ h' e, But4 zz pO j1 j2 s.heap h' → (∃ o, h'.get? e = some o ∧ o.cls = .type "StopIteration") → E (.ref e) { s with heap := h' }) :
    wpAny (model prog w) A (Builtin.«zip.__next__» ⟨[.ref zz], []⟩) Q E s := by
  obtain ⟨z0, i0, o0, l0, t0⟩ := st
  show wpAny (model prog w) A (field (.ref zz) 2 >>= _) _ E s; refine wpAny_bind (wpAny_field z0 rfl (x := .bool false) rfl ?_)
  show wpAny (model prog w) A (field (.ref zz) 3 >>= _) _ E s; refine wpAny_bind (wpAny_field z0 rfl (x := .ref pI) rfl (wpAny_bind (wpAny_seqItems i0 rfl ?_)))
  show wpAny (model prog w) A (Builtin.SmallTypes.ownedTupleIsFree (.ref zz) >>= _) _ E s; refine wpAny_bind ?_; unfold Builtin.SmallTypes.ownedTupleIsFree
  refine wpAny_bind (wpAny_field z0 rfl (x := .none) rfl (wpAny_pure ?_)); simp only [if_true]; refine wpAny_bind (wpAny_rule (wpAny_bind (wpAny_field z0 rfl (x := .ref pO) rfl ?_)))
  refine wpAny_bind (wpAny_setField_rec z0 (by simp) fun g1 z1 sb1 => ?_)
  have z1 : IsZip g1 zz pI pO .ellipsis := z1
  refine wpAny_bind ?_; simp only [List.zipIdx_cons, List.zipIdx_nil, List.forIn_cons, List.forIn_nil]; refine wpAny_bind (wpAny_bind (wpAny_onRaise ?_))
  show wpAny (model prog w) A (Builtin.SmallTypes.nextOf (.ref j1) >>= _) _ _ _
  cases ex : xs[k1]? with
  | none =>
    refine wpAny_bind (wpAny_nextOf_list_end hh (l0.extBut sb1.extBut D.i1z) (q1.extBut sb1.extBut D.l1z) ex fun g2 e sb2 he => ?_)
    obtain ⟨oe, e1, e2⟩ := he
    have z2 : IsZip g2 zz pI pO .ellipsis := sb2 _ _ D.i1z.symm z1
    have nz : e ≠ zz := fun q => by subst q; rw [z2] at e1; cases e1; simp at e2
    refine wpAny_setField_rec z2 (by simp) fun g3 _ sb3 => go g3 e (fun c o n1 _ n3 _ e => sb3.extBut _ _ n1 (sb2 _ _ n3 (sb1.extBut _ _ n1 e))) ⟨oe, sb3.extBut _ _ nz e1, e2⟩
  | some x =>
    have ey : ys[k2]? = none := en.resolve_left fun z => by rw [ex] at z; cases z
    refine wpAny_bind (wpAny_nextOf_list_item (l0.extBut sb1.extBut D.i1z) (q1.extBut sb1.extBut D.l1z) ex fun g2 l2 sb2 => wpAny_pure ?_)
    have o2 : IsPair g2 pO a b := sb2.extBut _ _ D.TOi1 (sb1.extBut _ _ D.TOz o0)
    refine wpAny_bind (wpAny_seqItems o2 rfl (wpAny_bind (wpAny_updateSeq_pair o2 fun g3 o3 sb3 => ?_)))
    refine wpAny_bind (wpAny_letGo (wpAny_pure (wpAny_bind (wpAny_bind (wpAny_onRaise ?_)))))
    show wpAny (model prog w) A (Builtin.SmallTypes.nextOf (.ref j2) >>= _) _ _ _
    refine wpAny_bind (RZ.nextOf_tuple_end hh (((t0.extBut sb1.extBut D.i2z).extBut sb2.extBut D.i12.symm).extBut sb3.extBut D.TOi2.symm) (((q2.extBut sb1.extBut D.l2z).extBut sb2.extBut D.l2i1).extBut sb3.extBut D.l2TO) ey fun g4 e sb4 he => ?_)
    obtain ⟨oe, e1, e2⟩ := he
    have z4 : IsZip g4 zz pI pO .ellipsis := sb4 _ _ D.i2z.symm (sb3.extBut _ _ D.TOz.symm (sb2.extBut _ _ D.i1z.symm z1))
    have nz : e ≠ zz := fun q => by subst q; rw [z4] at e1; cases e1; simp at e2
    refine wpAny_setField_rec z4 (by simp) fun g5 _ sb5 => go g5 e (fun c o n1 n2 n3 n4 e => sb5.extBut _ _ n1 (sb4 _ _ n4 (sb3.extBut _ _ n2 (sb2.extBut _ _ n3 (sb1.extBut _ _ n1 e))))) ⟨oe, sb5.extBut _ _ nz e1, e2⟩
theorem pyNext_zipM_item {x y : Value} {Q : Option Value → Shared → Prop} (D : ZipApart zz pI pO j1 j2 m1 m2) (st : ZAt s.heap zz pI pO j1 j2 m1 m2 .none a b k1 k2) (q1 : s.heap.IsList m1 xs) (q2 : s.heap.IsTuple m2 ys) (ex : xs[k1]? = some x) (ey : ys[k2]? = some y)
    (go : ∀ h', IsZip h' zz pI pO (rawInt s.heap.objs.size) → IsPair h' pO x y → h'.IsListIter j1 m1 (k1 + 1) → h'.IsTupleIter j2 m2 (k2 + 1) → IsPair h' s.heap.objs.size x y → But4 zz pO j1 j2 s.heap h' → Q (some (.ref s.heap.objs.size)) { s with heap := h' }) :
    wpAny (model prog w) A (pyNext (.ref zz)) Q E s := by
  have ty : s.TypeIs (.ref zz) "zip" := ⟨_, st.z, rfl⟩
  unfold pyNext
  exact wpAny_bind (wpAny_attempt (wpAny_callSpecial?_slot (name := Str.ofString "__next__") ty F.slot_zip_next (wpAny_call_entry F.slot_zip_next ty F.entry_zip_next (zipM_item D st q1 q2 ex ey fun h' c1 c2 c3 c4 c5 c6 => wpAny_pure (go h' c1 c2 c3 c4 c5 c6)) (F.args_zip_next_1 _))))
theorem pyNext_zipM_end {Q : Option Value → Shared → Prop} (hh : A.handled = none) (D : ZipApart zz pI pO j1 j2 m1 m2) (st : ZAt s.heap zz pI pO j1 j2 m1 m2 .none a b k1 k2) (q1 : s.heap.IsList m1 xs) (q2 : s.heap.IsTuple m2 ys) (en : xs[k1]? = none ∨ ys[k2]? = none)
    (go : ∀ h', But4 zz pO j1 j2 s.heap h' → Q none { s with heap := h' }) : wpAny (model prog w) A (pyNext (.ref zz)) Q E s := by
  have ty : s.TypeIs (.ref zz) "zip" := ⟨_, st.z, rfl⟩
  unfold pyNext
  refine wpAny_bind (wpAny_attempt (wpAny_callSpecial?_slot (name := Str.ofString "__next__") ty F.slot_zip_next (wpAny_call_entry F.slot_zip_next ty F.entry_zip_next (zipM_end hh D st q1 q2 en fun h' e bt he => ?_) (F.args_zip_next_1 _))))
  obtain ⟨oe, e1, e2⟩ := he
  exact wpAny_bind (wpAny_isInstance (T := "StopIteration") (b := true) ⟨oe, e1, e2⟩ isSubtype_stop (wpAny_pure (go _ bt)))
end
abbrev zmH1 (h : Heap) (l1 : Addr) : Heap := h.push { cls := .type "list_iterator", data := .fields #[.ref l1, .int 0 0] }
abbrev zmH2 (h : Heap) (l1 l2 : Addr) : Heap := (zmH1 h l1).push { cls := .type "tuple_iterator", data := .fields #[.ref l2, .int 0 0] }
abbrev zmH3 (h : Heap) (l1 l2 : Addr) : Heap := (zmH2 h l1 l2).push { cls := .type "tuple", data := .seq #[.ref h.objs.size, .ref (zmH1 h l1).objs.size] }
abbrev zmH4 (h : Heap) (l1 l2 : Addr) : Heap := (zmH3 h l1 l2).push { cls := .type "tuple", data := .seq #[.none, .none] }
abbrev zmH5 (h : Heap) (l1 l2 : Addr) : Heap := (zmH4 h l1 l2).push { cls := .type "zip", data := .fields #[.none, .bool false, .bool false, .ref (zmH2 h l1 l2).objs.size, .ref (zmH3 h l1 l2).objs.size] }
theorem meets_zipM (l1 l2 : Addr) (xs ys : Array Value) : Meets (Builtin.«zip.__new__» ⟨[.type "zip", .ref l1, .ref l2], []⟩) (fun _ R s => s.heap.IsList l1 xs ∧ s.heap.IsTuple l2 ys ∧ R (.ok (.ret (.ref (zmH4 s.heap l1 l2).objs.size))) { s with heap := zmH5 s.heap l1 l2 }) := .of_wp fun prog w A R s h => by
  obtain ⟨hp, g, d, tk, os⟩ := s; obtain ⟨q1, q2, h⟩ := h
  have subz := PySem.sub_zip
  have c1 : Heap.IsList (Shared.heap ⟨hp, g, d, tk, os⟩) l1 xs := q1
  have c2 : Heap.IsTuple (Shared.heap ⟨hp.push { cls := .type "list_iterator", data := .fields #[.ref l1, .int 0 0] }, g, d, tk, os⟩) l2 ys := Heap.IsTuple.push q2 _
  wp_walk using wpAny_pyIter_list c1, wpAny_pyIter_tuple c2
  exact ⟨_, rfl, h⟩
theorem call_zipM {prog : Program} {w : World} {A : Around} {E : Value → Shared → Prop} {s : Shared} {l1 l2 : Addr} {xs ys : Array Value} {Q : Value → Shared → Prop} (q1 : s.heap.IsList l1 xs) (q2 : s.heap.IsTuple l2 ys)
    (go : ∀ h', ZAt h' (s.heap.objs.size + 4) (s.heap.objs.size + 2) (s.heap.objs.size + 3) s.heap.objs.size (s.heap.objs.size + 1) l1 l2 .none .none .none 0 0 → (∀ c o, s.heap.get? c = some o → h'.get? c = some o) → Q (.ref (s.heap.objs.size + 4)) { s with heap := h' }) :
    wpAny (model prog w) A (call (.type "zip") [.ref l1, .ref l2]) Q E s := by
  refine callType_new F.called_zip (by decide) (F.typeCall_zip_2 _ _) (F.newCall_zip_2 _ _) (fun obj => F.args_object_init_3 obj _ _) F.entry_zip_new (meets_zipM l1 l2 xs ys) ⟨q1, q2, ?_⟩
  have n1 : (zmH1 s.heap l1).objs.size = s.heap.objs.size + 1 := Heap.size_push ..
  have n2 : (zmH2 s.heap l1 l2).objs.size = s.heap.objs.size + 2 := by rw [Heap.size_push, n1]
  have n3 : (zmH3 s.heap l1 l2).objs.size = s.heap.objs.size + 3 := by rw [Heap.size_push, n2]
  have n4 : (zmH4 s.heap l1 l2).objs.size = s.heap.objs.size + 4 := by rw [Heap.size_push, n3]
  have u5 : (zmH5 s.heap l1 l2).get? (zmH4 s.heap l1 l2).objs.size = some _ := Heap.get?_push_size _ rfl
  have u4 : (zmH5 s.heap l1 l2).get? (zmH3 s.heap l1 l2).objs.size = some _ := Heap.get?_push_of_some _ (Heap.get?_push_size _ rfl)
  have u3 : (zmH5 s.heap l1 l2).get? (zmH2 s.heap l1 l2).objs.size = some _ := Heap.get?_push_of_some _ (Heap.get?_push_of_some _ (Heap.get?_push_size _ rfl))
  have u2 : (zmH5 s.heap l1 l2).get? (zmH1 s.heap l1).objs.size = some _ := Heap.get?_push_of_some _ (Heap.get?_push_of_some _ (Heap.get?_push_of_some _ (Heap.get?_push_size _ rfl)))
  have u1 : (zmH5 s.heap l1 l2).get? s.heap.objs.size = some _ := Heap.get?_push_of_some _ (Heap.get?_push_of_some _ (Heap.get?_push_of_some _ (Heap.get?_push_of_some _ (Heap.get?_push_size _ rfl))))
  show _ ∧ _
  rw [n2, n3, n4] at u5
  rw [n1, n2] at u3
  rw [n3] at u4
  rw [n1] at u2
  rw [n4]
  exact ⟨⟨_, u5, rfl⟩, go _ ⟨u5, u3, u4, ⟨_, u1, rfl, rfl⟩, ⟨_, u2, rfl, rfl⟩⟩ fun c o e => Heap.get?_push_of_some _ (Heap.get?_push_of_some _ (Heap.get?_push_of_some _ (Heap.get?_push_of_some _ (Heap.get?_push_of_some _ e))))⟩
def ItzM (K : PySem.W.Frag) (a b : Addr) : It :=
  ⟨fun i H => ∃ (xs ys : List V) (x y : V), SqL K H a xs ∧ SqT K H b ys ∧ xs[i]? = some x ∧ ys[i]? = some y, fun i H v H' => ∃ T x y, v = .ref T ∧ H T = none ∧ H' = upd H T (.tup [x, y]) ∧ (∀ xs, SqL K H a xs → xs[i]? = some x) ∧ ∀ ys, SqT K H b ys → ys[i]? = some y, fun i H => ∃ xs ys : List V, SqL K H a xs ∧ SqT K H b ys ∧ (xs.length ≤ i ∨ ys.length ≤ i)⟩
theorem turn_zipM {P : Program} {w : World} {K : PySem.W.Frag} {elts : List Expr} {kk : Nat} {tpos : Pos} {a b zz pI pO j1 j2 : Addr} (D : ZipApart zz pI pO j1 j2 a b) : Turn P w K (.Tuple elts kk tpos) (ItzM K a b) [zz, pI, pO, j1, j2] zz (fun i h => ∃ x y, ZAt h zz pI pO j1 j2 a b .none x y i i) where
  mem := by simp
  obj := fun i h ⟨x, y, st⟩ c hc => by
    obtain ⟨o1, e1, _, d1⟩ := st.l
    obtain ⟨o2, e2, _, d2⟩ := st.t
    simp only [List.mem_cons, List.not_mem_nil, or_false] at hc
    rcases hc with rfl | rfl | rfl | rfl | rfl
    · exact ⟨_, st.z, fun v q => nomatch q⟩
    · exact ⟨_, st.i, fun v q => nomatch q⟩
    · exact ⟨_, st.o, fun v q => nomatch q⟩
    · exact ⟨o1, e1, fun v q => by rw [d1] at q; cases q⟩
    · exact ⟨o2, e2, fun v q => by rw [d2] at q; cases q⟩
  keep := fun i h h' ⟨x, y, st⟩ k => ⟨x, y, k zz (by simp) _ st.z, k pI (by simp) _ st.i, k pO (by simp) _ st.o, st.l.at fun o q => k j1 (by simp) o q, st.t.at fun o q => k j2 (by simp) o q⟩
  item := by
    intro X hP hw hK hc i pins s σ H E I hf ⟨x0, y0, st⟩ hg
    subst hP hw hK
    obtain ⟨xs, ys, x, y, hqx, hqy, hx, hy⟩ := hg
    obtain ⟨its, rv, p, _⟩ := I.list hqx
    obtain ⟨its2, rv2, p2, _⟩ := I.tuple hqy
    obtain ⟨u, hu, ru⟩ := rv.get hx
    obtain ⟨u2, hu2, ru2⟩ := rv2.get hy
    have hzl : zz < s.heap.objs.size := Heap.lt_size st.z
    refine pyNext_zipM_item D st p.isList p2 (x := u) (y := u2) (by simpa using hu) (by simpa using hu2) fun h' z' o' l' t' hT hk => ?_
    refine ⟨_, rfl, wpAny_letOwnedTupleGo_zip (s := { s with heap := h' }) z' fun h'' z'' sb => ?_⟩
    have hT2 : h''.get? s.heap.objs.size = some { cls := .type "tuple", data := .seq #[u, u2] } := (sb.2 _ (Nat.ne_of_gt hzl)).trans hT
    have new : ObjOk X.prog X.w (upd H s.heap.objs.size (.tup [x, y])) h'' s.heap.objs.size (.tup [x, y]) := ⟨by show 2 ≤ sizeLine; decide, [u, u2], .cons ru (.cons ru2 .nil), ⟨_, hT2, rfl, _, rfl⟩⟩
    have not4 : ∀ {c : Addr}, c ∉ [zz, pI, pO, j1, j2] → c ≠ zz ∧ c ≠ pO ∧ c ≠ j1 ∧ c ≠ j2 := fun {c} n => by
      simp only [List.mem_cons, List.not_mem_nil, or_false, not_or] at n
      exact ⟨n.1, n.2.2.1, n.2.2.2.1, n.2.2.2.2⟩
    have I1 : Inv X pins σ (upd H s.heap.objs.size (.tup [x, y])) { s with heap := h'' } := I.turnedNew (t' := s.toks) (ch := [zz, pI, pO, j1, j2]) (fun c o hb q => by
      obtain ⟨n1, n2, n3, n4⟩ := not4 hb
      exact (sb.2 c n1).trans (hk c o n1 n2 n3 n4 q)) hf (Nat.le_refl _) new
    refine ⟨.ref s.heap.objs.size, _, I1, rfl, ⟨_, x, y, rfl, I.hok.fresh (Nat.le_refl _), rfl, fun l hl => ?_, fun l hl => by rw [I.tuple_inj hl hqy]; exact hy⟩, ⟨u, u2, z'', ?_, ?_, ?_, ?_⟩, fun c hcm => ?_⟩
    · rw [I.list_inj hl hqx]; exact hx
    · exact (sb.2 _ D.TIz).trans (hk _ _ D.TIz D.TITO D.TIi1 D.TIi2 st.i)
    · exact (sb.2 _ D.TOz).trans o'
    · exact l'.at fun o q => (sb.2 _ D.i1z).trans q
    · exact t'.at fun o q => (sb.2 _ D.i2z).trans q
    · have hlt : c < s.heap.objs.size := by
        obtain ⟨o1, e1, _⟩ := st.l
        obtain ⟨o2, e2, _⟩ := st.t
        simp only [List.mem_cons, List.not_mem_nil, or_false] at hcm
        rcases hcm with rfl | rfl | rfl | rfl | rfl
        · exact hzl
        · exact Heap.lt_size st.i
        · exact Heap.lt_size st.o
        · exact Heap.lt_size e1
        · exact Heap.lt_size e2
      rw [upd_ne (Nat.ne_of_lt hlt)]
      exact (hf c hcm).1
  done := by
    intro X hP hw hK hc i pins s σ H E I hf ⟨x0, y0, st⟩ hg
    subst hP hw hK
    obtain ⟨xs, ys, hqx, hqy, hend⟩ := hg
    obtain ⟨its, rv, p, _⟩ := I.list hqx
    obtain ⟨its2, rv2, p2, _⟩ := I.tuple hqy
    have l1 := rv.length
    have l2 := rv2.length
    have he : its.toArray[i]? = none ∨ its2.toArray[i]? = none := hend.imp (fun q => by simp; omega) (fun q => by simp; omega)
    exact pyNext_zipM_end (I.ok.hd hc) D st p.isList p2 he fun h' hk => ⟨rfl, I.turnedL (t' := s.toks) (ch := [zz, pI, pO, j1, j2]) (fun c o hb q => by
      simp only [List.mem_cons, List.not_mem_nil, or_false, not_or] at hb
      exact hk c o hb.1 hb.2.2.1 hb.2.2.2.1 hb.2.2.2.2 q) hf⟩
  self := fun A i s Q E ⟨x, y, st⟩ h => wpAny_pyIter_zip st.z h
def iZipM (K : PySem.W.Frag) (ta : TA) : TI := fun σ H R => ta σ H fun vs H1 => ∃ a b xs ys, vs = [.ref a, .ref b] ∧ SqL K H1 a xs ∧ SqT K H1 b ys ∧ R (ItzM K a b) H1
theorem pi_zipM {X : Cx} {e e2 : Expr} {ta : TA} {p pos tpos : Pos} {elts : List Expr} {kk : Nat} (hg : Gl X "zip") (hm : X.mg "zip" = none) (ha : PA X [e, e2] ta) (hs : starEach [e, e2] X.env = (false, eval e X.env) :: starEach [e2] X.env := by rfl)
    (hpl : (backTo pos (starEach [e2] X.env)).any (·.1) = false := by rfl) : PI X (.Tuple elts kk tpos) (.Call (.Name "zip" p) [e, e2] [] pos) (iZipM X.K ta) := by
  refine ⟨fun pins s σ H R I h => ?_⟩
  refine Call_ (ld_blt I hg hm PyProof.Rows.boot_zip (PyProof.Rows.callWith_type1 (thn (ha.run pos pins s σ H _ I h) fun us s1 ⟨vs, H1, I1, r1, q1⟩ => ?_) hs hpl))
  obtain ⟨a, b, xs, ys, rfl, hqx, hqy, q⟩ := q1
  obtain ⟨u1, u2, rfl, r2, r3⟩ := vals2 r1
  obtain rfl : u1 = Value.ref a := r2
  obtain rfl : u2 = Value.ref b := r3
  obtain ⟨its, rv, p1, _⟩ := I1.list hqx
  obtain ⟨its2, rv2, p2, _⟩ := I1.tuple hqy
  obtain ⟨o2, ho2, _⟩ := id p2
  refine call_zipM p1.isList p2 fun h' st hk => wpAny_pyIter_zip st.z ?_
  refine ⟨s1.heap.objs.size + 4, [s1.heap.objs.size + 4, s1.heap.objs.size + 2, s1.heap.objs.size + 3, s1.heap.objs.size, s1.heap.objs.size + 1], _, _, H1, rfl, I1.kept (t' := s1.toks) hk, turn_zipM (PySem.W.ktu_apart s1.heap.objs.size a b p1.lt (Heap.lt_size ho2)), ⟨_, _, st⟩, fun c hcm => ?_, q⟩
  have hle : s1.heap.objs.size ≤ c := by
    simp only [List.mem_cons, List.not_mem_nil, or_false] at hcm
    rcases hcm with rfl | rfl | rfl | rfl | rfl
    · exact Nat.le_add_right _ _
    · exact Nat.le_add_right _ _
    · exact Nat.le_add_right _ _
    · exact Nat.le_refl _
    · exact Nat.le_add_right _ _
  exact I1.fpOk hle (I1.hok.fresh hle)
theorem yl_zipM {B : Bs} {K : PySem.W.Frag} {a b : Addr} {vs ws : List V} {xs ys : List D} {Hf0 : Hp} (hx : ∀ H, Same Hf0 H → SqL K H a vs) (hy : ∀ H, Same Hf0 H → SqT K H b ws) (r : RpL Hf0 vs xs) (r2 : RpL Hf0 ws ys) : Yl B K (ItzM K a b) (zipD xs ys) Hf0 := fun i env ds σ Hf H s S => by
  have l1 := r.length
  have l2 := r2.length
  have qx := hx H (s.trans S.sub)
  have qy := hy H (s.trans S.sub)
  rw [zipD_len]
  refine ⟨fun hi => ?_, fun hi => ⟨vs, ws, qx, qy, by omega⟩⟩
  obtain ⟨v, e1, r1⟩ := r.get (List.getElem?_eq_getElem (show i < xs.length by omega))
  obtain ⟨w, e2, r3⟩ := r2.get (List.getElem?_eq_getElem (show i < ys.length by omega))
  refine ⟨⟨vs, ws, v, w, qx, qy, e1, e2⟩, fun x H' y d hd => ?_⟩
  obtain ⟨T, v', w', rfl, nT, rfl, y1, y2⟩ := y
  have z1 := y1 vs qx
  have z2 := y2 ws qy
  rw [e1] at z1
  rw [e2] at z2
  cases z1
  cases z2
  rw [zipD_get _ _ _ _ _ (List.getElem?_eq_getElem (show i < xs.length by omega)) (List.getElem?_eq_getElem (show i < ys.length by omega))] at hd
  cases hd
  have nf := sub_none S nT
  have F := S.fre nT
  exact ⟨_, (Gr.refl.hp nT).fz nT nf, (S.hp nf F).fz nf upd_same F, .tup upd_same ((RpL.cons (r1.up s) (.cons (r3.up s) .nil)).up (same_fz nf))⟩
/-- zip(list, tuple) -/
def zipW : D → D → Option (List D)
  | .list xs, b => match tupD? b with
    | some ys => some (zipD xs ys)
    | none => none
  | _, _ => none
def dZipM (f h : Den) : DenA := fun env ds => bnd (f env ds) fun a s => bnd (h env s) fun b s1 => op1 (zipW a b) s1
theorem evi_zipM {X : Cx} {e e2 : Expr} {f h : Den} {p pos tpos : Pos} {elts : List Expr} {kk : Nat} (hm : X.mg "zip" = none) (hf : EvF X e f) (hb : EvF X e2 h) (hg : Gl X "zip" := by rfl) (hs : starEach [e, e2] X.env = (false, eval e X.env) :: starEach [e2] X.env := by rfl) (hs2 : starEach [e2] X.env = (false, eval e2 X.env) :: starEach [] X.env := by rfl)
    (hpl : (backTo pos (starEach [e2] X.env)).any (·.1) = false := by rfl) : EvI X (.Tuple elts kk tpos) (.Call (.Name "zip" p) [e, e2] [] pos) (dZipM f h) := fun B env ds σ Hf H items ds' S he R q => by
  obtain ⟨v1, s1, e1, e3⟩ := bnd_eq he
  obtain ⟨v2, s2, e4, e5⟩ := bnd_eq e3
  obtain ⟨e6, rfl⟩ := op1_eq e5
  refine SI.of (pi_zipM hg hm (pa_cons (pe_se X _) (pa_cons (pe_se X _) pa_nil hs2) hs) hs hpl) (hf B env ds σ Hf H _ _ S e1 _ fun v Hf1 H1 g1 S1 r1 => hb B env s1 σ Hf1 H1 _ _ S1 e4 _ fun w Hf2 H2 g2 S2 r2 => ?_)
  have r1' := r1.up g2.ff
  unfold zipW at e6
  split at e6
  · split at e6
    · rename_i ys hy
      cases e6
      obtain ⟨b, ws, rfl, t2, q2⟩ := tupD_rp r2 hy
      cases r1' with
      | lst h1 t1 =>
        exact ⟨_, _, _, _, rfl, .inl (.inl (S2.sub _ _ h1)), q2 _ _ S2.sub, q _ _ _ (g1.trans g2) S2 (yl_zipM (fun H s => .inl (.inl (s _ _ h1))) (q2 _) t1 t2)⟩
    · cases e6
  · cases e6
end L2.Dn
set_option Elab.async false
set_option linter.all false
set_option maxRecDepth 100000
set_option maxHeartbeats 0
namespace Hd
open PySem PySem.Spec PyProof.Rows L2
def top (i : Nat) : Stmt := PySem.Challenge.pw_crosswires_k67_across_cuts_along_drawing.main.body.getD i (.Pass ⟨0, 0, 0, 0⟩)
def mk (x : Str) (i : Nat) : He.DefD := ⟨(x, none), x, x, defArgs (top i), defBody (top i), defScope (top i), [], []⟩
def fn : List He.DefD := [mk "is_number" 10, mk "need_wires" 14, mk "is_drawing_of" 15, mk "need_drawing" 16, mk "short_drawing" 17, mk "swapped" 18, mk "places_by" 19, mk "ends_by" 20, mk "crossed_by" 21, mk "ends" 22, mk "joined" 23, mk "are_exponents" 27, mk "is_polynomial_of" 28, mk "need_polynomial" 29, mk "without_noughts" 30, mk "cut_by" 33, mk "cut_along" 34, mk "is_sequence_of" 36, mk "need_sequence" 37, mk "need_two" 38, mk "back_by" 39, mk "then_by" 40, mk "back" 41, mk "then" 42, mk "greatest" 43, mk "first_by" 45, mk "twice_by" 46, mk "first_shortest" 47, mk "is_shortest" 48, mk "sum_by" 50, mk "sum_of" 51, mk "_law_begun" 53, mk "_law_mixed" 54, mk "_law_take" 55, mk "_law_pick" 56, mk "_law_shuffled" 57, mk "_law_sequence" 58, mk "_law_swapped" 59, mk "_law_ends" 60, mk "_law_many" 61, mk "_law_shortest" 62, mk "_law_drawing" 63, mk "_law_kept" 64, mk "_law_cut" 65, mk "_law_sum" 66, mk "_law_polynomial" 67, mk "law" 68]
def fa : List He.Fa := [.glo "is_number", .glo "need_wires", .glo "is_drawing_of", .glo "need_drawing", .glo "short_drawing", .glo "swapped", .glo "places_by", .glo "ends_by", .glo "crossed_by", .glo "ends", .glo "joined", .glo "are_exponents", .glo "is_polynomial_of", .glo "need_polynomial", .glo "without_noughts", .glo "cut_by", .glo "cut_along", .glo "is_sequence_of", .glo "need_sequence", .glo "need_two", .glo "back_by", .glo "then_by", .glo "back", .glo "then", .glo "greatest", .glo "first_by", .glo "twice_by", .glo "first_shortest", .glo "is_shortest", .glo "sum_by", .glo "sum_of", .glo "_law_begun", .glo "_law_mixed", .glo "_law_take", .glo "_law_pick", .glo "_law_shuffled", .glo "_law_sequence", .glo "_law_swapped", .glo "_law_ends", .glo "_law_many", .glo "_law_shortest", .glo "_law_drawing", .glo "_law_kept", .glo "_law_cut", .glo "_law_sum", .glo "_law_polynomial", .glo "law", .free "abs", .free "all", .free "bool", .free "dict", .free "enumerate", .free "int", .free "isinstance", .free "len", .free "list", .free "max", .free "min", .free "range", .free "sorted", .free "sum", .free "tuple", .free "zip", .int "MOST_WIRES" 6, .int "MOST_CROSSINGS" 60, .int "UNKNOWNS" 5, .int "MOST_EXPONENT" 60, .int "WIRES" 5]
abbrev R : PySem.W.OpenRow := PySem.W.OpenLaw.row PySem.Challenge.rw_crosswires_k67_across_cuts_along_drawing
abbrev hk : PySem.W.Hook := He.hookD 4 fa fn
def ob (s : PySem.W.SharedT) : He.AlD := He.obsDG 4 fa fn (HandSHeadRun.getT s)
theorem ob_eq (s : PySem.W.SharedT) : ob s = hk.obs s.abs := He.obsDG_eq (HandSHeadRun.getT_eq s)
def loose : List PySem.Str := (["WireError", "BadDrawing", "BadOne", "BadOther", "BadPolynomial", "BadSequence", "BadWires", "TooMany", "is_number", "MOST_WIRES", "MOST_CROSSINGS", "need_wires", "is_drawing_of", "need_drawing", "short_drawing", "swapped", "places_by", "ends_by", "crossed_by", "ends", "joined", "UNKNOWNS", "MOST_EXPONENT", "are_exponents", "is_polynomial_of", "need_polynomial", "without_noughts", "WIRES", "cut_by", "cut_along"] : List PySem.Str) ++ (["is_sequence_of", "need_sequence", "need_two", "back_by", "then_by", "back", "then", "greatest", "first_by", "twice_by", "first_shortest", "is_shortest", "sum_by", "sum_of", "_law_begun", "_law_mixed", "_law_take", "_law_pick", "_law_shuffled", "_law_sequence", "_law_swapped", "_law_ends", "_law_many", "_law_shortest", "_law_drawing", "_law_kept", "_law_cut", "_law_sum", "_law_polynomial"] : List PySem.Str)
theorem run (w : World) : HandSHeadRun.RunEq R (PySem.W.view R.prog [68]) hk ob 60000 loose w := by
  intro os
  kernel_rfl
end Hd
set_option Elab.async false
set_option linter.all false
set_option maxRecDepth 100000
set_option maxHeartbeats 0
namespace L2.Dn
open PySem PySem.Spec PyProof.Rows C8
def N_is_number : List Str := ["thing"]
def d_is_number : DenS := dSeq (dRet (dAnd (dIsi .int (dRd 0)) (dNot (dIsi .bool (dRd 0))))) (dNx)
def f_is_number : List D → Option D := fnP N_is_number.length d_is_number
def N_need_wires : List Str := ["wires"]
def d_need_wires : DenS := dSeq (dIfS (tOrD (tNotD (dTest (dCallP 1 f_is_number (aCons (dVar 0) (aNil))))) (tNotD (dTest (d3 gLe gLe (dC (.int 1)) (dRd 0) (dC (.int 6)))))) (dSeq (dDead) (dNx)) (dNx)) (dNx)
def f_need_wires : List D → Option D := fnP N_need_wires.length d_need_wires
def N_is_drawing_of : List Str := ["wires", "thing", "crossing"]
def d_is_drawing_of : DenS := dSeq (dIfS (tOrD (tNotD (dTest (dIsi .tuple (dRd 1)))) (dTest (d2 gGt (dB gLen (aCons (dRd 1) (aNil))) (dC (.int 60))))) (dSeq (dRet (dC (.bool false))) (dNx)) (dNx)) (dSeq (dRet (dB gAll (aCons (dLc (dItems (dVar 1)) [2] (gNm 2) (tYesD) (dAnd (dCallP 1 f_is_number (aCons (dVar 2) (aNil))) (d3 gLe gLt (dC (.int 1)) (dRd 2) (dRd 0)))) (aNil)))) (dNx))
def f_is_drawing_of : List D → Option D := fnP N_is_drawing_of.length d_is_drawing_of
def N_need_drawing : List Str := ["wires", "drawing"]
def d_need_drawing : DenS := dSeq (dDropS (dCallP 1 f_need_wires (aCons (dVar 0) (aNil)))) (dSeq (dIfS (tNotD (dTest (dCallP 2 f_is_drawing_of (aCons (dVar 0) (aCons (dVar 1) (aNil)))))) (dSeq (dDead) (dNx)) (dNx)) (dNx))
def f_need_drawing : List D → Option D := fnP N_need_drawing.length d_need_drawing
def N_short_drawing : List Str := ["many"]
def d_short_drawing : DenS := dSeq (dIfS (dTest (d2 gGt (dRd 0) (dC (.int 60)))) (dSeq (dDead) (dNx)) (dNx)) (dNx)
def f_short_drawing : List D → Option D := fnP N_short_drawing.length d_short_drawing
def N_swapped : List Str := ["sequence", "at"]
def d_swapped : DenS := dSeq (dRet (d2 gAdd (d2 gAdd (dSl (dRd 0) none (some (d2 gSub (dRd 1) (dC (.int 1))))) (dTup (aCons (d2 gIx (dRd 0) (dRd 1)) (aCons (d2 gIx (dRd 0) (d2 gSub (dRd 1) (dC (.int 1)))) (aNil))))) (dSl (dRd 0) (some (d2 gAdd (dRd 1) (dC (.int 1)))) none))) (dNx)
def f_swapped : List D → Option D := fnP N_swapped.length d_swapped
def N_places_by : List Str := ["wires", "drawing", "found", "crossing"]
def d_places_by : DenS := dSeq (dSet 2 true (dLst (aCons (dTupI (dRg2 (dC (.int 1)) (d2 gAdd (dRd 0) (dC (.int 1))))) (aNil)))) (dSeq (dFor (dItems (dVar 1)) (gNm 3) (dSeq (dApp 2 (dCallP 2 f_swapped (aCons (d2 gIx (dRd 2) (d1 gNeg (dC (.int 1)))) (aCons (dVar 3) (aNil))))) (dNx))) (dSeq (dFrz 2 (dRet (dVar 2))) (dNx)))
def f_places_by : List D → Option D := fnP N_places_by.length d_places_by
def N_ends_by : List Str := ["wires", "drawing"]
def d_ends_by : DenS := dSeq (dRet (d2 gIx (dCallP 2 f_places_by (aCons (dVar 0) (aCons (dVar 1) (aNil)))) (d1 gNeg (dC (.int 1))))) (dNx)
def f_ends_by : List D → Option D := fnP N_ends_by.length d_ends_by
def N_crossed_by : List Str := ["wires", "drawing", "lines", "line", "at"]
def d_crossed_by : DenS := dSeq (dSet 2 false (dCallP 2 f_places_by (aCons (dVar 0) (aCons (dVar 1) (aNil))))) (dSeq (dRet (dLc (dZipM (dVar 2) (dVar 1)) [3, 4] (gTp (gsCons (gNm 3) (gsCons (gNm 4) (gsNil)))) (tYesD) (dB gTupS (aCons (dB gSorted (aCons (dSl (dRd 3) (some (d2 gSub (dRd 4) (dC (.int 1)))) (some (d2 gAdd (dRd 4) (dC (.int 1))))) (aNil))) (aNil))))) (dNx))
def f_crossed_by : List D → Option D := fnP N_crossed_by.length d_crossed_by
def N_ends : List Str := ["wires", "drawing"]
def d_ends : DenS := dSeq (dDropS (dCallP 2 f_need_drawing (aCons (dVar 0) (aCons (dVar 1) (aNil))))) (dSeq (dRet (dCallP 2 f_ends_by (aCons (dVar 0) (aCons (dVar 1) (aNil))))) (dNx))
def f_ends : List D → Option D := fnP N_ends.length d_ends
def N_joined : List Str := ["wires", "one", "other"]
def d_joined : DenS := dSeq (dDropS (dCallP 1 f_need_wires (aCons (dVar 0) (aNil)))) (dSeq (dIfS (tNotD (dTest (dCallP 2 f_is_drawing_of (aCons (dVar 0) (aCons (dVar 1) (aNil)))))) (dSeq (dDead) (dNx)) (dNx)) (dSeq (dIfS (tNotD (dTest (dCallP 2 f_is_drawing_of (aCons (dVar 0) (aCons (dVar 2) (aNil)))))) (dSeq (dDead) (dNx)) (dNx)) (dSeq (dDropS (dCallP 1 f_short_drawing (aCons (d2 gAdd (dB gLen (aCons (dRd 1) (aNil))) (dB gLen (aCons (dRd 2) (aNil)))) (aNil)))) (dSeq (dRet (d2 gAdd (dRd 1) (dRd 2))) (dNx)))))
def f_joined : List D → Option D := fnP N_joined.length d_joined
def N_are_exponents : List Str := ["thing", "one"]
def d_are_exponents : DenS := dSeq (dIfS (tOrD (tNotD (dTest (dIsi .tuple (dRd 0)))) (dTest (d2 gNeU (dB gLen (aCons (dRd 0) (aNil))) (dC (.int 5))))) (dSeq (dRet (dC (.bool false))) (dNx)) (dNx)) (dSeq (dRet (dB gAll (aCons (dLc (dItems (dVar 0)) [1] (gNm 1) (tYesD) (dAnd (dCallP 1 f_is_number (aCons (dVar 1) (aNil))) (d3 gLe gLe (dC (.int 0)) (dRd 1) (dC (.int 60))))) (aNil)))) (dNx))
def f_are_exponents : List D → Option D := fnP N_are_exponents.length d_are_exponents
def N_is_polynomial_of : List Str := ["thing", "row", "number"]
def d_is_polynomial_of : DenS := dSeq (dIfS (tOrD (tNotD (dTest (dIsi .dict (dRd 0)))) (tNotD (dTest (dB gAll (aCons (dLc (dItems (dVar 0)) [1] (gNm 1) (tYesD) (dCallP 1 f_are_exponents (aCons (dVar 1) (aNil)))) (aNil)))))) (dSeq (dRet (dC (.bool false))) (dNx)) (dNx)) (dSeq (dRet (dB gAll (aCons (dLc (dIt valsD (dVar 0)) [2] (gNm 2) (tYesD) (dAnd (dCallP 1 f_is_number (aCons (dVar 2) (aNil))) (d2 gNeU (dRd 2) (dC (.int 0))))) (aNil)))) (dNx))
def f_is_polynomial_of : List D → Option D := fnP N_is_polynomial_of.length d_is_polynomial_of
def N_need_polynomial : List Str := ["polynomial"]
def d_need_polynomial : DenS := dSeq (dIfS (tNotD (dTest (dCallP 1 f_is_polynomial_of (aCons (dVar 0) (aNil))))) (dSeq (dDead) (dNx)) (dNx)) (dNx)
def f_need_polynomial : List D → Option D := fnP N_need_polynomial.length d_need_polynomial
def N_without_noughts : List Str := ["rows", "row", "number"]
def d_without_noughts : DenS := dSeq (dRet (dDc (dIt itemsD (dVar 0)) [1, 2] (gTp (gsCons (gNm 1) (gsCons (gNm 2) (gsNil)))) (dTest (d2 gNeU (dRd 2) (dC (.int 0)))) (dVar 1) (dVar 2))) (dNx)
def f_without_noughts : List D → Option D := fnP N_without_noughts.length d_without_noughts
def N_cut_by : List Str := ["rows", "at", "found", "row", "number", "one", "other", "sign", "low", "high", "more", "late"]
def d_cut_by : DenS := dSeq (dSet 2 true (dC (.dT []))) (dSeq (dFor (dIt itemsD (dVar 0)) (gTp (gsCons (gNm 3) (gsCons (gNm 4) (gsNil)))) (dSeq (dPar 5 6 false false (d2 gIx (dRd 3) (d2 gSub (dRd 1) (dC (.int 1)))) (d2 gIx (dRd 3) (dRd 1))) (dSeq (dAsg (dIf (dTest (d2 gGt (dRd 5) (dRd 6))) (dTup (aCons (dC (.int 1)) (aCons (dVar 6) (aCons (dVar 5) (aNil))))) (dTup (aCons (d1 gNeg (dC (.int 1))) (aCons (dVar 5) (aCons (dVar 6) (aNil)))))) (gTp (gsCons (gNm 7) (gsCons (gNm 8) (gsCons (gNm 9) (gsNil)))))) (dSeq (dFor (dRg1 (d2 gSub (dRd 9) (dRd 8))) (gNm 10) (dSeq (dSet 11 false (d2 gAdd (d2 gAdd (dSl (dRd 3) none (some (d2 gSub (dRd 1) (dC (.int 1))))) (dTup (aCons (d2 gAdd (dRd 8) (dRd 10)) (aCons (d2 gSub (d2 gSub (dRd 9) (dC (.int 1))) (dRd 10)) (aNil))))) (dSl (dRd 3) (some (d2 gAdd (dRd 1) (dC (.int 1)))) none))) (dSeq (dPut 2 (d2 gAdd (dGet2 (dRd 2) (dRd 11) (dC (.int 0))) (d2 gMul (dRd 7) (dRd 4))) (dRd 11)) (dNx)))) (dNx))))) (dSeq (dFrz 2 (dRet (dCallP 1 f_without_noughts (aCons (dVar 2) (aNil))))) (dNx)))
def f_cut_by : List D → Option D := fnP N_cut_by.length d_cut_by
def N_cut_along : List Str := ["polynomial", "drawing", "found", "at"]
def d_cut_along : DenS := dSeq (dDropS (dCallP 1 f_need_polynomial (aCons (dVar 0) (aNil)))) (dSeq (dIfS (tNotD (dTest (dCallP 2 f_is_drawing_of (aCons (dC (.int 5)) (aCons (dVar 1) (aNil)))))) (dSeq (dDead) (dNx)) (dNx)) (dSeq (dSet 2 false (dVar 0)) (dSeq (dFor (dItems (dVar 1)) (gNm 3) (dSeq (dSet 2 false (dCallP 2 f_cut_by (aCons (dVar 2) (aCons (dVar 3) (aNil))))) (dNx))) (dSeq (dRet (dB gDict (aCons (dRd 2) (aNil)))) (dNx)))))
def f_cut_along : List D → Option D := fnP N_cut_along.length d_cut_along
def N_is_sequence_of : List Str := ["thing", "wire"]
def d_is_sequence_of : DenS := dSeq (dIfS (tOrD (tNotD (dTest (dIsi .tuple (dRd 0)))) (tNotD (dTest (d3 gLe gLe (dC (.int 1)) (dB gLen (aCons (dRd 0) (aNil))) (dC (.int 6)))))) (dSeq (dRet (dC (.bool false))) (dNx)) (dNx)) (dSeq (dRet (dAnd (dB gAll (aCons (dLc (dItems (dVar 0)) [1] (gNm 1) (tYesD) (dCallP 1 f_is_number (aCons (dVar 1) (aNil)))) (aNil))) (d2 gEqU (dB gSorted (aCons (dRd 0) (aNil))) (dLstI (dRg2 (dC (.int 1)) (d2 gAdd (dB gLen (aCons (dRd 0) (aNil))) (dC (.int 1)))))))) (dNx))
def f_is_sequence_of : List D → Option D := fnP N_is_sequence_of.length d_is_sequence_of
def N_need_sequence : List Str := ["sequence"]
def d_need_sequence : DenS := dSeq (dIfS (tNotD (dTest (dCallP 1 f_is_sequence_of (aCons (dVar 0) (aNil))))) (dSeq (dDead) (dNx)) (dNx)) (dNx)
def f_need_sequence : List D → Option D := fnP N_need_sequence.length d_need_sequence
def N_need_two : List Str := ["one", "other"]
def d_need_two : DenS := dSeq (dIfS (tNotD (dTest (dCallP 1 f_is_sequence_of (aCons (dVar 0) (aNil))))) (dSeq (dDead) (dNx)) (dNx)) (dSeq (dIfS (tOrD (tNotD (dTest (dCallP 1 f_is_sequence_of (aCons (dVar 1) (aNil))))) (dTest (d2 gNeU (dB gLen (aCons (dRd 1) (aNil))) (dB gLen (aCons (dRd 0) (aNil)))))) (dSeq (dDead) (dNx)) (dNx)) (dNx))
def f_need_two : List D → Option D := fnP N_need_two.length d_need_two
def N_back_by : List Str := ["sequence", "wire"]
def d_back_by : DenS := dSeq (dRet (dB gTupS (aCons (dLc (dRg2 (dC (.int 1)) (d2 gAdd (dB gLen (aCons (dRd 0) (aNil))) (dC (.int 1)))) [1] (gNm 1) (tYesD) (d2 gAdd (d2 gIdx (dVar 0) (dRd 1)) (dC (.int 1)))) (aNil)))) (dNx)
def f_back_by : List D → Option D := fnP N_back_by.length d_back_by
def N_then_by : List Str := ["one", "other", "place"]
def d_then_by : DenS := dSeq (dRet (dB gTupS (aCons (dLc (dItems (dVar 1)) [2] (gNm 2) (tYesD) (d2 gIx (dRd 0) (d2 gSub (dRd 2) (dC (.int 1))))) (aNil)))) (dNx)
def f_then_by : List D → Option D := fnP N_then_by.length d_then_by
def N_back : List Str := ["sequence"]
def d_back : DenS := dSeq (dDropS (dCallP 1 f_need_sequence (aCons (dVar 0) (aNil)))) (dSeq (dRet (dCallP 1 f_back_by (aCons (dVar 0) (aNil)))) (dNx))
def f_back : List D → Option D := fnP N_back.length d_back
def N_then : List Str := ["one", "other"]
def d_then : DenS := dSeq (dDropS (dCallP 2 f_need_two (aCons (dVar 0) (aCons (dVar 1) (aNil))))) (dSeq (dRet (dCallP 2 f_then_by (aCons (dVar 0) (aCons (dVar 1) (aNil))))) (dNx))
def f_then : List D → Option D := fnP N_then.length d_then
def N_greatest : List Str := ["wires"]
def d_greatest : DenS := dSeq (dDropS (dCallP 1 f_need_wires (aCons (dVar 0) (aNil)))) (dSeq (dRet (dTupI (dRg3 (dRd 0) (dC (.int 0))))) (dNx))
def f_greatest : List D → Option D := fnP N_greatest.length d_greatest
def N_first_by : List Str := ["sequence", "found", "wire", "behind", "late", "many"]
def d_first_by : DenS := dSeq (dSet 1 true (dLst (aNil))) (dSeq (dFor (dRg2 (dC (.int 2)) (d2 gAdd (dB gLen (aCons (dRd 0) (aNil))) (dC (.int 1)))) (gNm 2) (dSeq (dSet 3 false (dB gLen (aCons (dLc (dItems (dSl (dRd 0) (some (d2 gIdx (dVar 0) (dRd 2))) none)) [4] (gNm 4) (dTest (d2 gLt (dRd 4) (dRd 2))) (dVar 4)) (aNil)))) (dSeq (dExt 1 (dLc (dRg1 (dRd 3)) [5] (gNm 5) (tYesD) (d2 gSub (d2 gSub (dRd 2) (dC (.int 1))) (dRd 5)))) (dNx)))) (dSeq (dRet (dB gTupS (aCons (dRd 1) (aNil)))) (dNx)))
def f_first_by : List D → Option D := fnP N_first_by.length d_first_by
def N_twice_by : List Str := ["wires", "drawing", "seen", "at", "pair"]
def d_twice_by : DenS := dSeq (dSet 2 true (dC (.dT []))) (dSeq (dFor (dEn1 (dCallP 2 f_crossed_by (aCons (dVar 0) (aCons (dVar 1) (aNil))))) (gTp (gsCons (gNm 3) (gsCons (gNm 4) (gsNil)))) (dSeq (dIfS (dTest (d2 (gInM false) (dRd 4) (dRd 2))) (dSeq (dRet (dTup (aCons (d2 gIx (dRd 2) (dRd 4)) (aCons (dVar 3) (aNil))))) (dNx)) (dNx)) (dSeq (dPut 2 (dVar 3) (dRd 4)) (dNx)))) (dSeq (dRet (dC .none)) (dNx)))
def f_twice_by : List D → Option D := fnP N_twice_by.length d_twice_by
def N_first_shortest : List Str := ["sequence"]
def d_first_shortest : DenS := dSeq (dDropS (dCallP 1 f_need_sequence (aCons (dVar 0) (aNil)))) (dSeq (dRet (dCallP 1 f_first_by (aCons (dVar 0) (aNil)))) (dNx))
def f_first_shortest : List D → Option D := fnP N_first_shortest.length d_first_shortest
def N_is_shortest : List Str := ["wires", "drawing"]
def d_is_shortest : DenS := dSeq (dDropS (dCallP 2 f_need_drawing (aCons (dVar 0) (aCons (dVar 1) (aNil))))) (dSeq (dRet (d2 gIsN (dCallP 2 f_twice_by (aCons (dVar 0) (aCons (dVar 1) (aNil)))) (dC .none))) (dNx))
def f_is_shortest : List D → Option D := fnP N_is_shortest.length d_is_shortest
def N_sum_by : List Str := ["sequence", "many", "here", "road", "at", "rows", "row", "number"]
def d_sum_by : DenS := dSeq (dPar3 1 2 3 false false true (dB gLen (aCons (dRd 0) (aNil))) (dVar 0) (dLst (aNil))) (dSeq (whLoop (dTest (d2 gNeU (dRd 2) (dTupI (dRg3 (dRd 1) (dC (.int 0)))))) (dSeq (dSet 4 false (d2 gIx (dLc (dRg2 (dC (.int 1)) (dRd 1)) [4] (gNm 4) (dTest (d2 gLt (d2 gIx (dRd 2) (d2 gSub (dRd 4) (dC (.int 1)))) (d2 gIx (dRd 2) (dRd 4)))) (dVar 4)) (dC (.int 0)))) (dSeq (dSet 2 false (dCallP 2 f_swapped (aCons (dVar 2) (aCons (dVar 4) (aNil))))) (dSeq (dApp 3 (dVar 4)) (dNx)))) 1000) (dSeq (dSet 5 false (dDisp1 (dB gTupS (aCons (dLc (dRg2 (dC (.int 1)) (d2 gAdd (dC (.int 5)) (dC (.int 2)))) [4] (gNm 4) (tYesD) (dB gMax2 (aCons (d2 gSub (dRd 1) (dRd 4)) (aCons (dC (.int 0)) (aNil))))) (aNil))) (dC (.int 1)))) (dSeq (dFor (dItems (d1 gRevL (dRd 3))) (gNm 4) (dSeq (dSet 5 false (dCallP 2 f_cut_by (aCons (dVar 5) (aCons (dVar 4) (aNil))))) (dNx))) (dSeq (dRet (dDc (dIt itemsD (dVar 5)) [6, 7] (gTp (gsCons (gNm 6) (gsCons (gNm 7) (gsNil)))) (tYesD) (dSl (dRd 6) none (some (dC (.int 5)))) (dVar 7))) (dNx)))))
def f_sum_by : List D → Option D := fnP N_sum_by.length d_sum_by
def N_sum_of : List Str := ["sequence"]
def d_sum_of : DenS := dSeq (dDropS (dCallP 1 f_need_sequence (aCons (dVar 0) (aNil)))) (dSeq (dRet (dCallP 1 f_sum_by (aCons (dVar 0) (aNil)))) (dNx))
def f_sum_of : List D → Option D := fnP N_sum_of.length d_sum_of
def N__law_swapped : List Str := ["sequence", "at", "line"]
def d__law_swapped : DenS := dSeq (dSet 2 true (dB gListS (aCons (dRd 0) (aNil)))) (dSeq (dSwap 2 (dTup (aCons (d2 gIx (dRd 2) (dRd 1)) (aCons (d2 gIx (dRd 2) (d2 gSub (dRd 1) (dC (.int 1)))) (aNil)))) (d2 gSub (dRd 1) (dC (.int 1))) (dRd 1)) (dSeq (dRet (dB gTupS (aCons (dRd 2) (aNil)))) (dNx)))
def f__law_swapped : List D → Option D := fnP N__law_swapped.length d__law_swapped
def N__law_ends : List Str := ["wires", "drawing", "found", "wire", "place", "at"]
def d__law_ends : DenS := dSeq (dSet 2 true (dC (.dK []))) (dSeq (dFor (dRg2 (dC (.int 1)) (d2 gAdd (dRd 0) (dC (.int 1)))) (gNm 3) (dSeq (dSet 4 false (dVar 3)) (dSeq (dFor (dItems (dVar 1)) (gNm 5) (dSeq (dSet 4 false (dIf (dTest (d2 gEqU (dRd 4) (dRd 5))) (d2 gAdd (dRd 5) (dC (.int 1))) (dIf (dTest (d2 gEqU (dRd 4) (d2 gAdd (dRd 5) (dC (.int 1))))) (dVar 5) (dVar 4)))) (dNx))) (dSeq (dPut 2 (dVar 3) (dRd 4)) (dNx))))) (dSeq (dRet (dB gTupS (aCons (dLc (dRg2 (dC (.int 1)) (d2 gAdd (dRd 0) (dC (.int 1)))) [4] (gNm 4) (tYesD) (d2 gIx (dRd 2) (dRd 4))) (aNil)))) (dNx)))
def f__law_ends : List D → Option D := fnP N__law_ends.length d__law_ends
def N__law_many : List Str := ["sequence", "at", "wire", "late"]
def d__law_many : DenS := dSeq (dRet (dB gSum (aCons (dLc (dEn1 (dVar 0)) [1, 2] (gTp (gsCons (gNm 1) (gsCons (gNm 2) (gsNil)))) (tYesD) (dB gLen (aCons (dLc (dItems (dSl (dRd 0) (some (dRd 1)) none)) [3] (gNm 3) (dTest (d2 gLt (dRd 3) (dRd 2))) (dVar 3)) (aNil)))) (aNil)))) (dNx)
def f__law_many : List D → Option D := fnP N__law_many.length d__law_many
def N__law_shortest : List Str := ["draw", "sequence", "found", "here", "at"]
def d__law_shortest : DenS := dSeq (dAsg (dTup (aCons (dLst (aNil)) (aCons (dVar 1) (aNil)))) (gTp (gsCons (gNm 2) (gsCons (gNm 3) (gsNil))))) (dSeq (whLoop (dTest (d2 gGt (dCallP 1 f__law_many (aCons (dVar 3) (aNil))) (dC (.int 0)))) (dSeq (dSet 4 false (dCallD 0 1 f__law_pick (aCons (dLc (dRg2 (dC (.int 1)) (dB gLen (aCons (dRd 3) (aNil)))) [4] (gNm 4) (dTest (d2 gGt (d2 gIx (dRd 3) (d2 gSub (dRd 4) (dC (.int 1)))) (d2 gIx (dRd 3) (dRd 4)))) (dVar 4)) (aNil)))) (dSeq (dAsg (dTup (aCons (d2 gCat (dLst (aCons (dVar 4) (aNil))) (dRd 2)) (aCons (dCallP 2 f__law_swapped (aCons (dVar 3) (aCons (dVar 4) (aNil)))) (aNil)))) (gTp (gsCons (gNm 2) (gsCons (gNm 3) (gsNil))))) (dNx))) 1000) (dSeq (dRet (dB gTupS (aCons (dRd 2) (aNil)))) (dNx)))
def f__law_shortest : List D → DS → Option (D × DS) := fnD N__law_shortest.length d__law_shortest
def N__law_drawing : List Str := ["draw", "wires", "most", "some", "way", "line", "item", "at", "lap"]
def d__law_drawing : DenS := dSeq (dIfS (dTest (d2 gLt (dRd 1) (dC (.int 2)))) (dSeq (dRet (dTup (aNil))) (dNx)) (dNx)) (dSeq (dPar 3 4 false false (dLc (dRg1 (dCallD 0 1 f__law_take (aCons (d2 gAdd (dRd 2) (dC (.int 1))) (aNil)))) [8] (gNm 8) (tYesD) (d2 gAdd (dC (.int 1)) (dCallD 0 1 f__law_take (aCons (d2 gSub (dRd 1) (dC (.int 1))) (aNil))))) (dCallD 0 1 f__law_take (aCons (dC (.int 3)) (aNil)))) (dSeq (dIfS (dTest (d2 gEqU (dRd 4) (dC (.int 0)))) (dSeq (dRet (dB gTupS (aCons (dRd 3) (aNil)))) (dNx)) (dNx)) (dSeq (dSet 5 false (dSlL (dB gListS (aCons (dCallD 0 1 f__law_shortest (aCons (dCallD 0 1 f__law_sequence (aCons (dVar 1) (aNil))) (aNil))) (aNil))) none (some (dRd 2)))) (dSeq (dFor (dItems (dIf (tAndD (dTest (d2 gEqU (dRd 4) (dC (.int 2)))) (dTest (d2 gLe (d2 gAdd (dB gLen (aCons (dRd 5) (aNil))) (dC (.int 4))) (dRd 2)))) (dSlL (dRd 3) none (some (dC (.int 2)))) (dLst (aNil)))) (gNm 6) (dSeq (dSet 7 false (dCallD 0 1 f__law_take (aCons (d2 gAdd (dB gLen (aCons (dRd 5) (aNil))) (dC (.int 1))) (aNil)))) (dSeq (dSet 5 false (d2 gCat (d2 gCat (dSlL (dRd 5) none (some (dRd 7))) (dLst (aCons (dVar 6) (aCons (dVar 6) (aNil))))) (dSlL (dRd 5) (some (dRd 7)) none))) (dNx)))) (dSeq (dRet (dB gTupS (aCons (dRd 5) (aNil)))) (dNx))))))
def f__law_drawing : List D → DS → Option (D × DS) := fnD N__law_drawing.length d__law_drawing
def N__law_kept : List Str := ["found", "key"]
def d__law_kept : DenS := dSeq (dRet (dB gDictP (aCons (dLc (dItems (dVar 0)) [1] (gNm 1) (dTest (d2 gNeU (d2 gIx (dRd 0) (dRd 1)) (dC (.int 0)))) (dTup (aCons (dVar 1) (aCons (d2 gIx (dRd 0) (dRd 1)) (aNil))))) (aNil)))) (dNx)
def f__law_kept : List D → Option D := fnP N__law_kept.length d__law_kept
def N__law_cut : List Str := ["polynomial", "at", "found", "row", "high", "low", "sign", "lap", "late"]
def d__law_cut : DenS := dSeq (dSet 2 true (dC (.dT []))) (dSeq (dFor (dItems (dVar 0)) (gNm 3) (dSeq (dPar 4 5 false false (dB gMax2 (aCons (d2 gIx (dRd 3) (d2 gSub (dRd 1) (dC (.int 1)))) (aCons (d2 gIx (dRd 3) (dRd 1)) (aNil)))) (dB gMin2 (aCons (d2 gIx (dRd 3) (d2 gSub (dRd 1) (dC (.int 1)))) (aCons (d2 gIx (dRd 3) (dRd 1)) (aNil))))) (dSeq (dSet 6 false (dIf (dTest (d2 gGt (d2 gIx (dRd 3) (d2 gSub (dRd 1) (dC (.int 1)))) (d2 gIx (dRd 3) (dRd 1)))) (dC (.int 1)) (d1 gNeg (dC (.int 1))))) (dSeq (dFor (dRg1 (d2 gSub (dRd 4) (dRd 5))) (gNm 7) (dSeq (dSet 8 false (d2 gAdd (d2 gAdd (dSl (dRd 3) none (some (d2 gSub (dRd 1) (dC (.int 1))))) (dTup (aCons (d2 gSub (d2 gSub (dRd 4) (dC (.int 1))) (dRd 7)) (aCons (d2 gAdd (dRd 5) (dRd 7)) (aNil))))) (dSl (dRd 3) (some (d2 gAdd (dRd 1) (dC (.int 1)))) none))) (dSeq (dPut 2 (d2 gAdd (dGet2 (dRd 2) (dRd 8) (dC (.int 0))) (d2 gMul (dRd 6) (d2 gIx (dRd 0) (dRd 3)))) (dRd 8)) (dNx)))) (dNx))))) (dSeq (dFrz 2 (dRet (dCallP 1 f__law_kept (aCons (dVar 2) (aNil))))) (dNx)))
def f__law_cut : List D → Option D := fnP N__law_cut.length d__law_cut
def N__law_sum : List Str := ["sequence", "here", "path", "at", "found", "row"]
def d__law_sum : DenS := dSeq (dAsg (dTup (aCons (dVar 0) (aCons (dLst (aNil)) (aNil)))) (gTp (gsCons (gNm 1) (gsCons (gNm 2) (gsNil))))) (dSeq (whLoop (dTest (d2 gNeU (dLc (dRg2 (dC (.int 1)) (dB gLen (aCons (dRd 1) (aNil)))) [3] (gNm 3) (dTest (d2 gLt (d2 gIx (dRd 1) (d2 gSub (dRd 3) (dC (.int 1)))) (d2 gIx (dRd 1) (dRd 3)))) (dVar 3)) (dLst (aNil)))) (dSeq (dSet 3 false (d2 gIx (dLc (dRg2 (dC (.int 1)) (dB gLen (aCons (dRd 1) (aNil)))) [3] (gNm 3) (dTest (d2 gLt (d2 gIx (dRd 1) (d2 gSub (dRd 3) (dC (.int 1)))) (d2 gIx (dRd 1) (dRd 3)))) (dVar 3)) (dC (.int 0)))) (dSeq (dAsg (dTup (aCons (dCallP 2 f__law_swapped (aCons (dVar 1) (aCons (dVar 3) (aNil)))) (aCons (d2 gCat (dLst (aCons (dVar 3) (aNil))) (dRd 2)) (aNil)))) (gTp (gsCons (gNm 1) (gsCons (gNm 2) (gsNil))))) (dNx))) 1000) (dSeq (dSet 4 false (dDisp1 (dB gTupS (aCons (dLc (dRg2 (dC (.int 1)) (dC (.int 7))) [3] (gNm 3) (tYesD) (dB gMax2 (aCons (dC (.int 0)) (aCons (d2 gSub (dB gLen (aCons (dRd 0) (aNil))) (dRd 3)) (aNil))))) (aNil))) (dC (.int 1)))) (dSeq (dFor (dItems (dVar 2)) (gNm 3) (dSeq (dSet 4 false (dCallP 2 f__law_cut (aCons (dVar 4) (aCons (dVar 3) (aNil))))) (dNx))) (dSeq (dRet (dB gDictP (aCons (dLc (dItems (dVar 4)) [5] (gNm 5) (tYesD) (dTup (aCons (dSl (dRd 5) none (some (dC (.int 5)))) (aCons (d2 gIx (dRd 4) (dRd 5)) (aNil))))) (aNil)))) (dNx)))))
def f__law_sum : List D → Option D := fnP N__law_sum.length d__law_sum
def N__law_polynomial : List Str := ["draw", "found", "lap", "row", "at"]
def d__law_polynomial : DenS := dSeq (dSet 1 true (dC (.dT []))) (dSeq (dFor (dRg1 (dCallD 0 1 f__law_take (aCons (dC (.int 6)) (aNil)))) (gNm 2) (dSeq (dSet 3 false (dB gTupS (aCons (dLc (dRg1 (dC (.int 5))) [4] (gNm 4) (tYesD) (dCallD 0 1 f__law_take (aCons (dCallD 0 1 f__law_pick (aCons (dLst (aCons (dC (.int 1)) (aCons (dC (.int 2)) (aCons (dC (.int 4)) (aNil))))) (aNil))) (aNil)))) (aNil)))) (dSeq (dPut 1 (d2 gSub (d2 gAdd (dGet2 (dRd 1) (dRd 3) (dC (.int 0))) (dCallD 0 1 f__law_take (aCons (dC (.int 9)) (aNil)))) (dC (.int 4))) (dRd 3)) (dNx)))) (dSeq (dFrz 1 (dRet (dCallP 1 f__law_kept (aCons (dVar 1) (aNil))))) (dNx)))
def f__law_polynomial : List D → DS → Option (D × DS) := fnD N__law_polynomial.length d__law_polynomial
def N_greatest_p : List Str := ["wires"]
def d_greatest_p : DenS := dSeq (dDropS (dCallP 1 f_need_wires (aCons (dVar 0) (aNil)))) (dSeq (dRet (dTupIP (dRg3 (dRd 0) (dC (.int 0))))) (dNx))
def f_greatest_p : List D → Option D := fnP N_greatest_p.length d_greatest_p
def N_swapped_p : List Str := ["sequence", "at"]
def d_swapped_p : DenS := dSeq (dRet (d2 gCatP (d2 gCatP (dSlP (dRd 0) none (some (d2 gSub (dRd 1) (dC (.int 1))))) (dTupP (aCons (d2 gIx (dRd 0) (dRd 1)) (aCons (d2 gIx (dRd 0) (d2 gSub (dRd 1) (dC (.int 1)))) (aNil))))) (dSlP (dRd 0) (some (d2 gAdd (dRd 1) (dC (.int 1)))) none))) (dNx)
def f_swapped_p : List D → Option D := fnP N_swapped_p.length d_swapped_p
def N_places_by_p : List Str := ["wires", "drawing", "found", "crossing"]
def d_places_by_p : DenS := dSeq (dSet 2 true (dLst (aCons (dTupIP (dRg2 (dC (.int 1)) (d2 gAdd (dRd 0) (dC (.int 1))))) (aNil)))) (dSeq (dFor (dItems (dVar 1)) (gNm 3) (dSeq (dApp 2 (dCallP 2 f_swapped_p (aCons (d2 gIx (dRd 2) (d1 gNeg (dC (.int 1)))) (aCons (dVar 3) (aNil))))) (dNx))) (dSeq (dFrz 2 (dRet (dVar 2))) (dNx)))
def f_places_by_p : List D → Option D := fnP N_places_by_p.length d_places_by_p
def N_ends_by_p : List Str := ["wires", "drawing"]
def d_ends_by_p : DenS := dSeq (dRet (d2 gIx (dCallP 2 f_places_by_p (aCons (dVar 0) (aCons (dVar 1) (aNil)))) (d1 gNeg (dC (.int 1))))) (dNx)
def f_ends_by_p : List D → Option D := fnP N_ends_by_p.length d_ends_by_p
def N_ends_p : List Str := ["wires", "drawing"]
def d_ends_p : DenS := dSeq (dDropS (dCallP 2 f_need_drawing (aCons (dVar 0) (aCons (dVar 1) (aNil))))) (dSeq (dRet (dCallP 2 f_ends_by_p (aCons (dVar 0) (aCons (dVar 1) (aNil))))) (dNx))
def f_ends_p : List D → Option D := fnP N_ends_p.length d_ends_p
def N_law : List Str := ["script", "draw", "turn", "wires", "sequence", "rest", "road", "one", "other", "some", "due", "drawing", "is_one", "both"]
def l_1 : DenS := dSet 3 false (d2 gAdd (dC (.int 2)) (dCallD 1 1 f__law_take (aCons (dC (.int 4)) (aNil))))
def l_2 : DenS := dSet 4 false (dCallD 1 1 f__law_sequence (aCons (dVar 3) (aNil)))
def l_3 : DenS := dSet 5 false (dCallP 2 f_then (aCons (dCallP 1 f_back (aCons (dCallP 1 f_greatest_p (aCons (dVar 3) (aNil))) (aNil))) (aCons (dVar 4) (aNil))))
def l_4 : DenS := dSet 6 false (dCallD 1 1 f__law_shortest (aCons (dVar 5) (aNil)))
def l_5 : DenS := dIfS (tOrD (dTest (d2 gNeU (dCallP 2 f_cut_along (aCons (dCallP 1 f_sum_of (aCons (dCallP 1 f_greatest_p (aCons (dVar 3) (aNil))) (aNil))) (aCons (dVar 6) (aNil)))) (dCallP 1 f_sum_of (aCons (dVar 4) (aNil))))) (dTest (d2 gNeU (dCallP 1 f_sum_of (aCons (dVar 4) (aNil))) (dCallP 1 f__law_sum (aCons (dVar 4) (aNil)))))) (dSeq (dRet (dC (.bool false))) (dNx)) (dNx)
def l_6 : DenS := dPar 7 8 false false (dCallD 1 1 f__law_shortest (aCons (dVar 4) (aNil))) (dCallP 1 f_first_shortest (aCons (dVar 4) (aNil)))
def l_7 : DenS := dSet 9 false (dCallD 1 0 f__law_polynomial (aNil))
def l_8 : DenS := dSet 10 false (dCallP 2 f_cut_along (aCons (dVar 9) (aCons (dVar 7) (aNil))))
def l_9 : DenS := dIfS (tOrD (dTest (d2 gNeU (dRd 10) (dCallP 2 f_cut_along (aCons (dVar 9) (aCons (dVar 8) (aNil)))))) (tOrD (dTest (d2 gNeU (dCallP 2 f_ends_p (aCons (dVar 3) (aCons (dVar 7) (aNil)))) (dRd 4))) (tOrD (dTest (d2 gNeU (dCallP 2 f_ends_p (aCons (dVar 3) (aCons (dVar 8) (aNil)))) (dRd 4))) (dTest (d2 (gIsB true) (dCallP 2 f_is_shortest (aCons (dVar 3) (aCons (dVar 7) (aNil)))) (dC (.bool true))))))) (dSeq (dRet (dC (.bool false))) (dNx)) (dNx)
def l_10 : DenS := dSet 11 false (dCallD 1 2 f__law_drawing (aCons (dVar 3) (aCons (dC (.int 8)) (aNil))))
def l_11 : DenS := dSet 12 false (d2 gEqU (dB gLen (aCons (dRd 11) (aNil))) (dCallP 1 f__law_many (aCons (dCallP 2 f__law_ends (aCons (dVar 3) (aCons (dVar 11) (aNil)))) (aNil))))
def l_12 : DenS := dIfS (tOrD (dTest (d2 gNeU (dCallP 2 f_is_shortest (aCons (dVar 3) (aCons (dVar 11) (aNil)))) (dRd 12))) (tOrD (tAndD (tNotD (dTest (dRd 12))) (dTest (d2 gNeU (dCallP 2 f_cut_along (aCons (dVar 9) (aCons (dVar 11) (aNil)))) (dC (.dT []))))) (tAndD (tNotD (dTest (dRd 12))) (dTest (d2 gNeU (dCallP 2 f_cut_along (aCons (dCallP 1 f_sum_of (aCons (dCallP 1 f_greatest_p (aCons (dVar 3) (aNil))) (aNil))) (aCons (dVar 11) (aNil)))) (dC (.dT []))))))) (dSeq (dRet (dC (.bool false))) (dNx)) (dNx)
def l_13 : DenS := dSet 13 false (dCallP 3 f_joined (aCons (dVar 3) (aCons (dVar 7) (aCons (dVar 11) (aNil)))))
def l_14 : DenS := dIfS (dTest (d2 gNeU (dCallP 2 f_cut_along (aCons (dVar 9) (aCons (dVar 13) (aNil)))) (dCallP 2 f_cut_along (aCons (dVar 10) (aCons (dVar 11) (aNil)))))) (dSeq (dRet (dC (.bool false))) (dNx)) (dNx)
def l_15 : DenS := dIfS (tAndD (dTest (dRd 12)) (dTest (d2 gNeU (dCallP 2 f_cut_along (aCons (dVar 9) (aCons (dVar 11) (aNil)))) (dCallP 2 f_cut_along (aCons (dVar 9) (aCons (dCallP 1 f_first_shortest (aCons (dCallP 2 f_ends_p (aCons (dVar 3) (aCons (dVar 11) (aNil)))) (aNil))) (aNil))))))) (dSeq (dRet (dC (.bool false))) (dNx)) (dNx)
def d_law : DenS := dSeq (dFor (dRg1 (d2 gAdd (dC (.int 2)) (dB gMin2 (aCons (dLenS 0) (aCons (dC (.int 5)) (aNil)))))) (gNm 2) (dSeq l_1 (dSeq l_2 (dSeq l_3 (dSeq l_4 (dSeq l_5 (dSeq l_6 (dSeq l_7 (dSeq l_8 (dSeq l_9 (dSeq l_10 (dSeq l_11 (dSeq l_12 (dSeq l_13 (dSeq l_14 (dSeq l_15 (dNx))))))))))))))))) (dSeq (dRet (dC (.bool true))) (dNx))
end L2.Dn
set_option Elab.async false
set_option linter.all false
set_option maxRecDepth 100000
set_option maxHeartbeats 0
namespace L2.Dn
open PySem PySem.Spec PyProof.Rows C8
section
variable {P : Program} {w : World} {K : PySem.W.Frag} {mg : Str → Option Value} {base h0 : Heap}
theorem ok_is_number (X0 : K.In h0) (G : h0.Ns mainGlobals mg) (c : He.SaysD Hd.fa Hd.fn K) : Cal P w K mg base 1 "is_number" (spP 1 f_is_number) [] := by
  obtain ⟨fd, F⟩ := c.def_ 0 (d := Hd.mk "is_number" 10) rfl
  have b_bool : mg "bool" = none := He.free_ok X0 G (c.fact 49 (f := .free "bool") rfl)
  have b_int : mg "int" = none := He.free_ok X0 G (c.fact 52 (f := .free "int") rfl)
  have b_isinstance : mg "isinstance" = none := He.free_ok X0 G (c.fact 53 (f := .free "isinstance") rfl)
  have Sc : FnScope N_is_number ["thing"] (defScope (Hd.top 10)) := C8.fnScope_by (by kernel_rfl)
  have nd : (N_is_number : List Str).Nodup := Sc.nd
  have Bd : Binds K fd ["thing"] [] := FunD.bindsN F fun _ _ _ _ _ _ us hl => match us, hl with | [_], _ => rfl
  refine calP (N := N_is_number) (ps := ["thing"]) (b := d_is_number) 1 F (He.glo_ok X0 G (c.fact 0 (f := .glo "is_number") rfl)) Sc rfl Bd fun cdv A outer s H E hr => ?_
  obtain ⟨u1, u8, u65, u100⟩ := hr.us
  exact evss_cons (evs_ret (evf_and (EvF.r (evf_isi .int boot_int b_isinstance b_int (evr_var 0))) (evf_one (evf_not (EvF.r (evf_isi .bool boot_bool b_isinstance b_bool (evr_var 0))))))) (evss_nil)
theorem ok_need_wires (X0 : K.In h0) (G : h0.Ns mainGlobals mg) (c : He.SaysD Hd.fa Hd.fn K) : Cal P w K mg base 2 "need_wires" (spP 1 f_need_wires) [] := by
  obtain ⟨fd, F⟩ := c.def_ 1 (d := Hd.mk "need_wires" 14) rfl
  have c_MOST_WIRES : ∃ t, mg "MOST_WIRES" = some (.int 6 t) := He.int_ok X0 G (c.fact 63 (f := .int "MOST_WIRES" 6) rfl)
  have c_is_number := ok_is_number (P := P) (w := w) (base := base) X0 G c
  have Sc : FnScope N_need_wires ["wires"] (defScope (Hd.top 14)) := C8.fnScope_by (by kernel_rfl)
  have nd : (N_need_wires : List Str).Nodup := Sc.nd
  have Bd : Binds K fd ["wires"] [] := FunD.bindsN F fun _ _ _ _ _ _ us hl => match us, hl with | [_], _ => rfl
  refine calP (N := N_need_wires) (ps := ["wires"]) (b := d_need_wires) 1 F (He.glo_ok X0 G (c.fact 1 (f := .glo "need_wires") rfl)) Sc rfl Bd fun cdv A outer s H E hr => ?_
  obtain ⟨u1, u8, u65, u100⟩ := hr.us
  exact evss_cons (evs_if (EvW.toT (evw_or (evt_not (evt_val (EvF.r (evf_callP c_is_number hr (by decide) (eva_cons (evf_var 0) (eva_nil)))))) (evw_or1 (evt_not (evt_chain op_le op_le r2_cmp r2_cmp (EvF.r (evf_int)) (evr_var 0) (EvF.r (evf_glob c_MOST_WIRES)) rfl))))) (evss_cons (evs_dead) (evss_nil)) (evss_nil)) (evss_nil)
theorem ok_is_drawing_of (X0 : K.In h0) (G : h0.Ns mainGlobals mg) (c : He.SaysD Hd.fa Hd.fn K) : Cal P w K mg base 2 "is_drawing_of" (spP 2 f_is_drawing_of) [] := by
  obtain ⟨fd, F⟩ := c.def_ 2 (d := Hd.mk "is_drawing_of" 15) rfl
  have b_all : mg "all" = none := He.free_ok X0 G (c.fact 48 (f := .free "all") rfl)
  have b_isinstance : mg "isinstance" = none := He.free_ok X0 G (c.fact 53 (f := .free "isinstance") rfl)
  have b_len : mg "len" = none := He.free_ok X0 G (c.fact 54 (f := .free "len") rfl)
  have b_tuple : mg "tuple" = none := He.free_ok X0 G (c.fact 61 (f := .free "tuple") rfl)
  have c_MOST_CROSSINGS : ∃ t, mg "MOST_CROSSINGS" = some (.int 60 t) := He.int_ok X0 G (c.fact 64 (f := .int "MOST_CROSSINGS" 60) rfl)
  have c_is_number := ok_is_number (P := P) (w := w) (base := base) X0 G c
  have Sc : FnScope N_is_drawing_of ["wires", "thing"] (defScope (Hd.top 15)) := C8.fnScope_by (by kernel_rfl)
  have nd : (N_is_drawing_of : List Str).Nodup := Sc.nd
  have Bd : Binds K fd ["wires", "thing"] [] := FunD.bindsN F fun _ _ _ _ _ _ us hl => match us, hl with | [_, _], _ => rfl
  refine calP (N := N_is_drawing_of) (ps := ["wires", "thing"]) (b := d_is_drawing_of) 2 F (He.glo_ok X0 G (c.fact 2 (f := .glo "is_drawing_of") rfl)) Sc rfl Bd fun cdv A outer s H E hr => ?_
  obtain ⟨u1, u8, u65, u100⟩ := hr.us
  exact evss_cons (evs_if (EvW.toT (evw_or (evt_not (evt_val (EvF.r (evf_isi .tuple boot_tuple b_isinstance b_tuple (evr_var 1))))) (evw_or1 (evt_cmp op_gt r2_cmp (EvF.r (evf_callB cr_len rc_len b_len boot_len (evb_cons (evr_var 1) (evb_nil)))) (EvF.r (evf_glob c_MOST_CROSSINGS)) (nomark _))))) (evss_cons (evs_ret (evf_bl)) (evss_nil)) (evss_nil)) (evss_cons (evs_ret (evf_callB (cr_all rfl) rc_all b_all (by decide +kernel) (evb_cons (EvN.r (evn_lc (own := [("crossing", 2)]) rfl nd (blkOk_by (by kernel_rfl)) (evi_val (evf_var 1)) (fun _ _ _ _ _ => evg_nm 2 nd) (evtb_nil) (fun _ _ _ _ _ => evf_and (EvF.r (evf_callP c_is_number hr (by decide) (eva_cons (evf_var 2) (eva_nil)))) (evf_one (evf_chain op_le op_lt r2_cmp r2_cmp (EvF.r (evf_int)) (evr_var 2) (evr_var 0) rfl))) (by decide))) (evb_nil)))) (evss_nil))
theorem ok_need_drawing (X0 : K.In h0) (G : h0.Ns mainGlobals mg) (c : He.SaysD Hd.fa Hd.fn K) : Cal P w K mg base 3 "need_drawing" (spP 2 f_need_drawing) [] := by
  obtain ⟨fd, F⟩ := c.def_ 3 (d := Hd.mk "need_drawing" 16) rfl
  have c_is_drawing_of := ok_is_drawing_of (P := P) (w := w) (base := base) X0 G c
  have c_need_wires := ok_need_wires (P := P) (w := w) (base := base) X0 G c
  have Sc : FnScope N_need_drawing ["wires", "drawing"] (defScope (Hd.top 16)) := C8.fnScope_by (by kernel_rfl)
  have nd : (N_need_drawing : List Str).Nodup := Sc.nd
  have Bd : Binds K fd ["wires", "drawing"] [] := FunD.bindsN F fun _ _ _ _ _ _ us hl => match us, hl with | [_, _], _ => rfl
  refine calP (N := N_need_drawing) (ps := ["wires", "drawing"]) (b := d_need_drawing) 2 F (He.glo_ok X0 G (c.fact 3 (f := .glo "need_drawing") rfl)) Sc rfl Bd fun cdv A outer s H E hr => ?_
  obtain ⟨u1, u8, u65, u100⟩ := hr.us
  exact evss_cons (evs_drop (evf_callP c_need_wires hr (by decide) (eva_cons (evf_var 0) (eva_nil)))) (evss_cons (evs_if (evt_not (evt_val (EvF.r (evf_callP c_is_drawing_of hr (by decide) (eva_cons (evf_var 0) (eva_cons (evf_var 1) (eva_nil))))))) (evss_cons (evs_dead) (evss_nil)) (evss_nil)) (evss_nil))
theorem ok_short_drawing (X0 : K.In h0) (G : h0.Ns mainGlobals mg) (c : He.SaysD Hd.fa Hd.fn K) : Cal P w K mg base 1 "short_drawing" (spP 1 f_short_drawing) [] := by
  obtain ⟨fd, F⟩ := c.def_ 4 (d := Hd.mk "short_drawing" 17) rfl
  have c_MOST_CROSSINGS : ∃ t, mg "MOST_CROSSINGS" = some (.int 60 t) := He.int_ok X0 G (c.fact 64 (f := .int "MOST_CROSSINGS" 60) rfl)
  have Sc : FnScope N_short_drawing ["many"] (defScope (Hd.top 17)) := C8.fnScope_by (by kernel_rfl)
  have nd : (N_short_drawing : List Str).Nodup := Sc.nd
  have Bd : Binds K fd ["many"] [] := FunD.bindsN F fun _ _ _ _ _ _ us hl => match us, hl with | [_], _ => rfl
  refine calP (N := N_short_drawing) (ps := ["many"]) (b := d_short_drawing) 1 F (He.glo_ok X0 G (c.fact 4 (f := .glo "short_drawing") rfl)) Sc rfl Bd fun cdv A outer s H E hr => ?_
  obtain ⟨u1, u8, u65, u100⟩ := hr.us
  exact evss_cons (evs_if (evt_cmp op_gt r2_cmp (evr_var 0) (EvF.r (evf_glob c_MOST_CROSSINGS)) (nomark _)) (evss_cons (evs_dead) (evss_nil)) (evss_nil)) (evss_nil)
theorem ok_swapped (X0 : K.In h0) (G : h0.Ns mainGlobals mg) (c : He.SaysD Hd.fa Hd.fn K) : Cal P w K mg base 1 "swapped" (spP 2 f_swapped) [] := by
  obtain ⟨fd, F⟩ := c.def_ 5 (d := Hd.mk "swapped" 18) rfl
  have Sc : FnScope N_swapped ["sequence", "at"] (defScope (Hd.top 18)) := C8.fnScope_by (by kernel_rfl)
  have nd : (N_swapped : List Str).Nodup := Sc.nd
  have Bd : Binds K fd ["sequence", "at"] [] := FunD.bindsN F fun _ _ _ _ _ _ us hl => match us, hl with | [_, _], _ => rfl
  refine calP (N := N_swapped) (ps := ["sequence", "at"]) (b := d_swapped) 2 F (He.glo_ok X0 G (c.fact 5 (f := .glo "swapped") rfl)) Sc rfl Bd fun cdv A outer s H E hr => ?_
  obtain ⟨u1, u8, u65, u100⟩ := hr.us
  exact evss_cons (evs_ret (evf_op op_addA r2_add (EvF.r (evf_op op_addA r2_add (EvF.r (evf_slice (evr_var 0) evp_none (evp_some (EvF.r (evf_op op_sub r2_sub (evr_var 1) (EvF.r (evf_int))))))) (EvF.r (evf_tup (eva_cons (evf_ix u1 (evr_var 0) (evr_var 1)) (eva_cons (evf_ix u1 (evr_var 0) (EvF.r (evf_op op_sub r2_sub (evr_var 1) (EvF.r (evf_int))))) (eva_nil))))))) (EvF.r (evf_slice (evr_var 0) (evp_some (EvF.r (evf_op op_addA r2_add (evr_var 1) (EvF.r (evf_int))))) evp_none)))) (evss_nil)
theorem ok_places_by (X0 : K.In h0) (G : h0.Ns mainGlobals mg) (c : He.SaysD Hd.fa Hd.fn K) : Cal P w K mg base 2 "places_by" (spP 2 f_places_by) [] := by
  obtain ⟨fd, F⟩ := c.def_ 6 (d := Hd.mk "places_by" 19) rfl
  have b_range : mg "range" = none := He.free_ok X0 G (c.fact 58 (f := .free "range") rfl)
  have b_tuple : mg "tuple" = none := He.free_ok X0 G (c.fact 61 (f := .free "tuple") rfl)
  have c_swapped := ok_swapped (P := P) (w := w) (base := base) X0 G c
  have Sc : FnScope N_places_by ["wires", "drawing"] (defScope (Hd.top 19)) := C8.fnScope_by (by kernel_rfl)
  have nd : (N_places_by : List Str).Nodup := Sc.nd
  have Bd : Binds K fd ["wires", "drawing"] [] := FunD.bindsN F fun _ _ _ _ _ _ us hl => match us, hl with | [_, _], _ => rfl
  refine calP (N := N_places_by) (ps := ["wires", "drawing"]) (b := d_places_by) 2 F (He.glo_ok X0 G (c.fact 6 (f := .glo "places_by") rfl)) Sc rfl Bd fun cdv A outer s H E hr => ?_
  obtain ⟨u1, u8, u65, u100⟩ := hr.us
  exact evss_cons (evs_set 2 nd (EvN.u (evn_lst (eva_cons (evf_tupRg rfl b_tuple (evrg_2 b_range (EvF.r (evf_int)) (EvF.r (evf_op op_addA r2_add (evr_var 0) (EvF.r (evf_int)))))) (eva_nil))))) (evss_cons (evs_for PassesOwn.never rfl (evi_val (evf_var 1)) (evg_nm 3 nd) (evss_cons (evs_app 2 (pe_bm PySem.F.plainAttrs_list PySem.F.slot_list_append PySem.F.type_list_append mt_append (pv 2) (pa_cons (pe_se _ _) pa_nil)) (evf_callP c_swapped hr (by decide) (eva_cons (evf_ix u1 (evr_var 2) (EvF.r (evf_neg (EvF.r (evf_int))))) (eva_cons (evf_var 3) (eva_nil))))) (evss_nil))) (evss_cons (evs_frz 2 (evs_ret (evf_var 2))) (evss_nil)))
theorem ok_ends_by (X0 : K.In h0) (G : h0.Ns mainGlobals mg) (c : He.SaysD Hd.fa Hd.fn K) : Cal P w K mg base 3 "ends_by" (spP 2 f_ends_by) [] := by
  obtain ⟨fd, F⟩ := c.def_ 7 (d := Hd.mk "ends_by" 20) rfl
  have c_places_by := ok_places_by (P := P) (w := w) (base := base) X0 G c
  have Sc : FnScope N_ends_by ["wires", "drawing"] (defScope (Hd.top 20)) := C8.fnScope_by (by kernel_rfl)
  have nd : (N_ends_by : List Str).Nodup := Sc.nd
  have Bd : Binds K fd ["wires", "drawing"] [] := FunD.bindsN F fun _ _ _ _ _ _ us hl => match us, hl with | [_, _], _ => rfl
  refine calP (N := N_ends_by) (ps := ["wires", "drawing"]) (b := d_ends_by) 2 F (He.glo_ok X0 G (c.fact 7 (f := .glo "ends_by") rfl)) Sc rfl Bd fun cdv A outer s H E hr => ?_
  obtain ⟨u1, u8, u65, u100⟩ := hr.us
  exact evss_cons (evs_ret (evf_ix u1 (EvF.r (evf_callP c_places_by hr (by decide) (eva_cons (evf_var 0) (eva_cons (evf_var 1) (eva_nil))))) (EvF.r (evf_neg (EvF.r (evf_int)))))) (evss_nil)
theorem ok_crossed_by (X0 : K.In h0) (G : h0.Ns mainGlobals mg) (c : He.SaysD Hd.fa Hd.fn K) : Cal P w K mg base 3 "crossed_by" (spP 2 f_crossed_by) [] := by
  obtain ⟨fd, F⟩ := c.def_ 8 (d := Hd.mk "crossed_by" 21) rfl
  have b_sorted : mg "sorted" = none := He.free_ok X0 G (c.fact 59 (f := .free "sorted") rfl)
  have b_tuple : mg "tuple" = none := He.free_ok X0 G (c.fact 61 (f := .free "tuple") rfl)
  have b_zip : mg "zip" = none := He.free_ok X0 G (c.fact 62 (f := .free "zip") rfl)
  have c_places_by := ok_places_by (P := P) (w := w) (base := base) X0 G c
  have Sc : FnScope N_crossed_by ["wires", "drawing"] (defScope (Hd.top 21)) := C8.fnScope_by (by kernel_rfl)
  have nd : (N_crossed_by : List Str).Nodup := Sc.nd
  have Bd : Binds K fd ["wires", "drawing"] [] := FunD.bindsN F fun _ _ _ _ _ _ us hl => match us, hl with | [_, _], _ => rfl
  refine calP (N := N_crossed_by) (ps := ["wires", "drawing"]) (b := d_crossed_by) 2 F (He.glo_ok X0 G (c.fact 8 (f := .glo "crossed_by") rfl)) Sc rfl Bd fun cdv A outer s H E hr => ?_
  obtain ⟨u1, u8, u65, u100⟩ := hr.us
  exact evss_cons (evs_set 2 nd (EvF.u (evf_callP c_places_by hr (by decide) (eva_cons (evf_var 0) (eva_cons (evf_var 1) (eva_nil)))))) (evss_cons (evs_ret (EvN.toF (evn_lc (own := [("line", 3), ("at", 4)]) rfl nd (blkOk_by (by kernel_rfl)) (evi_zipM b_zip (evf_var 2) (evf_var 1)) (fun _ _ _ _ _ => evg_tp rfl (evgs_cons (evg_nm 3 nd) (evgs_cons (evg_nm 4 nd) (evgs_nil))) rfl gs2) (evtb_nil) (fun _ _ _ _ _ => evf_callTy call_tuple_of rc_tuple b_tuple boot_tuple (evb_cons (EvN.r (evn_callB cr_sorted2 rc_sorted b_sorted boot_sorted (evb_cons (EvF.r (evf_slice (evr_var 3) (evp_some (EvF.r (evf_op op_sub r2_sub (evr_var 4) (EvF.r (evf_int))))) (evp_some (EvF.r (evf_op op_addA r2_add (evr_var 4) (EvF.r (evf_int))))))) (evb_nil)))) (evb_nil))) (by decide)))) (evss_nil))
theorem ok_ends (X0 : K.In h0) (G : h0.Ns mainGlobals mg) (c : He.SaysD Hd.fa Hd.fn K) : Cal P w K mg base 4 "ends" (spP 2 f_ends) [] := by
  obtain ⟨fd, F⟩ := c.def_ 9 (d := Hd.mk "ends" 22) rfl
  have c_ends_by := ok_ends_by (P := P) (w := w) (base := base) X0 G c
  have c_need_drawing := ok_need_drawing (P := P) (w := w) (base := base) X0 G c
  have Sc : FnScope N_ends ["wires", "drawing"] (defScope (Hd.top 22)) := C8.fnScope_by (by kernel_rfl)
  have nd : (N_ends : List Str).Nodup := Sc.nd
  have Bd : Binds K fd ["wires", "drawing"] [] := FunD.bindsN F fun _ _ _ _ _ _ us hl => match us, hl with | [_, _], _ => rfl
  refine calP (N := N_ends) (ps := ["wires", "drawing"]) (b := d_ends) 2 F (He.glo_ok X0 G (c.fact 9 (f := .glo "ends") rfl)) Sc rfl Bd fun cdv A outer s H E hr => ?_
  obtain ⟨u1, u8, u65, u100⟩ := hr.us
  exact evss_cons (evs_drop (evf_callP c_need_drawing hr (by decide) (eva_cons (evf_var 0) (eva_cons (evf_var 1) (eva_nil))))) (evss_cons (evs_ret (evf_callP c_ends_by hr (by decide) (eva_cons (evf_var 0) (eva_cons (evf_var 1) (eva_nil))))) (evss_nil))
theorem ok_joined (X0 : K.In h0) (G : h0.Ns mainGlobals mg) (c : He.SaysD Hd.fa Hd.fn K) : Cal P w K mg base 3 "joined" (spP 3 f_joined) [] := by
  obtain ⟨fd, F⟩ := c.def_ 10 (d := Hd.mk "joined" 23) rfl
  have b_len : mg "len" = none := He.free_ok X0 G (c.fact 54 (f := .free "len") rfl)
  have c_is_drawing_of := ok_is_drawing_of (P := P) (w := w) (base := base) X0 G c
  have c_need_wires := ok_need_wires (P := P) (w := w) (base := base) X0 G c
  have c_short_drawing := ok_short_drawing (P := P) (w := w) (base := base) X0 G c
  have Sc : FnScope N_joined ["wires", "one", "other"] (defScope (Hd.top 23)) := C8.fnScope_by (by kernel_rfl)
  have nd : (N_joined : List Str).Nodup := Sc.nd
  have Bd : Binds K fd ["wires", "one", "other"] [] := FunD.bindsN F fun _ _ _ _ _ _ us hl => match us, hl with | [_, _, _], _ => rfl
  refine calP (N := N_joined) (ps := ["wires", "one", "other"]) (b := d_joined) 3 F (He.glo_ok X0 G (c.fact 10 (f := .glo "joined") rfl)) Sc rfl Bd fun cdv A outer s H E hr => ?_
  obtain ⟨u1, u8, u65, u100⟩ := hr.us
  exact evss_cons (evs_drop (evf_callP c_need_wires hr (by decide) (eva_cons (evf_var 0) (eva_nil)))) (evss_cons (evs_if (evt_not (evt_val (EvF.r (evf_callP c_is_drawing_of hr (by decide) (eva_cons (evf_var 0) (eva_cons (evf_var 1) (eva_nil))))))) (evss_cons (evs_dead) (evss_nil)) (evss_nil)) (evss_cons (evs_if (evt_not (evt_val (EvF.r (evf_callP c_is_drawing_of hr (by decide) (eva_cons (evf_var 0) (eva_cons (evf_var 2) (eva_nil))))))) (evss_cons (evs_dead) (evss_nil)) (evss_nil)) (evss_cons (evs_drop (evf_callP c_short_drawing hr (by decide) (eva_cons (evf_op op_addA r2_add (EvF.r (evf_callB cr_len rc_len b_len boot_len (evb_cons (evr_var 1) (evb_nil)))) (EvF.r (evf_callB cr_len rc_len b_len boot_len (evb_cons (evr_var 2) (evb_nil))))) (eva_nil)))) (evss_cons (evs_ret (evf_op op_addA r2_add (evr_var 1) (evr_var 2))) (evss_nil)))))
theorem ok_are_exponents (X0 : K.In h0) (G : h0.Ns mainGlobals mg) (c : He.SaysD Hd.fa Hd.fn K) : Cal P w K mg base 2 "are_exponents" (spP 1 f_are_exponents) [] := by
  obtain ⟨fd, F⟩ := c.def_ 11 (d := Hd.mk "are_exponents" 27) rfl
  have b_all : mg "all" = none := He.free_ok X0 G (c.fact 48 (f := .free "all") rfl)
  have b_isinstance : mg "isinstance" = none := He.free_ok X0 G (c.fact 53 (f := .free "isinstance") rfl)
  have b_len : mg "len" = none := He.free_ok X0 G (c.fact 54 (f := .free "len") rfl)
  have b_tuple : mg "tuple" = none := He.free_ok X0 G (c.fact 61 (f := .free "tuple") rfl)
  have c_MOST_EXPONENT : ∃ t, mg "MOST_EXPONENT" = some (.int 60 t) := He.int_ok X0 G (c.fact 66 (f := .int "MOST_EXPONENT" 60) rfl)
  have c_UNKNOWNS : ∃ t, mg "UNKNOWNS" = some (.int 5 t) := He.int_ok X0 G (c.fact 65 (f := .int "UNKNOWNS" 5) rfl)
  have c_is_number := ok_is_number (P := P) (w := w) (base := base) X0 G c
  have Sc : FnScope N_are_exponents ["thing"] (defScope (Hd.top 27)) := C8.fnScope_by (by kernel_rfl)
  have nd : (N_are_exponents : List Str).Nodup := Sc.nd
  have Bd : Binds K fd ["thing"] [] := FunD.bindsN F fun _ _ _ _ _ _ us hl => match us, hl with | [_], _ => rfl
  refine calP (N := N_are_exponents) (ps := ["thing"]) (b := d_are_exponents) 1 F (He.glo_ok X0 G (c.fact 11 (f := .glo "are_exponents") rfl)) Sc rfl Bd fun cdv A outer s H E hr => ?_
  obtain ⟨u1, u8, u65, u100⟩ := hr.us
  exact evss_cons (evs_if (EvW.toT (evw_or (evt_not (evt_val (EvF.r (evf_isi .tuple boot_tuple b_isinstance b_tuple (evr_var 0))))) (evw_or1 (evt_cmp (op_neU u100) r2_neU (EvF.r (evf_callB cr_len rc_len b_len boot_len (evb_cons (evr_var 0) (evb_nil)))) (EvF.r (evf_glob c_UNKNOWNS)) (nomark _))))) (evss_cons (evs_ret (evf_bl)) (evss_nil)) (evss_nil)) (evss_cons (evs_ret (evf_callB (cr_all rfl) rc_all b_all (by decide +kernel) (evb_cons (EvN.r (evn_lc (own := [("one", 1)]) rfl nd (blkOk_by (by kernel_rfl)) (evi_val (evf_var 0)) (fun _ _ _ _ _ => evg_nm 1 nd) (evtb_nil) (fun _ _ _ _ _ => evf_and (EvF.r (evf_callP c_is_number hr (by decide) (eva_cons (evf_var 1) (eva_nil)))) (evf_one (evf_chain op_le op_le r2_cmp r2_cmp (EvF.r (evf_int)) (evr_var 1) (EvF.r (evf_glob c_MOST_EXPONENT)) rfl))) (by decide))) (evb_nil)))) (evss_nil))
theorem ok_is_polynomial_of (X0 : K.In h0) (G : h0.Ns mainGlobals mg) (c : He.SaysD Hd.fa Hd.fn K) : Cal P w K mg base 3 "is_polynomial_of" (spP 1 f_is_polynomial_of) [] := by
  obtain ⟨fd, F⟩ := c.def_ 12 (d := Hd.mk "is_polynomial_of" 28) rfl
  have b_all : mg "all" = none := He.free_ok X0 G (c.fact 48 (f := .free "all") rfl)
  have b_dict : mg "dict" = none := He.free_ok X0 G (c.fact 50 (f := .free "dict") rfl)
  have b_isinstance : mg "isinstance" = none := He.free_ok X0 G (c.fact 53 (f := .free "isinstance") rfl)
  have c_are_exponents := ok_are_exponents (P := P) (w := w) (base := base) X0 G c
  have c_is_number := ok_is_number (P := P) (w := w) (base := base) X0 G c
  have Sc : FnScope N_is_polynomial_of ["thing"] (defScope (Hd.top 28)) := C8.fnScope_by (by kernel_rfl)
  have nd : (N_is_polynomial_of : List Str).Nodup := Sc.nd
  have Bd : Binds K fd ["thing"] [] := FunD.bindsN F fun _ _ _ _ _ _ us hl => match us, hl with | [_], _ => rfl
  refine calP (N := N_is_polynomial_of) (ps := ["thing"]) (b := d_is_polynomial_of) 1 F (He.glo_ok X0 G (c.fact 12 (f := .glo "is_polynomial_of") rfl)) Sc rfl Bd fun cdv A outer s H E hr => ?_
  obtain ⟨u1, u8, u65, u100⟩ := hr.us
  exact evss_cons (evs_if (EvW.toT (evw_or (evt_not (evt_val (EvF.r (evf_isi .dict boot_dict b_isinstance b_dict (evr_var 0))))) (evw_or1 (evt_not (evt_val (EvF.r (evf_callB (cr_all rfl) rc_all b_all (by decide +kernel) (evb_cons (EvN.r (evn_lc (own := [("row", 1)]) rfl nd (blkOk_by (by kernel_rfl)) (evi_val (evf_var 0)) (fun _ _ _ _ _ => evg_nm 1 nd) (evtb_nil) (fun _ _ _ _ _ => evf_callP c_are_exponents hr (by decide) (eva_cons (evf_var 1) (eva_nil))) (by decide))) (evb_nil))))))))) (evss_cons (evs_ret (evf_bl)) (evss_nil)) (evss_nil)) (evss_cons (evs_ret (evf_callB (cr_all rfl) rc_all b_all (by decide +kernel) (evb_cons (EvN.r (evn_lc (own := [("number", 2)]) rfl nd (blkOk_by (by kernel_rfl)) (evi_vals (evf_var 0)) (fun _ _ _ _ _ => evg_nm 2 nd) (evtb_nil) (fun _ _ _ _ _ => evf_and (EvF.r (evf_callP c_is_number hr (by decide) (eva_cons (evf_var 2) (eva_nil)))) (evf_one (evf_cmp (op_neU u100) r2_neU (evr_var 2) (EvF.r (evf_int)) (nomark _)))) (by decide))) (evb_nil)))) (evss_nil))
theorem ok_need_polynomial (X0 : K.In h0) (G : h0.Ns mainGlobals mg) (c : He.SaysD Hd.fa Hd.fn K) : Cal P w K mg base 4 "need_polynomial" (spP 1 f_need_polynomial) [] := by
  obtain ⟨fd, F⟩ := c.def_ 13 (d := Hd.mk "need_polynomial" 29) rfl
  have c_is_polynomial_of := ok_is_polynomial_of (P := P) (w := w) (base := base) X0 G c
  have Sc : FnScope N_need_polynomial ["polynomial"] (defScope (Hd.top 29)) := C8.fnScope_by (by kernel_rfl)
  have nd : (N_need_polynomial : List Str).Nodup := Sc.nd
  have Bd : Binds K fd ["polynomial"] [] := FunD.bindsN F fun _ _ _ _ _ _ us hl => match us, hl with | [_], _ => rfl
  refine calP (N := N_need_polynomial) (ps := ["polynomial"]) (b := d_need_polynomial) 1 F (He.glo_ok X0 G (c.fact 13 (f := .glo "need_polynomial") rfl)) Sc rfl Bd fun cdv A outer s H E hr => ?_
  obtain ⟨u1, u8, u65, u100⟩ := hr.us
  exact evss_cons (evs_if (evt_not (evt_val (EvF.r (evf_callP c_is_polynomial_of hr (by decide) (eva_cons (evf_var 0) (eva_nil)))))) (evss_cons (evs_dead) (evss_nil)) (evss_nil)) (evss_nil)
theorem ok_without_noughts (X0 : K.In h0) (G : h0.Ns mainGlobals mg) (c : He.SaysD Hd.fa Hd.fn K) : Cal P w K mg base 1 "without_noughts" (spP 1 f_without_noughts) [] := by
  obtain ⟨fd, F⟩ := c.def_ 14 (d := Hd.mk "without_noughts" 30) rfl
  have Sc : FnScope N_without_noughts ["rows"] (defScope (Hd.top 30)) := C8.fnScope_by (by kernel_rfl)
  have nd : (N_without_noughts : List Str).Nodup := Sc.nd
  have Bd : Binds K fd ["rows"] [] := FunD.bindsN F fun _ _ _ _ _ _ us hl => match us, hl with | [_], _ => rfl
  refine calP (N := N_without_noughts) (ps := ["rows"]) (b := d_without_noughts) 1 F (He.glo_ok X0 G (c.fact 14 (f := .glo "without_noughts") rfl)) Sc rfl Bd fun cdv A outer s H E hr => ?_
  obtain ⟨u1, u8, u65, u100⟩ := hr.us
  exact evss_cons (evs_ret (EvN.toF (evn_dc (own := [("row", 1), ("number", 2)]) u8 rfl nd (blkOk_by (by kernel_rfl)) (evi_items (evf_var 0)) (fun _ _ _ _ _ => evg_tp rfl (evgs_cons (evg_nm 1 nd) (evgs_cons (evg_nm 2 nd) (evgs_nil))) rfl gs2) (evtb_one (fun _ _ _ _ _ => evt_cmp (op_neU u100) r2_neU (evr_var 2) (EvF.r (evf_int)) (nomark _))) (fun _ _ _ _ _ => evf_var 1) (fun _ _ _ _ _ => evf_var 2) (by decide)))) (evss_nil)
theorem ok_cut_by (X0 : K.In h0) (G : h0.Ns mainGlobals mg) (c : He.SaysD Hd.fa Hd.fn K) : Cal P w K mg base 2 "cut_by" (spP 2 f_cut_by) [] := by
  obtain ⟨fd, F⟩ := c.def_ 15 (d := Hd.mk "cut_by" 33) rfl
  have b_range : mg "range" = none := He.free_ok X0 G (c.fact 58 (f := .free "range") rfl)
  have c_without_noughts := ok_without_noughts (P := P) (w := w) (base := base) X0 G c
  have Sc : FnScope N_cut_by ["rows", "at"] (defScope (Hd.top 33)) := C8.fnScope_by (by kernel_rfl)
  have nd : (N_cut_by : List Str).Nodup := Sc.nd
  have Bd : Binds K fd ["rows", "at"] [] := FunD.bindsN F fun _ _ _ _ _ _ us hl => match us, hl with | [_, _], _ => rfl
  refine calP (N := N_cut_by) (ps := ["rows", "at"]) (b := d_cut_by) 2 F (He.glo_ok X0 G (c.fact 15 (f := .glo "cut_by") rfl)) Sc rfl Bd fun cdv A outer s H E hr => ?_
  obtain ⟨u1, u8, u65, u100⟩ := hr.us
  exact evss_cons (evs_set 2 nd (EvN.u (evn_dT))) (evss_cons (evs_for PassesOwn.never rfl (evi_items (evf_var 0)) (evg_tp rfl (evgs_cons (evg_nm 3 nd) (evgs_cons (evg_nm 4 nd) (evgs_nil))) rfl gs2) (evss_cons (evs_par 5 6 rfl nd (EvF.u (evf_ix u1 (evr_var 3) (EvF.r (evf_op op_sub r2_sub (evr_var 1) (EvF.r (evf_int)))))) (EvF.u (evf_ix u1 (evr_var 3) (evr_var 1))) (by decide)) (evss_cons (evs_asg (evf_if (evt_cmp op_gt r2_cmp (evr_var 5) (evr_var 6) (nomark _)) (evf_tup (eva_cons (evf_int) (eva_cons (evf_var 6) (eva_cons (evf_var 5) (eva_nil))))) (evf_tup (eva_cons (evf_neg (EvF.r (evf_int))) (eva_cons (evf_var 5) (eva_cons (evf_var 6) (eva_nil)))))) (evg_tp rfl (evgs_cons (evg_nm 7 nd) (evgs_cons (evg_nm 8 nd) (evgs_cons (evg_nm 9 nd) (evgs_nil)))) rfl gs3)) (evss_cons (evs_for PassesOwn.never rfl (evi_rg1 b_range (EvF.r (evf_op op_sub r2_sub (evr_var 9) (evr_var 8)))) (evg_nm 10 nd) (evss_cons (evs_set 11 nd (EvF.u (evf_op op_addA r2_add (EvF.r (evf_op op_addA r2_add (EvF.r (evf_slice (evr_var 3) evp_none (evp_some (EvF.r (evf_op op_sub r2_sub (evr_var 1) (EvF.r (evf_int))))))) (EvF.r (evf_tup (eva_cons (evf_op op_addA r2_add (evr_var 8) (evr_var 10)) (eva_cons (evf_op op_sub r2_sub (EvF.r (evf_op op_sub r2_sub (evr_var 9) (EvF.r (evf_int)))) (evr_var 10)) (eva_nil))))))) (EvF.r (evf_slice (evr_var 3) (evp_some (EvF.r (evf_op op_addA r2_add (evr_var 1) (EvF.r (evf_int))))) evp_none))))) (evss_cons (evs_put 2 (ps_dput u1 (pv 2) (pe_se _ _) (pe_se _ _) rfl) (evf_op op_addA r2_add (EvF.r (evf_get u8 (evr_var 2) (evr_var 11) (evf_int) ⟨rfl, rfl, rfl, rfl⟩)) (EvF.r (evf_op op_mul r2_mul (evr_var 7) (evr_var 4)))) (evr_var 11)) (evss_nil)))) (evss_nil))))) (evss_cons (evs_frz 2 (evs_ret (evf_callP c_without_noughts hr (by decide) (eva_cons (evf_var 2) (eva_nil))))) (evss_nil)))
theorem ok_cut_along (X0 : K.In h0) (G : h0.Ns mainGlobals mg) (c : He.SaysD Hd.fa Hd.fn K) : Cal P w K mg base 5 "cut_along" (spP 2 f_cut_along) [] := by
  obtain ⟨fd, F⟩ := c.def_ 16 (d := Hd.mk "cut_along" 34) rfl
  have b_dict : mg "dict" = none := He.free_ok X0 G (c.fact 50 (f := .free "dict") rfl)
  have c_WIRES : ∃ t, mg "WIRES" = some (.int 5 t) := He.int_ok X0 G (c.fact 67 (f := .int "WIRES" 5) rfl)
  have c_cut_by := ok_cut_by (P := P) (w := w) (base := base) X0 G c
  have c_is_drawing_of := ok_is_drawing_of (P := P) (w := w) (base := base) X0 G c
  have c_need_polynomial := ok_need_polynomial (P := P) (w := w) (base := base) X0 G c
  have Sc : FnScope N_cut_along ["polynomial", "drawing"] (defScope (Hd.top 34)) := C8.fnScope_by (by kernel_rfl)
  have nd : (N_cut_along : List Str).Nodup := Sc.nd
  have Bd : Binds K fd ["polynomial", "drawing"] [] := FunD.bindsN F fun _ _ _ _ _ _ us hl => match us, hl with | [_, _], _ => rfl
  refine calP (N := N_cut_along) (ps := ["polynomial", "drawing"]) (b := d_cut_along) 2 F (He.glo_ok X0 G (c.fact 16 (f := .glo "cut_along") rfl)) Sc rfl Bd fun cdv A outer s H E hr => ?_
  obtain ⟨u1, u8, u65, u100⟩ := hr.us
  exact evss_cons (evs_drop (evf_callP c_need_polynomial hr (by decide) (eva_cons (evf_var 0) (eva_nil)))) (evss_cons (evs_if (evt_not (evt_val (EvF.r (evf_callP c_is_drawing_of hr (by decide) (eva_cons (evf_glob c_WIRES) (eva_cons (evf_var 1) (eva_nil))))))) (evss_cons (evs_dead) (evss_nil)) (evss_nil)) (evss_cons (evs_set 2 nd (EvF.u (evf_var 0))) (evss_cons (evs_for PassesOwn.never rfl (evi_val (evf_var 1)) (evg_nm 3 nd) (evss_cons (evs_set 2 nd (EvF.u (evf_callP c_cut_by hr (by decide) (eva_cons (evf_var 2) (eva_cons (evf_var 3) (eva_nil)))))) (evss_nil))) (evss_cons (evs_ret (EvN.toF (evn_callTy (call_dict u8) rc_dict b_dict boot_dict (evb_cons (evr_var 2) (evb_nil))))) (evss_nil)))))
theorem ok_is_sequence_of (X0 : K.In h0) (G : h0.Ns mainGlobals mg) (c : He.SaysD Hd.fa Hd.fn K) : Cal P w K mg base 2 "is_sequence_of" (spP 1 f_is_sequence_of) [] := by
  obtain ⟨fd, F⟩ := c.def_ 17 (d := Hd.mk "is_sequence_of" 36) rfl
  have b_all : mg "all" = none := He.free_ok X0 G (c.fact 48 (f := .free "all") rfl)
  have b_isinstance : mg "isinstance" = none := He.free_ok X0 G (c.fact 53 (f := .free "isinstance") rfl)
  have b_len : mg "len" = none := He.free_ok X0 G (c.fact 54 (f := .free "len") rfl)
  have b_list : mg "list" = none := He.free_ok X0 G (c.fact 55 (f := .free "list") rfl)
  have b_range : mg "range" = none := He.free_ok X0 G (c.fact 58 (f := .free "range") rfl)
  have b_sorted : mg "sorted" = none := He.free_ok X0 G (c.fact 59 (f := .free "sorted") rfl)
  have b_tuple : mg "tuple" = none := He.free_ok X0 G (c.fact 61 (f := .free "tuple") rfl)
  have c_MOST_WIRES : ∃ t, mg "MOST_WIRES" = some (.int 6 t) := He.int_ok X0 G (c.fact 63 (f := .int "MOST_WIRES" 6) rfl)
  have c_is_number := ok_is_number (P := P) (w := w) (base := base) X0 G c
  have Sc : FnScope N_is_sequence_of ["thing"] (defScope (Hd.top 36)) := C8.fnScope_by (by kernel_rfl)
  have nd : (N_is_sequence_of : List Str).Nodup := Sc.nd
  have Bd : Binds K fd ["thing"] [] := FunD.bindsN F fun _ _ _ _ _ _ us hl => match us, hl with | [_], _ => rfl
  refine calP (N := N_is_sequence_of) (ps := ["thing"]) (b := d_is_sequence_of) 1 F (He.glo_ok X0 G (c.fact 17 (f := .glo "is_sequence_of") rfl)) Sc rfl Bd fun cdv A outer s H E hr => ?_
  obtain ⟨u1, u8, u65, u100⟩ := hr.us
  exact evss_cons (evs_if (EvW.toT (evw_or (evt_not (evt_val (EvF.r (evf_isi .tuple boot_tuple b_isinstance b_tuple (evr_var 0))))) (evw_or1 (evt_not (evt_chain op_le op_le r2_cmp r2_cmp (EvF.r (evf_int)) (EvF.r (evf_callB cr_len rc_len b_len boot_len (evb_cons (evr_var 0) (evb_nil)))) (EvF.r (evf_glob c_MOST_WIRES)) rfl))))) (evss_cons (evs_ret (evf_bl)) (evss_nil)) (evss_nil)) (evss_cons (evs_ret (evf_and (EvF.r (evf_callB (cr_all rfl) rc_all b_all (by decide +kernel) (evb_cons (EvN.r (evn_lc (own := [("wire", 1)]) rfl nd (blkOk_by (by kernel_rfl)) (evi_val (evf_var 0)) (fun _ _ _ _ _ => evg_nm 1 nd) (evtb_nil) (fun _ _ _ _ _ => evf_callP c_is_number hr (by decide) (eva_cons (evf_var 1) (eva_nil))) (by decide))) (evb_nil)))) (evf_one (evf_cmp (op_eqU u100) r2_eqU (EvN.r (evn_callB cr_sorted2 rc_sorted b_sorted boot_sorted (evb_cons (evr_var 0) (evb_nil)))) (EvN.r (evn_listRg rfl b_list (evrg_2 b_range (EvF.r (evf_int)) (EvF.r (evf_op op_addA r2_add (EvF.r (evf_callB cr_len rc_len b_len boot_len (evb_cons (evr_var 0) (evb_nil)))) (EvF.r (evf_int))))))) (nomark _))))) (evss_nil))
theorem ok_need_sequence (X0 : K.In h0) (G : h0.Ns mainGlobals mg) (c : He.SaysD Hd.fa Hd.fn K) : Cal P w K mg base 3 "need_sequence" (spP 1 f_need_sequence) [] := by
  obtain ⟨fd, F⟩ := c.def_ 18 (d := Hd.mk "need_sequence" 37) rfl
  have c_is_sequence_of := ok_is_sequence_of (P := P) (w := w) (base := base) X0 G c
  have Sc : FnScope N_need_sequence ["sequence"] (defScope (Hd.top 37)) := C8.fnScope_by (by kernel_rfl)
  have nd : (N_need_sequence : List Str).Nodup := Sc.nd
  have Bd : Binds K fd ["sequence"] [] := FunD.bindsN F fun _ _ _ _ _ _ us hl => match us, hl with | [_], _ => rfl
  refine calP (N := N_need_sequence) (ps := ["sequence"]) (b := d_need_sequence) 1 F (He.glo_ok X0 G (c.fact 18 (f := .glo "need_sequence") rfl)) Sc rfl Bd fun cdv A outer s H E hr => ?_
  obtain ⟨u1, u8, u65, u100⟩ := hr.us
  exact evss_cons (evs_if (evt_not (evt_val (EvF.r (evf_callP c_is_sequence_of hr (by decide) (eva_cons (evf_var 0) (eva_nil)))))) (evss_cons (evs_dead) (evss_nil)) (evss_nil)) (evss_nil)
theorem ok_need_two (X0 : K.In h0) (G : h0.Ns mainGlobals mg) (c : He.SaysD Hd.fa Hd.fn K) : Cal P w K mg base 3 "need_two" (spP 2 f_need_two) [] := by
  obtain ⟨fd, F⟩ := c.def_ 19 (d := Hd.mk "need_two" 38) rfl
  have b_len : mg "len" = none := He.free_ok X0 G (c.fact 54 (f := .free "len") rfl)
  have c_is_sequence_of := ok_is_sequence_of (P := P) (w := w) (base := base) X0 G c
  have Sc : FnScope N_need_two ["one", "other"] (defScope (Hd.top 38)) := C8.fnScope_by (by kernel_rfl)
  have nd : (N_need_two : List Str).Nodup := Sc.nd
  have Bd : Binds K fd ["one", "other"] [] := FunD.bindsN F fun _ _ _ _ _ _ us hl => match us, hl with | [_, _], _ => rfl
  refine calP (N := N_need_two) (ps := ["one", "other"]) (b := d_need_two) 2 F (He.glo_ok X0 G (c.fact 19 (f := .glo "need_two") rfl)) Sc rfl Bd fun cdv A outer s H E hr => ?_
  obtain ⟨u1, u8, u65, u100⟩ := hr.us
  exact evss_cons (evs_if (evt_not (evt_val (EvF.r (evf_callP c_is_sequence_of hr (by decide) (eva_cons (evf_var 0) (eva_nil)))))) (evss_cons (evs_dead) (evss_nil)) (evss_nil)) (evss_cons (evs_if (EvW.toT (evw_or (evt_not (evt_val (EvF.r (evf_callP c_is_sequence_of hr (by decide) (eva_cons (evf_var 1) (eva_nil)))))) (evw_or1 (evt_cmp (op_neU u100) r2_neU (EvF.r (evf_callB cr_len rc_len b_len boot_len (evb_cons (evr_var 1) (evb_nil)))) (EvF.r (evf_callB cr_len rc_len b_len boot_len (evb_cons (evr_var 0) (evb_nil)))) (nomark _))))) (evss_cons (evs_dead) (evss_nil)) (evss_nil)) (evss_nil))
theorem ok_back_by (X0 : K.In h0) (G : h0.Ns mainGlobals mg) (c : He.SaysD Hd.fa Hd.fn K) : Cal P w K mg base 1 "back_by" (spP 1 f_back_by) [] := by
  obtain ⟨fd, F⟩ := c.def_ 20 (d := Hd.mk "back_by" 39) rfl
  have b_len : mg "len" = none := He.free_ok X0 G (c.fact 54 (f := .free "len") rfl)
  have b_range : mg "range" = none := He.free_ok X0 G (c.fact 58 (f := .free "range") rfl)
  have b_tuple : mg "tuple" = none := He.free_ok X0 G (c.fact 61 (f := .free "tuple") rfl)
  have Sc : FnScope N_back_by ["sequence"] (defScope (Hd.top 39)) := C8.fnScope_by (by kernel_rfl)
  have nd : (N_back_by : List Str).Nodup := Sc.nd
  have Bd : Binds K fd ["sequence"] [] := FunD.bindsN F fun _ _ _ _ _ _ us hl => match us, hl with | [_], _ => rfl
  refine calP (N := N_back_by) (ps := ["sequence"]) (b := d_back_by) 1 F (He.glo_ok X0 G (c.fact 20 (f := .glo "back_by") rfl)) Sc rfl Bd fun cdv A outer s H E hr => ?_
  obtain ⟨u1, u8, u65, u100⟩ := hr.us
  exact evss_cons (evs_ret (evf_callTy call_tuple_of rc_tuple b_tuple boot_tuple (evb_cons (EvN.r (evn_lc (own := [("wire", 1)]) rfl nd (blkOk_by (by kernel_rfl)) (evi_rg2 b_range (EvF.r (evf_int)) (EvF.r (evf_op op_addA r2_add (EvF.r (evf_callB cr_len rc_len b_len boot_len (evb_cons (evr_var 0) (evb_nil)))) (EvF.r (evf_int))))) (fun _ _ _ _ _ => evg_nm 1 nd) (evtb_nil) (fun _ _ _ _ _ => evf_op op_addA r2_add (EvF.r (evf_idx (pe_pm PySem.F.slot_tuple_index PySem.F.type_tuple_index mt_tupIndexI (pe_se _ _) (pa_cons (pe_se _ _) pa_nil)) (evf_var 0) (evr_var 1))) (EvF.r (evf_int))) (by decide))) (evb_nil)))) (evss_nil)
theorem ok_then_by (X0 : K.In h0) (G : h0.Ns mainGlobals mg) (c : He.SaysD Hd.fa Hd.fn K) : Cal P w K mg base 1 "then_by" (spP 2 f_then_by) [] := by
  obtain ⟨fd, F⟩ := c.def_ 21 (d := Hd.mk "then_by" 40) rfl
  have b_tuple : mg "tuple" = none := He.free_ok X0 G (c.fact 61 (f := .free "tuple") rfl)
  have Sc : FnScope N_then_by ["one", "other"] (defScope (Hd.top 40)) := C8.fnScope_by (by kernel_rfl)
  have nd : (N_then_by : List Str).Nodup := Sc.nd
  have Bd : Binds K fd ["one", "other"] [] := FunD.bindsN F fun _ _ _ _ _ _ us hl => match us, hl with | [_, _], _ => rfl
  refine calP (N := N_then_by) (ps := ["one", "other"]) (b := d_then_by) 2 F (He.glo_ok X0 G (c.fact 21 (f := .glo "then_by") rfl)) Sc rfl Bd fun cdv A outer s H E hr => ?_
  obtain ⟨u1, u8, u65, u100⟩ := hr.us
  exact evss_cons (evs_ret (evf_callTy call_tuple_of rc_tuple b_tuple boot_tuple (evb_cons (EvN.r (evn_lc (own := [("place", 2)]) rfl nd (blkOk_by (by kernel_rfl)) (evi_val (evf_var 1)) (fun _ _ _ _ _ => evg_nm 2 nd) (evtb_nil) (fun _ _ _ _ _ => evf_ix u1 (evr_var 0) (EvF.r (evf_op op_sub r2_sub (evr_var 2) (EvF.r (evf_int))))) (by decide))) (evb_nil)))) (evss_nil)
theorem ok_back (X0 : K.In h0) (G : h0.Ns mainGlobals mg) (c : He.SaysD Hd.fa Hd.fn K) : Cal P w K mg base 4 "back" (spP 1 f_back) [] := by
  obtain ⟨fd, F⟩ := c.def_ 22 (d := Hd.mk "back" 41) rfl
  have c_back_by := ok_back_by (P := P) (w := w) (base := base) X0 G c
  have c_need_sequence := ok_need_sequence (P := P) (w := w) (base := base) X0 G c
  have Sc : FnScope N_back ["sequence"] (defScope (Hd.top 41)) := C8.fnScope_by (by kernel_rfl)
  have nd : (N_back : List Str).Nodup := Sc.nd
  have Bd : Binds K fd ["sequence"] [] := FunD.bindsN F fun _ _ _ _ _ _ us hl => match us, hl with | [_], _ => rfl
  refine calP (N := N_back) (ps := ["sequence"]) (b := d_back) 1 F (He.glo_ok X0 G (c.fact 22 (f := .glo "back") rfl)) Sc rfl Bd fun cdv A outer s H E hr => ?_
  obtain ⟨u1, u8, u65, u100⟩ := hr.us
  exact evss_cons (evs_drop (evf_callP c_need_sequence hr (by decide) (eva_cons (evf_var 0) (eva_nil)))) (evss_cons (evs_ret (evf_callP c_back_by hr (by decide) (eva_cons (evf_var 0) (eva_nil)))) (evss_nil))
theorem ok_then (X0 : K.In h0) (G : h0.Ns mainGlobals mg) (c : He.SaysD Hd.fa Hd.fn K) : Cal P w K mg base 4 "then" (spP 2 f_then) [] := by
  obtain ⟨fd, F⟩ := c.def_ 23 (d := Hd.mk "then" 42) rfl
  have c_need_two := ok_need_two (P := P) (w := w) (base := base) X0 G c
  have c_then_by := ok_then_by (P := P) (w := w) (base := base) X0 G c
  have Sc : FnScope N_then ["one", "other"] (defScope (Hd.top 42)) := C8.fnScope_by (by kernel_rfl)
  have nd : (N_then : List Str).Nodup := Sc.nd
  have Bd : Binds K fd ["one", "other"] [] := FunD.bindsN F fun _ _ _ _ _ _ us hl => match us, hl with | [_, _], _ => rfl
  refine calP (N := N_then) (ps := ["one", "other"]) (b := d_then) 2 F (He.glo_ok X0 G (c.fact 23 (f := .glo "then") rfl)) Sc rfl Bd fun cdv A outer s H E hr => ?_
  obtain ⟨u1, u8, u65, u100⟩ := hr.us
  exact evss_cons (evs_drop (evf_callP c_need_two hr (by decide) (eva_cons (evf_var 0) (eva_cons (evf_var 1) (eva_nil))))) (evss_cons (evs_ret (evf_callP c_then_by hr (by decide) (eva_cons (evf_var 0) (eva_cons (evf_var 1) (eva_nil))))) (evss_nil))
theorem ok_greatest (X0 : K.In h0) (G : h0.Ns mainGlobals mg) (c : He.SaysD Hd.fa Hd.fn K) : Cal P w K mg base 3 "greatest" (spP 1 f_greatest) [] := by
  obtain ⟨fd, F⟩ := c.def_ 24 (d := Hd.mk "greatest" 43) rfl
  have b_range : mg "range" = none := He.free_ok X0 G (c.fact 58 (f := .free "range") rfl)
  have b_tuple : mg "tuple" = none := He.free_ok X0 G (c.fact 61 (f := .free "tuple") rfl)
  have c_need_wires := ok_need_wires (P := P) (w := w) (base := base) X0 G c
  have Sc : FnScope N_greatest ["wires"] (defScope (Hd.top 43)) := C8.fnScope_by (by kernel_rfl)
  have nd : (N_greatest : List Str).Nodup := Sc.nd
  have Bd : Binds K fd ["wires"] [] := FunD.bindsN F fun _ _ _ _ _ _ us hl => match us, hl with | [_], _ => rfl
  refine calP (N := N_greatest) (ps := ["wires"]) (b := d_greatest) 1 F (He.glo_ok X0 G (c.fact 24 (f := .glo "greatest") rfl)) Sc rfl Bd fun cdv A outer s H E hr => ?_
  obtain ⟨u1, u8, u65, u100⟩ := hr.us
  exact evss_cons (evs_drop (evf_callP c_need_wires hr (by decide) (eva_cons (evf_var 0) (eva_nil)))) (evss_cons (evs_ret (evf_tupRg3 rfl b_tuple b_range (evr_var 0) (EvF.r (evf_int)))) (evss_nil))
theorem ok_first_by (X0 : K.In h0) (G : h0.Ns mainGlobals mg) (c : He.SaysD Hd.fa Hd.fn K) : Cal P w K mg base 1 "first_by" (spP 1 f_first_by) [] := by
  obtain ⟨fd, F⟩ := c.def_ 25 (d := Hd.mk "first_by" 45) rfl
  have b_len : mg "len" = none := He.free_ok X0 G (c.fact 54 (f := .free "len") rfl)
  have b_range : mg "range" = none := He.free_ok X0 G (c.fact 58 (f := .free "range") rfl)
  have b_tuple : mg "tuple" = none := He.free_ok X0 G (c.fact 61 (f := .free "tuple") rfl)
  have Sc : FnScope N_first_by ["sequence"] (defScope (Hd.top 45)) := C8.fnScope_by (by kernel_rfl)
  have nd : (N_first_by : List Str).Nodup := Sc.nd
  have Bd : Binds K fd ["sequence"] [] := FunD.bindsN F fun _ _ _ _ _ _ us hl => match us, hl with | [_], _ => rfl
  refine calP (N := N_first_by) (ps := ["sequence"]) (b := d_first_by) 1 F (He.glo_ok X0 G (c.fact 25 (f := .glo "first_by") rfl)) Sc rfl Bd fun cdv A outer s H E hr => ?_
  obtain ⟨u1, u8, u65, u100⟩ := hr.us
  exact evss_cons (evs_set 1 nd (EvN.u (evn_lst (eva_nil)))) (evss_cons (evs_for PassesOwn.never rfl (evi_rg2 b_range (EvF.r (evf_int)) (EvF.r (evf_op op_addA r2_add (EvF.r (evf_callB cr_len rc_len b_len boot_len (evb_cons (evr_var 0) (evb_nil)))) (EvF.r (evf_int))))) (evg_nm 2 nd) (evss_cons (evs_set 3 nd (EvF.u (evf_callB cr_len rc_len b_len boot_len (evb_cons (EvN.r (evn_lc (own := [("late", 4)]) rfl nd (blkOk_by (by kernel_rfl)) (evi_val (evf_slice (evr_var 0) (evp_some (EvF.r (evf_idx (pe_pm PySem.F.slot_tuple_index PySem.F.type_tuple_index mt_tupIndexI (pe_se _ _) (pa_cons (pe_se _ _) pa_nil)) (evf_var 0) (evr_var 2)))) evp_none)) (fun _ _ _ _ _ => evg_nm 4 nd) (evtb_one (fun _ _ _ _ _ => evt_cmp op_lt r2_cmp (evr_var 4) (evr_var 2) (nomark _))) (fun _ _ _ _ _ => evf_var 4) (by decide))) (evb_nil))))) (evss_cons (evs_ext 1 (pe_bm PySem.F.plainAttrs_list PySem.F.slot_list_extend PySem.F.type_list_extend mt_extend (pv 1) (pa_cons (pe_se _ _) pa_nil)) (EvN.r (evn_lc (own := [("many", 5)]) rfl nd (blkOk_by (by kernel_rfl)) (evi_rg1 b_range (evr_var 3)) (fun _ _ _ _ _ => evg_nm 5 nd) (evtb_nil) (fun _ _ _ _ _ => evf_op op_sub r2_sub (EvF.r (evf_op op_sub r2_sub (evr_var 2) (EvF.r (evf_int)))) (evr_var 5)) (by decide)))) (evss_nil)))) (evss_cons (evs_ret (evf_callTy call_tuple_of rc_tuple b_tuple boot_tuple (evb_cons (evr_var 1) (evb_nil)))) (evss_nil)))
theorem ok_twice_by (X0 : K.In h0) (G : h0.Ns mainGlobals mg) (c : He.SaysD Hd.fa Hd.fn K) : Cal P w K mg base 4 "twice_by" (spP 2 f_twice_by) [] := by
  obtain ⟨fd, F⟩ := c.def_ 26 (d := Hd.mk "twice_by" 46) rfl
  have b_enumerate : mg "enumerate" = none := He.free_ok X0 G (c.fact 51 (f := .free "enumerate") rfl)
  have c_crossed_by := ok_crossed_by (P := P) (w := w) (base := base) X0 G c
  have Sc : FnScope N_twice_by ["wires", "drawing"] (defScope (Hd.top 46)) := C8.fnScope_by (by kernel_rfl)
  have nd : (N_twice_by : List Str).Nodup := Sc.nd
  have Bd : Binds K fd ["wires", "drawing"] [] := FunD.bindsN F fun _ _ _ _ _ _ us hl => match us, hl with | [_, _], _ => rfl
  refine calP (N := N_twice_by) (ps := ["wires", "drawing"]) (b := d_twice_by) 2 F (He.glo_ok X0 G (c.fact 26 (f := .glo "twice_by") rfl)) Sc rfl Bd fun cdv A outer s H E hr => ?_
  obtain ⟨u1, u8, u65, u100⟩ := hr.us
  exact evss_cons (evs_set 2 nd (EvN.u (evn_dT))) (evss_cons (evs_for PassesOwn.never rfl (evi_en1 b_enumerate (evf_callP c_crossed_by hr (by decide) (eva_cons (evf_var 0) (eva_cons (evf_var 1) (eva_nil))))) (evg_tp rfl (evgs_cons (evg_nm 3 nd) (evgs_cons (evg_nm 4 nd) (evgs_nil))) rfl gs2) (evss_cons (evs_if (evt_inM u1 (evr_var 4) (evr_var 2)) (evss_cons (evs_ret (evf_tup (eva_cons (evf_ix u1 (evr_var 2) (evr_var 4)) (eva_cons (evf_var 3) (eva_nil))))) (evss_nil)) (evss_nil)) (evss_cons (evs_put 2 (ps_dput u1 (pv 2) (pe_se _ _) (pe_se _ _) rfl) (evf_var 3) (evr_var 4)) (evss_nil)))) (evss_cons (evs_ret (evf_non)) (evss_nil)))
theorem ok_first_shortest (X0 : K.In h0) (G : h0.Ns mainGlobals mg) (c : He.SaysD Hd.fa Hd.fn K) : Cal P w K mg base 4 "first_shortest" (spP 1 f_first_shortest) [] := by
  obtain ⟨fd, F⟩ := c.def_ 27 (d := Hd.mk "first_shortest" 47) rfl
  have c_first_by := ok_first_by (P := P) (w := w) (base := base) X0 G c
  have c_need_sequence := ok_need_sequence (P := P) (w := w) (base := base) X0 G c
  have Sc : FnScope N_first_shortest ["sequence"] (defScope (Hd.top 47)) := C8.fnScope_by (by kernel_rfl)
  have nd : (N_first_shortest : List Str).Nodup := Sc.nd
  have Bd : Binds K fd ["sequence"] [] := FunD.bindsN F fun _ _ _ _ _ _ us hl => match us, hl with | [_], _ => rfl
  refine calP (N := N_first_shortest) (ps := ["sequence"]) (b := d_first_shortest) 1 F (He.glo_ok X0 G (c.fact 27 (f := .glo "first_shortest") rfl)) Sc rfl Bd fun cdv A outer s H E hr => ?_
  obtain ⟨u1, u8, u65, u100⟩ := hr.us
  exact evss_cons (evs_drop (evf_callP c_need_sequence hr (by decide) (eva_cons (evf_var 0) (eva_nil)))) (evss_cons (evs_ret (evf_callP c_first_by hr (by decide) (eva_cons (evf_var 0) (eva_nil)))) (evss_nil))
theorem ok_is_shortest (X0 : K.In h0) (G : h0.Ns mainGlobals mg) (c : He.SaysD Hd.fa Hd.fn K) : Cal P w K mg base 5 "is_shortest" (spP 2 f_is_shortest) [] := by
  obtain ⟨fd, F⟩ := c.def_ 28 (d := Hd.mk "is_shortest" 48) rfl
  have c_need_drawing := ok_need_drawing (P := P) (w := w) (base := base) X0 G c
  have c_twice_by := ok_twice_by (P := P) (w := w) (base := base) X0 G c
  have Sc : FnScope N_is_shortest ["wires", "drawing"] (defScope (Hd.top 48)) := C8.fnScope_by (by kernel_rfl)
  have nd : (N_is_shortest : List Str).Nodup := Sc.nd
  have Bd : Binds K fd ["wires", "drawing"] [] := FunD.bindsN F fun _ _ _ _ _ _ us hl => match us, hl with | [_, _], _ => rfl
  refine calP (N := N_is_shortest) (ps := ["wires", "drawing"]) (b := d_is_shortest) 2 F (He.glo_ok X0 G (c.fact 28 (f := .glo "is_shortest") rfl)) Sc rfl Bd fun cdv A outer s H E hr => ?_
  obtain ⟨u1, u8, u65, u100⟩ := hr.us
  exact evss_cons (evs_drop (evf_callP c_need_drawing hr (by decide) (eva_cons (evf_var 0) (eva_cons (evf_var 1) (eva_nil))))) (evss_cons (evs_ret (evf_cmp op_isN r2_isN (EvF.r (evf_callP c_twice_by hr (by decide) (eva_cons (evf_var 0) (eva_cons (evf_var 1) (eva_nil))))) (EvF.r (evf_non)) (nomark _))) (evss_nil))
theorem ok_sum_by (X0 : K.In h0) (G : h0.Ns mainGlobals mg) (c : He.SaysD Hd.fa Hd.fn K) : Cal P w K mg base 3 "sum_by" (spP 1 f_sum_by) [] := by
  obtain ⟨fd, F⟩ := c.def_ 29 (d := Hd.mk "sum_by" 50) rfl
  have b_len : mg "len" = none := He.free_ok X0 G (c.fact 54 (f := .free "len") rfl)
  have b_max : mg "max" = none := He.free_ok X0 G (c.fact 56 (f := .free "max") rfl)
  have b_range : mg "range" = none := He.free_ok X0 G (c.fact 58 (f := .free "range") rfl)
  have b_tuple : mg "tuple" = none := He.free_ok X0 G (c.fact 61 (f := .free "tuple") rfl)
  have c_UNKNOWNS : ∃ t, mg "UNKNOWNS" = some (.int 5 t) := He.int_ok X0 G (c.fact 65 (f := .int "UNKNOWNS" 5) rfl)
  have c_cut_by := ok_cut_by (P := P) (w := w) (base := base) X0 G c
  have c_swapped := ok_swapped (P := P) (w := w) (base := base) X0 G c
  have Sc : FnScope N_sum_by ["sequence"] (defScope (Hd.top 50)) := C8.fnScope_by (by kernel_rfl)
  have nd : (N_sum_by : List Str).Nodup := Sc.nd
  have Bd : Binds K fd ["sequence"] [] := FunD.bindsN F fun _ _ _ _ _ _ us hl => match us, hl with | [_], _ => rfl
  refine calP (N := N_sum_by) (ps := ["sequence"]) (b := d_sum_by) 1 F (He.glo_ok X0 G (c.fact 29 (f := .glo "sum_by") rfl)) Sc rfl Bd fun cdv A outer s H E hr => ?_
  obtain ⟨u1, u8, u65, u100⟩ := hr.us
  exact evss_cons (evs_par3t 1 2 3 rfl nd (EvF.u (evf_callB cr_len rc_len b_len boot_len (evb_cons (evr_var 0) (evb_nil)))) (EvF.u (evf_var 0)) (EvN.u (evn_lst (eva_nil))) (by decide) (by decide) (by decide)) (evss_cons (evs_while 1000 PassesOwn.never (evt_cmp (op_neU u100) r2_neU (evr_var 2) (EvF.r (evf_tupRg3 rfl b_tuple b_range (evr_var 1) (EvF.r (evf_int)))) (nomark _)) (evss_cons (evs_set 4 nd (EvF.u (evf_ix u1 (EvN.r (evn_lc (own := [("at", 4)]) rfl nd (blkOk_by (by kernel_rfl)) (evi_rg2 b_range (EvF.r (evf_int)) (evr_var 1)) (fun _ _ _ _ _ => evg_nm 4 nd) (evtb_one (fun _ _ _ _ _ => evt_cmp op_lt r2_cmp (EvF.r (evf_ix u1 (evr_var 2) (EvF.r (evf_op op_sub r2_sub (evr_var 4) (EvF.r (evf_int)))))) (EvF.r (evf_ix u1 (evr_var 2) (evr_var 4))) (nomark _))) (fun _ _ _ _ _ => evf_var 4) (by decide))) (EvF.r (evf_int))))) (evss_cons (evs_set 2 nd (EvF.u (evf_callP c_swapped hr (by decide) (eva_cons (evf_var 2) (eva_cons (evf_var 4) (eva_nil)))))) (evss_cons (evs_app 3 (pe_bm PySem.F.plainAttrs_list PySem.F.slot_list_append PySem.F.type_list_append mt_append (pv 3) (pa_cons (pe_se _ _) pa_nil)) (evf_var 4)) (evss_nil))))) (evss_cons (evs_set 5 nd (EvF.u (EvN.toF (evn_disp1 u8 (evf_callTy call_tuple_of rc_tuple b_tuple boot_tuple (evb_cons (EvN.r (evn_lc (own := [("at", 4)]) rfl nd (blkOk_by (by kernel_rfl)) (evi_rg2 b_range (EvF.r (evf_int)) (EvF.r (evf_op op_addA r2_add (EvF.r (evf_glob c_UNKNOWNS)) (EvF.r (evf_int))))) (fun _ _ _ _ _ => evg_nm 4 nd) (evtb_nil) (fun _ _ _ _ _ => evf_callB (call_max2 rfl) rc_max2 b_max (by decide +kernel) (evb_cons (EvF.r (evf_op op_sub r2_sub (evr_var 1) (evr_var 4))) (evb_cons (EvF.r (evf_int)) (evb_nil)))) (by decide))) (evb_nil))) (evf_int))))) (evss_cons (evs_for PassesOwn.never rfl (evi_val (EvN.toF (evn_rev (evr_var 3)))) (evg_nm 4 nd) (evss_cons (evs_set 5 nd (EvF.u (evf_callP c_cut_by hr (by decide) (eva_cons (evf_var 5) (eva_cons (evf_var 4) (eva_nil)))))) (evss_nil))) (evss_cons (evs_ret (EvN.toF (evn_dc (own := [("row", 6), ("number", 7)]) u8 rfl nd (blkOk_by (by kernel_rfl)) (evi_items (evf_var 5)) (fun _ _ _ _ _ => evg_tp rfl (evgs_cons (evg_nm 6 nd) (evgs_cons (evg_nm 7 nd) (evgs_nil))) rfl gs2) (evtb_nil) (fun _ _ _ _ _ => evf_slice (evr_var 6) evp_none (evp_some (EvF.r (evf_glob c_UNKNOWNS)))) (fun _ _ _ _ _ => evf_var 7) (by decide)))) (evss_nil)))))
theorem ok_sum_of (X0 : K.In h0) (G : h0.Ns mainGlobals mg) (c : He.SaysD Hd.fa Hd.fn K) : Cal P w K mg base 4 "sum_of" (spP 1 f_sum_of) [] := by
  obtain ⟨fd, F⟩ := c.def_ 30 (d := Hd.mk "sum_of" 51) rfl
  have c_need_sequence := ok_need_sequence (P := P) (w := w) (base := base) X0 G c
  have c_sum_by := ok_sum_by (P := P) (w := w) (base := base) X0 G c
  have Sc : FnScope N_sum_of ["sequence"] (defScope (Hd.top 51)) := C8.fnScope_by (by kernel_rfl)
  have nd : (N_sum_of : List Str).Nodup := Sc.nd
  have Bd : Binds K fd ["sequence"] [] := FunD.bindsN F fun _ _ _ _ _ _ us hl => match us, hl with | [_], _ => rfl
  refine calP (N := N_sum_of) (ps := ["sequence"]) (b := d_sum_of) 1 F (He.glo_ok X0 G (c.fact 30 (f := .glo "sum_of") rfl)) Sc rfl Bd fun cdv A outer s H E hr => ?_
  obtain ⟨u1, u8, u65, u100⟩ := hr.us
  exact evss_cons (evs_drop (evf_callP c_need_sequence hr (by decide) (eva_cons (evf_var 0) (eva_nil)))) (evss_cons (evs_ret (evf_callP c_sum_by hr (by decide) (eva_cons (evf_var 0) (eva_nil)))) (evss_nil))
theorem ok__law_mixed (X0 : K.In h0) (G : h0.Ns mainGlobals mg) (c : He.SaysD Hd.fa Hd.fn K) : Cal P w K mg base 1 "_law_mixed" (spD 0 f__law_mixed) [] := by
  obtain ⟨fd, F⟩ := c.def_ 32 (d := Hd.mk "_law_mixed" 54) rfl
  have b_int : mg "int" = none := He.free_ok X0 G (c.fact 52 (f := .free "int") rfl)
  have Sc : FnScope N__law_mixed ["draw"] (defScope (Hd.top 54)) := C8.fnScope_by (by kernel_rfl)
  have nd : (N__law_mixed : List Str).Nodup := Sc.nd
  have Bd : Binds K fd ["draw"] [] := FunD.bindsN F fun _ _ _ _ _ _ us hl => match us, hl with | [_], _ => rfl
  refine calD (N := N__law_mixed) (ps := ["draw"]) (b := d__law_mixed) 0 F (He.glo_ok X0 G (c.fact 32 (f := .glo "_law_mixed") rfl)) Sc rfl Bd fun cdv A outer s H E hr => ?_
  obtain ⟨u1, u8, u65, u100⟩ := hr.us
  exact evss_cons (evs_setTn 0 (ps_dput u1 (pv 0) pe_str (pe_se _ _) rfl) (EvF.r (evf_op op_addA r2_add (EvF.r (evf_turn 0 (pe_dget u1 (pv 0) pe_str (fun _ _ => rfl)))) (EvF.r (evf_int))))) (evss_cons (evs_par 1 2 rfl nd (EvF.u (evf_callTy call_int1 rc_int1 b_int boot_int (evb_cons (EvF.r (evf_turn 0 (pe_dget u1 (pv 0) pe_str (fun _ _ => rfl)))) (evb_nil)))) (EvF.u (evf_int)) (by decide)) (evss_cons (evs_for PassesOwn.never rfl (evi_val (EvN.toF (evn_lst (eva_cons (evf_int) (eva_cons (evf_int) (eva_cons (evf_int) (eva_nil))))))) (evg_nm 3 nd) (evss_cons (evs_set 4 nd (EvF.u (evf_op op_mod r2_mod (EvF.r (evf_op op_addA r2_add (EvF.r (evf_op op_mul r2_mul (evr_var 1) (EvF.r (evf_int)))) (EvF.r (evf_op op_fdivW r2_div (evr_var 3) (EvF.r (evf_int)))))) (evr_var 3)))) (evss_cons (evs_for PassesOwn.never rfl (evi_val (evf_cells 0 (pe_dget u1 (pv 0) pe_str (fun _ _ => rfl)))) (evg_nm 5 nd) (evss_cons (evs_set 4 nd (EvF.u (evf_op op_mod r2_mod (EvF.r (evf_op op_addA r2_add (EvF.r (evf_op op_addA r2_add (EvF.r (evf_op op_mul r2_mul (evr_var 4) (EvF.r (evf_int)))) (EvF.r (evf_callTy call_int1 rc_int1 b_int boot_int (evb_cons (evr_var 5) (evb_nil)))))) (evr_var 1))) (evr_var 3)))) (evss_nil))) (evss_cons (evs_set 2 nd (EvF.u (evf_op op_addA r2_add (EvF.r (evf_op op_mul r2_mul (evr_var 2) (EvF.r (evf_int)))) (EvF.r (evf_op op_mod r2_mod (EvF.r (evf_op op_pow r2_pow (evr_var 4) (EvF.r (evf_int)))) (evr_var 3)))))) (evss_nil))))) (evss_cons (evs_ret (evf_var 2)) (evss_nil))))
theorem ok__law_take (X0 : K.In h0) (G : h0.Ns mainGlobals mg) (c : He.SaysD Hd.fa Hd.fn K) : Cal P w K mg base 2 "_law_take" (spD 1 f__law_take) [] := by
  obtain ⟨fd, F⟩ := c.def_ 33 (d := Hd.mk "_law_take" 55) rfl
  have b_int : mg "int" = none := He.free_ok X0 G (c.fact 52 (f := .free "int") rfl)
  have c__law_mixed := ok__law_mixed (P := P) (w := w) (base := base) X0 G c
  have Sc : FnScope N__law_take ["draw", "amount"] (defScope (Hd.top 55)) := C8.fnScope_by (by kernel_rfl)
  have nd : (N__law_take : List Str).Nodup := Sc.nd
  have Bd : Binds K fd ["draw", "amount"] [] := FunD.bindsN F fun _ _ _ _ _ _ us hl => match us, hl with | [_, _], _ => rfl
  refine calD (N := N__law_take) (ps := ["draw", "amount"]) (b := d__law_take) 1 F (He.glo_ok X0 G (c.fact 33 (f := .glo "_law_take") rfl)) Sc rfl Bd fun cdv A outer s H E hr => ?_
  obtain ⟨u1, u8, u65, u100⟩ := hr.us
  exact evss_cons (evs_if (evt_cmp (op_eqU u100) r2_eqU (EvF.r (evf_rest 0 (pe_dget u1 (pv 0) pe_str (fun _ _ => rfl)))) (EvF.r (evf_int)) (nomark _)) (evss_cons (evs_setR 0 (ps_dput u1 (pv 0) pe_str (pe_se _ _) rfl) (EvF.r (evf_if (evt_large u100 0 (pe_dget u1 (pv 0) pe_str (fun _ _ => rfl))) (evf_popL 0 (pe_bm PySem.F.plainAttrs_list PySem.F.slot_list_pop PySem.F.type_list_pop mt_popAt (pe_dget u1 (pv 0) pe_str (fun _ _ => rfl)) (pa_cons pe_int pa_nil))) (evf_callD 0 c__law_mixed hr (by decide) (pv 0) (eva_nil))))) (evss_nil)) (evss_nil)) (evss_cons (evs_set 2 nd (EvF.u (evf_op op_mod r2_mod (EvF.r (evf_callTy call_int1 rc_int1 b_int boot_int (evb_cons (EvF.r (evf_rest 0 (pe_dget u1 (pv 0) pe_str (fun _ _ => rfl)))) (evb_nil)))) (evr_var 1)))) (evss_cons (evs_setR 0 (ps_dput u1 (pv 0) pe_str (pe_se _ _) rfl) (EvF.r (evf_op op_fdivW r2_div (EvF.r (evf_callTy call_int1 rc_int1 b_int boot_int (evb_cons (EvF.r (evf_rest 0 (pe_dget u1 (pv 0) pe_str (fun _ _ => rfl)))) (evb_nil)))) (evr_var 1)))) (evss_cons (evs_ret (evf_var 2)) (evss_nil))))
theorem ok__law_pick (X0 : K.In h0) (G : h0.Ns mainGlobals mg) (c : He.SaysD Hd.fa Hd.fn K) : Cal P w K mg base 3 "_law_pick" (spD 1 f__law_pick) [] := by
  obtain ⟨fd, F⟩ := c.def_ 34 (d := Hd.mk "_law_pick" 56) rfl
  have b_len : mg "len" = none := He.free_ok X0 G (c.fact 54 (f := .free "len") rfl)
  have c__law_take := ok__law_take (P := P) (w := w) (base := base) X0 G c
  have Sc : FnScope N__law_pick ["draw", "some"] (defScope (Hd.top 56)) := C8.fnScope_by (by kernel_rfl)
  have nd : (N__law_pick : List Str).Nodup := Sc.nd
  have Bd : Binds K fd ["draw", "some"] [] := FunD.bindsN F fun _ _ _ _ _ _ us hl => match us, hl with | [_, _], _ => rfl
  refine calD (N := N__law_pick) (ps := ["draw", "some"]) (b := d__law_pick) 1 F (He.glo_ok X0 G (c.fact 34 (f := .glo "_law_pick") rfl)) Sc rfl Bd fun cdv A outer s H E hr => ?_
  obtain ⟨u1, u8, u65, u100⟩ := hr.us
  exact evss_cons (evs_ret (evf_ix u1 (evr_var 1) (EvF.r (evf_callD 0 c__law_take hr (by decide) (pv 0) (eva_cons (evf_callB cr_len rc_len b_len boot_len (evb_cons (evr_var 1) (evb_nil))) (eva_nil)))))) (evss_nil)
theorem ok__law_shuffled (X0 : K.In h0) (G : h0.Ns mainGlobals mg) (c : He.SaysD Hd.fa Hd.fn K) : Cal P w K mg base 3 "_law_shuffled" (spD 1 f__law_shuffled) [] := by
  obtain ⟨fd, F⟩ := c.def_ 35 (d := Hd.mk "_law_shuffled" 57) rfl
  have b_len : mg "len" = none := He.free_ok X0 G (c.fact 54 (f := .free "len") rfl)
  have b_list : mg "list" = none := He.free_ok X0 G (c.fact 55 (f := .free "list") rfl)
  have c__law_take := ok__law_take (P := P) (w := w) (base := base) X0 G c
  have Sc : FnScope N__law_shuffled ["draw", "some"] (defScope (Hd.top 57)) := C8.fnScope_by (by kernel_rfl)
  have nd : (N__law_shuffled : List Str).Nodup := Sc.nd
  have Bd : Binds K fd ["draw", "some"] [] := FunD.bindsN F fun _ _ _ _ _ _ us hl => match us, hl with | [_, _], _ => rfl
  refine calD (N := N__law_shuffled) (ps := ["draw", "some"]) (b := d__law_shuffled) 1 F (He.glo_ok X0 G (c.fact 35 (f := .glo "_law_shuffled") rfl)) Sc rfl Bd fun cdv A outer s H E hr => ?_
  obtain ⟨u1, u8, u65, u100⟩ := hr.us
  exact evss_cons (evs_par 2 3 rfl nd (EvN.u (evn_callTy call_list_of rc_list b_list boot_list (evb_cons (evr_var 1) (evb_nil)))) (EvN.u (evn_lst (eva_nil))) (by decide)) (evss_cons (evs_while 1000 PassesOwn.never (evt_cmp (op_neU u100) r2_neU (evr_var 2) (EvN.r (evn_lst (eva_nil))) (nomark _)) (evss_cons (evs_appPop 3 2 (by decide) (pe_bm PySem.F.plainAttrs_list PySem.F.slot_list_append PySem.F.type_list_append mt_append (pv 3) (pa_cons (pe_bm PySem.F.plainAttrs_list PySem.F.slot_list_pop PySem.F.type_list_pop mt_popAt (pv 2) (pa_cons (pe_se _ _) pa_nil)) pa_nil)) (EvF.r (evf_callD 0 c__law_take hr (by decide) (pv 0) (eva_cons (evf_callB cr_len rc_len b_len boot_len (evb_cons (evr_var 2) (evb_nil))) (eva_nil))))) (evss_nil))) (evss_cons (evs_frz 3 (evs_ret (evf_var 3))) (evss_nil)))
theorem ok__law_sequence (X0 : K.In h0) (G : h0.Ns mainGlobals mg) (c : He.SaysD Hd.fa Hd.fn K) : Cal P w K mg base 4 "_law_sequence" (spD 1 f__law_sequence) [] := by
  obtain ⟨fd, F⟩ := c.def_ 36 (d := Hd.mk "_law_sequence" 58) rfl
  have b_list : mg "list" = none := He.free_ok X0 G (c.fact 55 (f := .free "list") rfl)
  have b_range : mg "range" = none := He.free_ok X0 G (c.fact 58 (f := .free "range") rfl)
  have b_tuple : mg "tuple" = none := He.free_ok X0 G (c.fact 61 (f := .free "tuple") rfl)
  have c__law_shuffled := ok__law_shuffled (P := P) (w := w) (base := base) X0 G c
  have Sc : FnScope N__law_sequence ["draw", "wires"] (defScope (Hd.top 58)) := C8.fnScope_by (by kernel_rfl)
  have nd : (N__law_sequence : List Str).Nodup := Sc.nd
  have Bd : Binds K fd ["draw", "wires"] [] := FunD.bindsN F fun _ _ _ _ _ _ us hl => match us, hl with | [_, _], _ => rfl
  refine calD (N := N__law_sequence) (ps := ["draw", "wires"]) (b := d__law_sequence) 1 F (He.glo_ok X0 G (c.fact 36 (f := .glo "_law_sequence") rfl)) Sc rfl Bd fun cdv A outer s H E hr => ?_
  obtain ⟨u1, u8, u65, u100⟩ := hr.us
  exact evss_cons (evs_ret (evf_callTy cr_ptup rc_ptup b_tuple boot_tuple (evb_cons (EvF.r (evf_callD 0 c__law_shuffled hr (by decide) (pv 0) (eva_cons (EvN.toF (evn_listRg rfl b_list (evrg_2 b_range (EvF.r (evf_int)) (EvF.r (evf_op op_addA r2_add (evr_var 1) (EvF.r (evf_int))))))) (eva_nil)))) (evb_nil)))) (evss_nil)
theorem ok__law_swapped (X0 : K.In h0) (G : h0.Ns mainGlobals mg) (c : He.SaysD Hd.fa Hd.fn K) : Cal P w K mg base 1 "_law_swapped" (spP 2 f__law_swapped) [] := by
  obtain ⟨fd, F⟩ := c.def_ 37 (d := Hd.mk "_law_swapped" 59) rfl
  have b_list : mg "list" = none := He.free_ok X0 G (c.fact 55 (f := .free "list") rfl)
  have b_tuple : mg "tuple" = none := He.free_ok X0 G (c.fact 61 (f := .free "tuple") rfl)
  have Sc : FnScope N__law_swapped ["sequence", "at"] (defScope (Hd.top 59)) := C8.fnScope_by (by kernel_rfl)
  have nd : (N__law_swapped : List Str).Nodup := Sc.nd
  have Bd : Binds K fd ["sequence", "at"] [] := FunD.bindsN F fun _ _ _ _ _ _ us hl => match us, hl with | [_, _], _ => rfl
  refine calP (N := N__law_swapped) (ps := ["sequence", "at"]) (b := d__law_swapped) 2 F (He.glo_ok X0 G (c.fact 37 (f := .glo "_law_swapped") rfl)) Sc rfl Bd fun cdv A outer s H E hr => ?_
  obtain ⟨u1, u8, u65, u100⟩ := hr.us
  exact evss_cons (evs_set 2 nd (EvN.u (evn_callTy call_list_of rc_list b_list boot_list (evb_cons (evr_var 0) (evb_nil))))) (evss_cons (evs_swap 2 (ps_asg (pe_se _ _) (pg_tup rfl (pgs_cons (pg_sub (pv 2) (pe_se _ _) set_list) (pgs_cons (pg_sub (pv 2) (pe_se _ _) set_list) pgs_nil)))) (evf_tup (eva_cons (evf_ix u1 (evr_var 2) (evr_var 1)) (eva_cons (evf_ix u1 (evr_var 2) (EvF.r (evf_op op_sub r2_sub (evr_var 1) (EvF.r (evf_int))))) (eva_nil)))) (EvF.r (evf_op op_sub r2_sub (evr_var 1) (EvF.r (evf_int)))) (evr_var 1)) (evss_cons (evs_ret (evf_callTy call_tuple_of rc_tuple b_tuple boot_tuple (evb_cons (evr_var 2) (evb_nil)))) (evss_nil)))
theorem ok__law_ends (X0 : K.In h0) (G : h0.Ns mainGlobals mg) (c : He.SaysD Hd.fa Hd.fn K) : Cal P w K mg base 1 "_law_ends" (spP 2 f__law_ends) [] := by
  obtain ⟨fd, F⟩ := c.def_ 38 (d := Hd.mk "_law_ends" 60) rfl
  have b_range : mg "range" = none := He.free_ok X0 G (c.fact 58 (f := .free "range") rfl)
  have b_tuple : mg "tuple" = none := He.free_ok X0 G (c.fact 61 (f := .free "tuple") rfl)
  have Sc : FnScope N__law_ends ["wires", "drawing"] (defScope (Hd.top 60)) := C8.fnScope_by (by kernel_rfl)
  have nd : (N__law_ends : List Str).Nodup := Sc.nd
  have Bd : Binds K fd ["wires", "drawing"] [] := FunD.bindsN F fun _ _ _ _ _ _ us hl => match us, hl with | [_, _], _ => rfl
  refine calP (N := N__law_ends) (ps := ["wires", "drawing"]) (b := d__law_ends) 2 F (He.glo_ok X0 G (c.fact 38 (f := .glo "_law_ends") rfl)) Sc rfl Bd fun cdv A outer s H E hr => ?_
  obtain ⟨u1, u8, u65, u100⟩ := hr.us
  exact evss_cons (evs_set 2 nd (EvN.u (evn_dK))) (evss_cons (evs_for PassesOwn.never rfl (evi_rg2 b_range (EvF.r (evf_int)) (EvF.r (evf_op op_addA r2_add (evr_var 0) (EvF.r (evf_int))))) (evg_nm 3 nd) (evss_cons (evs_set 4 nd (EvF.u (evf_var 3))) (evss_cons (evs_for PassesOwn.never rfl (evi_val (evf_var 1)) (evg_nm 5 nd) (evss_cons (evs_set 4 nd (EvF.u (evf_if (evt_cmp (op_eqU u100) r2_eqU (evr_var 4) (evr_var 5) (nomark _)) (evf_op op_addA r2_add (evr_var 5) (EvF.r (evf_int))) (evf_if (evt_cmp (op_eqU u100) r2_eqU (evr_var 4) (EvF.r (evf_op op_addA r2_add (evr_var 5) (EvF.r (evf_int)))) (nomark _)) (evf_var 5) (evf_var 4))))) (evss_nil))) (evss_cons (evs_put 2 (ps_dput u1 (pv 2) (pe_se _ _) (pe_se _ _) rfl) (evf_var 3) (evr_var 4)) (evss_nil))))) (evss_cons (evs_ret (evf_callTy call_tuple_of rc_tuple b_tuple boot_tuple (evb_cons (EvN.r (evn_lc (own := [("place", 4)]) rfl nd (blkOk_by (by kernel_rfl)) (evi_rg2 b_range (EvF.r (evf_int)) (EvF.r (evf_op op_addA r2_add (evr_var 0) (EvF.r (evf_int))))) (fun _ _ _ _ _ => evg_nm 4 nd) (evtb_nil) (fun _ _ _ _ _ => evf_ix u1 (evr_var 2) (evr_var 4)) (by decide))) (evb_nil)))) (evss_nil)))
theorem ok__law_many (X0 : K.In h0) (G : h0.Ns mainGlobals mg) (c : He.SaysD Hd.fa Hd.fn K) : Cal P w K mg base 1 "_law_many" (spP 1 f__law_many) [] := by
  obtain ⟨fd, F⟩ := c.def_ 39 (d := Hd.mk "_law_many" 61) rfl
  have b_enumerate : mg "enumerate" = none := He.free_ok X0 G (c.fact 51 (f := .free "enumerate") rfl)
  have b_len : mg "len" = none := He.free_ok X0 G (c.fact 54 (f := .free "len") rfl)
  have b_sum : mg "sum" = none := He.free_ok X0 G (c.fact 60 (f := .free "sum") rfl)
  have Sc : FnScope N__law_many ["sequence"] (defScope (Hd.top 61)) := C8.fnScope_by (by kernel_rfl)
  have nd : (N__law_many : List Str).Nodup := Sc.nd
  have Bd : Binds K fd ["sequence"] [] := FunD.bindsN F fun _ _ _ _ _ _ us hl => match us, hl with | [_], _ => rfl
  refine calP (N := N__law_many) (ps := ["sequence"]) (b := d__law_many) 1 F (He.glo_ok X0 G (c.fact 39 (f := .glo "_law_many") rfl)) Sc rfl Bd fun cdv A outer s H E hr => ?_
  obtain ⟨u1, u8, u65, u100⟩ := hr.us
  exact evss_cons (evs_ret (evf_callB (cr_sum rfl) rc_sum b_sum (by decide +kernel) (evb_cons (EvN.r (evn_lc (own := [("at", 1), ("wire", 2)]) rfl nd (blkOk_by (by kernel_rfl)) (evi_en1 b_enumerate (evf_var 0)) (fun _ _ _ _ _ => evg_tp rfl (evgs_cons (evg_nm 1 nd) (evgs_cons (evg_nm 2 nd) (evgs_nil))) rfl gs2) (evtb_nil) (fun _ _ _ _ _ => evf_callB cr_len rc_len b_len boot_len (evb_cons (EvN.r (evn_lc (own := [("late", 3)]) rfl nd (blkOk_by (by kernel_rfl)) (evi_val (evf_slice (evr_var 0) (evp_some (evr_var 1)) evp_none)) (fun _ _ _ _ _ => evg_nm 3 nd) (evtb_one (fun _ _ _ _ _ => evt_cmp op_lt r2_cmp (evr_var 3) (evr_var 2) (nomark _))) (fun _ _ _ _ _ => evf_var 3) (by decide))) (evb_nil))) (by decide))) (evb_nil)))) (evss_nil)
theorem ok__law_shortest (X0 : K.In h0) (G : h0.Ns mainGlobals mg) (c : He.SaysD Hd.fa Hd.fn K) : Cal P w K mg base 4 "_law_shortest" (spD 1 f__law_shortest) [] := by
  obtain ⟨fd, F⟩ := c.def_ 40 (d := Hd.mk "_law_shortest" 62) rfl
  have b_len : mg "len" = none := He.free_ok X0 G (c.fact 54 (f := .free "len") rfl)
  have b_range : mg "range" = none := He.free_ok X0 G (c.fact 58 (f := .free "range") rfl)
  have b_tuple : mg "tuple" = none := He.free_ok X0 G (c.fact 61 (f := .free "tuple") rfl)
  have c__law_many := ok__law_many (P := P) (w := w) (base := base) X0 G c
  have c__law_pick := ok__law_pick (P := P) (w := w) (base := base) X0 G c
  have c__law_swapped := ok__law_swapped (P := P) (w := w) (base := base) X0 G c
  have Sc : FnScope N__law_shortest ["draw", "sequence"] (defScope (Hd.top 62)) := C8.fnScope_by (by kernel_rfl)
  have nd : (N__law_shortest : List Str).Nodup := Sc.nd
  have Bd : Binds K fd ["draw", "sequence"] [] := FunD.bindsN F fun _ _ _ _ _ _ us hl => match us, hl with | [_, _], _ => rfl
  refine calD (N := N__law_shortest) (ps := ["draw", "sequence"]) (b := d__law_shortest) 1 F (He.glo_ok X0 G (c.fact 40 (f := .glo "_law_shortest") rfl)) Sc rfl Bd fun cdv A outer s H E hr => ?_
  obtain ⟨u1, u8, u65, u100⟩ := hr.us
  exact evss_cons (evs_asg (evf_tup (eva_cons (EvN.toF (evn_lst (eva_nil))) (eva_cons (evf_var 1) (eva_nil)))) (evg_tp rfl (evgs_cons (evg_nm 2 nd) (evgs_cons (evg_nm 3 nd) (evgs_nil))) rfl gs2)) (evss_cons (evs_while 1000 PassesOwn.never (evt_cmp op_gt r2_cmp (EvF.r (evf_callP c__law_many hr (by decide) (eva_cons (evf_var 3) (eva_nil)))) (EvF.r (evf_int)) (nomark _)) (evss_cons (evs_set 4 nd (EvF.u (evf_callD 0 c__law_pick hr (by decide) (pv 0) (eva_cons (EvN.toF (evn_lc (own := [("at", 4)]) rfl nd (blkOk_by (by kernel_rfl)) (evi_rg2 b_range (EvF.r (evf_int)) (EvF.r (evf_callB cr_len rc_len b_len boot_len (evb_cons (evr_var 3) (evb_nil))))) (fun _ _ _ _ _ => evg_nm 4 nd) (evtb_one (fun _ _ _ _ _ => evt_cmp op_gt r2_cmp (EvF.r (evf_ix u1 (evr_var 3) (EvF.r (evf_op op_sub r2_sub (evr_var 4) (EvF.r (evf_int)))))) (EvF.r (evf_ix u1 (evr_var 3) (evr_var 4))) (nomark _))) (fun _ _ _ _ _ => evf_var 4) (by decide))) (eva_nil))))) (evss_cons (evs_asg (evf_tup (eva_cons (EvN.toF (evn_op op_cat r2_cat (EvN.r (evn_lst (eva_cons (evf_var 4) (eva_nil)))) (evr_var 2))) (eva_cons (evf_callP c__law_swapped hr (by decide) (eva_cons (evf_var 3) (eva_cons (evf_var 4) (eva_nil)))) (eva_nil)))) (evg_tp rfl (evgs_cons (evg_nm 2 nd) (evgs_cons (evg_nm 3 nd) (evgs_nil))) rfl gs2)) (evss_nil)))) (evss_cons (evs_ret (evf_callTy call_tuple_of rc_tuple b_tuple boot_tuple (evb_cons (evr_var 2) (evb_nil)))) (evss_nil)))
theorem ok__law_drawing (X0 : K.In h0) (G : h0.Ns mainGlobals mg) (c : He.SaysD Hd.fa Hd.fn K) : Cal P w K mg base 5 "_law_drawing" (spD 2 f__law_drawing) [] := by
  obtain ⟨fd, F⟩ := c.def_ 41 (d := Hd.mk "_law_drawing" 63) rfl
  have b_len : mg "len" = none := He.free_ok X0 G (c.fact 54 (f := .free "len") rfl)
  have b_list : mg "list" = none := He.free_ok X0 G (c.fact 55 (f := .free "list") rfl)
  have b_range : mg "range" = none := He.free_ok X0 G (c.fact 58 (f := .free "range") rfl)
  have b_tuple : mg "tuple" = none := He.free_ok X0 G (c.fact 61 (f := .free "tuple") rfl)
  have c__law_sequence := ok__law_sequence (P := P) (w := w) (base := base) X0 G c
  have c__law_shortest := ok__law_shortest (P := P) (w := w) (base := base) X0 G c
  have c__law_take := ok__law_take (P := P) (w := w) (base := base) X0 G c
  have Sc : FnScope N__law_drawing ["draw", "wires", "most"] (defScope (Hd.top 63)) := C8.fnScope_by (by kernel_rfl)
  have nd : (N__law_drawing : List Str).Nodup := Sc.nd
  have Bd : Binds K fd ["draw", "wires", "most"] [] := FunD.bindsN F fun _ _ _ _ _ _ us hl => match us, hl with | [_, _, _], _ => rfl
  refine calD (N := N__law_drawing) (ps := ["draw", "wires", "most"]) (b := d__law_drawing) 2 F (He.glo_ok X0 G (c.fact 41 (f := .glo "_law_drawing") rfl)) Sc rfl Bd fun cdv A outer s H E hr => ?_
  obtain ⟨u1, u8, u65, u100⟩ := hr.us
  exact evss_cons (evs_if (evt_cmp op_lt r2_cmp (evr_var 1) (EvF.r (evf_int)) (nomark _)) (evss_cons (evs_ret (evf_tup (eva_nil))) (evss_nil)) (evss_nil)) (evss_cons (evs_par 3 4 rfl nd (EvF.u (EvN.toF (evn_lc (own := [("lap", 8)]) rfl nd (blkOk_by (by kernel_rfl)) (evi_rg1 b_range (EvF.r (evf_callD 0 c__law_take hr (by decide) (pv 0) (eva_cons (evf_op op_addA r2_add (evr_var 2) (EvF.r (evf_int))) (eva_nil))))) (fun _ _ _ _ _ => evg_nm 8 nd) (evtb_nil) (fun _ _ _ _ _ => evf_op op_addA r2_add (EvF.r (evf_int)) (EvF.r (evf_callD 0 c__law_take hr (by decide) (pv 0) (eva_cons (evf_op op_sub r2_sub (evr_var 1) (EvF.r (evf_int))) (eva_nil))))) (by decide)))) (EvF.u (evf_callD 0 c__law_take hr (by decide) (pv 0) (eva_cons (evf_int) (eva_nil)))) (by decide)) (evss_cons (evs_if (evt_cmp (op_eqU u100) r2_eqU (evr_var 4) (EvF.r (evf_int)) (nomark _)) (evss_cons (evs_ret (evf_callTy call_tuple_of rc_tuple b_tuple boot_tuple (evb_cons (evr_var 3) (evb_nil)))) (evss_nil)) (evss_nil)) (evss_cons (evs_set 5 nd (EvF.u (EvN.toF (evn_slice (EvN.r (evn_callTy call_list_of rc_list b_list boot_list (evb_cons (EvF.r (evf_callD 0 c__law_shortest hr (by decide) (pv 0) (eva_cons (evf_callD 0 c__law_sequence hr (by decide) (pv 0) (eva_cons (evf_var 1) (eva_nil))) (eva_nil)))) (evb_nil)))) evp_none (evp_some (evr_var 2)))))) (evss_cons (evs_for PassesOwn.never rfl (evi_val (evf_if (EvW.toT (evw_and (evt_cmp (op_eqU u100) r2_eqU (evr_var 4) (EvF.r (evf_int)) (nomark _)) (evw_and1 (evt_cmp op_le r2_cmp (EvF.r (evf_op op_addA r2_add (EvF.r (evf_callB cr_len rc_len b_len boot_len (evb_cons (evr_var 5) (evb_nil)))) (EvF.r (evf_int)))) (evr_var 2) (nomark _))))) (EvN.toF (evn_slice (evr_var 3) evp_none (evp_some (EvF.r (evf_int))))) (EvN.toF (evn_lst (eva_nil))))) (evg_nm 6 nd) (evss_cons (evs_set 7 nd (EvF.u (evf_callD 0 c__law_take hr (by decide) (pv 0) (eva_cons (evf_op op_addA r2_add (EvF.r (evf_callB cr_len rc_len b_len boot_len (evb_cons (evr_var 5) (evb_nil)))) (EvF.r (evf_int))) (eva_nil))))) (evss_cons (evs_set 5 nd (EvF.u (EvN.toF (evn_op op_cat r2_cat (EvN.r (evn_op op_cat r2_cat (EvN.r (evn_slice (evr_var 5) evp_none (evp_some (evr_var 7)))) (EvN.r (evn_lst (eva_cons (evf_var 6) (eva_cons (evf_var 6) (eva_nil))))))) (EvN.r (evn_slice (evr_var 5) (evp_some (evr_var 7)) evp_none)))))) (evss_nil)))) (evss_cons (evs_ret (evf_callTy call_tuple_of rc_tuple b_tuple boot_tuple (evb_cons (evr_var 5) (evb_nil)))) (evss_nil))))))
theorem ok__law_kept (X0 : K.In h0) (G : h0.Ns mainGlobals mg) (c : He.SaysD Hd.fa Hd.fn K) : Cal P w K mg base 1 "_law_kept" (spP 1 f__law_kept) [] := by
  obtain ⟨fd, F⟩ := c.def_ 42 (d := Hd.mk "_law_kept" 64) rfl
  have b_dict : mg "dict" = none := He.free_ok X0 G (c.fact 50 (f := .free "dict") rfl)
  have Sc : FnScope N__law_kept ["found"] (defScope (Hd.top 64)) := C8.fnScope_by (by kernel_rfl)
  have nd : (N__law_kept : List Str).Nodup := Sc.nd
  have Bd : Binds K fd ["found"] [] := FunD.bindsN F fun _ _ _ _ _ _ us hl => match us, hl with | [_], _ => rfl
  refine calP (N := N__law_kept) (ps := ["found"]) (b := d__law_kept) 1 F (He.glo_ok X0 G (c.fact 42 (f := .glo "_law_kept") rfl)) Sc rfl Bd fun cdv A outer s H E hr => ?_
  obtain ⟨u1, u8, u65, u100⟩ := hr.us
  exact evss_cons (evs_ret (EvN.toF (evn_callTy (call_dictP rfl u8) rc_dictP b_dict boot_dict (evb_cons (EvN.r (evn_lc (own := [("key", 1)]) rfl nd (blkOk_by (by kernel_rfl)) (evi_val (evf_var 0)) (fun _ _ _ _ _ => evg_nm 1 nd) (evtb_one (fun _ _ _ _ _ => evt_cmp (op_neU u100) r2_neU (EvF.r (evf_ix u1 (evr_var 0) (evr_var 1))) (EvF.r (evf_int)) (nomark _))) (fun _ _ _ _ _ => evf_tup (eva_cons (evf_var 1) (eva_cons (evf_ix u1 (evr_var 0) (evr_var 1)) (eva_nil)))) (by decide))) (evb_nil))))) (evss_nil)
theorem ok__law_cut (X0 : K.In h0) (G : h0.Ns mainGlobals mg) (c : He.SaysD Hd.fa Hd.fn K) : Cal P w K mg base 2 "_law_cut" (spP 2 f__law_cut) [] := by
  obtain ⟨fd, F⟩ := c.def_ 43 (d := Hd.mk "_law_cut" 65) rfl
  have b_max : mg "max" = none := He.free_ok X0 G (c.fact 56 (f := .free "max") rfl)
  have b_min : mg "min" = none := He.free_ok X0 G (c.fact 57 (f := .free "min") rfl)
  have b_range : mg "range" = none := He.free_ok X0 G (c.fact 58 (f := .free "range") rfl)
  have c__law_kept := ok__law_kept (P := P) (w := w) (base := base) X0 G c
  have Sc : FnScope N__law_cut ["polynomial", "at"] (defScope (Hd.top 65)) := C8.fnScope_by (by kernel_rfl)
  have nd : (N__law_cut : List Str).Nodup := Sc.nd
  have Bd : Binds K fd ["polynomial", "at"] [] := FunD.bindsN F fun _ _ _ _ _ _ us hl => match us, hl with | [_, _], _ => rfl
  refine calP (N := N__law_cut) (ps := ["polynomial", "at"]) (b := d__law_cut) 2 F (He.glo_ok X0 G (c.fact 43 (f := .glo "_law_cut") rfl)) Sc rfl Bd fun cdv A outer s H E hr => ?_
  obtain ⟨u1, u8, u65, u100⟩ := hr.us
  exact evss_cons (evs_set 2 nd (EvN.u (evn_dT))) (evss_cons (evs_for PassesOwn.never rfl (evi_val (evf_var 0)) (evg_nm 3 nd) (evss_cons (evs_par 4 5 rfl nd (EvF.u (evf_callB (call_max2 rfl) rc_max2 b_max (by decide +kernel) (evb_cons (EvF.r (evf_ix u1 (evr_var 3) (EvF.r (evf_op op_sub r2_sub (evr_var 1) (EvF.r (evf_int)))))) (evb_cons (EvF.r (evf_ix u1 (evr_var 3) (evr_var 1))) (evb_nil))))) (EvF.u (evf_callB (call_min2 rfl) rc_min2 b_min (by decide +kernel) (evb_cons (EvF.r (evf_ix u1 (evr_var 3) (EvF.r (evf_op op_sub r2_sub (evr_var 1) (EvF.r (evf_int)))))) (evb_cons (EvF.r (evf_ix u1 (evr_var 3) (evr_var 1))) (evb_nil))))) (by decide)) (evss_cons (evs_set 6 nd (EvF.u (evf_if (evt_cmp op_gt r2_cmp (EvF.r (evf_ix u1 (evr_var 3) (EvF.r (evf_op op_sub r2_sub (evr_var 1) (EvF.r (evf_int)))))) (EvF.r (evf_ix u1 (evr_var 3) (evr_var 1))) (nomark _)) (evf_int) (evf_neg (EvF.r (evf_int)))))) (evss_cons (evs_for PassesOwn.never rfl (evi_rg1 b_range (EvF.r (evf_op op_sub r2_sub (evr_var 4) (evr_var 5)))) (evg_nm 7 nd) (evss_cons (evs_set 8 nd (EvF.u (evf_op op_addA r2_add (EvF.r (evf_op op_addA r2_add (EvF.r (evf_slice (evr_var 3) evp_none (evp_some (EvF.r (evf_op op_sub r2_sub (evr_var 1) (EvF.r (evf_int))))))) (EvF.r (evf_tup (eva_cons (evf_op op_sub r2_sub (EvF.r (evf_op op_sub r2_sub (evr_var 4) (EvF.r (evf_int)))) (evr_var 7)) (eva_cons (evf_op op_addA r2_add (evr_var 5) (evr_var 7)) (eva_nil))))))) (EvF.r (evf_slice (evr_var 3) (evp_some (EvF.r (evf_op op_addA r2_add (evr_var 1) (EvF.r (evf_int))))) evp_none))))) (evss_cons (evs_put 2 (ps_dput u1 (pv 2) (pe_se _ _) (pe_se _ _) rfl) (evf_op op_addA r2_add (EvF.r (evf_get u8 (evr_var 2) (evr_var 8) (evf_int) ⟨rfl, rfl, rfl, rfl⟩)) (EvF.r (evf_op op_mul r2_mul (evr_var 6) (EvF.r (evf_ix u1 (evr_var 0) (evr_var 3)))))) (evr_var 8)) (evss_nil)))) (evss_nil))))) (evss_cons (evs_frz 2 (evs_ret (evf_callP c__law_kept hr (by decide) (eva_cons (evf_var 2) (eva_nil))))) (evss_nil)))
theorem ok__law_sum (X0 : K.In h0) (G : h0.Ns mainGlobals mg) (c : He.SaysD Hd.fa Hd.fn K) : Cal P w K mg base 3 "_law_sum" (spP 1 f__law_sum) [] := by
  obtain ⟨fd, F⟩ := c.def_ 44 (d := Hd.mk "_law_sum" 66) rfl
  have b_dict : mg "dict" = none := He.free_ok X0 G (c.fact 50 (f := .free "dict") rfl)
  have b_len : mg "len" = none := He.free_ok X0 G (c.fact 54 (f := .free "len") rfl)
  have b_max : mg "max" = none := He.free_ok X0 G (c.fact 56 (f := .free "max") rfl)
  have b_range : mg "range" = none := He.free_ok X0 G (c.fact 58 (f := .free "range") rfl)
  have b_tuple : mg "tuple" = none := He.free_ok X0 G (c.fact 61 (f := .free "tuple") rfl)
  have c__law_cut := ok__law_cut (P := P) (w := w) (base := base) X0 G c
  have c__law_swapped := ok__law_swapped (P := P) (w := w) (base := base) X0 G c
  have Sc : FnScope N__law_sum ["sequence"] (defScope (Hd.top 66)) := C8.fnScope_by (by kernel_rfl)
  have nd : (N__law_sum : List Str).Nodup := Sc.nd
  have Bd : Binds K fd ["sequence"] [] := FunD.bindsN F fun _ _ _ _ _ _ us hl => match us, hl with | [_], _ => rfl
  refine calP (N := N__law_sum) (ps := ["sequence"]) (b := d__law_sum) 1 F (He.glo_ok X0 G (c.fact 44 (f := .glo "_law_sum") rfl)) Sc rfl Bd fun cdv A outer s H E hr => ?_
  obtain ⟨u1, u8, u65, u100⟩ := hr.us
  exact evss_cons (evs_asg (evf_tup (eva_cons (evf_var 0) (eva_cons (EvN.toF (evn_lst (eva_nil))) (eva_nil)))) (evg_tp rfl (evgs_cons (evg_nm 1 nd) (evgs_cons (evg_nm 2 nd) (evgs_nil))) rfl gs2)) (evss_cons (evs_while 1000 PassesOwn.never (evt_cmp (op_neU u100) r2_neU (EvN.r (evn_lc (own := [("at", 3)]) rfl nd (blkOk_by (by kernel_rfl)) (evi_rg2 b_range (EvF.r (evf_int)) (EvF.r (evf_callB cr_len rc_len b_len boot_len (evb_cons (evr_var 1) (evb_nil))))) (fun _ _ _ _ _ => evg_nm 3 nd) (evtb_one (fun _ _ _ _ _ => evt_cmp op_lt r2_cmp (EvF.r (evf_ix u1 (evr_var 1) (EvF.r (evf_op op_sub r2_sub (evr_var 3) (EvF.r (evf_int)))))) (EvF.r (evf_ix u1 (evr_var 1) (evr_var 3))) (nomark _))) (fun _ _ _ _ _ => evf_var 3) (by decide))) (EvN.r (evn_lst (eva_nil))) (nomark _)) (evss_cons (evs_set 3 nd (EvF.u (evf_ix u1 (EvN.r (evn_lc (own := [("at", 3)]) rfl nd (blkOk_by (by kernel_rfl)) (evi_rg2 b_range (EvF.r (evf_int)) (EvF.r (evf_callB cr_len rc_len b_len boot_len (evb_cons (evr_var 1) (evb_nil))))) (fun _ _ _ _ _ => evg_nm 3 nd) (evtb_one (fun _ _ _ _ _ => evt_cmp op_lt r2_cmp (EvF.r (evf_ix u1 (evr_var 1) (EvF.r (evf_op op_sub r2_sub (evr_var 3) (EvF.r (evf_int)))))) (EvF.r (evf_ix u1 (evr_var 1) (evr_var 3))) (nomark _))) (fun _ _ _ _ _ => evf_var 3) (by decide))) (EvF.r (evf_int))))) (evss_cons (evs_asg (evf_tup (eva_cons (evf_callP c__law_swapped hr (by decide) (eva_cons (evf_var 1) (eva_cons (evf_var 3) (eva_nil)))) (eva_cons (EvN.toF (evn_op op_cat r2_cat (EvN.r (evn_lst (eva_cons (evf_var 3) (eva_nil)))) (evr_var 2))) (eva_nil)))) (evg_tp rfl (evgs_cons (evg_nm 1 nd) (evgs_cons (evg_nm 2 nd) (evgs_nil))) rfl gs2)) (evss_nil)))) (evss_cons (evs_set 4 nd (EvF.u (EvN.toF (evn_disp1 u8 (evf_callTy call_tuple_of rc_tuple b_tuple boot_tuple (evb_cons (EvN.r (evn_lc (own := [("at", 3)]) rfl nd (blkOk_by (by kernel_rfl)) (evi_rg2 b_range (EvF.r (evf_int)) (EvF.r (evf_int))) (fun _ _ _ _ _ => evg_nm 3 nd) (evtb_nil) (fun _ _ _ _ _ => evf_callB (call_max2 rfl) rc_max2 b_max (by decide +kernel) (evb_cons (EvF.r (evf_int)) (evb_cons (EvF.r (evf_op op_sub r2_sub (EvF.r (evf_callB cr_len rc_len b_len boot_len (evb_cons (evr_var 0) (evb_nil)))) (evr_var 3))) (evb_nil)))) (by decide))) (evb_nil))) (evf_int))))) (evss_cons (evs_for PassesOwn.never rfl (evi_val (evf_var 2)) (evg_nm 3 nd) (evss_cons (evs_set 4 nd (EvF.u (evf_callP c__law_cut hr (by decide) (eva_cons (evf_var 4) (eva_cons (evf_var 3) (eva_nil)))))) (evss_nil))) (evss_cons (evs_ret (EvN.toF (evn_callTy (call_dictP rfl u8) rc_dictP b_dict boot_dict (evb_cons (EvN.r (evn_lc (own := [("row", 5)]) rfl nd (blkOk_by (by kernel_rfl)) (evi_val (evf_var 4)) (fun _ _ _ _ _ => evg_nm 5 nd) (evtb_nil) (fun _ _ _ _ _ => evf_tup (eva_cons (evf_slice (evr_var 5) evp_none (evp_some (EvF.r (evf_int)))) (eva_cons (evf_ix u1 (evr_var 4) (evr_var 5)) (eva_nil)))) (by decide))) (evb_nil))))) (evss_nil)))))
theorem ok__law_polynomial (X0 : K.In h0) (G : h0.Ns mainGlobals mg) (c : He.SaysD Hd.fa Hd.fn K) : Cal P w K mg base 4 "_law_polynomial" (spD 0 f__law_polynomial) [] := by
  obtain ⟨fd, F⟩ := c.def_ 45 (d := Hd.mk "_law_polynomial" 67) rfl
  have b_range : mg "range" = none := He.free_ok X0 G (c.fact 58 (f := .free "range") rfl)
  have b_tuple : mg "tuple" = none := He.free_ok X0 G (c.fact 61 (f := .free "tuple") rfl)
  have c__law_kept := ok__law_kept (P := P) (w := w) (base := base) X0 G c
  have c__law_pick := ok__law_pick (P := P) (w := w) (base := base) X0 G c
  have c__law_take := ok__law_take (P := P) (w := w) (base := base) X0 G c
  have Sc : FnScope N__law_polynomial ["draw"] (defScope (Hd.top 67)) := C8.fnScope_by (by kernel_rfl)
  have nd : (N__law_polynomial : List Str).Nodup := Sc.nd
  have Bd : Binds K fd ["draw"] [] := FunD.bindsN F fun _ _ _ _ _ _ us hl => match us, hl with | [_], _ => rfl
  refine calD (N := N__law_polynomial) (ps := ["draw"]) (b := d__law_polynomial) 0 F (He.glo_ok X0 G (c.fact 45 (f := .glo "_law_polynomial") rfl)) Sc rfl Bd fun cdv A outer s H E hr => ?_
  obtain ⟨u1, u8, u65, u100⟩ := hr.us
  exact evss_cons (evs_set 1 nd (EvN.u (evn_dT))) (evss_cons (evs_for PassesOwn.never rfl (evi_rg1 b_range (EvF.r (evf_callD 0 c__law_take hr (by decide) (pv 0) (eva_cons (evf_int) (eva_nil))))) (evg_nm 2 nd) (evss_cons (evs_set 3 nd (EvF.u (evf_callTy call_tuple_of rc_tuple b_tuple boot_tuple (evb_cons (EvN.r (evn_lc (own := [("at", 4)]) rfl nd (blkOk_by (by kernel_rfl)) (evi_rg1 b_range (EvF.r (evf_int))) (fun _ _ _ _ _ => evg_nm 4 nd) (evtb_nil) (fun _ _ _ _ _ => evf_callD 0 c__law_take hr (by decide) (pv 0) (eva_cons (evf_callD 0 c__law_pick hr (by decide) (pv 0) (eva_cons (EvN.toF (evn_lst (eva_cons (evf_int) (eva_cons (evf_int) (eva_cons (evf_int) (eva_nil)))))) (eva_nil))) (eva_nil))) (by decide))) (evb_nil))))) (evss_cons (evs_put 1 (ps_dput u1 (pv 1) (pe_se _ _) (pe_se _ _) rfl) (evf_op op_sub r2_sub (EvF.r (evf_op op_addA r2_add (EvF.r (evf_get u8 (evr_var 1) (evr_var 3) (evf_int) ⟨rfl, rfl, rfl, rfl⟩)) (EvF.r (evf_callD 0 c__law_take hr (by decide) (pv 0) (eva_cons (evf_int) (eva_nil)))))) (EvF.r (evf_int))) (evr_var 3)) (evss_nil)))) (evss_cons (evs_frz 1 (evs_ret (evf_callP c__law_kept hr (by decide) (eva_cons (evf_var 1) (eva_nil))))) (evss_nil)))
theorem ok_greatest_p (X0 : K.In h0) (G : h0.Ns mainGlobals mg) (c : He.SaysD Hd.fa Hd.fn K) : Cal P w K mg base 3 "greatest" (spP 1 f_greatest_p) [] := by
  obtain ⟨fd, F⟩ := c.def_ 24 (d := Hd.mk "greatest" 43) rfl
  have b_range : mg "range" = none := He.free_ok X0 G (c.fact 58 (f := .free "range") rfl)
  have b_tuple : mg "tuple" = none := He.free_ok X0 G (c.fact 61 (f := .free "tuple") rfl)
  have c_need_wires := ok_need_wires (P := P) (w := w) (base := base) X0 G c
  have Sc : FnScope N_greatest_p ["wires"] (defScope (Hd.top 43)) := C8.fnScope_by (by kernel_rfl)
  have nd : (N_greatest_p : List Str).Nodup := Sc.nd
  have Bd : Binds K fd ["wires"] [] := FunD.bindsN F fun _ _ _ _ _ _ us hl => match us, hl with | [_], _ => rfl
  refine calP (N := N_greatest_p) (ps := ["wires"]) (b := d_greatest_p) 1 F (He.glo_ok X0 G (c.fact 24 (f := .glo "greatest") rfl)) Sc rfl Bd fun cdv A outer s H E hr => ?_
  obtain ⟨u1, u8, u65, u100⟩ := hr.us
  exact evss_cons (evs_drop (evf_callP c_need_wires hr (by decide) (eva_cons (evf_var 0) (eva_nil)))) (evss_cons (evs_ret (evf_tupRg3P rfl b_tuple b_range (evr_var 0) (EvF.r (evf_int)))) (evss_nil))
theorem ok_swapped_p (X0 : K.In h0) (G : h0.Ns mainGlobals mg) (c : He.SaysD Hd.fa Hd.fn K) : Cal P w K mg base 1 "swapped" (spP 2 f_swapped_p) [] := by
  obtain ⟨fd, F⟩ := c.def_ 5 (d := Hd.mk "swapped" 18) rfl
  have Sc : FnScope N_swapped_p ["sequence", "at"] (defScope (Hd.top 18)) := C8.fnScope_by (by kernel_rfl)
  have nd : (N_swapped_p : List Str).Nodup := Sc.nd
  have Bd : Binds K fd ["sequence", "at"] [] := FunD.bindsN F fun _ _ _ _ _ _ us hl => match us, hl with | [_, _], _ => rfl
  refine calP (N := N_swapped_p) (ps := ["sequence", "at"]) (b := d_swapped_p) 2 F (He.glo_ok X0 G (c.fact 5 (f := .glo "swapped") rfl)) Sc rfl Bd fun cdv A outer s H E hr => ?_
  obtain ⟨u1, u8, u65, u100⟩ := hr.us
  exact evss_cons (evs_ret (evf_op op_catP r2_catP (EvF.r (evf_op op_catP r2_catP (EvF.r (evf_sliceP (evr_var 0) evp_none (evp_some (EvF.r (evf_op op_sub r2_sub (evr_var 1) (EvF.r (evf_int))))))) (EvF.r (evf_tupP (eva_cons (evf_ix u1 (evr_var 0) (evr_var 1)) (eva_cons (evf_ix u1 (evr_var 0) (EvF.r (evf_op op_sub r2_sub (evr_var 1) (EvF.r (evf_int))))) (eva_nil))))))) (EvF.r (evf_sliceP (evr_var 0) (evp_some (EvF.r (evf_op op_addA r2_add (evr_var 1) (EvF.r (evf_int))))) evp_none)))) (evss_nil)
theorem ok_places_by_p (X0 : K.In h0) (G : h0.Ns mainGlobals mg) (c : He.SaysD Hd.fa Hd.fn K) : Cal P w K mg base 2 "places_by" (spP 2 f_places_by_p) [] := by
  obtain ⟨fd, F⟩ := c.def_ 6 (d := Hd.mk "places_by" 19) rfl
  have b_range : mg "range" = none := He.free_ok X0 G (c.fact 58 (f := .free "range") rfl)
  have b_tuple : mg "tuple" = none := He.free_ok X0 G (c.fact 61 (f := .free "tuple") rfl)
  have c_swapped_p := ok_swapped_p (P := P) (w := w) (base := base) X0 G c
  have Sc : FnScope N_places_by_p ["wires", "drawing"] (defScope (Hd.top 19)) := C8.fnScope_by (by kernel_rfl)
  have nd : (N_places_by_p : List Str).Nodup := Sc.nd
  have Bd : Binds K fd ["wires", "drawing"] [] := FunD.bindsN F fun _ _ _ _ _ _ us hl => match us, hl with | [_, _], _ => rfl
  refine calP (N := N_places_by_p) (ps := ["wires", "drawing"]) (b := d_places_by_p) 2 F (He.glo_ok X0 G (c.fact 6 (f := .glo "places_by") rfl)) Sc rfl Bd fun cdv A outer s H E hr => ?_
  obtain ⟨u1, u8, u65, u100⟩ := hr.us
  exact evss_cons (evs_set 2 nd (EvN.u (evn_lst (eva_cons (evf_tupRgP rfl b_tuple (evrg_2 b_range (EvF.r (evf_int)) (EvF.r (evf_op op_addA r2_add (evr_var 0) (EvF.r (evf_int)))))) (eva_nil))))) (evss_cons (evs_for PassesOwn.never rfl (evi_val (evf_var 1)) (evg_nm 3 nd) (evss_cons (evs_app 2 (pe_bm PySem.F.plainAttrs_list PySem.F.slot_list_append PySem.F.type_list_append mt_append (pv 2) (pa_cons (pe_se _ _) pa_nil)) (evf_callP c_swapped_p hr (by decide) (eva_cons (evf_ix u1 (evr_var 2) (EvF.r (evf_neg (EvF.r (evf_int))))) (eva_cons (evf_var 3) (eva_nil))))) (evss_nil))) (evss_cons (evs_frz 2 (evs_ret (evf_var 2))) (evss_nil)))
theorem ok_ends_by_p (X0 : K.In h0) (G : h0.Ns mainGlobals mg) (c : He.SaysD Hd.fa Hd.fn K) : Cal P w K mg base 3 "ends_by" (spP 2 f_ends_by_p) [] := by
  obtain ⟨fd, F⟩ := c.def_ 7 (d := Hd.mk "ends_by" 20) rfl
  have c_places_by_p := ok_places_by_p (P := P) (w := w) (base := base) X0 G c
  have Sc : FnScope N_ends_by_p ["wires", "drawing"] (defScope (Hd.top 20)) := C8.fnScope_by (by kernel_rfl)
  have nd : (N_ends_by_p : List Str).Nodup := Sc.nd
  have Bd : Binds K fd ["wires", "drawing"] [] := FunD.bindsN F fun _ _ _ _ _ _ us hl => match us, hl with | [_, _], _ => rfl
  refine calP (N := N_ends_by_p) (ps := ["wires", "drawing"]) (b := d_ends_by_p) 2 F (He.glo_ok X0 G (c.fact 7 (f := .glo "ends_by") rfl)) Sc rfl Bd fun cdv A outer s H E hr => ?_
  obtain ⟨u1, u8, u65, u100⟩ := hr.us
  exact evss_cons (evs_ret (evf_ix u1 (EvF.r (evf_callP c_places_by_p hr (by decide) (eva_cons (evf_var 0) (eva_cons (evf_var 1) (eva_nil))))) (EvF.r (evf_neg (EvF.r (evf_int)))))) (evss_nil)
theorem ok_ends_p (X0 : K.In h0) (G : h0.Ns mainGlobals mg) (c : He.SaysD Hd.fa Hd.fn K) : Cal P w K mg base 4 "ends" (spP 2 f_ends_p) [] := by
  obtain ⟨fd, F⟩ := c.def_ 9 (d := Hd.mk "ends" 22) rfl
  have c_ends_by_p := ok_ends_by_p (P := P) (w := w) (base := base) X0 G c
  have c_need_drawing := ok_need_drawing (P := P) (w := w) (base := base) X0 G c
  have Sc : FnScope N_ends_p ["wires", "drawing"] (defScope (Hd.top 22)) := C8.fnScope_by (by kernel_rfl)
  have nd : (N_ends_p : List Str).Nodup := Sc.nd
  have Bd : Binds K fd ["wires", "drawing"] [] := FunD.bindsN F fun _ _ _ _ _ _ us hl => match us, hl with | [_, _], _ => rfl
  refine calP (N := N_ends_p) (ps := ["wires", "drawing"]) (b := d_ends_p) 2 F (He.glo_ok X0 G (c.fact 9 (f := .glo "ends") rfl)) Sc rfl Bd fun cdv A outer s H E hr => ?_
  obtain ⟨u1, u8, u65, u100⟩ := hr.us
  exact evss_cons (evs_drop (evf_callP c_need_drawing hr (by decide) (eva_cons (evf_var 0) (eva_cons (evf_var 1) (eva_nil))))) (evss_cons (evs_ret (evf_callP c_ends_by_p hr (by decide) (eva_cons (evf_var 0) (eva_cons (evf_var 1) (eva_nil))))) (evss_nil))
theorem ok__law_begun (X0 : K.In h0) (G : h0.Ns mainGlobals mg) (c : He.SaysD Hd.fa Hd.fn K) : Cal P w K mg base 1 "_law_begun" (spB bgLarge bgCells K) [] := by
  obtain ⟨fd, F⟩ := c.def_ 31 (d := Hd.mk "_law_begun" 53) rfl
  have b_abs : mg "abs" = none := He.free_ok X0 G (c.fact 47 (f := .free "abs") rfl)
  have Sc : FnScope N__law_begun ["script"] (defScope (Hd.top 53)) := C8.fnScope_by (by kernel_rfl)
  have nd : (N__law_begun : List Str).Nodup := Sc.nd
  have Bd : Binds K fd ["script"] [] := FunD.bindsN F fun _ _ _ _ _ _ us hl => match us, hl with | [_], _ => rfl
  refine calB (N := N__law_begun) (ps := ["script"]) (d1 := d1_begun) (c1 := c1_begun) F (He.glo_ok X0 G (c.fact 31 (f := .glo "_law_begun") rfl)) Sc rfl Bd begun_den fun cdv A outer s H E hr => ?_
  obtain ⟨u1, u8, u65, u100⟩ := hr.us
  exact ⟨evs_setLc 1 true (own := [("cell", 2)]) rfl nd (blkOk_by (by kernel_rfl)) (evi_scr 0 (pv 0)) (fun _ _ _ _ _ => evg_nm 2 nd) (evtb_one (fun _ _ _ _ _ => evt_cmp op_ge r2_cmp (EvF.r (evf_callB call_abs rc_abs b_abs boot_abs (evb_cons (evr_var 2) (evb_nil)))) (EvF.r (evf_op op_pow r2_pow (EvF.r (evf_int)) (EvF.r (evf_int)))) (nomark _))) (fun _ _ _ _ _ => evf_op op_sub r2_sub (EvF.r (evf_callB call_abs rc_abs b_abs boot_abs (evb_cons (evr_var 2) (evb_nil)))) (EvF.r (evf_op op_pow r2_pow (EvF.r (evf_int)) (EvF.r (evf_int))))) (by decide) (sw_true rfl rfl rfl rfl), pv 1, evn_lc (own := [("cell", 2)]) rfl nd (blkOk_by (by kernel_rfl)) (evi_scr 0 (pv 0)) (fun _ _ _ _ _ => evg_nm 2 nd) (evtb_nil) (fun _ _ _ _ _ => evf_callB call_abs rc_abs b_abs boot_abs (evb_cons (evr_var 2) (evb_nil))) (by decide)⟩
theorem ok_law (X0 : K.In h0) (G : h0.Ns mainGlobals mg) (c : He.SaysD Hd.fa Hd.fn K) (hd : LawHolds N_law d_law) : ∃ fd : FuncData, (∀ (s : Shared) (v : Value), BindsTo s fd ⟨[v], []⟩ [("script", v)]) ∧ ∀ base : Heap, FnOk P w K mg base CX0 6 (He.fAd K ("law", none)) fd ["script"] (spL K) := by
  obtain ⟨fd, F⟩ := c.def_ 46 (d := Hd.mk "law" 68) rfl
  have b := FunD.bindsA (ps := ["script"]) F fun _ _ _ _ _ _ us hl => match us, hl with | [_], _ => rfl
  refine ⟨fd, fun s v => b s [v] rfl, fun base => ?_⟩
  have b_len : mg "len" = none := He.free_ok X0 G (c.fact 54 (f := .free "len") rfl)
  have b_min : mg "min" = none := He.free_ok X0 G (c.fact 57 (f := .free "min") rfl)
  have b_range : mg "range" = none := He.free_ok X0 G (c.fact 58 (f := .free "range") rfl)
  have c__law_drawing := ok__law_drawing (P := P) (w := w) (base := base) X0 G c
  have c__law_ends := ok__law_ends (P := P) (w := w) (base := base) X0 G c
  have c__law_many := ok__law_many (P := P) (w := w) (base := base) X0 G c
  have c__law_polynomial := ok__law_polynomial (P := P) (w := w) (base := base) X0 G c
  have c__law_sequence := ok__law_sequence (P := P) (w := w) (base := base) X0 G c
  have c__law_shortest := ok__law_shortest (P := P) (w := w) (base := base) X0 G c
  have c__law_sum := ok__law_sum (P := P) (w := w) (base := base) X0 G c
  have c__law_take := ok__law_take (P := P) (w := w) (base := base) X0 G c
  have c_back := ok_back (P := P) (w := w) (base := base) X0 G c
  have c_cut_along := ok_cut_along (P := P) (w := w) (base := base) X0 G c
  have c_ends_p := ok_ends_p (P := P) (w := w) (base := base) X0 G c
  have c_first_shortest := ok_first_shortest (P := P) (w := w) (base := base) X0 G c
  have c_greatest_p := ok_greatest_p (P := P) (w := w) (base := base) X0 G c
  have c_is_shortest := ok_is_shortest (P := P) (w := w) (base := base) X0 G c
  have c_joined := ok_joined (P := P) (w := w) (base := base) X0 G c
  have c_sum_of := ok_sum_of (P := P) (w := w) (base := base) X0 G c
  have c_then := ok_then (P := P) (w := w) (base := base) X0 G c
  have c_begun := ok__law_begun (P := P) (w := w) (base := base) X0 G c
  have Sc : FnScope N_law ["script"] (defScope (Hd.top 68)) := C8.fnScope_by (by kernel_rfl)
  have nd : (N_law : List Str).Nodup := Sc.nd
  refine calL (N := N_law) (ps := ["script"]) (d := d_law) (k := 5) F Sc rfl rfl c_begun (by decide) hd fun cdv A outer s H E hr => ?_
  obtain ⟨u1, u8, u65, u100⟩ := hr.us
  exact ⟨⟨pv 0, by first | exact Or.inl rfl | exact Or.inr rfl, by first | exact .inl rfl | exact .inr rfl, rfl, rfl, rfl, rfl⟩, evss_cons (evs_for PassesOwn.never rfl (evi_rg1 b_range (EvF.r (evf_op op_addA r2_add (EvF.r (evf_int)) (EvF.r (evf_callB (call_min2 rfl) rc_min2 b_min (by decide +kernel) (evb_cons (EvF.r (evf_lenS 0 (pe_callB call_len_seq rfl b_len boot_len (pa_cons (pv 0) pa_nil)))) (evb_cons (EvF.r (evf_int)) (evb_nil)))))))) (evg_nm 2 nd) (evss_cons (evs_set 3 nd (EvF.u (evf_op op_addA r2_add (EvF.r (evf_int)) (EvF.r (evf_callD 1 c__law_take hr (by decide) (pv 1) (eva_cons (evf_int) (eva_nil))))))) (evss_cons (evs_set 4 nd (EvF.u (evf_callD 1 c__law_sequence hr (by decide) (pv 1) (eva_cons (evf_var 3) (eva_nil))))) (evss_cons (evs_set 5 nd (EvF.u (evf_callP c_then hr (by decide) (eva_cons (evf_callP c_back hr (by decide) (eva_cons (evf_callP c_greatest_p hr (by decide) (eva_cons (evf_var 3) (eva_nil))) (eva_nil))) (eva_cons (evf_var 4) (eva_nil)))))) (evss_cons (evs_set 6 nd (EvF.u (evf_callD 1 c__law_shortest hr (by decide) (pv 1) (eva_cons (evf_var 5) (eva_nil))))) (evss_cons (evs_if (EvW.toT (evw_or (evt_cmp (op_neU u100) r2_neU (EvF.r (evf_callP c_cut_along hr (by decide) (eva_cons (evf_callP c_sum_of hr (by decide) (eva_cons (evf_callP c_greatest_p hr (by decide) (eva_cons (evf_var 3) (eva_nil))) (eva_nil))) (eva_cons (evf_var 6) (eva_nil))))) (EvF.r (evf_callP c_sum_of hr (by decide) (eva_cons (evf_var 4) (eva_nil)))) (nomark _)) (evw_or1 (evt_cmp (op_neU u100) r2_neU (EvF.r (evf_callP c_sum_of hr (by decide) (eva_cons (evf_var 4) (eva_nil)))) (EvF.r (evf_callP c__law_sum hr (by decide) (eva_cons (evf_var 4) (eva_nil)))) (nomark _))))) (evss_cons (evs_ret (evf_bl)) (evss_nil)) (evss_nil)) (evss_cons (evs_par 7 8 rfl nd (EvF.u (evf_callD 1 c__law_shortest hr (by decide) (pv 1) (eva_cons (evf_var 4) (eva_nil)))) (EvF.u (evf_callP c_first_shortest hr (by decide) (eva_cons (evf_var 4) (eva_nil)))) (by decide)) (evss_cons (evs_set 9 nd (EvF.u (evf_callD 1 c__law_polynomial hr (by decide) (pv 1) (eva_nil)))) (evss_cons (evs_set 10 nd (EvF.u (evf_callP c_cut_along hr (by decide) (eva_cons (evf_var 9) (eva_cons (evf_var 7) (eva_nil)))))) (evss_cons (evs_if (EvW.toT (evw_or (evt_cmp (op_neU u100) r2_neU (evr_var 10) (EvF.r (evf_callP c_cut_along hr (by decide) (eva_cons (evf_var 9) (eva_cons (evf_var 8) (eva_nil))))) (nomark _)) (evw_or (evt_cmp (op_neU u100) r2_neU (EvF.r (evf_callP c_ends_p hr (by decide) (eva_cons (evf_var 3) (eva_cons (evf_var 7) (eva_nil))))) (evr_var 4) (nomark _)) (evw_or (evt_cmp (op_neU u100) r2_neU (EvF.r (evf_callP c_ends_p hr (by decide) (eva_cons (evf_var 3) (eva_cons (evf_var 8) (eva_nil))))) (evr_var 4) (nomark _)) (evw_or1 (evt_cmp op_isNB (r2_isB true) (EvF.r (evf_callP c_is_shortest hr (by decide) (eva_cons (evf_var 3) (eva_cons (evf_var 7) (eva_nil))))) (EvF.r (evf_bl)) (nomark _))))))) (evss_cons (evs_ret (evf_bl)) (evss_nil)) (evss_nil)) (evss_cons (evs_set 11 nd (EvF.u (evf_callD 1 c__law_drawing hr (by decide) (pv 1) (eva_cons (evf_var 3) (eva_cons (evf_int) (eva_nil)))))) (evss_cons (evs_set 12 nd (EvF.u (evf_cmp (op_eqU u100) r2_eqU (EvF.r (evf_callB cr_len rc_len b_len boot_len (evb_cons (evr_var 11) (evb_nil)))) (EvF.r (evf_callP c__law_many hr (by decide) (eva_cons (evf_callP c__law_ends hr (by decide) (eva_cons (evf_var 3) (eva_cons (evf_var 11) (eva_nil)))) (eva_nil)))) (nomark _)))) (evss_cons (evs_if (EvW.toT (evw_or (evt_cmp (op_neU u100) r2_neU (EvF.r (evf_callP c_is_shortest hr (by decide) (eva_cons (evf_var 3) (eva_cons (evf_var 11) (eva_nil))))) (evr_var 12) (nomark _)) (evw_or (EvW.toT (evw_and (evt_not (evt_val (evr_var 12))) (evw_and1 (evt_cmp (op_neU u100) r2_neU (EvF.r (evf_callP c_cut_along hr (by decide) (eva_cons (evf_var 9) (eva_cons (evf_var 11) (eva_nil))))) (EvN.r (evn_dT)) (nomark _))))) (evw_or1 (EvW.toT (evw_and (evt_not (evt_val (evr_var 12))) (evw_and1 (evt_cmp (op_neU u100) r2_neU (EvF.r (evf_callP c_cut_along hr (by decide) (eva_cons (evf_callP c_sum_of hr (by decide) (eva_cons (evf_callP c_greatest_p hr (by decide) (eva_cons (evf_var 3) (eva_nil))) (eva_nil))) (eva_cons (evf_var 11) (eva_nil))))) (EvN.r (evn_dT)) (nomark _))))))))) (evss_cons (evs_ret (evf_bl)) (evss_nil)) (evss_nil)) (evss_cons (evs_set 13 nd (EvF.u (evf_callP c_joined hr (by decide) (eva_cons (evf_var 3) (eva_cons (evf_var 7) (eva_cons (evf_var 11) (eva_nil))))))) (evss_cons (evs_if (evt_cmp (op_neU u100) r2_neU (EvF.r (evf_callP c_cut_along hr (by decide) (eva_cons (evf_var 9) (eva_cons (evf_var 13) (eva_nil))))) (EvF.r (evf_callP c_cut_along hr (by decide) (eva_cons (evf_var 10) (eva_cons (evf_var 11) (eva_nil))))) (nomark _)) (evss_cons (evs_ret (evf_bl)) (evss_nil)) (evss_nil)) (evss_cons (evs_if (EvW.toT (evw_and (evt_val (evr_var 12)) (evw_and1 (evt_cmp (op_neU u100) r2_neU (EvF.r (evf_callP c_cut_along hr (by decide) (eva_cons (evf_var 9) (eva_cons (evf_var 11) (eva_nil))))) (EvF.r (evf_callP c_cut_along hr (by decide) (eva_cons (evf_var 9) (eva_cons (evf_callP c_first_shortest hr (by decide) (eva_cons (evf_callP c_ends_p hr (by decide) (eva_cons (evf_var 3) (eva_cons (evf_var 11) (eva_nil)))) (eva_nil))) (eva_nil))))) (nomark _))))) (evss_cons (evs_ret (evf_bl)) (evss_nil)) (evss_nil)) (evss_nil))))))))))))))))) (evss_cons (evs_ret (evf_bl)) (evss_nil))⟩
end
end L2.Dn
set_option Elab.async false
set_option linter.all false
set_option maxRecDepth 100000
/-! polynomials as plain lists of rows and numbers; their form as data -/
namespace L2.Dn
open PySem PySem.Spec PyProof.Rows C8
abbrev PR := List (List Int × Int)
def beqL : List Int → List Int → Bool
  | [], [] => true
  | a :: r, b :: t => (match decide (a = b) with
    | true => beqL r t
    | false => false)
  | _, _ => false
theorem beqL_eq : ∀ (a b : List Int), beqL a b = decide (a = b)
  | [], [] => rfl
  | [], _ :: _ => by simp [beqL]
  | _ :: _, [] => by simp [beqL]
  | a :: r, b :: t => by
    unfold beqL
    rw [beqL_eq r t]
    by_cases h : a = b <;> simp [h]
def lookP : PR → List Int → Option Int
  | [], _ => none
  | (k', v) :: r, k => (match beqL k' k with
    | true => some v
    | false => lookP r k)
def addP : PR → List Int → Int → PR
  | [], k, c => [(k, 0 + c)]
  | (k', v) :: r, k, c => (match beqL k' k with
    | true => (k', v + c) :: r
    | false => (k', v) :: addP r k c)
def putP : PR → List Int → Int → PR
  | [], k, c => [(k, c)]
  | (k', v) :: r, k, c => (match beqL k' k with
    | true => (k', c) :: r
    | false => (k', v) :: putP r k c)
def accP (acc : PR) : PR → PR
  | [] => acc
  | (k, c) :: ts => accP (addP acc k c) ts
def keepP : PR → PR
  | [] => []
  | (k, v) :: r => (match decide (v = 0) with
    | true => keepP r
    | false => (k, v) :: keepP r)
def kysP (p : PR) : List (List Int) := p.map (·.1)
abbrev NdP (p : PR) : Prop := (kysP p).Nodup
/-- the number at a row, all entries added -/
def cfs : PR → List Int → Int
  | [], _ => 0
  | (k', v) :: r, k => (if k' = k then v else 0) + cfs r k
theorem cfs_cons (k' : List Int) (v : Int) (r : PR) (k : List Int) : cfs ((k', v) :: r) k = (if k' = k then v else 0) + cfs r k := rfl
theorem lookP_cons (k' : List Int) (v : Int) (r : PR) (k : List Int) : lookP ((k', v) :: r) k = (match beqL k' k with
    | true => some v
    | false => lookP r k) := rfl
theorem beqL_cons (a b : Int) (r t : List Int) : beqL (a :: r) (b :: t) = (match decide (a = b) with
    | true => beqL r t
    | false => false) := rfl
theorem cfs_append : ∀ (p q : PR) (k : List Int), cfs (p ++ q) k = cfs p k + cfs q k
  | [], q, k => by simp [cfs]
  | (k', v) :: r, q, k => by
    rw [List.cons_append, cfs_cons, cfs_cons, cfs_append r q k]
    omega
theorem cfs_addP : ∀ (p : PR) (k : List Int) (c : Int) (k2 : List Int), cfs (addP p k c) k2 = cfs p k2 + if k = k2 then c else 0
  | [], k, c, k2 => by
    simp [addP, cfs]
  | (k', v) :: r, k, c, k2 => by
    unfold addP
    rw [beqL_eq]
    by_cases h : k' = k
    · rw [decide_eq_true h]
      subst h
      simp only [cfs]
      split <;> omega
    · rw [decide_eq_false h]
      simp only [cfs]
      rw [cfs_addP r k c k2]
      omega
theorem cfs_accP : ∀ (ts acc : PR) (k : List Int), cfs (accP acc ts) k = cfs acc k + cfs ts k
  | [], acc, k => by simp [accP, cfs]
  | (k', c) :: ts, acc, k => by
    rw [accP, cfs_accP ts, cfs_addP]
    simp only [cfs]
    omega
theorem cfs_keepP : ∀ (p : PR) (k : List Int), cfs (keepP p) k = cfs p k
  | [], k => rfl
  | (k', v) :: r, k => by
    unfold keepP
    by_cases h : v = 0
    · rw [decide_eq_true h]
      simp only [cfs]
      rw [cfs_keepP r k, h]
      split <;> omega
    · rw [decide_eq_false h]
      simp only [cfs]
      rw [cfs_keepP r k]
theorem mem_addP : ∀ (p : PR) (k : List Int) (c : Int) (k2 : List Int), k2 ∈ kysP (addP p k c) ↔ k2 ∈ kysP p ∨ k2 = k
  | [], k, c, k2 => by simp [addP, kysP]
  | (k', v) :: r, k, c, k2 => by
    unfold addP
    rw [beqL_eq]
    by_cases h : k' = k
    · rw [decide_eq_true h]
      subst h
      simp only [kysP, List.map_cons, List.mem_cons]
      constructor
      · intro q; exact .inl q
      · rintro (q | q)
        · exact q
        · exact .inl q
    · rw [decide_eq_false h]
      have ih := mem_addP r k c k2
      simp only [kysP, List.map_cons, List.mem_cons] at ih ⊢
      rw [ih]
      constructor
      · rintro (q | q | q)
        · exact .inl (.inl q)
        · exact .inl (.inr q)
        · exact .inr q
      · rintro ((q | q) | q)
        · exact .inl q
        · exact .inr (.inl q)
        · exact .inr (.inr q)
theorem nd_addP : ∀ {p : PR} (k : List Int) (c : Int), NdP p → NdP (addP p k c)
  | [], k, c, _ => by simp [addP, kysP, NdP]
  | (k', v) :: r, k, c, h => by
    unfold addP
    rw [beqL_eq]
    have h' := List.nodup_cons.mp h
    by_cases e : k' = k
    · rw [decide_eq_true e]; exact h
    · rw [decide_eq_false e]
      refine List.nodup_cons.mpr ⟨fun m => ?_, nd_addP k c h'.2⟩
      rcases (mem_addP r k c k').mp m with q | q
      · exact h'.1 q
      · exact e q
theorem nd_accP : ∀ (ts : PR) {acc : PR}, NdP acc → NdP (accP acc ts)
  | [], _, h => h
  | (k, c) :: ts, _, h => nd_accP ts (nd_addP k c h)
theorem mem_accP : ∀ (ts acc : PR) (k : List Int), k ∈ kysP (accP acc ts) ↔ k ∈ kysP acc ∨ k ∈ kysP ts
  | [], acc, k => by simp [accP, kysP]
  | (k', c) :: ts, acc, k => by
    rw [accP, mem_accP ts, mem_addP]
    simp only [kysP, List.map_cons, List.mem_cons]
    constructor
    · rintro ((q | q) | q)
      · exact .inl q
      · exact .inr (.inl q)
      · exact .inr (.inr q)
    · rintro (q | q | q)
      · exact .inl (.inl q)
      · exact .inl (.inr q)
      · exact .inr q
theorem keepP_sub : ∀ (p : PR) (e : List Int × Int), e ∈ keepP p ↔ e ∈ p ∧ e.2 ≠ 0
  | [], e => by simp [keepP]
  | (k, v) :: r, e => by
    unfold keepP
    by_cases h : v = 0
    · rw [decide_eq_true h]
      rw [keepP_sub r e, List.mem_cons]
      constructor
      · rintro ⟨h1, h2⟩; exact ⟨.inr h1, h2⟩
      · rintro ⟨h1 | h1, h2⟩
        · subst h1; exact absurd h h2
        · exact ⟨h1, h2⟩
    · rw [decide_eq_false h]
      rw [List.mem_cons, List.mem_cons, keepP_sub r e]
      constructor
      · rintro (h1 | ⟨h1, h2⟩)
        · subst h1; exact ⟨.inl rfl, h⟩
        · exact ⟨.inr h1, h2⟩
      · rintro ⟨h1 | h1, h2⟩
        · exact .inl h1
        · exact .inr ⟨h1, h2⟩
theorem keepP_list : ∀ (p : PR), List.Sublist (keepP p) p
  | [] => .slnil
  | (k, v) :: r => by
    unfold keepP
    by_cases h : v = 0
    · rw [decide_eq_true h]; exact (keepP_list r).cons _
    · rw [decide_eq_false h]; exact (keepP_list r).cons₂ _
theorem nd_keepP {p : PR} (h : NdP p) : NdP (keepP p) := ((keepP_list p).map _).nodup h
theorem mem_keepP {p : PR} {k : List Int} (h : k ∈ kysP (keepP p)) : k ∈ kysP p := ((keepP_list p).map _).subset h
theorem addP_len : ∀ (p : PR) (k : List Int) (c : Int), (addP p k c).length ≤ p.length + 1
  | [], k, c => by simp [addP]
  | (k', v) :: r, k, c => by
    unfold addP
    have := addP_len r k c
    split <;> simp <;> omega
theorem accP_len : ∀ (ts acc : PR), (accP acc ts).length ≤ acc.length + ts.length
  | [], acc => by simp [accP]
  | (k, c) :: ts, acc => by
    have h1 := accP_len ts (addP acc k c)
    have h2 := addP_len acc k c
    rw [accP, List.length_cons]
    omega
theorem keepP_len (p : PR) : (keepP p).length ≤ p.length := (keepP_list p).length_le
/-- a polynomial: its rows differ, its numbers are not 0 -/
structure WfP (p : PR) : Prop where
  nd : NdP p
  nz : ∀ e ∈ p, e.2 ≠ 0
theorem wf_keepP {p : PR} (h : NdP p) : WfP (keepP p) := ⟨nd_keepP h, fun e m => ((keepP_sub p e).mp m).2⟩
theorem cfs_none : ∀ {p : PR} {k : List Int}, k ∉ kysP p → cfs p k = 0
  | [], _, _ => rfl
  | (k', v) :: r, k, h => by
    have h1 : k' ≠ k := fun e => h (by rw [e]; exact List.mem_cons_self ..)
    have h2 : k ∉ kysP r := fun e => h (List.mem_cons_of_mem _ e)
    rw [cfs_cons, if_neg h1, cfs_none h2]
    rfl
theorem cfs_mem : ∀ {p : PR} {k : List Int} {v : Int}, NdP p → (k, v) ∈ p → cfs p k = v
  | (k', v') :: r, k, v, h, m => by
    have h' := List.nodup_cons.mp h
    rw [cfs_cons]
    rcases List.mem_cons.mp m with q | q
    · cases q
      rw [if_pos rfl, cfs_none h'.1]
      omega
    · have : k' ≠ k := fun e => h'.1 (by rw [e]; exact List.mem_map.mpr ⟨_, q, rfl⟩)
      rw [if_neg this, cfs_mem h'.2 q]
      omega
theorem lookP_cfs : ∀ {p : PR} (k : List Int), NdP p → (lookP p k = none ∧ k ∉ kysP p ∧ cfs p k = 0) ∨ (lookP p k = some (cfs p k) ∧ (k, cfs p k) ∈ p)
  | [], k, _ => .inl ⟨rfl, by simp [kysP], rfl⟩
  | (k', v') :: r, k, h => by
    have h' := List.nodup_cons.mp h
    unfold lookP
    rw [beqL_eq]
    by_cases e : k' = k
    · rw [decide_eq_true e]
      subst e
      have : cfs ((k', v') :: r) k' = v' := cfs_mem h (List.mem_cons_self ..)
      rw [this]
      exact .inr ⟨rfl, List.mem_cons_self ..⟩
    · rw [decide_eq_false e]
      have : cfs ((k', v') :: r) k = cfs r k := by
        rw [cfs_cons, if_neg e, Int.zero_add]
      rw [this]
      rcases lookP_cfs k h'.2 with ⟨h1, h2, h3⟩ | ⟨h1, h2⟩
      · exact .inl ⟨h1, fun m => by
          rcases List.mem_cons.mp m with q | q
          · exact e q.symm
          · exact h2 q, h3⟩
      · exact .inr ⟨h1, List.mem_cons_of_mem _ h2⟩
theorem wf_mem {p : PR} (h : WfP p) (k : List Int) : k ∈ kysP p ↔ cfs p k ≠ 0 := by
  constructor
  · intro m
    obtain ⟨e, he, rfl⟩ := List.mem_map.mp m
    rw [cfs_mem h.nd he]
    exact h.nz e he
  · intro m
    exact Classical.byContradiction fun n => m (cfs_none n)
/-! as data -/
abbrev keyI (k : List Int) : List Key := k.map Sum.inl
def dP (p : PR) : List (List Key × D) := p.map fun e => (keyI e.1, D.int e.2)
abbrev toD (p : PR) : D := .dT (dP p)
abbrev rowD (k : List Int) : D := .tuple (k.map D.int)
theorem keyT_keyI (k : List Int) : keyT (keyI k) = rowD k := by
  unfold keyT keyI rowD
  rw [List.map_map]
  rfl
theorem keyOf_row (k : List Int) : keyOf? (rowD k) = some (keyI k) := by
  show keys? (k.map D.int) = some (keyI k)
  induction k with
  | nil => rfl
  | cons a r ih =>
    show (match keys? (r.map D.int) with | none => none | some ks => some (Sum.inl a :: ks)) = _
    rw [ih]
    rfl
theorem beqKs_inl : ∀ (a b : List Int), beqKs (keyI a) (keyI b) = beqL a b
  | [], [] => rfl
  | [], _ :: _ => rfl
  | _ :: _, [] => rfl
  | a :: r, b :: t => by
    show (beqK (.inl a) (.inl b) && beqKs (keyI r) (keyI t)) = _
    rw [beqKs_inl r t, beqL_cons]
    show (decide (a = b) && beqL r t) = _
    cases decide (a = b) <;> rfl
theorem lookT_dP : ∀ (p : PR) (k : List Int), lookT (dP p) (keyI k) = (lookP p k).map D.int
  | [], k => rfl
  | (k', v) :: r, k => by
    show (match beqKs (keyI k') (keyI k) with | true => some (D.int v) | false => lookT (dP r) (keyI k)) = _
    rw [beqKs_inl, lookT_dP r k, lookP_cons]
    cases beqL k' k <;> rfl
theorem hasT_dP : ∀ (p : PR) (k : List Int), hasT (dP p) (keyI k) = (lookP p k).isSome
  | [], k => rfl
  | (k', v) :: r, k => by
    show (match beqKs (keyI k') (keyI k) with | true => true | false => hasT (dP r) (keyI k)) = _
    rw [beqKs_inl, hasT_dP r k, lookP_cons]
    cases beqL k' k <;> rfl
theorem replT_none : ∀ (p : PR) (k : List Int) (x : D), k ∉ kysP p → replT (dP p) (keyI k) x = dP p
  | [], k, x, _ => rfl
  | (k', v) :: r, k, x, h => by
    have h1 : k' ≠ k := fun e => h (by rw [e]; exact List.mem_cons_self ..)
    have h2 : k ∉ kysP r := fun e => h (List.mem_cons_of_mem _ e)
    show (match beqKs (keyI k') (keyI k) with | true => (keyI k', x) :: replT (dP r) (keyI k) x | false => (keyI k', D.int v) :: replT (dP r) (keyI k) x) = _
    rw [beqKs_inl, beqL_eq, decide_eq_false h1, replT_none r k x h2]
    rfl
theorem putT_dP : ∀ (p : PR) (k : List Int) (c : Int), NdP p → putT (dP p) (keyI k) (.int c) = dP (putP p k c)
  | [], k, c, _ => rfl
  | (k', v) :: r, k, c, h => by
    have h' := List.nodup_cons.mp h
    have ih := putT_dP r k c h'.2
    unfold putT at ih ⊢
    rw [hasT_dP] at ih ⊢
    unfold lookP putP
    rw [beqL_eq]
    by_cases e : k' = k
    · rw [decide_eq_true e]
      subst e
      show replT ((keyI k', D.int v) :: dP r) (keyI k') (.int c) = _
      unfold replT
      rw [beqKs_inl, beqL_eq, decide_eq_true rfl, replT_none r k' _ h'.1]
      rfl
    · rw [decide_eq_false e]
      dsimp only
      cases hl : (lookP r k).isSome with
      | true =>
        rw [hl] at ih
        dsimp only at ih ⊢
        show replT ((keyI k', D.int v) :: dP r) (keyI k) (.int c) = _
        unfold replT
        rw [beqKs_inl, beqL_eq, decide_eq_false e]
        dsimp only
        rw [ih]
        rfl
      | false =>
        rw [hl] at ih
        dsimp only at ih ⊢
        show (keyI k', D.int v) :: (dP r ++ [(keyI k, D.int c)]) = _
        rw [ih]
        rfl
theorem addP_put : ∀ (p : PR) (k : List Int) (c : Int), addP p k c = putP p k ((match lookP p k with | some v => v | none => 0) + c)
  | [], k, c => rfl
  | (k', v) :: r, k, c => by
    unfold addP putP lookP
    cases e : beqL k' k with
    | true => rfl
    | false =>
      dsimp only
      rw [addP_put r k c]
/-- found[k] = found.get(k, 0) + c -/
theorem putAdd {i : Nat} {kd cd : Den} {env : En} {ds : DS} {p : PR} {k : List Int} {c : Int} (hi : env[i]? = some (some (.own (toD p)))) (hk : kd env ds = some (rowD k, ds)) (hc : cd env ds = some (.int c, ds)) (nd : NdP p) (hl : p.length < 100000) :
    dPut i (d2 gAdd (dGet2 (dRd i) kd (dC (.int 0))) cd) kd env ds = some (.nx (env.set i (some (.own (toD (addP p k c))))), ds) := by
  have h1 : dRd i env ds = some (toD p, ds) := by
    unfold dRd
    rw [hi]
  have h2 : dGet2 (dRd i) kd (dC (.int 0)) env ds = some (.int (match lookP p k with | some v => v | none => 0), ds) := by
    unfold dGet2
    rw [h1]
    unfold bnd
    dsimp only
    rw [hk]
    dsimp only
    show op1 (gGet (toD p) (rowD k) (.int 0)) ds = _
    have : gGet (toD p) (rowD k) (.int 0) = some (.int (match lookP p k with | some v => v | none => 0)) := by
      show (match keyOf? (rowD k) with | some ks => (match lookT (dP p) ks with | some v => some v | none => some (D.int 0)) | none => none) = _
      rw [keyOf_row]
      dsimp only
      rw [lookT_dP]
      cases lookP p k <;> rfl
    rw [this]
    rfl
  have h3 := d2_eq (g := gAdd) h2 hc (c := .int ((match lookP p k with | some v => v | none => 0) + c)) rfl
  unfold dPut
  rw [h3]
  unfold bnd
  dsimp only
  rw [hk]
  dsimp only
  rw [hi]
  dsimp only
  rw [keyOf_row]
  dsimp only
  rw [if_pos (by unfold dP; rw [List.length_map]; exact hl), putT_dP p k _ nd, ← addP_put]
end L2.Dn
set_option Elab.async false
set_option linter.all false
set_option maxRecDepth 100000
/-! the program's functions on polynomials, as plain functions -/
namespace L2.Dn
open PySem PySem.Spec PyProof.Rows C8
theorem putP_new : ∀ (p : PR) (k : List Int) (c : Int), k ∉ kysP p → putP p k c = p ++ [(k, c)]
  | [], k, c, _ => rfl
  | (k', v) :: r, k, c, h => by
    have h1 : k' ≠ k := fun e => h (by rw [e]; exact List.mem_cons_self ..)
    have h2 : k ∉ kysP r := fun e => h (List.mem_cons_of_mem _ e)
    unfold putP
    rw [beqL_eq, decide_eq_false h1, putP_new r k c h2]
    rfl
abbrev itsP (p : PR) : List D := p.map fun e => .tuple [rowD e.1, .int e.2]
theorem items_dP (p : PR) : itemsD (toD p) = some (itsP p) := by
  show some ((dP p).map _) = _
  unfold dP
  rw [List.map_map]
  congr 1
  apply List.map_congr_left
  intro e _
  show D.tuple [keyT (keyI e.1), D.int e.2] = _
  rw [keyT_keyI]
def gPair (i j : Nat) : DenG := gTp (gsCons (gNm i) (gsCons (gNm j) (gsNil)))
theorem kysP_append (p q : PR) : kysP (p ++ q) = kysP p ++ kysP q := List.map_append
section
variable {gg : DenG} {t : DenT} {fk fv : Den} {env0 env' : En} {d k v : D} {r : List D} {s s1 s2 s3 : DS} {acc : List (List Key × D)} {ks : List Key}
theorem dcLoop_f (h1 : gg d env0 = some env') (h2 : t env' s = some (false, s1)) : dcLoop gg t fk fv env0 (d :: r) s acc = dcLoop gg t fk fv env0 r s1 acc := by
  rw [dcLoop, h1]
  dsimp only
  rw [h2]
  rfl
theorem dcLoop_t (h1 : gg d env0 = some env') (h2 : t env' s = some (true, s1)) (h3 : fk env' s1 = some (k, s2)) (h4 : fv env' s2 = some (v, s3)) (h5 : keyOf? k = some ks) (h6 : acc.length < 100000) :
    dcLoop gg t fk fv env0 (d :: r) s acc = dcLoop gg t fk fv env0 r s3 (putT acc ks v) := by
  rw [dcLoop, h1]
  dsimp only
  rw [h2]
  unfold bnd
  dsimp only
  rw [h3]
  dsimp only
  rw [h4]
  dsimp only
  rw [h5]
  dsimp only
  rw [if_pos h6]
theorem dDc_eq {gi : DenA} {own : List Nat} {env : En} {ds : DS} {items : List D} {res : List (List Key × D)} (h1 : gi env ds = some (items, s)) (h2 : dcLoop gg t fk fv (wipeE env own) items s [] = some (res, s1)) : dDc gi own gg t fk fv env ds = some (.dT res, s1) := by
  unfold dDc
  rw [h1]
  unfold bnd
  dsimp only
  rw [h2]
theorem dIt_eq {g : D → Option (List D)} {f : Den} {env : En} {ds : DS} {a : D} {items : List D} (h1 : f env ds = some (a, s)) (h2 : g a = some items) : dIt g f env ds = some (items, s) := by
  unfold dIt
  rw [h1]
  unfold bnd
  dsimp only
  rw [h2]
  rfl
theorem dItems_eq {f : Den} {env : En} {ds : DS} {a : D} {items : List D} (h1 : f env ds = some (a, s)) (h2 : itemsOf a = some items) : dItems f env ds = some (items, s) := by
  unfold dItems
  rw [h1]
  unfold bnd
  dsimp only
  rw [h2]
  rfl
theorem dFor_eq {gi : DenA} {g : DenG} {f : DenS} {env : En} {ds : DS} {items : List D} (h1 : gi env ds = some (items, s)) : dFor gi g f env ds = forLoop g f items env s := by
  unfold dFor
  rw [h1]
  rfl
theorem forLoop_cons {g : DenG} {f : DenS} {e : En} (h1 : g d env0 = some env') (h2 : f env' s = some (.nx e, s1)) : forLoop g f (d :: r) env0 s = forLoop g f r e s1 := by
  rw [forLoop, h1]
  dsimp only
  rw [h2]
theorem gAddT {xs ys : List D} (h : xs.length + ys.length ≤ 100000) : gAdd (.tuple xs) (.tuple ys) = some (.tuple (xs ++ ys)) := if_pos h
theorem gMulL {i j : Int} (h : -(2 ^ 64) < i ∧ i < 2 ^ 64) : gMul (.int i) (.int j) = some (.int (i * j)) := if_pos (.inl h)
theorem dRet_eq {f : Den} {env : En} {ds : DS} {a : D} (h : f env ds = some (a, s)) : dRet f env ds = some (.rt a, s) := by
  unfold dRet
  rw [h]
  rfl
theorem dSeq_rt {f g : DenS} {env : En} {ds : DS} {a : D} (h : f env ds = some (.rt a, s)) : dSeq f g env ds = some (.rt a, s) := by
  unfold dSeq
  rw [h]
theorem dCallP_eq {n : Nat} {f : List D → Option D} {g : DenA} {env : En} {ds : DS} {as : List D} {a : D} (h1 : g env ds = some (as, s)) (h2 : as.length = n) (h3 : f as = some a) : dCallP n f g env ds = some (a, s) := by
  unfold dCallP
  rw [h1]
  unfold bnd
  dsimp only
  rw [if_pos h2, h3]
  rfl
end
theorem fnP_eq {n : Nat} {b : DenS} {args : List D} {a : D} {s : DS} (h : b (envP n args) ds0 = some (.rt a, s)) : fnP n b args = some a := by
  unfold fnP
  rw [h]
  rfl
theorem wn_loop (x : Option Sl) : ∀ (p acc : PR) (s : DS), NdP (acc ++ p) → acc.length + p.length < 100000 →
    dcLoop (gPair 1 2) (dTest (d2 gNeU (dRd 2) (dC (.int 0)))) (dVar 1) (dVar 2) [x, none, none] (itsP p) s (dP acc) = some (dP (acc ++ keepP p), s)
  | [], acc, s, _, _ => by
    show some (dP acc, s) = _
    unfold keepP
    rw [List.append_nil]
  | (k, v) :: r, acc, s, nd, hl => by
    have e0 : gPair 1 2 (.tuple [rowD k, .int v]) [x, none, none] = some [x, some (.val (rowD k)), some (.val (.int v))] := rfl
    have e1 : dTest (d2 gNeU (dRd 2) (dC (.int 0))) [x, some (.val (rowD k)), some (.val (.int v))] s = some (!decide (v = 0), s) := rfl
    have nd' : NdP (acc ++ r) := by
      have : List.Sublist (kysP (acc ++ r)) (kysP (acc ++ (k, v) :: r)) := ((List.sublist_cons_self (k, v) r).append_left acc).map _
      exact this.nodup nd
    simp only [List.length_cons] at hl
    show dcLoop (gPair 1 2) _ _ _ [x, none, none] (.tuple [rowD k, .int v] :: itsP r) s (dP acc) = _
    unfold keepP
    by_cases h : v = 0
    · rw [decide_eq_true h] at e1 ⊢
      rw [dcLoop_f e0 e1]
      exact wn_loop x r acc s nd' (by omega)
    · rw [decide_eq_false h] at e1 ⊢
      have nk : k ∉ kysP acc := by
        have nd2 : (kysP acc ++ k :: kysP r).Nodup := by
          have := nd
          unfold NdP at this
          rw [kysP_append] at this
          exact this
        intro m
        exact (List.nodup_append.mp nd2).2.2 k m k (List.mem_cons_self ..) rfl
      rw [dcLoop_t e0 e1 (k := rowD k) (s2 := s) rfl (v := .int v) (s3 := s) rfl (keyOf_row k) (by unfold dP; rw [List.length_map]; omega), putT_dP acc k v (by
        have : List.Sublist (kysP acc) (kysP (acc ++ (k, v) :: r)) := (List.sublist_append_left acc _).map _
        exact this.nodup nd), putP_new acc k v nk]
      have := wn_loop x r (acc ++ [(k, v)]) s (by rw [List.append_assoc]; exact nd) (by simp only [List.length_append, List.length_cons, List.length_nil]; omega)
      rw [List.append_assoc] at this
      exact this
theorem tr_wn (p : PR) (nd : NdP p) (hl : p.length < 100000) : f_without_noughts [toD p] = some (toD (keepP p)) := by
  have e := wn_loop (some (.val (toD p))) p [] ds0 nd (by simpa using hl)
  have e2 : dDc (dIt itemsD (dVar 0)) [1, 2] (gPair 1 2) (dTest (d2 gNeU (dRd 2) (dC (.int 0)))) (dVar 1) (dVar 2) [some (.val (toD p)), none, none] ds0 = some (toD (keepP p), ds0) :=
    dDc_eq (dIt_eq (a := toD p) rfl (items_dP p)) e
  exact fnP_eq (b := d_without_noughts) (dSeq_rt (dRet_eq e2))
/-! cut -/
def cutG (pre post : List Int) (low high c : Int) : Nat → Int → PR
  | 0, _ => []
  | n + 1, m => (pre ++ [low + m, high - 1 - m] ++ post, c) :: cutG pre post low high c n (m + 1)
def cutT (r : List Int) (c : Int) (i : Nat) : PR :=
  match decide (r.getD i 0 < r.getD (i - 1) 0) with
  | true => cutG (r.take (i - 1)) (r.drop (i + 1)) (r.getD i 0) (r.getD (i - 1) 0) (1 * c) (r.getD (i - 1) 0 - r.getD i 0).toNat 0
  | false => cutG (r.take (i - 1)) (r.drop (i + 1)) (r.getD (i - 1) 0) (r.getD i 0) (-1 * c) (r.getD i 0 - r.getD (i - 1) 0).toNat 0
def cutTs (i : Nat) : PR → PR
  | [] => []
  | (r, c) :: p => cutT r c i ++ cutTs i p
def cutP (p : PR) (i : Nat) : PR := keepP (accP [] (cutTs i p))
theorem accP_append : ∀ (ts us acc : PR), accP acc (ts ++ us) = accP (accP acc ts) us
  | [], us, acc => rfl
  | (k, c) :: ts, us, acc => accP_append ts us (addP acc k c)
theorem cutG_len (pre post : List Int) (low high c : Int) : ∀ (n : Nat) (m : Int), (cutG pre post low high c n m).length = n
  | 0, _ => rfl
  | n + 1, m => congrArg Nat.succ (cutG_len pre post low high c n (m + 1))
theorem cutD_pre (r : List Int) (i : Nat) (h : 1 ≤ i) (h2 : i < r.length) : cutD (r.map D.int) none (some ((i : Int) - 1)) = (r.take (i - 1)).map D.int := by
  unfold cutD
  have e : (some ((i : Int) - 1)) = some ((i - 1 : Nat) : Int) := by
    congr 1
    omega
  rw [e, HT.sIx_nat, HT.sIx_none, List.drop_zero, List.length_map, List.map_take]
  congr 1
  omega
theorem cutD_post (r : List Int) (i : Nat) (h2 : i < r.length) : cutD (r.map D.int) (some ((i : Int) + 1)) none = (r.drop (i + 1)).map D.int := by
  unfold cutD
  have e : (some ((i : Int) + 1)) = some ((i + 1 : Nat) : Int) := by
    congr 1
  rw [e, HT.sIx_nat, HT.sIx_none, List.length_map, List.map_drop]
  have : min (i + 1) r.length = i + 1 := by omega
  rw [this]
  apply List.take_of_length_le
  simp
def cutLate : Den := d2 gAdd (d2 gAdd (dSl (dRd 3) none (some (d2 gSub (dRd 1) (dC (.int 1))))) (dTup (aCons (d2 gAdd (dRd 8) (dRd 10)) (aCons (d2 gSub (d2 gSub (dRd 9) (dC (.int 1))) (dRd 10)) (aNil))))) (dSl (dRd 3) (some (d2 gAdd (dRd 1) (dC (.int 1)))) none)
def cutBody : DenS := dSeq (dSet 11 false cutLate) (dSeq (dPut 2 (d2 gAdd (dGet2 (dRd 2) (dRd 11) (dC (.int 0))) (d2 gMul (dRd 7) (dRd 4))) (dRd 11)) (dNx))
abbrev vS (d : D) : Option Sl := some (.val d)
def E12 (R : Option Sl) (i : Nat) (acc : PR) (a3 a4 a5 a6 a7 a8 a9 a10 a11 : Option Sl) : En := [R, vS (.int i), some (.own (toD acc)), a3, a4, a5, a6, a7, a8, a9, a10, a11]
theorem cutLate_eq (R : Option Sl) (i : Nat) (acc : PR) (r : List Int) (a4 a5 a6 a7 a11 : Option Sl) (low high m : Int) (h1 : 1 ≤ i) (h2 : i < r.length) (h3 : r.length < 1000) (ds : DS) :
    cutLate (E12 R i acc (vS (rowD r)) a4 a5 a6 a7 (vS (.int low)) (vS (.int high)) (vS (.int m)) a11) ds = some (rowD (r.take (i - 1) ++ [low + m, high - 1 - m] ++ r.drop (i + 1)), ds) := by
  have e1 : dSl (dRd 3) none (some (d2 gSub (dRd 1) (dC (.int 1)))) (E12 R i acc (vS (rowD r)) a4 a5 a6 a7 (vS (.int low)) (vS (.int high)) (vS (.int m)) a11) ds = some (.tuple (cutD (r.map D.int) none (some ((i : Int) - 1))), ds) := rfl
  have e2 : dTup (aCons (d2 gAdd (dRd 8) (dRd 10)) (aCons (d2 gSub (d2 gSub (dRd 9) (dC (.int 1))) (dRd 10)) (aNil))) (E12 R i acc (vS (rowD r)) a4 a5 a6 a7 (vS (.int low)) (vS (.int high)) (vS (.int m)) a11) ds = some (.tuple [.int (low + m), .int (high - 1 - m)], ds) := rfl
  have e3 : dSl (dRd 3) (some (d2 gAdd (dRd 1) (dC (.int 1)))) none (E12 R i acc (vS (rowD r)) a4 a5 a6 a7 (vS (.int low)) (vS (.int high)) (vS (.int m)) a11) ds = some (.tuple (cutD (r.map D.int) (some ((i : Int) + 1)) none), ds) := rfl
  rw [cutD_pre r i h1 h2] at e1
  rw [cutD_post r i h2] at e3
  have e4 := d2_eq (g := gAdd) e1 e2 (c := .tuple ((r.take (i - 1)).map D.int ++ [.int (low + m), .int (high - 1 - m)])) (gAddT (by simp; omega))
  have e5 := d2_eq (g := gAdd) e4 e3 (c := .tuple (((r.take (i - 1)).map D.int ++ [.int (low + m), .int (high - 1 - m)]) ++ (r.drop (i + 1)).map D.int)) (gAddT (by simp; omega))
  unfold cutLate
  rw [e5]
  simp [rowD]
theorem cut_in (R : Option Sl) (i : Nat) (r : List Int) (a5 a6 : Option Sl) (num sg low high : Int) (h1 : 1 ≤ i) (h2 : i < r.length) (h3 : r.length < 1000) (hs : -(2 ^ 64) < sg ∧ sg < 2 ^ 64) (ds : DS) :
    ∀ (n : Nat) (m : Int) (acc : PR) (a10 a11 : Option Sl), NdP acc → acc.length + n < 100000 →
      ∃ b10 b11, forLoop (gNm 10) cutBody (rgD m n) (E12 R i acc (vS (rowD r)) (vS (.int num)) a5 a6 (vS (.int sg)) (vS (.int low)) (vS (.int high)) a10 a11) ds =
        some (.nx (E12 R i (accP acc (cutG (r.take (i - 1)) (r.drop (i + 1)) low high (sg * num) n m)) (vS (rowD r)) (vS (.int num)) a5 a6 (vS (.int sg)) (vS (.int low)) (vS (.int high)) b10 b11), ds)
  | 0, m, acc, a10, a11, _, _ => ⟨a10, a11, rfl⟩
  | n + 1, m, acc, a10, a11, nd, hl => by
    let k := r.take (i - 1) ++ [low + m, high - 1 - m] ++ r.drop (i + 1)
    obtain ⟨b10, b11, ih⟩ := cut_in R i r a5 a6 num sg low high h1 h2 h3 hs ds n (m + 1) (addP acc k (sg * num)) (vS (.int m)) (vS (rowD k)) (nd_addP _ _ nd) (by have := addP_len acc k (sg * num); omega)
    refine ⟨b10, b11, ?_⟩
    have e1 : dSet 11 false cutLate (E12 R i acc (vS (rowD r)) (vS (.int num)) a5 a6 (vS (.int sg)) (vS (.int low)) (vS (.int high)) (vS (.int m)) a11) ds = some (.nx (E12 R i acc (vS (rowD r)) (vS (.int num)) a5 a6 (vS (.int sg)) (vS (.int low)) (vS (.int high)) (vS (.int m)) (vS (rowD k))), ds) :=
      dSet_eq (cutLate_eq R i acc r (vS (.int num)) a5 a6 (vS (.int sg)) a11 low high m h1 h2 h3 ds)
    have e2 := putAdd (i := 2) (kd := dRd 11) (cd := d2 gMul (dRd 7) (dRd 4)) (env := E12 R i acc (vS (rowD r)) (vS (.int num)) a5 a6 (vS (.int sg)) (vS (.int low)) (vS (.int high)) (vS (.int m)) (vS (rowD k))) (ds := ds) (p := acc) (k := k) (c := sg * num) rfl rfl (d2_eq (a := .int sg) (b := .int num) rfl rfl (gMulL hs)) nd (by omega)
    have e3 : cutBody (E12 R i acc (vS (rowD r)) (vS (.int num)) a5 a6 (vS (.int sg)) (vS (.int low)) (vS (.int high)) (vS (.int m)) a11) ds = some (.nx (E12 R i (addP acc k (sg * num)) (vS (rowD r)) (vS (.int num)) a5 a6 (vS (.int sg)) (vS (.int low)) (vS (.int high)) (vS (.int m)) (vS (rowD k))), ds) :=
      (dSeq_eq e1).trans ((dSeq_eq e2).trans rfl)
    rw [rgD, forLoop_cons (env' := E12 R i acc (vS (rowD r)) (vS (.int num)) a5 a6 (vS (.int sg)) (vS (.int low)) (vS (.int high)) (vS (.int m)) a11) rfl e3]
    exact ih
end L2.Dn
set_option Elab.async false
set_option linter.all false
set_option maxRecDepth 100000
namespace L2.Dn
open PySem PySem.Spec PyProof.Rows C8
section
variable {f h : Den} {t : DenT} {g : DenG} {env env' : En} {ds s s1 s2 : DS} {a b c : D}
theorem dPar_eq {i j : Nat} {k l : Bool} (h1 : f env ds = some (a, s)) (h2 : h env s = some (b, s1)) : dPar i j k l f h env ds = some (.nx ((env.set i (some (mkSl k a))).set j (some (mkSl l b))), s1) := by
  unfold dPar
  rw [h1]
  unfold bnd
  dsimp only
  rw [h2]
theorem dAsg_eq (h1 : f env ds = some (a, s)) (h2 : g a env = some env') : dAsg f g env ds = some (.nx env', s) := by
  unfold dAsg
  rw [h1]
  unfold bnd
  dsimp only
  rw [h2]
theorem dIf_t (h1 : t env ds = some (true, s)) : dIf t f h env ds = f env s := by
  unfold dIf
  rw [h1]
  rfl
theorem dIf_f (h1 : t env ds = some (false, s)) : dIf t f h env ds = h env s := by
  unfold dIf
  rw [h1]
  rfl
theorem dRg1_eq {n : Int} (h1 : f env ds = some (.int n, s)) (h2 : n < 100000 ∧ -100000 < n) : dRg1 f env ds = some (rgD 0 n.toNat, s) := by
  unfold dRg1
  rw [h1]
  unfold bnd
  dsimp only
  rw [if_pos h2]
end
theorem ixRow (r : List Int) (j : Nat) (h : j < r.length) : gIx (rowD r) (.int j) = some (.int (r.getD j 0)) := by
  show atI (r.map D.int) (j : Int) = _
  unfold atI ixN
  rw [if_pos (by omega), if_pos (by rw [List.length_map]; omega)]
  show (r.map D.int)[(j : Int).toNat]? = _
  rw [Int.toNat_natCast, List.getElem?_map, List.getElem?_eq_getElem h]
  simp [List.getD, h]
def cutRow : DenS := dSeq (dPar 5 6 false false (d2 gIx (dRd 3) (d2 gSub (dRd 1) (dC (.int 1)))) (d2 gIx (dRd 3) (dRd 1))) (dSeq (dAsg (dIf (dTest (d2 gGt (dRd 5) (dRd 6))) (dTup (aCons (dC (.int 1)) (aCons (dVar 6) (aCons (dVar 5) (aNil))))) (dTup (aCons (d1 gNeg (dC (.int 1))) (aCons (dVar 5) (aCons (dVar 6) (aNil)))))) (gTp (gsCons (gNm 7) (gsCons (gNm 8) (gsCons (gNm 9) (gsNil)))))) (dSeq (dFor (dRg1 (d2 gSub (dRd 9) (dRd 8))) (gNm 10) cutBody) (dNx)))
theorem cut_row (R : Option Sl) (i : Nat) (r : List Int) (num : Int) (h1 : 1 ≤ i) (h2 : i < r.length) (h3 : r.length < 1000) (acc : PR) (a5 a6 a7 a8 a9 a10 a11 : Option Sl) (nd : NdP acc) (hl : acc.length + (cutT r num i).length < 100000) (ds : DS) :
    ∃ b5 b6 b7 b8 b9 b10 b11, cutRow (E12 R i acc (vS (rowD r)) (vS (.int num)) a5 a6 a7 a8 a9 a10 a11) ds = some (.nx (E12 R i (accP acc (cutT r num i)) (vS (rowD r)) (vS (.int num)) b5 b6 b7 b8 b9 b10 b11), ds) := by
  have e1 : d2 gIx (dRd 3) (d2 gSub (dRd 1) (dC (.int 1))) (E12 R i acc (vS (rowD r)) (vS (.int num)) a5 a6 a7 a8 a9 a10 a11) ds = some (.int (r.getD (i - 1) 0), ds) := by
    refine d2_eq (a := rowD r) (b := .int ((i : Int) - 1)) rfl rfl ?_
    have : ((i : Int) - 1) = ((i - 1 : Nat) : Int) := by omega
    rw [this]
    exact ixRow r (i - 1) (by omega)
  have e2 : d2 gIx (dRd 3) (dRd 1) (E12 R i acc (vS (rowD r)) (vS (.int num)) a5 a6 a7 a8 a9 a10 a11) ds = some (.int (r.getD i 0), ds) := d2_eq (a := rowD r) (b := .int i) rfl rfl (ixRow r i h2)
  have e3 := dPar_eq (i := 5) (j := 6) (k := false) (l := false) e1 e2
  have e3' : dPar 5 6 false false (d2 gIx (dRd 3) (d2 gSub (dRd 1) (dC (.int 1)))) (d2 gIx (dRd 3) (dRd 1)) (E12 R i acc (vS (rowD r)) (vS (.int num)) a5 a6 a7 a8 a9 a10 a11) ds = some (.nx (E12 R i acc (vS (rowD r)) (vS (.int num)) (vS (.int (r.getD (i - 1) 0))) (vS (.int (r.getD i 0))) a7 a8 a9 a10 a11), ds) := e3
  unfold cutRow
  rw [dSeq_eq e3']
  unfold cutT at hl ⊢
  have e4 : dTest (d2 gGt (dRd 5) (dRd 6)) (E12 R i acc (vS (rowD r)) (vS (.int num)) (vS (.int (r.getD (i - 1) 0))) (vS (.int (r.getD i 0))) a7 a8 a9 a10 a11) ds = some (decide (r.getD i 0 < r.getD (i - 1) 0), ds) := rfl
  by_cases hc : r.getD i 0 < r.getD (i - 1) 0
  · rw [decide_eq_true hc] at e4 hl ⊢
    dsimp only at hl ⊢
    rw [cutG_len] at hl
    obtain ⟨b10, b11, e6⟩ := cut_in R i r (vS (.int (r.getD (i - 1) 0))) (vS (.int (r.getD i 0))) num 1 (r.getD i 0) (r.getD (i - 1) 0) h1 h2 h3 (by decide) ds (r.getD (i - 1) 0 - r.getD i 0).toNat 0 acc a10 a11 nd hl
    have e5 : dAsg (dIf (dTest (d2 gGt (dRd 5) (dRd 6))) (dTup (aCons (dC (.int 1)) (aCons (dVar 6) (aCons (dVar 5) (aNil))))) (dTup (aCons (d1 gNeg (dC (.int 1))) (aCons (dVar 5) (aCons (dVar 6) (aNil)))))) (gTp (gsCons (gNm 7) (gsCons (gNm 8) (gsCons (gNm 9) (gsNil))))) (E12 R i acc (vS (rowD r)) (vS (.int num)) (vS (.int (r.getD (i - 1) 0))) (vS (.int (r.getD i 0))) a7 a8 a9 a10 a11) ds =
        some (.nx (E12 R i acc (vS (rowD r)) (vS (.int num)) (vS (.int (r.getD (i - 1) 0))) (vS (.int (r.getD i 0))) (vS (.int 1)) (vS (.int (r.getD i 0))) (vS (.int (r.getD (i - 1) 0))) a10 a11), ds) :=
      dAsg_eq (a := .tuple [.int 1, .int (r.getD i 0), .int (r.getD (i - 1) 0)]) ((dIf_t e4).trans rfl) rfl
    have e7 : dFor (dRg1 (d2 gSub (dRd 9) (dRd 8))) (gNm 10) cutBody (E12 R i acc (vS (rowD r)) (vS (.int num)) (vS (.int (r.getD (i - 1) 0))) (vS (.int (r.getD i 0))) (vS (.int 1)) (vS (.int (r.getD i 0))) (vS (.int (r.getD (i - 1) 0))) a10 a11) ds = _ := (dFor_eq (dRg1_eq (n := r.getD (i - 1) 0 - r.getD i 0) rfl (by omega))).trans e6
    exact ⟨_, _, _, _, _, b10, b11, (dSeq_eq e5).trans ((dSeq_eq e7).trans rfl)⟩
  · rw [decide_eq_false hc] at e4 hl ⊢
    dsimp only at hl ⊢
    rw [cutG_len] at hl
    obtain ⟨b10, b11, e6⟩ := cut_in R i r (vS (.int (r.getD (i - 1) 0))) (vS (.int (r.getD i 0))) num (-1) (r.getD (i - 1) 0) (r.getD i 0) h1 h2 h3 (by decide) ds (r.getD i 0 - r.getD (i - 1) 0).toNat 0 acc a10 a11 nd hl
    have e5 : dAsg (dIf (dTest (d2 gGt (dRd 5) (dRd 6))) (dTup (aCons (dC (.int 1)) (aCons (dVar 6) (aCons (dVar 5) (aNil))))) (dTup (aCons (d1 gNeg (dC (.int 1))) (aCons (dVar 5) (aCons (dVar 6) (aNil)))))) (gTp (gsCons (gNm 7) (gsCons (gNm 8) (gsCons (gNm 9) (gsNil))))) (E12 R i acc (vS (rowD r)) (vS (.int num)) (vS (.int (r.getD (i - 1) 0))) (vS (.int (r.getD i 0))) a7 a8 a9 a10 a11) ds =
        some (.nx (E12 R i acc (vS (rowD r)) (vS (.int num)) (vS (.int (r.getD (i - 1) 0))) (vS (.int (r.getD i 0))) (vS (.int (-1))) (vS (.int (r.getD (i - 1) 0))) (vS (.int (r.getD i 0))) a10 a11), ds) :=
      dAsg_eq (a := .tuple [.int (-1), .int (r.getD (i - 1) 0), .int (r.getD i 0)]) ((dIf_f e4).trans rfl) rfl
    have e7 : dFor (dRg1 (d2 gSub (dRd 9) (dRd 8))) (gNm 10) cutBody (E12 R i acc (vS (rowD r)) (vS (.int num)) (vS (.int (r.getD (i - 1) 0))) (vS (.int (r.getD i 0))) (vS (.int (-1))) (vS (.int (r.getD (i - 1) 0))) (vS (.int (r.getD i 0))) a10 a11) ds = _ := (dFor_eq (dRg1_eq (n := r.getD i 0 - r.getD (i - 1) 0) rfl (by omega))).trans e6
    exact ⟨_, _, _, _, _, b10, b11, (dSeq_eq e5).trans ((dSeq_eq e7).trans rfl)⟩
/-- rows that a cut at i can read -/
def RowsOk (i : Nat) (p : PR) : Prop := ∀ e ∈ p, i < e.1.length ∧ e.1.length < 1000
theorem cut_out (R : Option Sl) (i : Nat) (h1 : 1 ≤ i) (ds : DS) : ∀ (p acc : PR) (a3 a4 a5 a6 a7 a8 a9 a10 a11 : Option Sl), RowsOk i p → NdP acc → acc.length + (cutTs i p).length < 100000 →
    ∃ b3 b4 b5 b6 b7 b8 b9 b10 b11, forLoop (gPair 3 4) cutRow (itsP p) (E12 R i acc a3 a4 a5 a6 a7 a8 a9 a10 a11) ds = some (.nx (E12 R i (accP acc (cutTs i p)) b3 b4 b5 b6 b7 b8 b9 b10 b11), ds)
  | [], acc, a3, a4, a5, a6, a7, a8, a9, a10, a11, _, _, _ => ⟨a3, a4, a5, a6, a7, a8, a9, a10, a11, rfl⟩
  | (r, c) :: p, acc, a3, a4, a5, a6, a7, a8, a9, a10, a11, ok, nd, hl => by
    obtain ⟨h2, h3⟩ := ok (r, c) (List.mem_cons_self ..)
    rw [cutTs, List.length_append] at hl
    obtain ⟨b5, b6, b7, b8, b9, b10, b11, e⟩ := cut_row R i r c h1 h2 h3 acc a5 a6 a7 a8 a9 a10 a11 nd (by omega) ds
    obtain ⟨c3, c4, c5, c6, c7, c8, c9, c10, c11, e2⟩ := cut_out R i h1 ds p (accP acc (cutT r c i)) (vS (rowD r)) (vS (.int c)) b5 b6 b7 b8 b9 b10 b11 (fun e m => ok e (List.mem_cons_of_mem _ m)) (nd_accP _ nd) (by have := accP_len (cutT r c i) acc; omega)
    refine ⟨c3, c4, c5, c6, c7, c8, c9, c10, c11, ?_⟩
    rw [cutTs, accP_append]
    exact (forLoop_cons (d := .tuple [rowD r, .int c]) rfl e).trans e2
theorem tr_cut (p : PR) (i : Nat) (h1 : 1 ≤ i) (ok : RowsOk i p) (hl : (cutTs i p).length < 100000) : f_cut_by [toD p, .int i] = some (toD (cutP p i)) := by
  obtain ⟨b3, b4, b5, b6, b7, b8, b9, b10, b11, e⟩ := cut_out (vS (toD p)) i h1 ds0 p [] none none none none none none none none none ok List.nodup_nil (by simpa using hl)
  have e1 : dSet 2 true (dC (.dT [])) (envP 12 [toD p, .int i]) ds0 = some (.nx (E12 (vS (toD p)) i [] none none none none none none none none none), ds0) := rfl
  have e2 : dFor (dIt itemsD (dVar 0)) (gPair 3 4) cutRow (E12 (vS (toD p)) i [] none none none none none none none none none) ds0 = _ := (dFor_eq (dIt_eq (a := toD p) rfl (items_dP p))).trans e
  have hl2 : (accP [] (cutTs i p)).length < 100000 := by
    have := accP_len (cutTs i p) []
    simp only [List.length_nil] at this
    omega
  have e3 : dFrz 2 (dRet (dCallP 1 f_without_noughts (aCons (dVar 2) (aNil)))) (E12 (vS (toD p)) i (accP [] (cutTs i p)) b3 b4 b5 b6 b7 b8 b9 b10 b11) ds0 = some (.rt (toD (cutP p i)), ds0) :=
    dRet_eq (env := [vS (toD p), vS (.int i), vS (toD (accP [] (cutTs i p))), b3, b4, b5, b6, b7, b8, b9, b10, b11]) (dCallP_eq (as := [toD (accP [] (cutTs i p))]) rfl rfl (tr_wn _ (nd_accP _ List.nodup_nil) hl2))
  exact fnP_eq (b := d_cut_by) ((dSeq_eq e1).trans ((dSeq_eq e2).trans (dSeq_rt e3)))
end L2.Dn
set_option Elab.async false
set_option linter.all false
set_option maxRecDepth 100000
/-! sums and products of polynomials -/
namespace L2.Dn
open PySem PySem.Spec PyProof.Rows C8
section
variable {f h : Den} {t : DenT} {g : DenG} {ga : DenA} {env env' : En} {ds s s1 s2 : DS} {a b c : D}
theorem dLc_eq {gi : DenA} {own : List Nat} {fe : Den} {items r : List D} (h1 : gi env ds = some (items, s)) (h2 : lcLoop g t fe (wipeE env own) items s = some (r, s1)) (h3 : r.length ≤ 100000) : dLc gi own g t fe env ds = some (.list r, s1) := by
  unfold dLc
  rw [h1]
  unfold bnd
  dsimp only
  rw [h2]
  dsimp only
  rw [if_pos h3]
theorem dB_eq {p : List D → Option D} {as : List D} (h1 : ga env ds = some (as, s)) (h2 : p as = some a) : dB p ga env ds = some (a, s) := by
  unfold dB
  rw [h1]
  unfold bnd
  dsimp only
  rw [h2]
  rfl
theorem lc_f {fe : Den} {d : D} {r : List D} (h1 : g d env = some env') (h2 : t env' ds = some (false, s)) : lcLoop g t fe env (d :: r) ds = lcLoop g t fe env r s := by
  rw [lcLoop, h1]
  dsimp only
  rw [h2]
  rfl
theorem lc_t {fe : Den} {d y : D} {r ys : List D} (h1 : g d env = some env') (h2 : t env' ds = some (true, s)) (h3 : fe env' s = some (y, s1)) (h4 : lcLoop g t fe env r s1 = some (ys, s2)) : lcLoop g t fe env (d :: r) ds = some (y :: ys, s2) := by
  rw [lcLoop, h1]
  dsimp only
  rw [h2]
  unfold bnd
  dsimp only
  rw [h3]
  dsimp only
  rw [h4]
theorem dZip_eq {xs ys : List D} (h1 : f env ds = some (.tuple xs, s)) (h2 : h env s = some (.tuple ys, s1)) : dZip f h env ds = some (zipD xs ys, s1) := by
  unfold dZip
  rw [h1]
  unfold bnd
  dsimp only
  rw [h2]
  rfl
end
/-! dict(p): no two rows have one hash -/
def hOk (p : PR) : Bool := match hashes? (dP p) with
  | some l => nodupI l
  | none => false
theorem gDict_P {p : PR} (h : hOk p = true) : gDict [toD p] = some (toD p) := by
  unfold hOk at h
  show (match hashes? (dP p) with | some l => if nodupI l = true then some (toD p) else none | none => none) = _
  cases e : hashes? (dP p) with
  | none => rw [e] at h; cases h
  | some l =>
    rw [e] at h
    dsimp only at h ⊢
    rw [if_pos h]
/-! p + m q -/
def scaleP (m : Int) : PR → PR
  | [] => []
  | (k, v) :: r => (k, m * v) :: scaleP m r
theorem scaleP_len (m : Int) : ∀ (q : PR), (scaleP m q).length = q.length
  | [] => rfl
  | (k, v) :: r => congrArg Nat.succ (scaleP_len m r)
def plusP (p q : PR) (m : Int) : PR := keepP (accP p (scaleP m q))
def E6 (a0 a1 : Option Sl) (m : Int) (acc : PR) (a4 a5 : Option Sl) : En := [a0, a1, vS (.int m), some (.own (toD acc)), a4, a5]
def SmallM (m : Int) (q : PR) : Prop := (-(2 ^ 64) < m ∧ m < 2 ^ 64) ∨ ∀ e ∈ q, -(2 ^ 64) < e.2 ∧ e.2 < 2 ^ 64
theorem gMulE {i j : Int} (h : (-(2 ^ 64) < i ∧ i < 2 ^ 64) ∨ (-(2 ^ 64) < j ∧ j < 2 ^ 64)) : gMul (.int i) (.int j) = some (.int (i * j)) := if_pos h
def plusBody : DenS := dSeq (dPut 3 (d2 gAdd (dGet2 (dRd 3) (dRd 4) (dC (.int 0))) (d2 gMul (dRd 2) (dRd 5))) (dRd 4)) (dNx)
theorem plus_loop (a0 a1 : Option Sl) (m : Int) (ds : DS) : ∀ (q acc : PR) (a4 a5 : Option Sl), SmallM m q → NdP acc → acc.length + q.length < 100000 →
    ∃ b4 b5, forLoop (gPair 4 5) plusBody (itsP q) (E6 a0 a1 m acc a4 a5) ds = some (.nx (E6 a0 a1 m (accP acc (scaleP m q)) b4 b5), ds)
  | [], acc, a4, a5, _, _, _ => ⟨a4, a5, rfl⟩
  | (k, v) :: q, acc, a4, a5, hm, nd, hl => by
    simp only [List.length_cons] at hl
    obtain ⟨b4, b5, ih⟩ := plus_loop a0 a1 m ds q (addP acc k (m * v)) (vS (rowD k)) (vS (.int v)) (hm.imp (fun x => x) fun x e he => x e (List.mem_cons_of_mem _ he)) (nd_addP _ _ nd) (by have := addP_len acc k (m * v); omega)
    refine ⟨b4, b5, ?_⟩
    have e2 := putAdd (i := 3) (kd := dRd 4) (cd := d2 gMul (dRd 2) (dRd 5)) (env := E6 a0 a1 m acc (vS (rowD k)) (vS (.int v))) (ds := ds) (p := acc) (k := k) (c := m * v) rfl rfl (d2_eq (a := .int m) (b := .int v) rfl rfl (gMulE (hm.imp (fun x => x) fun x => x (k, v) (List.mem_cons_self ..)))) nd (by omega)
    have e3 : plusBody (E6 a0 a1 m acc (vS (rowD k)) (vS (.int v))) ds = some (.nx (E6 a0 a1 m (addP acc k (m * v)) (vS (rowD k)) (vS (.int v))), ds) := (dSeq_eq e2).trans rfl
    exact (forLoop_cons (d := .tuple [rowD k, .int v]) rfl e3).trans ih
/-! p q -/
def addR : List Int → List Int → List Int
  | a :: r, b :: t => (a + b) :: addR r t
  | _, _ => []
theorem addR_len : ∀ (r t : List Int), (addR r t).length = min r.length t.length
  | [], _ => by simp [addR]
  | _ :: _, [] => by simp [addR]
  | a :: r, b :: t => by
    simp only [addR, List.length_cons, addR_len r t]
    omega
theorem addR_loop (i j : Nat) (env0 : En) (h1 : ∀ x y, ((env0.set i (vS x)).set j (vS y))[i]? = some (vS x)) (h2 : ∀ x y, ((env0.set i (vS x)).set j (vS y))[j]? = some (vS y)) (s : DS) :
    ∀ (r t : List Int), lcLoop (gPair i j) tYesD (d2 gAdd (dRd i) (dRd j)) env0 (zipD (r.map D.int) (t.map D.int)) s = some ((addR r t).map D.int, s)
  | [], _ => rfl
  | _ :: _, [] => rfl
  | a :: r, b :: t => by
    have ih := addR_loop i j env0 h1 h2 s r t
    refine lc_t (env' := (env0.set i (vS (.int a))).set j (vS (.int b))) (s := s) (s1 := s) (y := .int (a + b)) rfl rfl ?_ ih
    refine d2_eq (a := .int a) (b := .int b) (s := s) ?_ ?_ rfl
    · unfold dRd
      rw [h1]
    · unfold dRd
      rw [h2]
def mulT (r : List Int) (c : Int) : PR → PR
  | [] => []
  | (k, v) :: q => (addR r k, c * v) :: mulT r c q
def mulTs (q : PR) : PR → PR
  | [] => []
  | (r, c) :: p => mulT r c q ++ mulTs q p
def mulP (p q : PR) : PR := keepP (accP [] (mulTs q p))
theorem mulT_len (r : List Int) (c : Int) : ∀ (q : PR), (mulT r c q).length = q.length
  | [] => rfl
  | (k, v) :: q => congrArg Nat.succ (mulT_len r c q)
theorem mulTs_len (q : PR) : ∀ (p : PR), (mulTs q p).length = p.length * q.length
  | [] => by simp [mulTs]
  | (r, c) :: p => by
    rw [mulTs, List.length_append, mulT_len, mulTs_len q p, List.length_cons, Nat.succ_mul]
    omega
def E10 (a0 a1 : Option Sl) (acc : PR) (a3 a4 a5 a6 a7 a8 a9 : Option Sl) : En := [a0, a1, some (.own (toD acc)), a3, a4, a5, a6, a7, a8, a9]
def mulBody : DenS := dSeq (dSet 7 false (dB gTupS (aCons (dLc (dZip (dVar 3) (dVar 5)) [8, 9] (gPair 8 9) (tYesD) (d2 gAdd (dRd 8) (dRd 9))) (aNil)))) (dSeq (dPut 2 (d2 gAdd (dGet2 (dRd 2) (dRd 7) (dC (.int 0))) (d2 gMul (dRd 4) (dRd 6))) (dRd 7)) (dNx))
def SmallP (p : PR) : Prop := ∀ e ∈ p, -(2 ^ 64) < e.2 ∧ e.2 < 2 ^ 64
theorem mul_in (a0 a1 : Option Sl) (r : List Int) (c : Int) (hc : -(2 ^ 64) < c ∧ c < 2 ^ 64) (hr : r.length ≤ 100000) (ds : DS) : ∀ (q acc : PR) (a5 a6 a7 a8 a9 : Option Sl), NdP acc → acc.length + q.length < 100000 →
    ∃ b5 b6 b7 b8 b9, forLoop (gPair 5 6) mulBody (itsP q) (E10 a0 a1 acc (vS (rowD r)) (vS (.int c)) a5 a6 a7 a8 a9) ds = some (.nx (E10 a0 a1 (accP acc (mulT r c q)) (vS (rowD r)) (vS (.int c)) b5 b6 b7 b8 b9), ds)
  | [], acc, a5, a6, a7, a8, a9, _, _ => ⟨a5, a6, a7, a8, a9, rfl⟩
  | (k, v) :: q, acc, a5, a6, a7, a8, a9, nd, hl => by
    simp only [List.length_cons] at hl
    let kk := addR r k
    obtain ⟨b5, b6, b7, b8, b9, ih⟩ := mul_in a0 a1 r c hc hr ds q (addP acc kk (c * v)) (vS (rowD k)) (vS (.int v)) (vS (rowD kk)) a8 a9 (nd_addP _ _ nd) (by have := addP_len acc kk (c * v); omega)
    refine ⟨b5, b6, b7, b8, b9, ?_⟩
    have e1 : dSet 7 false (dB gTupS (aCons (dLc (dZip (dVar 3) (dVar 5)) [8, 9] (gPair 8 9) (tYesD) (d2 gAdd (dRd 8) (dRd 9))) (aNil))) (E10 a0 a1 acc (vS (rowD r)) (vS (.int c)) (vS (rowD k)) (vS (.int v)) a7 a8 a9) ds = some (.nx (E10 a0 a1 acc (vS (rowD r)) (vS (.int c)) (vS (rowD k)) (vS (.int v)) (vS (rowD kk)) a8 a9), ds) :=
      dSet_eq (i := 7) (k := false) (env := E10 a0 a1 acc (vS (rowD r)) (vS (.int c)) (vS (rowD k)) (vS (.int v)) a7 a8 a9) (dB_eq (as := [.list (kk.map D.int)]) (aCons1 (dLc_eq (dZip_eq (xs := r.map D.int) (ys := k.map D.int) rfl rfl) (addR_loop 8 9 _ (fun _ _ => rfl) (fun _ _ => rfl) ds r k) (by rw [List.length_map, addR_len]; omega))) rfl)
    have e2 := putAdd (i := 2) (kd := dRd 7) (cd := d2 gMul (dRd 4) (dRd 6)) (env := E10 a0 a1 acc (vS (rowD r)) (vS (.int c)) (vS (rowD k)) (vS (.int v)) (vS (rowD kk)) a8 a9) (ds := ds) (p := acc) (k := kk) (c := c * v) rfl rfl (d2_eq (a := .int c) (b := .int v) rfl rfl (gMulL hc)) nd (by omega)
    have e3 : mulBody (E10 a0 a1 acc (vS (rowD r)) (vS (.int c)) (vS (rowD k)) (vS (.int v)) a7 a8 a9) ds = some (.nx (E10 a0 a1 (addP acc kk (c * v)) (vS (rowD r)) (vS (.int c)) (vS (rowD k)) (vS (.int v)) (vS (rowD kk)) a8 a9), ds) := (dSeq_eq e1).trans ((dSeq_eq e2).trans rfl)
    exact (forLoop_cons (d := .tuple [rowD k, .int v]) rfl e3).trans ih
def mulRow : DenS := dSeq (dFor (dIt itemsD (dVar 1)) (gPair 5 6) mulBody) (dNx)
theorem mul_out (a0 : Option Sl) (q : PR) (ds : DS) : ∀ (p acc : PR) (a3 a4 a5 a6 a7 a8 a9 : Option Sl), SmallP p → (∀ e ∈ p, e.1.length ≤ 100000) → NdP acc → acc.length + p.length * q.length < 100000 →
    ∃ b3 b4 b5 b6 b7 b8 b9, forLoop (gPair 3 4) mulRow (itsP p) (E10 a0 (vS (toD q)) acc a3 a4 a5 a6 a7 a8 a9) ds = some (.nx (E10 a0 (vS (toD q)) (accP acc (mulTs q p)) b3 b4 b5 b6 b7 b8 b9), ds)
  | [], acc, a3, a4, a5, a6, a7, a8, a9, _, _, _, _ => ⟨a3, a4, a5, a6, a7, a8, a9, rfl⟩
  | (r, c) :: p, acc, a3, a4, a5, a6, a7, a8, a9, hs, hr, nd, hl => by
    simp only [List.length_cons, Nat.succ_mul] at hl
    obtain ⟨b5, b6, b7, b8, b9, e⟩ := mul_in a0 (vS (toD q)) r c (hs (r, c) (List.mem_cons_self ..)) (hr (r, c) (List.mem_cons_self ..)) ds q acc a5 a6 a7 a8 a9 nd (by omega)
    obtain ⟨c3, c4, c5, c6, c7, c8, c9, e2⟩ := mul_out a0 q ds p (accP acc (mulT r c q)) (vS (rowD r)) (vS (.int c)) b5 b6 b7 b8 b9 (fun e m => hs e (List.mem_cons_of_mem _ m)) (fun e m => hr e (List.mem_cons_of_mem _ m)) (nd_accP _ nd) (by have := accP_len (mulT r c q) acc; rw [mulT_len] at this; omega)
    refine ⟨c3, c4, c5, c6, c7, c8, c9, ?_⟩
    have e3 : mulRow (E10 a0 (vS (toD q)) acc (vS (rowD r)) (vS (.int c)) a5 a6 a7 a8 a9) ds = some (.nx (E10 a0 (vS (toD q)) (accP acc (mulT r c q)) (vS (rowD r)) (vS (.int c)) b5 b6 b7 b8 b9), ds) :=
      (dSeq_eq ((dFor_eq (dIt_eq (a := toD q) rfl (items_dP q))).trans e)).trans rfl
    rw [mulTs, accP_append]
    exact (forLoop_cons (d := .tuple [rowD r, .int c]) rfl e3).trans e2
end L2.Dn
set_option Elab.async false
set_option linter.all false
set_option maxRecDepth 100000
/-! the law's own functions on polynomials -/
namespace L2.Dn
open PySem PySem.Spec PyProof.Rows C8
theorem aCons_eq {f : Den} {g : DenA} {env : En} {ds s s1 : DS} {a : D} {as : List D} (h1 : f env ds = some (a, s)) (h2 : g env s = some (as, s1)) : aCons f g env ds = some (a :: as, s1) := by
  unfold aCons
  rw [h1]
  unfold bnd
  dsimp only
  rw [h2]
abbrev kysD (p : PR) : List D := p.map fun e => rowD e.1
theorem keys_dP (p : PR) : itemsOf (toD p) = some (kysD p) := by
  show some ((dP p).map _) = _
  unfold dP
  rw [List.map_map]
  congr 1
  apply List.map_congr_left
  intro e _
  show keyT (keyI e.1) = _
  rw [keyT_keyI]
theorem ixP {p : PR} {k : List Int} {v : Int} (h : lookP p k = some v) : gIx (toD p) (rowD k) = some (.int v) := by
  show (match keyOf? (rowD k) with | some k => lookT (dP p) k | none => none) = _
  rw [keyOf_row]
  dsimp only
  rw [lookT_dP, h]
  rfl
def Has (P p : PR) : Prop := ∀ e ∈ p, lookP P e.1 = some e.2
theorem has_self {p : PR} (nd : NdP p) : Has p p := fun e m => by
  rcases lookP_cfs e.1 nd with ⟨_, h2, _⟩ | ⟨h1, h2⟩
  · exact absurd (List.mem_map.mpr ⟨e, m, rfl⟩) h2
  · rw [h1, cfs_mem nd (v := e.2) m]
theorem Has.tail {P p : PR} {e : List Int × Int} (h : Has P (e :: p)) : Has P p := fun x m => h x (List.mem_cons_of_mem _ m)
theorem Has.head {P p : PR} {k : List Int} {v : Int} (h : Has P ((k, v) :: p)) : lookP P k = some v := h (k, v) (List.mem_cons_self ..)
theorem kept_loop (P : PR) (s : DS) : ∀ (p : PR), Has P p → lcLoop (gNm 1) (dTest (d2 gNeU (d2 gIx (dRd 0) (dRd 1)) (dC (.int 0)))) (dTup (aCons (dVar 1) (aCons (d2 gIx (dRd 0) (dRd 1)) (aNil)))) [vS (toD P), none] (kysD p) s = some (itsP (keepP p), s)
  | [], _ => rfl
  | (k, v) :: p, h => by
    have ih := kept_loop P s p h.tail
    have e0 : d2 gIx (dRd 0) (dRd 1) [vS (toD P), vS (rowD k)] s = some (.int v, s) := d2_eq (a := toD P) (b := rowD k) rfl rfl (ixP h.head)
    have e1 : dTest (d2 gNeU (d2 gIx (dRd 0) (dRd 1)) (dC (.int 0))) [vS (toD P), vS (rowD k)] s = some (!decide (v = 0), s) := dTest_of (d2_eq (b := .int 0) e0 rfl rfl)
    unfold keepP
    by_cases hv : v = 0
    · rw [decide_eq_true hv] at e1 ⊢
      exact (lc_f (env' := [vS (toD P), vS (rowD k)]) rfl e1).trans ih
    · rw [decide_eq_false hv] at e1 ⊢
      refine lc_t (env' := [vS (toD P), vS (rowD k)]) rfl e1 (y := .tuple [rowD k, .int v]) (s1 := s) ?_ ih
      unfold dTup
      have e2 : aCons (dVar 1) (aCons (d2 gIx (dRd 0) (dRd 1)) (aNil)) [vS (toD P), vS (rowD k)] s = some ([rowD k, .int v], s) := by
        unfold aCons
        show bnd (some (rowD k, s)) _ = _
        unfold bnd
        dsimp only
        rw [e0]
        rfl
      rw [e2]
      rfl
theorem pairs_its : ∀ (p : PR), pairsD? (itsP p) = some (dP p)
  | [] => rfl
  | (k, v) :: p => by
    show (match keyOf? (rowD k) with | some ks => (match pairsD? (itsP p) with | some l => some ((ks, D.int v) :: l) | none => none) | none => none) = _
    rw [keyOf_row, pairs_its p]
    rfl
theorem foldPutD_dP : ∀ (p acc : PR), NdP (acc ++ p) → foldPutD (dP p) (dP acc) = dP (acc ++ p)
  | [], acc, _ => by
    rw [List.append_nil]
    rfl
  | (k, v) :: p, acc, nd => by
    have nd2 : (kysP acc ++ k :: kysP p).Nodup := by
      have := nd
      unfold NdP at this
      rw [kysP_append] at this
      exact this
    have nk : k ∉ kysP acc := fun m => (List.nodup_append.mp nd2).2.2 k m k (List.mem_cons_self ..) rfl
    show foldPutD (dP p) (putT (dP acc) (keyI k) (.int v)) = _
    rw [putT_dP acc k v (List.nodup_append.mp nd2).1, putP_new acc k v nk, foldPutD_dP p _ (by rw [List.append_assoc]; exact nd), List.append_assoc]
    rfl
theorem gDictP_its {p : PR} (nd : NdP p) : gDictP [.list (itsP p)] = some (toD p) := by
  show (match pairsD? (itsP p) with | some l => some (D.dT (foldPutD l [])) | none => none) = _
  rw [pairs_its]
  show some (D.dT (foldPutD (dP p) (dP []))) = _
  rw [foldPutD_dP p [] nd]
  rfl
theorem tr_kept (p : PR) (nd : NdP p) (hl : p.length ≤ 100000) : f__law_kept [toD p] = some (toD (keepP p)) := by
  have e : dB gDictP (aCons (dLc (dItems (dVar 0)) [1] (gNm 1) (dTest (d2 gNeU (d2 gIx (dRd 0) (dRd 1)) (dC (.int 0)))) (dTup (aCons (dVar 1) (aCons (d2 gIx (dRd 0) (dRd 1)) (aNil))))) (aNil)) [vS (toD p), none] ds0 = some (toD (keepP p), ds0) :=
    dB_eq (as := [.list (itsP (keepP p))]) (aCons1 (dLc_eq (dItems_eq (a := toD p) rfl (keys_dP p)) (kept_loop p ds0 p (has_self nd)) (by rw [List.length_map]; have := keepP_len p; omega))) (gDictP_its (nd_keepP nd))
  exact fnP_eq (b := d__law_kept) (dSeq_rt (dRet_eq e))
/-! the law's cut -/
def lcutG (pre post : List Int) (low high c : Int) : Nat → Int → PR
  | 0, _ => []
  | n + 1, m => (pre ++ [high - 1 - m, low + m] ++ post, c) :: lcutG pre post low high c n (m + 1)
theorem lcutG_len (pre post : List Int) (low high c : Int) : ∀ (n : Nat) (m : Int), (lcutG pre post low high c n m).length = n
  | 0, _ => rfl
  | n + 1, m => congrArg Nat.succ (lcutG_len pre post low high c n (m + 1))
def mx (a b : Int) : Int := if b > a then b else a
def mn (a b : Int) : Int := if b < a then b else a
def lcutT (r : List Int) (c : Int) (i : Nat) : PR :=
  lcutG (r.take (i - 1)) (r.drop (i + 1)) (mn (r.getD (i - 1) 0) (r.getD i 0)) (mx (r.getD (i - 1) 0) (r.getD i 0)) ((if r.getD i 0 < r.getD (i - 1) 0 then 1 else -1) * c) (mx (r.getD (i - 1) 0) (r.getD i 0) - mn (r.getD (i - 1) 0) (r.getD i 0)).toNat 0
def lcutTs (i : Nat) : PR → PR
  | [] => []
  | (r, c) :: p => lcutT r c i ++ lcutTs i p
def lcutP (p : PR) (i : Nat) : PR := keepP (accP [] (lcutTs i p))
def E9 (P : PR) (i : Nat) (acc : PR) (a3 a4 a5 a6 a7 a8 : Option Sl) : En := [vS (toD P), vS (.int i), some (.own (toD acc)), a3, a4, a5, a6, a7, a8]
def lcutLate : Den := d2 gAdd (d2 gAdd (dSl (dRd 3) none (some (d2 gSub (dRd 1) (dC (.int 1))))) (dTup (aCons (d2 gSub (d2 gSub (dRd 4) (dC (.int 1))) (dRd 7)) (aCons (d2 gAdd (dRd 5) (dRd 7)) (aNil))))) (dSl (dRd 3) (some (d2 gAdd (dRd 1) (dC (.int 1)))) none)
def lcutBody : DenS := dSeq (dSet 8 false lcutLate) (dSeq (dPut 2 (d2 gAdd (dGet2 (dRd 2) (dRd 8) (dC (.int 0))) (d2 gMul (dRd 6) (d2 gIx (dRd 0) (dRd 3)))) (dRd 8)) (dNx))
theorem lcutLate_eq (P : PR) (i : Nat) (acc : PR) (r : List Int) (a6 a8 : Option Sl) (low high m : Int) (h1 : 1 ≤ i) (h2 : i < r.length) (h3 : r.length < 1000) (ds : DS) :
    lcutLate (E9 P i acc (vS (rowD r)) (vS (.int high)) (vS (.int low)) a6 (vS (.int m)) a8) ds = some (rowD (r.take (i - 1) ++ [high - 1 - m, low + m] ++ r.drop (i + 1)), ds) := by
  have e1 : dSl (dRd 3) none (some (d2 gSub (dRd 1) (dC (.int 1)))) (E9 P i acc (vS (rowD r)) (vS (.int high)) (vS (.int low)) a6 (vS (.int m)) a8) ds = some (.tuple (cutD (r.map D.int) none (some ((i : Int) - 1))), ds) := rfl
  have e2 : dTup (aCons (d2 gSub (d2 gSub (dRd 4) (dC (.int 1))) (dRd 7)) (aCons (d2 gAdd (dRd 5) (dRd 7)) (aNil))) (E9 P i acc (vS (rowD r)) (vS (.int high)) (vS (.int low)) a6 (vS (.int m)) a8) ds = some (.tuple [.int (high - 1 - m), .int (low + m)], ds) := rfl
  have e3 : dSl (dRd 3) (some (d2 gAdd (dRd 1) (dC (.int 1)))) none (E9 P i acc (vS (rowD r)) (vS (.int high)) (vS (.int low)) a6 (vS (.int m)) a8) ds = some (.tuple (cutD (r.map D.int) (some ((i : Int) + 1)) none), ds) := rfl
  rw [cutD_pre r i h1 h2] at e1
  rw [cutD_post r i h2] at e3
  have e4 := d2_eq (g := gAdd) e1 e2 (c := .tuple ((r.take (i - 1)).map D.int ++ [.int (high - 1 - m), .int (low + m)])) (gAddT (by simp; omega))
  have e5 := d2_eq (g := gAdd) e4 e3 (c := .tuple (((r.take (i - 1)).map D.int ++ [.int (high - 1 - m), .int (low + m)]) ++ (r.drop (i + 1)).map D.int)) (gAddT (by simp; omega))
  unfold lcutLate
  rw [e5]
  simp [rowD]
theorem lcut_in (P : PR) (i : Nat) (r : List Int) (num sg low high : Int) (hP : lookP P r = some num) (h1 : 1 ≤ i) (h2 : i < r.length) (h3 : r.length < 1000) (hs : -(2 ^ 64) < sg ∧ sg < 2 ^ 64) (ds : DS) :
    ∀ (n : Nat) (m : Int) (acc : PR) (a7 a8 : Option Sl), NdP acc → acc.length + n < 100000 →
      ∃ b7 b8, forLoop (gNm 7) lcutBody (rgD m n) (E9 P i acc (vS (rowD r)) (vS (.int high)) (vS (.int low)) (vS (.int sg)) a7 a8) ds =
        some (.nx (E9 P i (accP acc (lcutG (r.take (i - 1)) (r.drop (i + 1)) low high (sg * num) n m)) (vS (rowD r)) (vS (.int high)) (vS (.int low)) (vS (.int sg)) b7 b8), ds)
  | 0, m, acc, a7, a8, _, _ => ⟨a7, a8, rfl⟩
  | n + 1, m, acc, a7, a8, nd, hl => by
    let k := r.take (i - 1) ++ [high - 1 - m, low + m] ++ r.drop (i + 1)
    obtain ⟨b7, b8, ih⟩ := lcut_in P i r num sg low high hP h1 h2 h3 hs ds n (m + 1) (addP acc k (sg * num)) (vS (.int m)) (vS (rowD k)) (nd_addP _ _ nd) (by have := addP_len acc k (sg * num); omega)
    refine ⟨b7, b8, ?_⟩
    have e1 : dSet 8 false lcutLate (E9 P i acc (vS (rowD r)) (vS (.int high)) (vS (.int low)) (vS (.int sg)) (vS (.int m)) a8) ds = some (.nx (E9 P i acc (vS (rowD r)) (vS (.int high)) (vS (.int low)) (vS (.int sg)) (vS (.int m)) (vS (rowD k))), ds) :=
      dSet_eq (lcutLate_eq P i acc r (vS (.int sg)) a8 low high m h1 h2 h3 ds)
    have e0 : d2 gIx (dRd 0) (dRd 3) (E9 P i acc (vS (rowD r)) (vS (.int high)) (vS (.int low)) (vS (.int sg)) (vS (.int m)) (vS (rowD k))) ds = some (.int num, ds) := d2_eq (a := toD P) (b := rowD r) rfl rfl (ixP hP)
    have e2 := putAdd (i := 2) (kd := dRd 8) (cd := d2 gMul (dRd 6) (d2 gIx (dRd 0) (dRd 3))) (env := E9 P i acc (vS (rowD r)) (vS (.int high)) (vS (.int low)) (vS (.int sg)) (vS (.int m)) (vS (rowD k))) (ds := ds) (p := acc) (k := k) (c := sg * num) rfl rfl (d2_eq (a := .int sg) (b := .int num) rfl e0 (gMulL hs)) nd (by omega)
    have e3 : lcutBody (E9 P i acc (vS (rowD r)) (vS (.int high)) (vS (.int low)) (vS (.int sg)) (vS (.int m)) a8) ds = some (.nx (E9 P i (addP acc k (sg * num)) (vS (rowD r)) (vS (.int high)) (vS (.int low)) (vS (.int sg)) (vS (.int m)) (vS (rowD k))), ds) :=
      (dSeq_eq e1).trans ((dSeq_eq e2).trans rfl)
    rw [rgD, forLoop_cons (env' := E9 P i acc (vS (rowD r)) (vS (.int high)) (vS (.int low)) (vS (.int sg)) (vS (.int m)) a8) rfl e3]
    exact ih
def lcutRow : DenS := dSeq (dPar 4 5 false false (dB gMax2 (aCons (d2 gIx (dRd 3) (d2 gSub (dRd 1) (dC (.int 1)))) (aCons (d2 gIx (dRd 3) (dRd 1)) (aNil)))) (dB gMin2 (aCons (d2 gIx (dRd 3) (d2 gSub (dRd 1) (dC (.int 1)))) (aCons (d2 gIx (dRd 3) (dRd 1)) (aNil))))) (dSeq (dSet 6 false (dIf (dTest (d2 gGt (d2 gIx (dRd 3) (d2 gSub (dRd 1) (dC (.int 1)))) (d2 gIx (dRd 3) (dRd 1)))) (dC (.int 1)) (d1 gNeg (dC (.int 1))))) (dSeq (dFor (dRg1 (d2 gSub (dRd 4) (dRd 5))) (gNm 7) lcutBody) (dNx)))
theorem lcut_row (P : PR) (i : Nat) (r : List Int) (num : Int) (hP : lookP P r = some num) (h1 : 1 ≤ i) (h2 : i < r.length) (h3 : r.length < 1000) (acc : PR) (a4 a5 a6 a7 a8 : Option Sl) (nd : NdP acc) (hl : acc.length + (lcutT r num i).length < 100000) (ds : DS) :
    ∃ b4 b5 b6 b7 b8, lcutRow (E9 P i acc (vS (rowD r)) a4 a5 a6 a7 a8) ds = some (.nx (E9 P i (accP acc (lcutT r num i)) (vS (rowD r)) b4 b5 b6 b7 b8), ds) := by
  have e1 : ∀ (a4 a5 a6 a7 a8 : Option Sl), d2 gIx (dRd 3) (d2 gSub (dRd 1) (dC (.int 1))) (E9 P i acc (vS (rowD r)) a4 a5 a6 a7 a8) ds = some (.int (r.getD (i - 1) 0), ds) := fun a4 a5 a6 a7 a8 => by
    refine d2_eq (a := rowD r) (b := .int ((i : Int) - 1)) rfl rfl ?_
    have : ((i : Int) - 1) = ((i - 1 : Nat) : Int) := by omega
    rw [this]
    exact ixRow r (i - 1) (by omega)
  have e2 : ∀ (a4 a5 a6 a7 a8 : Option Sl), d2 gIx (dRd 3) (dRd 1) (E9 P i acc (vS (rowD r)) a4 a5 a6 a7 a8) ds = some (.int (r.getD i 0), ds) := fun a4 a5 a6 a7 a8 => d2_eq (a := rowD r) (b := .int i) rfl rfl (ixRow r i h2)
  have e3 : dB gMax2 (aCons (d2 gIx (dRd 3) (d2 gSub (dRd 1) (dC (.int 1)))) (aCons (d2 gIx (dRd 3) (dRd 1)) (aNil))) (E9 P i acc (vS (rowD r)) a4 a5 a6 a7 a8) ds = some (.int (mx (r.getD (i - 1) 0) (r.getD i 0)), ds) := dB_eq (aCons_eq (e1 ..) (aCons1 (e2 ..))) rfl
  have e4 : dB gMin2 (aCons (d2 gIx (dRd 3) (d2 gSub (dRd 1) (dC (.int 1)))) (aCons (d2 gIx (dRd 3) (dRd 1)) (aNil))) (E9 P i acc (vS (rowD r)) a4 a5 a6 a7 a8) ds = some (.int (mn (r.getD (i - 1) 0) (r.getD i 0)), ds) := dB_eq (aCons_eq (e1 ..) (aCons1 (e2 ..))) rfl
  have e5 : dPar 4 5 false false (dB gMax2 (aCons (d2 gIx (dRd 3) (d2 gSub (dRd 1) (dC (.int 1)))) (aCons (d2 gIx (dRd 3) (dRd 1)) (aNil)))) (dB gMin2 (aCons (d2 gIx (dRd 3) (d2 gSub (dRd 1) (dC (.int 1)))) (aCons (d2 gIx (dRd 3) (dRd 1)) (aNil)))) (E9 P i acc (vS (rowD r)) a4 a5 a6 a7 a8) ds = some (.nx (E9 P i acc (vS (rowD r)) (vS (.int (mx (r.getD (i - 1) 0) (r.getD i 0)))) (vS (.int (mn (r.getD (i - 1) 0) (r.getD i 0)))) a6 a7 a8), ds) := dPar_eq (i := 4) (j := 5) e3 e4
  let b4 := vS (.int (mx (r.getD (i - 1) 0) (r.getD i 0)))
  let b5 := vS (.int (mn (r.getD (i - 1) 0) (r.getD i 0)))
  have e6 : dTest (d2 gGt (d2 gIx (dRd 3) (d2 gSub (dRd 1) (dC (.int 1)))) (d2 gIx (dRd 3) (dRd 1))) (E9 P i acc (vS (rowD r)) b4 b5 a6 a7 a8) ds = some (decide (r.getD i 0 < r.getD (i - 1) 0), ds) := dTest_of (d2_eq (e1 ..) (e2 ..) rfl)
  have e7 : dSet 6 false (dIf (dTest (d2 gGt (d2 gIx (dRd 3) (d2 gSub (dRd 1) (dC (.int 1)))) (d2 gIx (dRd 3) (dRd 1)))) (dC (.int 1)) (d1 gNeg (dC (.int 1)))) (E9 P i acc (vS (rowD r)) b4 b5 a6 a7 a8) ds = some (.nx (E9 P i acc (vS (rowD r)) b4 b5 (vS (.int (if r.getD i 0 < r.getD (i - 1) 0 then 1 else -1))) a7 a8), ds) := by
    refine dSet_eq (i := 6) (k := false) (env := E9 P i acc (vS (rowD r)) b4 b5 a6 a7 a8) (a := .int (if r.getD i 0 < r.getD (i - 1) 0 then 1 else -1)) ?_
    by_cases hc : r.getD i 0 < r.getD (i - 1) 0
    · rw [decide_eq_true hc] at e6
      rw [dIf_t e6, if_pos hc]
      rfl
    · rw [decide_eq_false hc] at e6
      rw [dIf_f e6, if_neg hc]
      rfl
  unfold lcutT at hl ⊢
  rw [lcutG_len] at hl
  have hmm : mn (r.getD (i - 1) 0) (r.getD i 0) ≤ mx (r.getD (i - 1) 0) (r.getD i 0) := by
    unfold mn mx
    split <;> split <;> omega
  obtain ⟨b7, b8, e8⟩ := lcut_in P i r num (if r.getD i 0 < r.getD (i - 1) 0 then 1 else -1) (mn (r.getD (i - 1) 0) (r.getD i 0)) (mx (r.getD (i - 1) 0) (r.getD i 0)) hP h1 h2 h3 (by split <;> decide) ds _ 0 acc a7 a8 nd hl
  have e9 : dFor (dRg1 (d2 gSub (dRd 4) (dRd 5))) (gNm 7) lcutBody (E9 P i acc (vS (rowD r)) b4 b5 (vS (.int (if r.getD i 0 < r.getD (i - 1) 0 then 1 else -1))) a7 a8) ds = _ := (dFor_eq (dRg1_eq (n := mx (r.getD (i - 1) 0) (r.getD i 0) - mn (r.getD (i - 1) 0) (r.getD i 0)) rfl (by omega))).trans e8
  exact ⟨_, _, _, b7, b8, (dSeq_eq e5).trans ((dSeq_eq e7).trans ((dSeq_eq e9).trans rfl))⟩
theorem lcut_out (P : PR) (i : Nat) (h1 : 1 ≤ i) (ds : DS) : ∀ (p acc : PR) (a3 a4 a5 a6 a7 a8 : Option Sl), Has P p → RowsOk i p → NdP acc → acc.length + (lcutTs i p).length < 100000 →
    ∃ b3 b4 b5 b6 b7 b8, forLoop (gNm 3) lcutRow (kysD p) (E9 P i acc a3 a4 a5 a6 a7 a8) ds = some (.nx (E9 P i (accP acc (lcutTs i p)) b3 b4 b5 b6 b7 b8), ds)
  | [], acc, a3, a4, a5, a6, a7, a8, _, _, _, _ => ⟨a3, a4, a5, a6, a7, a8, rfl⟩
  | (r, c) :: p, acc, a3, a4, a5, a6, a7, a8, hP, ok, nd, hl => by
    obtain ⟨h2, h3⟩ := ok (r, c) (List.mem_cons_self ..)
    rw [lcutTs, List.length_append] at hl
    obtain ⟨b4, b5, b6, b7, b8, e⟩ := lcut_row P i r c hP.head h1 h2 h3 acc a4 a5 a6 a7 a8 nd (by omega) ds
    obtain ⟨c3, c4, c5, c6, c7, c8, e2⟩ := lcut_out P i h1 ds p (accP acc (lcutT r c i)) (vS (rowD r)) b4 b5 b6 b7 b8 hP.tail (fun e m => ok e (List.mem_cons_of_mem _ m)) (nd_accP _ nd) (by have := accP_len (lcutT r c i) acc; omega)
    refine ⟨c3, c4, c5, c6, c7, c8, ?_⟩
    rw [lcutTs, accP_append]
    exact (forLoop_cons (d := rowD r) rfl e).trans e2
theorem tr_lcut (p : PR) (i : Nat) (nd : NdP p) (h1 : 1 ≤ i) (ok : RowsOk i p) (hl : (lcutTs i p).length < 100000) : f__law_cut [toD p, .int i] = some (toD (lcutP p i)) := by
  obtain ⟨b3, b4, b5, b6, b7, b8, e⟩ := lcut_out p i h1 ds0 p [] none none none none none none (has_self nd) ok List.nodup_nil (by simpa using hl)
  have e1 : dSet 2 true (dC (.dT [])) (envP 9 [toD p, .int i]) ds0 = some (.nx (E9 p i [] none none none none none none), ds0) := rfl
  have e2 : dFor (dItems (dVar 0)) (gNm 3) lcutRow (E9 p i [] none none none none none none) ds0 = _ := (dFor_eq (dItems_eq (a := toD p) rfl (keys_dP p))).trans e
  have hl2 : (accP [] (lcutTs i p)).length ≤ 100000 := by
    have := accP_len (lcutTs i p) []
    simp only [List.length_nil] at this
    omega
  have e3 : dFrz 2 (dRet (dCallP 1 f__law_kept (aCons (dVar 2) (aNil)))) (E9 p i (accP [] (lcutTs i p)) b3 b4 b5 b6 b7 b8) ds0 = some (.rt (toD (lcutP p i)), ds0) :=
    dRet_eq (env := [vS (toD p), vS (.int i), vS (toD (accP [] (lcutTs i p))), b3, b4, b5, b6, b7, b8]) (dCallP_eq (as := [toD (accP [] (lcutTs i p))]) rfl rfl (tr_kept _ (nd_accP _ List.nodup_nil) hl2))
  exact fnP_eq (b := d__law_cut) ((dSeq_eq e1).trans ((dSeq_eq e2).trans (dSeq_rt e3)))
end L2.Dn
set_option Elab.async false
set_option linter.all false
set_option maxRecDepth 100000
/-! the sum of a sequence -/
namespace L2.Dn
open PySem PySem.Spec PyProof.Rows C8
theorem mem_putP : ∀ (p : PR) (k : List Int) (c : Int) (k2 : List Int), k2 ∈ kysP (putP p k c) ↔ k2 ∈ kysP p ∨ k2 = k
  | [], k, c, k2 => by simp [putP, kysP]
  | (k', v) :: r, k, c, k2 => by
    unfold putP
    rw [beqL_eq]
    by_cases h : k' = k
    · rw [decide_eq_true h]
      subst h
      simp only [kysP, List.map_cons, List.mem_cons]
      constructor
      · intro q; exact .inl q
      · rintro (q | q)
        · exact q
        · exact .inl q
    · rw [decide_eq_false h]
      have ih := mem_putP r k c k2
      simp only [kysP, List.map_cons, List.mem_cons] at ih ⊢
      rw [ih]
      constructor
      · rintro (q | q | q)
        · exact .inl (.inl q)
        · exact .inl (.inr q)
        · exact .inr q
      · rintro ((q | q) | q)
        · exact .inl q
        · exact .inr (.inl q)
        · exact .inr (.inr q)
theorem nd_putP : ∀ {p : PR} (k : List Int) (c : Int), NdP p → NdP (putP p k c)
  | [], k, c, _ => by simp [putP, kysP, NdP]
  | (k', v) :: r, k, c, h => by
    unfold putP
    rw [beqL_eq]
    have h' := List.nodup_cons.mp h
    by_cases e : k' = k
    · rw [decide_eq_true e]; exact h
    · rw [decide_eq_false e]
      refine List.nodup_cons.mpr ⟨fun m => ?_, nd_putP k c h'.2⟩
      rcases (mem_putP r k c k').mp m with q | q
      · exact h'.1 q
      · exact e q
theorem putP_len : ∀ (p : PR) (k : List Int) (c : Int), (putP p k c).length ≤ p.length + 1
  | [], k, c => by simp [putP]
  | (k', v) :: r, k, c => by
    unfold putP
    have := putP_len r k c
    split <;> simp <;> omega
def putsP (acc : PR) : PR → PR
  | [] => acc
  | (k, v) :: r => putsP (putP acc k v) r
def take5 : PR → PR
  | [] => []
  | (k, v) :: r => (k.take 5, v) :: take5 r
theorem take5_len : ∀ (p : PR), (take5 p).length = p.length
  | [] => rfl
  | (k, v) :: r => congrArg Nat.succ (take5_len r)
theorem nd_putsP : ∀ (q : PR) {acc : PR}, NdP acc → NdP (putsP acc q)
  | [], _, h => h
  | (k, v) :: q, _, h => nd_putsP q (nd_putP k v h)
theorem foldPutD_puts : ∀ (q acc : PR), NdP acc → foldPutD (dP q) (dP acc) = dP (putsP acc q)
  | [], acc, _ => rfl
  | (k, v) :: q, acc, nd => by
    show foldPutD (dP q) (putT (dP acc) (keyI k) (.int v)) = _
    rw [putT_dP acc k v nd, foldPutD_puts q _ (nd_putP k v nd)]
    rfl
theorem gDictP_puts (p : PR) : gDictP [.list (itsP p)] = some (toD (putsP [] p)) := by
  show (match pairsD? (itsP p) with | some l => some (D.dT (foldPutD l [])) | none => none) = _
  rw [pairs_its]
  show some (D.dT (foldPutD (dP p) (dP []))) = _
  rw [foldPutD_puts p [] List.nodup_nil]
theorem cutD_take (r : List Int) (n : Nat) : cutD (r.map D.int) none (some (n : Int)) = (r.take n).map D.int := by
  unfold cutD
  rw [HT.sIx_nat, HT.sIx_none, List.drop_zero, List.length_map, Nat.sub_zero, List.map_take]
  by_cases h : n ≤ r.length
  · congr 1
    omega
  · rw [List.take_of_length_le (by simp; omega), List.take_of_length_le (by simp; omega)]
theorem proj_loop (a0 a1 a2 a3 a4 a5 : Option Sl) (s : DS) : ∀ (p acc : PR), NdP acc → acc.length + p.length < 100000 →
    dcLoop (gPair 6 7) tYesD (dSl (dRd 6) none (some (dC (.int 5)))) (dVar 7) [a0, a1, a2, a3, a4, a5, none, none] (itsP p) s (dP acc) = some (dP (putsP acc (take5 p)), s)
  | [], acc, _, _ => rfl
  | (k, v) :: p, acc, nd, hl => by
    simp only [List.length_cons] at hl
    have e1 : dSl (dRd 6) none (some (dC (.int 5))) [a0, a1, a2, a3, a4, a5, vS (rowD k), vS (.int v)] s = some (.tuple (cutD (k.map D.int) none (some (5 : Nat))), s) := rfl
    rw [cutD_take] at e1
    show dcLoop _ _ _ _ _ (.tuple [rowD k, .int v] :: itsP p) s (dP acc) = _
    rw [dcLoop_t (env' := [a0, a1, a2, a3, a4, a5, vS (rowD k), vS (.int v)]) (s1 := s) rfl rfl e1 (v := .int v) (s3 := s) rfl (keyOf_row _) (by unfold dP; rw [List.length_map]; omega), putT_dP acc _ v nd]
    exact proj_loop a0 a1 a2 a3 a4 a5 s p _ (nd_putP _ _ nd) (by have := putP_len acc (k.take 5) v; omega)
/-! checked cuts -/
def rowsOk (i : Nat) : PR → Bool
  | [] => true
  | (r, _) :: p => (match decide (i < r.length) with
    | true => (match decide (r.length < 1000) with
      | true => rowsOk i p
      | false => false)
    | false => false)
theorem rowsOk_ok {i : Nat} : ∀ {p : PR}, rowsOk i p = true → RowsOk i p
  | [], _, e, m => nomatch m
  | (r, c) :: p, h, e, m => by
    unfold rowsOk at h
    split at h
    · rename_i h1
      split at h
      · rename_i h2
        rcases List.mem_cons.mp m with q | q
        · subst q
          exact ⟨of_decide_eq_true h1, of_decide_eq_true h2⟩
        · exact rowsOk_ok h e q
      · cases h
    · cases h
def cutC (p : PR) (i : Nat) : Option PR := match decide (1 ≤ i) && rowsOk i p && decide ((cutTs i p).length < 100000) with
  | true => some (cutP p i)
  | false => none
theorem cutC_ok {p q : PR} {i : Nat} (h : cutC p i = some q) : q = cutP p i ∧ f_cut_by [toD p, .int i] = some (toD q) := by
  unfold cutC at h
  split at h
  · rename_i e
    cases h
    simp only [Bool.and_eq_true, decide_eq_true_eq] at e
    exact ⟨rfl, tr_cut p i e.1.1 (rowsOk_ok e.1.2) e.2⟩
  · cases h
def cutsC (p : PR) : List Nat → Option PR
  | [] => some p
  | i :: l => (match cutC p i with
    | some q => cutsC q l
    | none => none)
theorem nd_cutP (p : PR) (i : Nat) : NdP (cutP p i) := nd_keepP (nd_accP _ List.nodup_nil)
theorem nd_cutsC : ∀ {l : List Nat} {p q : PR}, NdP p → cutsC p l = some q → NdP q
  | [], p, q, nd, h => by cases h; exact nd
  | i :: l, p, q, nd, h => by
    unfold cutsC at h
    split at h
    · rename_i p' e
      obtain ⟨rfl, _⟩ := cutC_ok e
      exact nd_cutsC (nd_cutP p i) h
    · cases h
theorem nd_lcutP (p : PR) (i : Nat) : NdP (lcutP p i) := nd_keepP (nd_accP _ List.nodup_nil)
def lcutC (p : PR) (i : Nat) : Option PR := match decide (1 ≤ i) && rowsOk i p && decide ((lcutTs i p).length < 100000) with
  | true => some (lcutP p i)
  | false => none
theorem lcutC_ok {p q : PR} {i : Nat} (nd : NdP p) (h : lcutC p i = some q) : q = lcutP p i ∧ f__law_cut [toD p, .int i] = some (toD q) := by
  unfold lcutC at h
  split at h
  · rename_i e
    cases h
    simp only [Bool.and_eq_true, decide_eq_true_eq] at e
    exact ⟨rfl, tr_lcut p i nd e.1.1 (rowsOk_ok e.1.2) e.2⟩
  · cases h
def lcutsC (p : PR) : List Nat → Option PR
  | [] => some p
  | i :: l => (match lcutC p i with
    | some q => lcutsC q l
    | none => none)
theorem nd_lcutsC : ∀ {l : List Nat} {p q : PR}, NdP p → lcutsC p l = some q → NdP q
  | [], p, q, nd, h => by cases h; exact nd
  | i :: l, p, q, nd, h => by
    unfold lcutsC at h
    split at h
    · rename_i p' e
      obtain ⟨rfl, _⟩ := lcutC_ok nd e
      exact nd_lcutsC (nd_lcutP p i) h
    · cases h
/-! sum_by: its road, then the cuts -/
def sumA : DenS := dPar3 1 2 3 false false true (dB gLen (aCons (dRd 0) (aNil))) (dVar 0) (dLst (aNil))
def sumW : DenS := whLoop (dTest (d2 gNeU (dRd 2) (dTupI (dRg3 (dRd 1) (dC (.int 0)))))) (dSeq (dSet 4 false (d2 gIx (dLc (dRg2 (dC (.int 1)) (dRd 1)) [4] (gNm 4) (dTest (d2 gLt (d2 gIx (dRd 2) (d2 gSub (dRd 4) (dC (.int 1)))) (d2 gIx (dRd 2) (dRd 4)))) (dVar 4)) (dC (.int 0)))) (dSeq (dSet 2 false (dCallP 2 f_swapped (aCons (dVar 2) (aCons (dVar 4) (aNil))))) (dSeq (dApp 3 (dVar 4)) (dNx)))) 1000
def sumI : DenS := dSet 5 false (dDisp1 (dB gTupS (aCons (dLc (dRg2 (dC (.int 1)) (d2 gAdd (dC (.int 5)) (dC (.int 2)))) [4] (gNm 4) (tYesD) (dB gMax2 (aCons (d2 gSub (dRd 1) (dRd 4)) (aCons (dC (.int 0)) (aNil))))) (aNil))) (dC (.int 1)))
def sumB : DenS := dSeq (dSet 5 false (dCallP 2 f_cut_by (aCons (dVar 5) (aCons (dVar 4) (aNil))))) (dNx)
def sumF : DenS := dFor (dItems (d1 gRevL (dRd 3))) (gNm 4) sumB
def sumE : DenS := dRet (dDc (dIt itemsD (dVar 5)) [6, 7] (gPair 6 7) (tYesD) (dSl (dRd 6) none (some (dC (.int 5)))) (dVar 7))
theorem sum_den : d_sum_by = dSeq sumA (dSeq sumW (dSeq sumI (dSeq sumF (dSeq sumE dNx)))) := rfl
def nats? : List D → Option (List Nat)
  | [] => some []
  | .int i :: r => (match decide (0 ≤ i) with
    | true => (match nats? r with
      | some l => some (i.toNat :: l)
      | none => none)
    | false => none)
  | _ => none
abbrev natD (l : List Nat) : List D := l.map fun (n : Nat) => D.int (n : Int)
theorem nats_eq : ∀ {xs : List D} {l : List Nat}, nats? xs = some l → xs = natD l
  | [], _, h => by cases h; rfl
  | .int i :: r, l, h => by
    unfold nats? at h
    split at h
    · rename_i h1
      split at h
      · rename_i l' e
        cases h
        rw [nats_eq e]
        show D.int i :: natD l' = D.int ((i.toNat : Nat) : Int) :: natD l'
        rw [Int.toNat_of_nonneg (of_decide_eq_true h1)]
      · cases h
    · cases h
  | .none :: _, _, h => by simp [nats?] at h
  | .bool _ :: _, _, h => by simp [nats?] at h
  | .str _ :: _, _, h => by simp [nats?] at h
  | .list _ :: _, _, h => by simp [nats?] at h
  | .tuple _ :: _, _, h => by simp [nats?] at h
  | .ptup _ :: _, _, h => by simp [nats?] at h
  | .dT _ :: _, _, h => by simp [nats?] at h
  | .dK _ :: _, _, h => by simp [nats?] at h
def prjR : Option (Out × DS) → Option (Int × List Nat)
  | some (.nx [_, some (.val (.int m)), _, some (.own (.list xs)), _, _, none, none], _) => (match nats? xs with
    | some l => some (m, l)
    | none => none)
  | _ => none
theorem prjR_eq {o : Option (Out × DS)} {m : Int} {l : List Nat} (h : prjR o = some (m, l)) : ∃ a0 a2 a4 a5 s, o = some (.nx [a0, vS (.int m), a2, some (.own (.list (natD l))), a4, a5, none, none], s) := by
  unfold prjR at h
  split at h
  · split at h
    · rename_i e
      cases h
      rw [nats_eq e]
      exact ⟨_, _, _, _, _, rfl⟩
    · cases h
  · cases h
def roadR (s : D) : Option (Int × List Nat) := prjR (dSeq sumA sumW (envP 8 [s]) ds0)
def rowI (m : Int) : List Int := [mx (m - 1) 0, mx (m - 2) 0, mx (m - 3) 0, mx (m - 4) 0, mx (m - 5) 0, mx (m - 6) 0]
theorem sumF_loop (a0 a1 a2 a3 : Option Sl) (s : DS) : ∀ (l : List Nat) (p q : PR) (a4 : Option Sl), cutsC p l = some q → ∃ b4, forLoop (gNm 4) sumB (natD l) [a0, a1, a2, a3, a4, vS (toD p), none, none] s = some (.nx [a0, a1, a2, a3, b4, vS (toD q), none, none], s)
  | [], p, q, a4, h => by
    cases h
    exact ⟨a4, rfl⟩
  | i :: l, p, q, a4, h => by
    unfold cutsC at h
    split at h
    · rename_i p' e
      obtain ⟨_, e1⟩ := cutC_ok e
      obtain ⟨b4, e2⟩ := sumF_loop a0 a1 a2 a3 s l p' q (vS (.int i)) h
      refine ⟨b4, ?_⟩
      have e3 : dSet 5 false (dCallP 2 f_cut_by (aCons (dVar 5) (aCons (dVar 4) (aNil)))) [a0, a1, a2, a3, vS (.int i), vS (toD p), none, none] s = some (.nx [a0, a1, a2, a3, vS (.int i), vS (toD p'), none, none], s) :=
        dSet_eq (i := 5) (k := false) (env := [a0, a1, a2, a3, vS (.int i), vS (toD p), none, none]) (dCallP_eq (as := [toD p, .int i]) rfl rfl e1)
      exact (forLoop_cons (d := .int i) (env' := [a0, a1, a2, a3, vS (.int i), vS (toD p), none, none]) rfl ((dSeq_eq e3).trans rfl)).trans e2
    · cases h
def sumC (m : Int) (road : List Nat) : Option PR := match cutsC [(rowI m, 1)] road.reverse with
  | some q => (match decide (q.length < 100000) with
    | true => some (putsP [] (take5 q))
    | false => none)
  | none => none
theorem dSeq_assoc {f g h : DenS} {env e : En} {ds s : DS} (h1 : dSeq f g env ds = some (.nx e, s)) : dSeq f (dSeq g h) env ds = h e s := by
  unfold dSeq at h1 ⊢
  cases hf : f env ds with
  | none => rw [hf] at h1; cases h1
  | some p =>
    obtain ⟨o, s1⟩ := p
    rw [hf] at h1
    cases o with
    | nx e1 =>
      dsimp only at h1 ⊢
      rw [h1]
    | _ => cases h1
theorem tr_sum {s : D} {m : Int} {road : List Nat} {q : PR} (h1 : roadR s = some (m, road)) (h2 : sumC m road = some q) : f_sum_by [s] = some (toD q) := by
  obtain ⟨a0, a2, a4, a5, s1, e1⟩ := prjR_eq h1
  unfold sumC at h2
  split at h2
  · rename_i r er
    split at h2
    · rename_i hl
      cases h2
      have hl := of_decide_eq_true hl
      let env1 : En := [a0, vS (.int m), a2, some (.own (.list (natD road))), a4, a5, none, none]
      have e2 : sumI env1 s1 = some (.nx [a0, vS (.int m), a2, some (.own (.list (natD road))), a4, vS (toD [(rowI m, 1)]), none, none], s1) := rfl
      obtain ⟨b4, e3⟩ := sumF_loop a0 (vS (.int m)) a2 (some (.own (.list (natD road)))) s1 road.reverse [(rowI m, 1)] r a4 er
      have e4 : sumF [a0, vS (.int m), a2, some (.own (.list (natD road))), a4, vS (toD [(rowI m, 1)]), none, none] s1 = some (.nx [a0, vS (.int m), a2, some (.own (.list (natD road))), b4, vS (toD r), none, none], s1) := by
        refine (dFor_eq (s := s1) (items := (natD road).reverse) (dItems_eq (a := .list (natD road).reverse) rfl rfl)).trans ?_
        unfold natD
        rw [← List.map_reverse]
        exact e3
      have e5 : sumE [a0, vS (.int m), a2, some (.own (.list (natD road))), b4, vS (toD r), none, none] s1 = some (.rt (toD (putsP [] (take5 r))), s1) :=
        dRet_eq (dDc_eq (dIt_eq (a := toD r) rfl (items_dP r)) (proj_loop a0 (vS (.int m)) a2 (some (.own (.list (natD road)))) b4 (vS (toD r)) s1 r [] List.nodup_nil (by simpa using hl)))
      refine fnP_eq (b := d_sum_by) (s := s1) ?_
      show d_sum_by (envP 8 [s]) ds0 = _
      rw [sum_den, dSeq_assoc e1, dSeq_eq e2, dSeq_eq e4]
      exact dSeq_rt e5
    · cases h2
  · cases h2
end L2.Dn
set_option Elab.async false
set_option linter.all false
set_option maxRecDepth 100000
/-! tests and equality of polynomials, the last row, tellings -/
namespace L2.Dn
open PySem PySem.Spec PyProof.Rows C8
def rowL (m : Int) : List Int := [mx 0 (m - 1), mx 0 (m - 2), mx 0 (m - 3), mx 0 (m - 4), mx 0 (m - 5), mx 0 (m - 6)]
/-! the law's sum -/
def lsA : DenS := dAsg (dTup (aCons (dVar 0) (aCons (dLst (aNil)) (aNil)))) (gTp (gsCons (gNm 1) (gsCons (gNm 2) (gsNil))))
def lsW : DenS := whLoop (dTest (d2 gNeU (dLc (dRg2 (dC (.int 1)) (dB gLen (aCons (dRd 1) (aNil)))) [3] (gNm 3) (dTest (d2 gLt (d2 gIx (dRd 1) (d2 gSub (dRd 3) (dC (.int 1)))) (d2 gIx (dRd 1) (dRd 3)))) (dVar 3)) (dLst (aNil)))) (dSeq (dSet 3 false (d2 gIx (dLc (dRg2 (dC (.int 1)) (dB gLen (aCons (dRd 1) (aNil)))) [3] (gNm 3) (dTest (d2 gLt (d2 gIx (dRd 1) (d2 gSub (dRd 3) (dC (.int 1)))) (d2 gIx (dRd 1) (dRd 3)))) (dVar 3)) (dC (.int 0)))) (dSeq (dAsg (dTup (aCons (dCallP 2 f__law_swapped (aCons (dVar 1) (aCons (dVar 3) (aNil)))) (aCons (d2 gCat (dLst (aCons (dVar 3) (aNil))) (dRd 2)) (aNil)))) (gTp (gsCons (gNm 1) (gsCons (gNm 2) (gsNil))))) (dNx))) 1000
def lsI : DenS := dSet 4 false (dDisp1 (dB gTupS (aCons (dLc (dRg2 (dC (.int 1)) (dC (.int 7))) [3] (gNm 3) (tYesD) (dB gMax2 (aCons (dC (.int 0)) (aCons (d2 gSub (dB gLen (aCons (dRd 0) (aNil))) (dRd 3)) (aNil))))) (aNil))) (dC (.int 1)))
def lsB : DenS := dSeq (dSet 4 false (dCallP 2 f__law_cut (aCons (dVar 4) (aCons (dVar 3) (aNil))))) (dNx)
def lsF : DenS := dFor (dItems (dVar 2)) (gNm 3) lsB
def lsE : DenS := dRet (dB gDictP (aCons (dLc (dItems (dVar 4)) [5] (gNm 5) (tYesD) (dTup (aCons (dSl (dRd 5) none (some (dC (.int 5)))) (aCons (d2 gIx (dRd 4) (dRd 5)) (aNil))))) (aNil)))
theorem lsum_den : d__law_sum = dSeq lsA (dSeq lsW (dSeq lsI (dSeq lsF (dSeq lsE dNx)))) := rfl
def prjL : Option (Out × DS) → Option (Nat × List Nat)
  | some (.nx [some (.val d), _, some (.val (.list xs)), _, _, none], _) => (match tupD? d with
    | some ys => (match nats? xs with
      | some l => some (ys.length, l)
      | none => none)
    | none => none)
  | _ => none
theorem prjL_eq {o : Option (Out × DS)} {m : Nat} {l : List Nat} (h : prjL o = some (m, l)) : ∃ d ys a1 a3 a4 s, tupD? d = some ys ∧ ys.length = m ∧ o = some (.nx [vS d, a1, vS (.list (natD l)), a3, a4, none], s) := by
  unfold prjL at h
  split at h
  · split at h
    · rename_i hd
      split at h
      · rename_i e
        cases h
        rw [nats_eq e]
        exact ⟨_, _, _, _, _, _, hd, rfl, rfl⟩
      · cases h
    · cases h
  · cases h
def roadL (s : D) : Option (Nat × List Nat) := prjL (dSeq lsA lsW (envP 6 [s]) ds0)
theorem lsF_loop (a0 a1 a2 : Option Sl) (s : DS) : ∀ (l : List Nat) (p q : PR) (a3 : Option Sl), NdP p → lcutsC p l = some q → ∃ b3, forLoop (gNm 3) lsB (natD l) [a0, a1, a2, a3, vS (toD p), none] s = some (.nx [a0, a1, a2, b3, vS (toD q), none], s)
  | [], p, q, a3, _, h => by
    cases h
    exact ⟨a3, rfl⟩
  | i :: l, p, q, a3, nd, h => by
    unfold lcutsC at h
    split at h
    · rename_i p' e
      obtain ⟨e0, e1⟩ := lcutC_ok nd e
      obtain ⟨b3, e2⟩ := lsF_loop a0 a1 a2 s l p' q (vS (.int i)) (by rw [e0]; exact nd_lcutP p i) h
      refine ⟨b3, ?_⟩
      have e3 : dSet 4 false (dCallP 2 f__law_cut (aCons (dVar 4) (aCons (dVar 3) (aNil)))) [a0, a1, a2, vS (.int i), vS (toD p), none] s = some (.nx [a0, a1, a2, vS (.int i), vS (toD p'), none], s) :=
        dSet_eq (i := 4) (k := false) (env := [a0, a1, a2, vS (.int i), vS (toD p), none]) (dCallP_eq (as := [toD p, .int i]) rfl rfl e1)
      exact (forLoop_cons (d := .int i) (env' := [a0, a1, a2, vS (.int i), vS (toD p), none]) rfl ((dSeq_eq e3).trans rfl)).trans e2
    · cases h
theorem lproj_loop (a0 a1 a2 a3 : Option Sl) (P : PR) (s : DS) : ∀ (p : PR), Has P p → lcLoop (gNm 5) tYesD (dTup (aCons (dSl (dRd 5) none (some (dC (.int 5)))) (aCons (d2 gIx (dRd 4) (dRd 5)) (aNil)))) [a0, a1, a2, a3, vS (toD P), none] (kysD p) s = some (itsP (take5 p), s)
  | [], _ => rfl
  | (k, v) :: p, h => by
    have ih := lproj_loop a0 a1 a2 a3 P s p h.tail
    have e1 : dSl (dRd 5) none (some (dC (.int 5))) [a0, a1, a2, a3, vS (toD P), vS (rowD k)] s = some (.tuple (cutD (k.map D.int) none (some (5 : Nat))), s) := rfl
    rw [cutD_take] at e1
    have e2 : d2 gIx (dRd 4) (dRd 5) [a0, a1, a2, a3, vS (toD P), vS (rowD k)] s = some (.int v, s) := d2_eq (a := toD P) (b := rowD k) rfl rfl (ixP h.head)
    refine lc_t (env' := [a0, a1, a2, a3, vS (toD P), vS (rowD k)]) (s := s) rfl rfl (y := .tuple [rowD (k.take 5), .int v]) (s1 := s) ?_ ih
    unfold dTup
    rw [aCons_eq e1 (aCons1 e2)]
    rfl
def lsumC (m : Nat) (road : List Nat) : Option PR := match lcutsC [(rowL m, 1)] road with
  | some q => (match decide (q.length < 100000) with
    | true => some (putsP [] (take5 q))
    | false => none)
  | none => none
theorem tr_lsum {s : D} {m : Nat} {road : List Nat} {q : PR} (h1 : roadL s = some (m, road)) (h2 : lsumC m road = some q) : f__law_sum [s] = some (toD q) := by
  obtain ⟨d, ys, a1, a3, a4, s1, hd, el, e1⟩ := prjL_eq h1
  subst el
  unfold lsumC at h2
  split at h2
  · rename_i r er
    split at h2
    · rename_i hl
      cases h2
      have hl := of_decide_eq_true hl
      have e2 : lsI [vS d, a1, vS (.list (natD road)), a3, a4, none] s1 = some (.nx [vS d, a1, vS (.list (natD road)), a3, vS (toD [(rowL (ys.length : Nat), 1)]), none], s1) := by
        cases d with
        | tuple xs => cases hd; rfl
        | ptup xs => cases hd; rfl
        | _ => cases hd
      have nd0 : NdP [(rowL (ys.length : Nat), (1 : Int))] := List.nodup_cons.mpr ⟨by simp, List.nodup_nil⟩
      obtain ⟨b3, e3⟩ := lsF_loop (vS d) a1 (vS (.list (natD road))) s1 road [(rowL (ys.length : Nat), 1)] r a3 nd0 er
      have e4 : lsF [vS d, a1, vS (.list (natD road)), a3, vS (toD [(rowL (ys.length : Nat), 1)]), none] s1 = some (.nx [vS d, a1, vS (.list (natD road)), b3, vS (toD r), none], s1) :=
        (dFor_eq (s := s1) (items := natD road) (dItems_eq (a := .list (natD road)) rfl rfl)).trans e3
      have ndr := nd_lcutsC nd0 er
      have e5 : lsE [vS d, a1, vS (.list (natD road)), b3, vS (toD r), none] s1 = some (.rt (toD (putsP [] (take5 r))), s1) :=
        dRet_eq (dB_eq (as := [.list (itsP (take5 r))]) (aCons1 (dLc_eq (dItems_eq (a := toD r) rfl (keys_dP r)) (lproj_loop _ _ _ _ r s1 r (has_self ndr)) (by rw [List.length_map, take5_len]; omega))) (gDictP_puts _))
      refine fnP_eq (b := d__law_sum) (s := s1) ?_
      show d__law_sum (envP 6 [s]) ds0 = _
      rw [lsum_den, dSeq_assoc e1, dSeq_eq e2, dSeq_eq e4]
      exact dSeq_rt e5
    · cases h2
  · cases h2
/-! is_polynomial_of -/
def expOk (x : Int) : Bool := match decide (0 ≤ x) with
  | true => decide (x ≤ 60)
  | false => false
def allE : List Int → Bool
  | [] => true
  | x :: r => (match expOk x with
    | true => allE r
    | false => false)
theorem exps_loop (a0 : Option Sl) (s : DS) : ∀ (r : List Int), allE r = true → lcLoop (gNm 1) tYesD (dAnd (dCallP 1 f_is_number (aCons (dVar 1) (aNil))) (d3 gLe gLe (dC (.int 0)) (dRd 1) (dC (.int 60)))) [a0, none] (r.map D.int) s = some (r.map fun _ => .bool true, s)
  | [], _ => rfl
  | x :: r, h => by
    unfold allE at h
    split at h
    · rename_i hx
      have ih := exps_loop a0 s r h
      refine lc_t (env' := [a0, vS (.int x)]) (s := s) (s1 := s) (y := .bool true) rfl rfl ?_ ih
      unfold expOk at hx
      split at hx
      · rename_i h0
        have e1 : dCallP 1 f_is_number (aCons (dVar 1) (aNil)) [a0, vS (.int x)] s = some (.bool true, s) := rfl
        unfold dAnd
        rw [e1]
        show d3 gLe gLe (dC (.int 0)) (dRd 1) (dC (.int 60)) [a0, vS (.int x)] s = _
        show (match (some (D.bool (decide (0 ≤ x))) : Option D) with | some (.bool true) => bnd (dC (.int 60) [a0, vS (.int x)] s) fun c s2 => op1 (gLe (.int x) c) s2 | some (.bool false) => some (.bool false, s) | _ => none) = _
        rw [h0]
        show some (D.bool (decide (x ≤ 60)), s) = _
        rw [hx]
      · cases hx
    · cases h
theorem bools_true {α : Type} (r : List α) : bools? (r.map fun _ => D.bool true) = some (r.map fun _ => true) := by
  induction r with
  | nil => rfl
  | cons a r ih =>
    show (bools? (r.map fun _ => D.bool true)).map (true :: ·) = _
    rw [ih]
    rfl
theorem gAll_true {α : Type} (r : List α) : gAll [.list (r.map fun _ => D.bool true)] = some (.bool true) := by
  show (match bools? (r.map fun _ => D.bool true) with | some bs => some (D.bool (bs.all id)) | none => none) = _
  rw [bools_true]
  show some (D.bool _) = _
  congr 2
  rw [List.all_eq_true]
  intro x hx
  obtain ⟨_, _, rfl⟩ := List.mem_map.mp hx
  rfl
theorem dIfS_f' {t : DenT} {f g : DenS} {env : En} {ds s : DS} (h : t env ds = some (false, s)) : dIfS t f g env ds = g env s := dIfS_f h
theorem tr_exps (r : List Int) (h1 : r.length = 5) (h2 : allE r = true) : f_are_exponents [rowD r] = some (.bool true) := by
  have e0 : tOrD (tNotD (dTest (dIsi .tuple (dRd 0)))) (dTest (d2 gNeU (dB gLen (aCons (dRd 0) (aNil))) (dC (.int 5)))) [vS (rowD r), none] ds0 = some (false, ds0) := by
    have q : dTest (d2 gNeU (dB gLen (aCons (dRd 0) (aNil))) (dC (.int 5))) [vS (rowD r), none] ds0 = some (!decide (((r.map D.int).length : Int) = 5), ds0) := rfl
    rw [List.length_map, h1] at q
    show dTest (d2 gNeU (dB gLen (aCons (dRd 0) (aNil))) (dC (.int 5))) [vS (rowD r), none] ds0 = _
    rw [q]
    rfl
  have e1 : dRet (dB gAll (aCons (dLc (dItems (dVar 0)) [1] (gNm 1) (tYesD) (dAnd (dCallP 1 f_is_number (aCons (dVar 1) (aNil))) (d3 gLe gLe (dC (.int 0)) (dRd 1) (dC (.int 60))))) (aNil))) [vS (rowD r), none] ds0 = some (.rt (.bool true), ds0) :=
    dRet_eq (dB_eq (as := [.list (r.map fun _ => .bool true)]) (aCons1 (dLc_eq (dItems_eq (a := rowD r) rfl rfl) (exps_loop (vS (rowD r)) ds0 r h2) (by rw [List.length_map]; omega))) (gAll_true r))
  exact fnP_eq (b := d_are_exponents) ((dSeq_eq ((dIfS_f e0).trans rfl)).trans (dSeq_rt e1))
def polyOk : PR → Bool
  | [] => true
  | (r, v) :: p => (match decide (r.length = 5) with
    | true => (match allE r with
      | true => (match decide (v = 0) with
        | true => false
        | false => polyOk p)
      | false => false)
    | false => false)
theorem polyOk_cons {r : List Int} {v : Int} {p : PR} (h : polyOk ((r, v) :: p) = true) : r.length = 5 ∧ allE r = true ∧ v ≠ 0 ∧ polyOk p = true := by
  unfold polyOk at h
  split at h
  · rename_i h1
    split at h
    · rename_i h2
      split at h
      · cases h
      · rename_i h3
        exact ⟨of_decide_eq_true h1, h2, of_decide_eq_false h3, h⟩
    · cases h
  · cases h
theorem pol_loop1 (a0 a2 : Option Sl) (s : DS) : ∀ (p : PR), polyOk p = true → lcLoop (gNm 1) tYesD (dCallP 1 f_are_exponents (aCons (dVar 1) (aNil))) [a0, none, a2] (kysD p) s = some (p.map fun _ => .bool true, s)
  | [], _ => rfl
  | (r, v) :: p, h => by
    obtain ⟨h1, h2, _, h4⟩ := polyOk_cons h
    exact lc_t (env' := [a0, vS (rowD r), a2]) (s := s) (s1 := s) (y := .bool true) rfl rfl (dCallP_eq (as := [rowD r]) rfl rfl (tr_exps r h1 h2)) (pol_loop1 a0 a2 s p h4)
theorem pol_loop2 (a0 a1 : Option Sl) (s : DS) : ∀ (p : PR), polyOk p = true → lcLoop (gNm 2) tYesD (dAnd (dCallP 1 f_is_number (aCons (dVar 2) (aNil))) (d2 gNeU (dRd 2) (dC (.int 0)))) [a0, a1, none] (p.map fun e => .int e.2) s = some (p.map fun _ => .bool true, s)
  | [], _ => rfl
  | (r, v) :: p, h => by
    obtain ⟨_, _, h3, h4⟩ := polyOk_cons h
    refine lc_t (env' := [a0, a1, vS (.int v)]) (s := s) (s1 := s) (y := .bool true) rfl rfl ?_ (pol_loop2 a0 a1 s p h4)
    show some (D.bool (!decide (v = 0)), s) = _
    rw [decide_eq_false h3]
    rfl
theorem vals_dP (p : PR) : valsD (toD p) = some (p.map fun e => .int e.2) := by
  show some ((dP p).map (·.2)) = _
  unfold dP
  rw [List.map_map]
  rfl
theorem tr_pol (p : PR) (h : polyOk p = true) (hl : p.length ≤ 100000) : f_is_polynomial_of [toD p] = some (.bool true) := by
  have e0 : dB gAll (aCons (dLc (dItems (dVar 0)) [1] (gNm 1) (tYesD) (dCallP 1 f_are_exponents (aCons (dVar 1) (aNil)))) (aNil)) [vS (toD p), none, none] ds0 = some (.bool true, ds0) :=
    dB_eq (as := [.list (p.map fun _ => .bool true)]) (aCons1 (dLc_eq (dItems_eq (a := toD p) rfl (keys_dP p)) (pol_loop1 (vS (toD p)) none ds0 p h) (by rw [List.length_map]; exact hl))) (gAll_true p)
  have e1 : tOrD (tNotD (dTest (dIsi .dict (dRd 0)))) (tNotD (dTest (dB gAll (aCons (dLc (dItems (dVar 0)) [1] (gNm 1) (tYesD) (dCallP 1 f_are_exponents (aCons (dVar 1) (aNil)))) (aNil))))) [vS (toD p), none, none] ds0 = some (false, ds0) := by
    show tNotD (dTest (dB gAll (aCons (dLc (dItems (dVar 0)) [1] (gNm 1) (tYesD) (dCallP 1 f_are_exponents (aCons (dVar 1) (aNil)))) (aNil)))) [vS (toD p), none, none] ds0 = _
    unfold tNotD
    rw [dTest_of e0]
    rfl
  have e2 : dRet (dB gAll (aCons (dLc (dIt valsD (dVar 0)) [2] (gNm 2) (tYesD) (dAnd (dCallP 1 f_is_number (aCons (dVar 2) (aNil))) (d2 gNeU (dRd 2) (dC (.int 0))))) (aNil))) [vS (toD p), none, none] ds0 = some (.rt (.bool true), ds0) :=
    dRet_eq (dB_eq (as := [.list (p.map fun _ => .bool true)]) (aCons1 (dLc_eq (dIt_eq (a := toD p) rfl (vals_dP p)) (pol_loop2 (vS (toD p)) none ds0 p h) (by rw [List.length_map]; exact hl))) (gAll_true p))
  exact fnP_eq (b := d_is_polynomial_of) ((dSeq_eq ((dIfS_f e1).trans rfl)).trans (dSeq_rt e2))
/-! equality -/
def eqEntP (q : PR) : PR → Bool
  | [] => true
  | (k, v) :: r => (match lookP q k with
    | none => false
    | some j => v == j && eqEntP q r)
def eqP (p q : PR) : Bool := match Nat.beq p.length q.length with
  | false => false
  | true => eqEntP q p
theorem eqEnt_dP (q : PR) : ∀ (p : PR), eqEnt (dP q) (dP p) = some (eqEntP q p)
  | [] => rfl
  | (k, v) :: r => by
    show (match lookT (dP q) (keyI k) with | none => some false | some (.int j) => (match eqEnt (dP q) (dP r) with | some b => some ((v == j) && b) | none => none) | some _ => none) = _
    rw [lookT_dP, eqEnt_dP q r]
    show _ = some (match lookP q k with | none => false | some j => v == j && eqEntP q r)
    cases lookP q k with
    | none => rfl
    | some j => rfl
theorem eqDT_dP (p q : PR) : eqDT (dP p) (dP q) = some (eqP p q) := by
  unfold eqDT eqP
  rw [eqEnt_dP]
  unfold dP
  rw [List.length_map, List.length_map]
  cases Nat.beq p.length q.length <;> rfl
theorem gNeU_P (p q : PR) : gNeU (toD p) (toD q) = some (.bool (!eqP p q)) := by
  show (match eqDT (dP p) (dP q) with | some b => some (D.bool (xor true b)) | none => none) = _
  rw [eqDT_dP]
  cases eqP p q <;> rfl
theorem gEqU_P (p q : PR) : gEqU (toD p) (toD q) = some (.bool (eqP p q)) := by
  show (match eqDT (dP p) (dP q) with | some b => some (D.bool (xor false b)) | none => none) = _
  rw [eqDT_dP]
  cases eqP p q <;> rfl
/-! the last row -/
def lastG (k rk : List Int) : PR → List Int
  | [] => k
  | (k', _) :: r => (match gtI k'.reverse rk with
    | true => lastG k' k'.reverse r
    | false => lastG k rk r)
abbrev revs (p : PR) : List (List Key × List Int) := p.map fun (e : List Int × Int) => (keyI e.1, e.1.reverse)
def lastP : PR → List Int
  | [] => []
  | (k, _) :: r => lastG k k.reverse r
theorem ints_map : ∀ (l : List Int), ints? (l.map D.int) = some l
  | [] => rfl
  | x :: l => by
    show (ints? (l.map D.int)).map (x :: ·) = _
    rw [ints_map l]
    rfl
theorem maxL_dP : ∀ (p : PR) (k rk : List Int), maxL (keyI k) rk (revs p) = keyI (lastG k rk p)
  | [], k, rk => rfl
  | (k', v) :: r, k, rk => by
    show (match gtI k'.reverse rk with | true => maxL (keyI k') k'.reverse (revs r) | false => maxL (keyI k) rk (revs r)) = _
    unfold lastG
    cases gtI k'.reverse rk with
    | true => exact maxL_dP r k' k'.reverse
    | false => exact maxL_dP r k rk
/-! tellings -/
theorem wh_step {c : DenT} {f : DenS} {n : Nat} {env e : En} {ds s s1 : DS} (h1 : c env ds = some (true, s)) (h2 : f env s = some (.nx e, s1)) : whLoop c f (n + 1) env ds = whLoop c f n e s1 := by
  rw [whLoop, h1]
  unfold bnd
  dsimp only
  rw [h2]
theorem wh_stop {c : DenT} {f : DenS} {n : Nat} {env : En} {ds s : DS} (h1 : c env ds = some (false, s)) : whLoop c f (n + 1) env ds = some (.nx env, s) := by
  rw [whLoop, h1]
  rfl
theorem putAt {i : Nat} {kd vd : Den} {env : En} {ds : DS} {p : PR} {k : List Int} {c : Int} (hi : env[i]? = some (some (.own (toD p)))) (hk : kd env ds = some (rowD k, ds)) (hc : vd env ds = some (.int c, ds)) (nd : NdP p) (hl : p.length < 100000) :
    dPut i vd kd env ds = some (.nx (env.set i (some (.own (toD (putP p k c))))), ds) := by
  unfold dPut
  rw [hc]
  unfold bnd
  dsimp only
  rw [hk]
  dsimp only
  rw [hi]
  dsimp only
  rw [keyOf_row]
  dsimp only
  rw [if_pos (by unfold dP; rw [List.length_map]; exact hl), putT_dP p k _ nd]
end L2.Dn
set_option Elab.async false
set_option linter.all false
set_option maxRecDepth 100000
/-! polynomials by their coefficients -/
namespace L2.Dn
open PySem PySem.Spec PyProof.Rows C8
def eqv (p q : PR) : Prop := ∀ k, cfs p k = cfs q k
theorem eqv.refl (p : PR) : eqv p p := fun _ => rfl
theorem eqv.symm {p q : PR} (h : eqv p q) : eqv q p := fun k => (h k).symm
theorem eqv.trans {p q r : PR} (h : eqv p q) (h2 : eqv q r) : eqv p r := fun k => (h k).trans (h2 k)
def sumL (f : List Int → Int) : List (List Int) → Int
  | [] => 0
  | r :: R => f r + sumL f R
theorem sumL_add (f g : List Int → Int) : ∀ R, sumL (fun r => f r + g r) R = sumL f R + sumL g R
  | [] => rfl
  | r :: R => by
    show f r + g r + sumL _ R = f r + sumL f R + (g r + sumL g R)
    rw [sumL_add f g R]
    omega
theorem sumL_zero {f : List Int → Int} : ∀ {R : List (List Int)}, (∀ r ∈ R, f r = 0) → sumL f R = 0
  | [], _ => rfl
  | r :: R, h => by
    show f r + sumL f R = 0
    rw [h r (List.mem_cons_self ..), sumL_zero fun x m => h x (List.mem_cons_of_mem _ m)]
    rfl
theorem sumL_congr {f g : List Int → Int} : ∀ {R : List (List Int)}, (∀ r ∈ R, f r = g r) → sumL f R = sumL g R
  | [], _ => rfl
  | r :: R, h => by
    show f r + sumL f R = g r + sumL g R
    rw [h r (List.mem_cons_self ..), sumL_congr fun x m => h x (List.mem_cons_of_mem _ m)]
theorem sumL_one (k : List Int) (v : Int) : ∀ {R : List (List Int)}, R.Nodup → k ∈ R → sumL (fun r => if k = r then v else 0) R = v
  | r :: R, nd, m => by
    have nd' := List.nodup_cons.mp nd
    show (if k = r then v else 0) + sumL _ R = v
    by_cases e : k = r
    · rw [if_pos e, sumL_zero]
      · omega
      · intro x hx
        rw [if_neg]
        intro e2
        exact nd'.1 (by rw [← e, e2]; exact hx)
    · rw [if_neg e, sumL_one k v nd'.2 ((List.mem_cons.mp m).resolve_left e)]
      omega
/-- a weight of rows, over a list of entries -/
def lin (w : List Int → Int) : PR → Int
  | [] => 0
  | (k, v) :: p => v * w k + lin w p
theorem lin_sum (w : List Int → Int) : ∀ (p : PR) (R : List (List Int)), R.Nodup → (∀ k ∈ kysP p, k ∈ R) → lin w p = sumL (fun r => cfs p r * w r) R
  | [], R, _, _ => (sumL_zero fun r _ => by show (0 : Int) * w r = 0; exact Int.zero_mul _).symm
  | (k, v) :: p, R, nd, h => by
    have ih := lin_sum w p R nd fun x m => h x (List.mem_cons_of_mem _ m)
    have e : (fun r => cfs ((k, v) :: p) r * w r) = fun r => (if k = r then v * w k else 0) + cfs p r * w r := by
      funext r
      rw [cfs_cons, Int.add_mul]
      by_cases q : k = r
      · rw [if_pos q, if_pos q, q]
      · rw [if_neg q, if_neg q, Int.zero_mul]
    rw [e, sumL_add, sumL_one k _ nd (h k (List.mem_cons_self ..)), ← ih]
    rfl
theorem lin_congr (w : List Int → Int) {p q : PR} (h : eqv p q) : lin w p = lin w q := by
  have nd : NdP (accP [] (p ++ q)) := nd_accP _ List.nodup_nil
  have m : ∀ k, k ∈ kysP p ∨ k ∈ kysP q → k ∈ kysP (accP [] (p ++ q)) := fun k hk => (mem_accP _ _ _).mpr (.inr (by rw [kysP_append]; exact List.mem_append.mpr hk))
  rw [lin_sum w p _ nd fun k hk => m k (.inl hk), lin_sum w q _ nd fun k hk => m k (.inr hk)]
  exact sumL_congr fun r _ => by rw [h r]
theorem lin_append (w : List Int → Int) : ∀ (p q : PR), lin w (p ++ q) = lin w p + lin w q
  | [], q => by
    show lin w q = 0 + lin w q
    omega
  | (k, v) :: p, q => by
    show v * w k + lin w (p ++ q) = v * w k + lin w p + lin w q
    rw [lin_append w p q]
    omega
/-! ### cut -/
theorem cfs_cutG_scale (pre post : List Int) (low high a c : Int) (k : List Int) : ∀ (n : Nat) (m : Int), cfs (cutG pre post low high (a * c) n m) k = c * cfs (cutG pre post low high a n m) k
  | 0, _ => by show (0 : Int) = c * 0; omega
  | n + 1, m => by
    rw [cutG, cutG, cfs_cons, cfs_cons, cfs_cutG_scale pre post low high a c k n (m + 1), Int.mul_add]
    congr 1
    split
    · exact Int.mul_comm a c
    · omega
def cutW (i : Nat) (k r : List Int) : Int := cfs (cutT r 1 i) k
theorem cfs_cutT (r : List Int) (c : Int) (i : Nat) (k : List Int) : cfs (cutT r c i) k = c * cutW i k r := by
  unfold cutW cutT
  by_cases h : r.getD i 0 < r.getD (i - 1) 0
  · rw [decide_eq_true h]
    dsimp only
    rw [cfs_cutG_scale _ _ _ _ 1 c]
    rfl
  · rw [decide_eq_false h]
    dsimp only
    rw [cfs_cutG_scale _ _ _ _ (-1) c]
    rfl
theorem cfs_cutTs (i : Nat) (k : List Int) : ∀ (p : PR), cfs (cutTs i p) k = lin (cutW i k) p
  | [] => rfl
  | (r, c) :: p => by
    rw [cutTs, cfs_append, cfs_cutT, cfs_cutTs i k p]
    rfl
theorem cfs_cutP (p : PR) (i : Nat) (k : List Int) : cfs (cutP p i) k = lin (cutW i k) p := by
  unfold cutP
  rw [cfs_keepP, cfs_accP, cfs_cutTs]
  show 0 + _ = _
  omega
theorem cut_congr {p q : PR} (h : eqv p q) (i : Nat) : eqv (cutP p i) (cutP q i) := fun k => by
  rw [cfs_cutP, cfs_cutP, lin_congr _ h]
theorem cutG_app (pre post : List Int) (low high c : Int) : ∀ (n : Nat) (m : Int), cutG pre post low high c (n + 1) m = cutG pre post low high c n m ++ [(pre ++ [low + (m + n), high - 1 - (m + n)] ++ post, c)]
  | 0, m => by
    show [(pre ++ [low + m, high - 1 - m] ++ post, c)] = [(pre ++ [low + (m + ((0 : Nat) : Int)), high - 1 - (m + ((0 : Nat) : Int))] ++ post, c)]
    rw [show m + ((0 : Nat) : Int) = m by omega]
  | n + 1, m => by
    rw [cutG, cutG_app pre post low high c n (m + 1), cutG]
    have : m + 1 + (n : Int) = m + ((n + 1 : Nat) : Int) := by omega
    rw [this]
    rfl
/-- the law's order is the other way round -/
theorem cfs_lcutG (pre post : List Int) (low high c : Int) (k : List Int) : ∀ (n : Nat) (a : Int), a + n = high - low → cfs (lcutG pre post low high c n a) k = cfs (cutG pre post low high c n 0) k
  | 0, a, _ => rfl
  | n + 1, a, h => by
    rw [lcutG, cfs_cons, cutG_app, cfs_append, cfs_cons, cfs_lcutG pre post low high c k n (a + 1) (by omega)]
    have e1 : high - 1 - a = low + (0 + (n : Int)) := by omega
    have e2 : low + a = high - 1 - (0 + (n : Int)) := by omega
    rw [e1, e2]
    show _ = _ + (_ + 0)
    omega
theorem cfs_lcutT (r : List Int) (c : Int) (i : Nat) (k : List Int) : cfs (lcutT r c i) k = cfs (cutT r c i) k := by
  unfold lcutT cutT mx mn
  generalize r.getD i 0 = b
  generalize r.getD (i - 1) 0 = a
  by_cases h : b < a
  · rw [decide_eq_true h, if_pos h, if_pos h, if_neg (by omega)]
    exact cfs_lcutG _ _ _ _ _ k _ 0 (by omega)
  · rw [decide_eq_false h, if_neg h, if_neg h]
    by_cases h2 : b > a
    · rw [if_pos h2]
      exact cfs_lcutG _ _ _ _ _ k _ 0 (by omega)
    · rw [if_neg h2]
      have : b = a := by omega
      subst this
      exact cfs_lcutG _ _ _ _ _ k _ 0 (by omega)
theorem cfs_lcutTs (i : Nat) (k : List Int) : ∀ (p : PR), cfs (lcutTs i p) k = cfs (cutTs i p) k
  | [] => rfl
  | (r, c) :: p => by
    rw [lcutTs, cutTs, cfs_append, cfs_append, cfs_lcutT, cfs_lcutTs i k p]
theorem lcut_eqv (p : PR) (i : Nat) : eqv (lcutP p i) (cutP p i) := fun k => by
  unfold lcutP cutP
  rw [cfs_keepP, cfs_accP, cfs_keepP, cfs_accP, cfs_lcutTs]
/-! ### products, sums -/
def mulW (q : PR) (k r : List Int) : Int := cfs (mulT r 1 q) k
theorem cfs_mulT (r : List Int) (c : Int) (k : List Int) : ∀ (q : PR), cfs (mulT r c q) k = c * mulW q k r
  | [] => by show (0 : Int) = c * 0; omega
  | (k', v) :: q => by
    have ih := cfs_mulT r c k q
    unfold mulW at ih ⊢
    rw [mulT, mulT, cfs_cons, cfs_cons, ih, Int.mul_add]
    congr 1
    split
    · rw [Int.one_mul]
    · omega
theorem cfs_mulTs (q : PR) (k : List Int) : ∀ (p : PR), cfs (mulTs q p) k = lin (mulW q k) p
  | [] => rfl
  | (r, c) :: p => by
    rw [mulTs, cfs_append, cfs_mulT, cfs_mulTs q k p]
    rfl
theorem mulW_lin (k r : List Int) : ∀ (q : PR), mulW q k r = lin (fun t => if addR r t = k then 1 else 0) q
  | [] => rfl
  | (k', v) :: q => by
    have ih := mulW_lin k r q
    unfold mulW at ih ⊢
    rw [mulT, cfs_cons, ih]
    show _ = v * (if addR r k' = k then 1 else 0) + _
    split <;> omega
theorem cfs_mulP (p q : PR) (k : List Int) : cfs (mulP p q) k = lin (mulW q k) p := by
  unfold mulP
  rw [cfs_keepP, cfs_accP, cfs_mulTs]
  show 0 + _ = _
  omega
theorem lin_ext {w w' : List Int → Int} (h : ∀ r, w r = w' r) (p : PR) : lin w p = lin w' p := by
  rw [show w = w' from funext h]
theorem mul_congr {p p' q q' : PR} (h : eqv p p') (h2 : eqv q q') : eqv (mulP p q) (mulP p' q') := fun k => by
  rw [cfs_mulP, cfs_mulP, lin_congr _ h]
  exact lin_ext (fun r => by rw [mulW_lin, mulW_lin, lin_congr _ h2]) p'
theorem lin_addw (w w' : List Int → Int) : ∀ (p : PR), lin (fun r => w r + w' r) p = lin w p + lin w' p
  | [] => rfl
  | (k, v) :: p => by
    show v * (w k + w' k) + _ = v * w k + lin w p + (v * w' k + lin w' p)
    rw [lin_addw w w' p, Int.mul_add]
    omega
theorem lin_mulw (c : Int) (w : List Int → Int) : ∀ (p : PR), lin (fun r => c * w r) p = c * lin w p
  | [] => by show (0 : Int) = c * 0; omega
  | (k, v) :: p => by
    show v * (c * w k) + _ = c * (v * w k + lin w p)
    rw [lin_mulw c w p, Int.mul_add]
    congr 1
    rw [← Int.mul_assoc, ← Int.mul_assoc, Int.mul_comm v c]
theorem lin_zero : ∀ (p : PR), lin (fun _ => 0) p = 0
  | [] => rfl
  | (k, v) :: p => by
    show v * 0 + _ = 0
    rw [lin_zero p]
    omega
theorem lin_swap (f : List Int → List Int → Int) : ∀ (p q : PR), lin (fun r => lin (fun t => f r t) q) p = lin (fun t => lin (fun r => f r t) p) q
  | [], q => (lin_zero q).symm
  | (k, v) :: p, q => by
    show v * lin (fun t => f k t) q + lin _ p = lin (fun t => v * f k t + lin (fun r => f r t) p) q
    rw [lin_swap f p q, lin_addw, lin_mulw]
theorem addR_comm : ∀ (r t : List Int), addR r t = addR t r
  | [], [] => rfl
  | [], _ :: _ => rfl
  | _ :: _, [] => rfl
  | a :: r, b :: t => by
    rw [addR, addR, addR_comm r t, Int.add_comm]
theorem mul_comm' (p q : PR) : eqv (mulP p q) (mulP q p) := fun k => by
  rw [cfs_mulP, cfs_mulP, lin_ext (fun r => mulW_lin k r q) p, lin_ext (fun r => mulW_lin k r p) q, lin_swap]
  exact lin_ext (fun t => lin_ext (fun r => by rw [addR_comm]) p) q
theorem cfs_scaleP (m : Int) (k : List Int) : ∀ (q : PR), cfs (scaleP m q) k = m * cfs q k
  | [] => by show (0 : Int) = m * 0; omega
  | (k', v) :: q => by
    rw [scaleP, cfs_cons, cfs_cons, cfs_scaleP m k q, Int.mul_add]
    congr 1
    split <;> omega
theorem cfs_plusP (p q : PR) (m : Int) (k : List Int) : cfs (plusP p q m) k = cfs p k + m * cfs q k := by
  unfold plusP
  rw [cfs_keepP, cfs_accP, cfs_scaleP]
/-! ### equal dicts -/
theorem eqEntP_iff {q : PR} (ndq : NdP q) : ∀ (p : PR), eqEntP q p = true ↔ ∀ e ∈ p, lookP q e.1 = some e.2
  | [] => by simp [eqEntP]
  | (k, v) :: r => by
    have ih := eqEntP_iff ndq r
    have e0 : eqEntP q ((k, v) :: r) = (match lookP q k with | none => false | some j => v == j && eqEntP q r) := rfl
    rw [e0]
    cases h : lookP q k with
    | none =>
      constructor
      · intro x; cases x
      · intro x
        have := x (k, v) (List.mem_cons_self ..)
        rw [h] at this
        cases this
    | some j =>
      show (v == j && eqEntP q r) = true ↔ _
      rw [Bool.and_eq_true, beq_iff_eq, ih]
      constructor
      · rintro ⟨rfl, h2⟩ e m
        rcases List.mem_cons.mp m with x | x
        · subst x; exact h
        · exact h2 e x
      · intro x
        have h1 := x (k, v) (List.mem_cons_self ..)
        rw [h] at h1
        cases h1
        exact ⟨rfl, fun e m => x e (List.mem_cons_of_mem _ m)⟩
theorem lookP_some {p : PR} {k : List Int} {v : Int} (nd : NdP p) : lookP p k = some v ↔ (k, v) ∈ p := by
  constructor
  · intro h
    rcases lookP_cfs k nd with ⟨h1, _⟩ | ⟨h1, h2⟩
    · rw [h1] at h; cases h
    · rw [h1] at h; cases h; exact h2
  · intro h
    exact has_self nd (k, v) h
theorem wf_ext {p q : PR} (hp : WfP p) (hq : WfP q) (h : eqv p q) : ∀ e, e ∈ p ↔ e ∈ q := by
  have one : ∀ {p q : PR}, WfP p → WfP q → eqv p q → ∀ e ∈ p, e ∈ q := fun {p q} hp hq h e m => by
    have e1 : cfs p e.1 = e.2 := cfs_mem hp.nd m
    have e2 : e.1 ∈ kysP q := (wf_mem hq e.1).mpr (by rw [← h, e1]; exact hp.nz e m)
    obtain ⟨x, hx, ex⟩ := List.mem_map.mp e2
    have e3 : cfs q x.1 = x.2 := cfs_mem hq.nd hx
    have : x = e := Prod.ext ex (by rw [← e3, ex, ← h, e1])
    rw [← this]
    exact hx
  exact fun e => ⟨one hp hq h e, one hq hp h.symm e⟩
theorem nd_pairs {p : PR} (h : NdP p) : p.Nodup := by
  unfold NdP kysP at h
  rw [List.Nodup, List.pairwise_map] at h
  exact h.imp fun hab e => hab (by rw [e])
theorem wf_perm {p q : PR} (hp : WfP p) (hq : WfP q) (h : eqv p q) : p.Perm q := (List.perm_ext_iff_of_nodup (nd_pairs hp.nd) (nd_pairs hq.nd)).mpr (wf_ext hp hq h)
theorem perm_of_sub : ∀ (p q : PR), p.Nodup → (∀ e ∈ p, e ∈ q) → q.length ≤ p.length → p.Perm q
  | [], q, _, _, h => by
    cases q with
    | nil => exact List.Perm.refl _
    | cons a r => simp at h
  | a :: p, q, nd, sub, h => by
    have nd' := List.nodup_cons.mp nd
    have ha : a ∈ q := sub a (List.mem_cons_self ..)
    have e := List.perm_cons_erase ha
    have hl := e.length_eq
    simp only [List.length_cons] at h hl
    have ih := perm_of_sub p (q.erase a) nd'.2 (fun x m => (List.mem_erase_of_ne (fun z => nd'.1 (by rw [← z]; exact m))).mpr (sub x (List.mem_cons_of_mem _ m))) (by omega)
    exact (List.Perm.cons a ih).trans e.symm
theorem eqP_iff {p q : PR} (hp : WfP p) (hq : WfP q) : eqP p q = true ↔ eqv p q := by
  constructor
  · intro h k
    unfold eqP at h
    split at h
    · cases h
    · rename_i hl
      have hl := Nat.eq_of_beq_eq_true hl
      have hs := (eqEntP_iff hq.nd p).mp h
      have sub : ∀ e ∈ p, e ∈ q := fun e m => (lookP_some hq.nd).mp (hs e m)
      have perm : p.Perm q := perm_of_sub p q (nd_pairs hp.nd) sub (by omega)
      by_cases m : k ∈ kysP p
      · obtain ⟨e, he, rfl⟩ := List.mem_map.mp m
        rw [cfs_mem hp.nd he, cfs_mem hq.nd (sub e he)]
      · rw [cfs_none m, cfs_none]
        intro m2
        exact m ((perm.map _).mem_iff.mpr m2)
  · intro h
    have perm := wf_perm hp hq h
    unfold eqP
    rw [show Nat.beq p.length q.length = true from by rw [perm.length_eq]; exact Nat.beq_refl _]
    exact (eqEntP_iff hq.nd p).mpr fun e m => (lookP_some hq.nd).mpr (perm.mem_iff.mp m)
theorem eqP_false {p q : PR} (hp : WfP p) (hq : WfP q) (h : ¬ eqv p q) : eqP p q = false := by
  cases e : eqP p q with
  | false => rfl
  | true => exact absurd ((eqP_iff hp hq).mp e) h
theorem eqv_nil {p : PR} (hp : WfP p) (h : ∀ k, cfs p k = 0) : p = [] := by
  cases p with
  | nil => rfl
  | cons e r =>
    have := cfs_mem hp.nd (List.mem_cons_self (a := e) (l := r))
    rw [h] at this
    exact absurd this.symm (hp.nz e (List.mem_cons_self ..))
theorem wf_cutP (p : PR) (i : Nat) : WfP (cutP p i) := wf_keepP (nd_accP _ List.nodup_nil)
theorem wf_lcutP (p : PR) (i : Nat) : WfP (lcutP p i) := wf_keepP (nd_accP _ List.nodup_nil)
theorem wf_mulP (p q : PR) : WfP (mulP p q) := wf_keepP (nd_accP _ List.nodup_nil)
theorem wf_plusP {p : PR} (q : PR) (m : Int) (h : NdP p) : WfP (plusP p q m) := wf_keepP (nd_accP _ h)
end L2.Dn
set_option Elab.async false
set_option linter.all false
set_option maxRecDepth 100000
/-! what does not hang on the order of the rows; sums of sequences within a box -/
namespace L2.Dn
open PySem PySem.Spec PyProof.Rows C8
theorem gtI_cons (x y : Int) (xs ys : List Int) : gtI (x :: xs) (y :: ys) = (match decide (x = y) with
    | true => gtI xs ys
    | false => decide (y < x)) := rfl
theorem gtI_trans : ∀ (a b c : List Int), gtI a b = true → gtI b c = true → gtI a c = true
  | [], _, _, h, _ => by simp [gtI] at h
  | _ :: _, [], _, _, h => by simp [gtI] at h
  | _ :: _, _ :: _, [], _, _ => rfl
  | x :: xs, y :: ys, z :: zs, h1, h2 => by
    rw [gtI_cons] at h1 h2 ⊢
    by_cases e1 : x = y
    · subst e1
      rw [decide_eq_true rfl] at h1
      dsimp only at h1
      by_cases e2 : x = z
      · subst e2
        rw [decide_eq_true rfl] at h2 ⊢
        exact gtI_trans xs ys zs h1 h2
      · rw [decide_eq_false e2] at h2 ⊢
        exact h2
    · rw [decide_eq_false e1] at h1
      have h1 := of_decide_eq_true h1
      by_cases e2 : y = z
      · subst e2
        rw [decide_eq_false e1]
        exact decide_eq_true h1
      · rw [decide_eq_false e2] at h2
        have h2 := of_decide_eq_true h2
        rw [decide_eq_false (by omega)]
        exact decide_eq_true (by omega)
theorem gtI_eq : ∀ (a b : List Int), gtI a b = false → gtI b a = false → a = b
  | [], [], _, _ => rfl
  | [], _ :: _, _, h => by simp [gtI] at h
  | _ :: _, [], h, _ => by simp [gtI] at h
  | x :: xs, y :: ys, h1, h2 => by
    rw [gtI_cons] at h1 h2
    by_cases e : x = y
    · subst e
      rw [decide_eq_true rfl] at h1 h2
      rw [gtI_eq xs ys h1 h2]
    · rw [decide_eq_false e] at h1
      rw [decide_eq_false (fun q => e q.symm)] at h2
      have h1 := of_decide_eq_false h1
      have h2 := of_decide_eq_false h2
      omega
theorem lastG_ok : ∀ (p : PR) (k : List Int), (lastG k k.reverse p = k ∨ lastG k k.reverse p ∈ kysP p) ∧ gtI k.reverse (lastG k k.reverse p).reverse = false ∧ ∀ x ∈ kysP p, gtI x.reverse (lastG k k.reverse p).reverse = false
  | [], k => ⟨.inl rfl, by
      show gtI k.reverse k.reverse = false
      have : ∀ l : List Int, gtI l l = false := fun l => by
        induction l with
        | nil => rfl
        | cons a l ih => rw [gtI_cons, decide_eq_true rfl]; exact ih
      exact this _, fun x hx => nomatch hx⟩
  | (k', v) :: r, k => by
    have e0 : lastG k k.reverse ((k', v) :: r) = (match gtI k'.reverse k.reverse with | true => lastG k' k'.reverse r | false => lastG k k.reverse r) := rfl
    rw [e0]
    cases h : gtI k'.reverse k.reverse with
    | true =>
      dsimp only
      obtain ⟨h1, h2, h3⟩ := lastG_ok r k'
      refine ⟨.inr ?_, ?_, fun x hx => ?_⟩
      · rcases h1 with h1 | h1
        · rw [h1]; exact List.mem_cons_self ..
        · exact List.mem_cons_of_mem _ h1
      · cases q : gtI k.reverse (lastG k' k'.reverse r).reverse with
        | false => rfl
        | true =>
          rw [gtI_trans _ _ _ h q] at h2
          cases h2
      · rcases List.mem_cons.mp hx with rfl | hx
        · exact h2
        · exact h3 x hx
    | false =>
      dsimp only
      obtain ⟨h1, h2, h3⟩ := lastG_ok r k
      refine ⟨?_, h2, fun x hx => ?_⟩
      · rcases h1 with h1 | h1
        · exact .inl h1
        · exact .inr (List.mem_cons_of_mem _ h1)
      · rcases List.mem_cons.mp hx with rfl | hx
        · cases q : gtI x.reverse (lastG k k.reverse r).reverse with
          | false => rfl
          | true =>
            -- x > last, x not > k: then k >= x > last
            cases q2 : gtI k.reverse x.reverse with
            | true =>
              rw [gtI_trans _ _ _ q2 q] at h2
              cases h2
            | false =>
              have := gtI_eq _ _ h q2
              have this : x.reverse = k.reverse := this
              rw [this] at q
              rw [q] at h2
              cases h2
        · exact h3 x hx
theorem lastP_ok {p : PR} (h : p ≠ []) : lastP p ∈ kysP p ∧ ∀ x ∈ kysP p, gtI x.reverse (lastP p).reverse = false := by
  cases p with
  | nil => exact absurd rfl h
  | cons e r =>
    obtain ⟨k, v⟩ := e
    obtain ⟨h1, h2, h3⟩ := lastG_ok r k
    show lastG k k.reverse r ∈ _ ∧ _
    refine ⟨?_, fun x hx => ?_⟩
    · rcases h1 with h1 | h1
      · rw [h1]; exact List.mem_cons_self ..
      · exact List.mem_cons_of_mem _ h1
    · rcases List.mem_cons.mp hx with rfl | hx
      · exact h2
      · exact h3 x hx
theorem lastP_only {p : PR} {k : List Int} (h : k ∈ kysP p) (h2 : ∀ x ∈ kysP p, gtI x.reverse k.reverse = false) : lastP p = k := by
  have hp : p ≠ [] := fun e => by rw [e] at h; exact nomatch h
  obtain ⟨h3, h4⟩ := lastP_ok hp
  have := gtI_eq _ _ (h2 _ h3) (h4 _ h)
  have := congrArg List.reverse this
  rwa [List.reverse_reverse, List.reverse_reverse] at this
theorem lastP_perm {p q : PR} (h : p.Perm q) (hp : p ≠ []) : lastP p = lastP q := by
  have hk := (h.map (·.1)).mem_iff (a := lastP q)
  have hq : q ≠ [] := fun e => hp (by rw [e] at h; exact h.eq_nil)
  obtain ⟨h1, h2⟩ := lastP_ok hq
  exact lastP_only (hk.mpr h1) fun x hx => h2 x ((h.map (·.1)).mem_iff.mp hx)
/-! ### checks and permutations -/
theorem kInts_keyI : ∀ (k : List Int), kInts (keyI k) = some k
  | [] => rfl
  | a :: r => by
    show (match kInts (keyI r) with | some l => some (a :: l) | none => none) = _
    rw [kInts_keyI r]
theorem hashes_dP : ∀ (p : PR), hashes? (dP p) = some (p.map fun e => hT e.1)
  | [] => rfl
  | (k, v) :: r => by
    show (match kInts (keyI k) with | some ns => (match hashes? (dP r) with | some l => some (hT ns :: l) | none => none) | none => none) = _
    rw [kInts_keyI, hashes_dP r]
    rfl
theorem memI_iff (x : Int) : ∀ (l : List Int), memI x l = true ↔ x ∈ l
  | [] => by simp [memI]
  | y :: r => by
    have ih := memI_iff x r
    have e0 : memI x (y :: r) = (match decide (x = y) with | true => true | false => memI x r) := rfl
    rw [e0, List.mem_cons]
    by_cases h : x = y
    · rw [decide_eq_true h]; simp [h]
    · rw [decide_eq_false h]; simp [h, ih]
theorem nodupI_iff : ∀ (l : List Int), nodupI l = true ↔ l.Nodup
  | [] => by simp [nodupI]
  | x :: r => by
    have ih := nodupI_iff r
    have e0 : nodupI (x :: r) = (match memI x r with | true => false | false => nodupI r) := rfl
    rw [e0, List.nodup_cons, ← memI_iff x r]
    cases memI x r with
    | true => simp
    | false => simp [ih]
theorem hOk_iff (p : PR) : hOk p = true ↔ (p.map fun e => hT e.1).Nodup := by
  unfold hOk
  rw [hashes_dP]
  exact nodupI_iff _
theorem hOk_perm {p q : PR} (h : p.Perm q) (hq : hOk q = true) : hOk p = true := (hOk_iff p).mpr ((h.map _).nodup_iff.mpr ((hOk_iff q).mp hq))
theorem hOk_sub {p : PR} {q : PR} (h : ∀ k ∈ kysP p, k ∈ kysP q) (nd : NdP p) (hq : hOk q = true) : hOk p = true := by
  rw [hOk_iff] at hq ⊢
  have inj : ∀ a ∈ kysP q, ∀ b ∈ kysP q, hT a = hT b → a = b := by
    have e : (q.map fun e => hT e.1) = (kysP q).map hT := by unfold kysP; rw [List.map_map]; rfl
    rw [e] at hq
    generalize kysP q = l at hq
    induction l with
    | nil => intro a ha; exact nomatch ha
    | cons x l ih =>
      have hq' := List.nodup_cons.mp hq
      intro a ha b hb hab
      rcases List.mem_cons.mp ha with ea | ha2
      · rcases List.mem_cons.mp hb with eb | hb2
        · rw [ea, eb]
        · rw [ea] at hab
          exact absurd (List.mem_map.mpr ⟨b, hb2, hab.symm⟩) hq'.1
      · rcases List.mem_cons.mp hb with eb | hb2
        · rw [eb] at hab
          exact absurd (List.mem_map.mpr ⟨a, ha2, hab⟩) hq'.1
        · exact ih hq'.2 a ha2 b hb2 hab
  have e : (p.map fun e => hT e.1) = (kysP p).map hT := by unfold kysP; rw [List.map_map]; rfl
  rw [e]
  unfold NdP at nd
  generalize kysP p = l at nd h
  induction l with
  | nil => exact List.nodup_nil
  | cons x l ih =>
    have nd' := List.nodup_cons.mp nd
    rw [List.map_cons]
    refine List.nodup_cons.mpr ⟨fun m => ?_, ih nd'.2 (fun k hk => h k (List.mem_cons_of_mem _ hk))⟩
    obtain ⟨y, hy, e⟩ := List.mem_map.mp m
    have := inj y (h y (List.mem_cons_of_mem _ hy)) x (h x (List.mem_cons_self ..)) e
    exact nd'.1 (by rw [← this]; exact hy)
theorem polyOk_iff : ∀ (p : PR), polyOk p = true ↔ ∀ e ∈ p, e.1.length = 5 ∧ allE e.1 = true ∧ e.2 ≠ 0
  | [] => by simp [polyOk]
  | (r, v) :: p => by
    have ih := polyOk_iff p
    constructor
    · intro h e m
      obtain ⟨h1, h2, h3, h4⟩ := polyOk_cons h
      rcases List.mem_cons.mp m with q | q
      · subst q; exact ⟨h1, h2, h3⟩
      · exact ih.mp h4 e q
    · intro h
      obtain ⟨h1, h2, h3⟩ := h (r, v) (List.mem_cons_self ..)
      have h4 := ih.mpr fun e m => h e (List.mem_cons_of_mem _ m)
      have h1 : r.length = 5 := h1
      have h3 : v ≠ 0 := h3
      have h2 : allE r = true := h2
      unfold polyOk
      rw [decide_eq_true h1, h2, decide_eq_false h3]
      exact h4
theorem polyOk_perm {p q : PR} (h : p.Perm q) (hq : polyOk q = true) : polyOk p = true := (polyOk_iff p).mpr fun e m => (polyOk_iff q).mp hq e (h.mem_iff.mp m)
/-! ### boxes -/
def Box (B : Int) (n : Nat) (p : PR) : Prop := ∀ e ∈ p, e.1.length = n ∧ ∀ x ∈ e.1, 0 ≤ x ∧ x ≤ B
theorem box_cutG {B : Int} {n : Nat} {pre post : List Int} {low high c : Int} (h0 : 0 ≤ low) (hB : high ≤ B) (hpre : ∀ x ∈ pre, 0 ≤ x ∧ x ≤ B) (hpost : ∀ x ∈ post, 0 ≤ x ∧ x ≤ B) (hn : pre.length + 2 + post.length = n) : ∀ (k : Nat) (m : Int), 0 ≤ m → m + k ≤ high - low → Box B n (cutG pre post low high c k m)
  | 0, m, _, _, e, he => nomatch he
  | k + 1, m, h1, h2, e, he => by
    rcases List.mem_cons.mp he with rfl | he
    · refine ⟨by simp; omega, fun x hx => ?_⟩
      rcases List.mem_append.mp hx with hx | hx
      · rcases List.mem_append.mp hx with hx | hx
        · exact hpre x hx
        · simp only [List.mem_cons, List.not_mem_nil, or_false] at hx
          rcases hx with rfl | rfl <;> omega
      · exact hpost x hx
    · exact box_cutG h0 hB hpre hpost hn k (m + 1) (by omega) (by omega) e he
theorem getD_box {B : Int} (hB : 0 ≤ B) {r : List Int} (h : ∀ x ∈ r, 0 ≤ x ∧ x ≤ B) (i : Nat) : 0 ≤ r.getD i 0 ∧ r.getD i 0 ≤ B := by
  by_cases hi : i < r.length
  · have : r.getD i 0 = r[i] := by simp [List.getD, hi]
    rw [this]
    exact h _ (List.getElem_mem hi)
  · have : r.getD i 0 = 0 := by simp [List.getD, hi]
    rw [this]
    omega
theorem box_cutT {B : Int} {n : Nat} (hB : 0 ≤ B) {r : List Int} {c : Int} {i : Nat} (hl : r.length = n) (h : ∀ x ∈ r, 0 ≤ x ∧ x ≤ B) (h1 : 1 ≤ i) (h2 : i < n) : Box B n (cutT r c i) ∧ (cutT r c i).length ≤ B.toNat := by
  have ha := getD_box hB h (i - 1)
  have hb := getD_box hB h i
  have hpre : ∀ x ∈ r.take (i - 1), 0 ≤ x ∧ x ≤ B := fun x hx => h x (List.mem_of_mem_take hx)
  have hpost : ∀ x ∈ r.drop (i + 1), 0 ≤ x ∧ x ≤ B := fun x hx => h x (List.mem_of_mem_drop hx)
  have hn : (r.take (i - 1)).length + 2 + (r.drop (i + 1)).length = n := by simp; omega
  unfold cutT
  generalize r.getD i 0 = b at *
  generalize r.getD (i - 1) 0 = a at *
  by_cases hc : b < a
  · rw [decide_eq_true hc]
    dsimp only
    exact ⟨box_cutG (by omega) (by omega) hpre hpost hn _ 0 (by omega) (by omega), by rw [cutG_len]; omega⟩
  · rw [decide_eq_false hc]
    dsimp only
    exact ⟨box_cutG (by omega) (by omega) hpre hpost hn _ 0 (by omega) (by omega), by rw [cutG_len]; omega⟩
theorem box_cutTs {B : Int} {n : Nat} (hB : 0 ≤ B) {i : Nat} (h1 : 1 ≤ i) (h2 : i < n) : ∀ {p : PR}, Box B n p → Box B n (cutTs i p) ∧ (cutTs i p).length ≤ B.toNat * p.length
  | [], _ => ⟨fun e m => (nomatch m), by simp [cutTs]⟩
  | (r, c) :: p, hp => by
    obtain ⟨h3, h4⟩ := hp (r, c) (List.mem_cons_self ..)
    have h3 : r.length = n := h3
    have h4 : ∀ x ∈ r, 0 ≤ x ∧ x ≤ B := h4
    obtain ⟨h5, h6⟩ := box_cutT hB (c := c) (i := i) h3 h4 h1 h2
    obtain ⟨h7, h8⟩ := box_cutTs hB h1 h2 (p := p) fun e m => hp e (List.mem_cons_of_mem _ m)
    rw [cutTs]
    refine ⟨fun e m => ?_, ?_⟩
    · rcases List.mem_append.mp m with m | m
      · exact h5 e m
      · exact h7 e m
    · rw [List.length_append, List.length_cons, Nat.mul_succ]
      omega
theorem box_keys {B : Int} {n : Nat} {p q : PR} (h : ∀ k ∈ kysP q, k ∈ kysP p) (hp : Box B n p) : Box B n q := fun e m => by
  obtain ⟨x, hx, ex⟩ := List.mem_map.mp (h e.1 (List.mem_map.mpr ⟨e, m, rfl⟩))
  have := hp x hx
  rw [ex] at this
  exact this
theorem box_cutP {B : Int} {n : Nat} (hB : 0 ≤ B) {i : Nat} (h1 : 1 ≤ i) (h2 : i < n) {p : PR} (hp : Box B n p) : Box B n (cutP p i) := by
  refine box_keys (fun k hk => ?_) (box_cutTs hB h1 h2 hp).1
  have := mem_keepP hk
  exact ((mem_accP _ _ _).mp this).resolve_left fun z => nomatch z
/-! ### the sum of a sequence, plainly -/
def ascP : List Int → Nat → Option Nat
  | a :: b :: r, i => (match decide (a < b) with
    | true => some i
    | false => ascP (b :: r) (i + 1))
  | _, _ => none
def swpP (s : List Int) (i : Nat) : List Int := s.take (i - 1) ++ [s.getD i 0, s.getD (i - 1) 0] ++ s.drop (i + 1)
def roadP : Nat → List Int → List Nat
  | 0, _ => []
  | n + 1, s => (match ascP s 1 with
    | none => []
    | some i => i :: roadP n (swpP s i))
def cutsV (p : PR) : List Nat → PR
  | [] => p
  | i :: l => cutsV (cutP p i) l
def lcutsV (p : PR) : List Nat → PR
  | [] => p
  | i :: l => lcutsV (lcutP p i) l
/-- places from 1 to 5, few rows all the way -/
def cutsB (p : PR) : List Nat → Bool
  | [] => decide (p.length < 16000)
  | i :: l => (match decide (p.length < 16000) && decide (1 ≤ i) && decide (i ≤ 5) with
    | true => cutsB (cutP p i) l
    | false => false)
theorem cutsC_of : ∀ {l : List Nat} {p : PR}, Box 5 6 p → cutsB p l = true → cutsC p l = some (cutsV p l)
  | [], _, _, _ => rfl
  | i :: l, p, hp, h => by
    unfold cutsB at h
    split at h
    · rename_i e
      simp only [Bool.and_eq_true, decide_eq_true_eq] at e
      obtain ⟨h1, h2⟩ := box_cutTs (B := 5) (n := 6) (by decide) (i := i) e.1.2 (by omega) hp
      have ro : rowsOk i p = true := by
        have : ∀ p : PR, Box 5 6 p → rowsOk i p = true := by
          intro p
          induction p with
          | nil => intro _; rfl
          | cons x p ih =>
            intro hp
            obtain ⟨r, c⟩ := x
            have h3 : r.length = 6 := (hp (r, c) (List.mem_cons_self ..)).1
            unfold rowsOk
            rw [decide_eq_true (by omega), decide_eq_true (by omega)]
            exact ih fun e m => hp e (List.mem_cons_of_mem _ m)
        exact this p hp
      have h2 : (cutTs i p).length ≤ 5 * p.length := h2
      have c : cutC p i = some (cutP p i) := by
        unfold cutC
        rw [decide_eq_true e.1.2, ro, decide_eq_true (by omega)]
        rfl
      show (match cutC p i with | some q => cutsC q l | none => none) = _
      rw [c]
      exact cutsC_of (box_cutP (by decide) e.1.2 (by omega) hp) h
    · cases h
theorem cutsB_len : ∀ {l : List Nat} {p : PR}, cutsB p l = true → (cutsV p l).length < 16000
  | [], p, h => of_decide_eq_true h
  | i :: l, p, h => by
    unfold cutsB at h
    split at h
    · exact cutsB_len (l := l) h
    · cases h
/-- the law's cuts are the same but for the order -/
theorem lcuts_of : ∀ {l : List Nat} {p q : PR}, Box 5 6 p → WfP p → WfP q → q.Perm p → cutsB p l = true → lcutsC q l = some (lcutsV q l) ∧ (lcutsV q l).Perm (cutsV p l) ∧ WfP (cutsV p l) ∧ Box 5 6 (cutsV p l)
  | [], p, q, hb, wp, wq, hpq, _ => ⟨rfl, hpq, wp, hb⟩
  | i :: l, p, q, hb, wp, wq, hpq, h => by
    unfold cutsB at h
    split at h
    · rename_i e
      simp only [Bool.and_eq_true, decide_eq_true_eq] at e
      have heq : eqv q p := fun k => by
        by_cases m : k ∈ kysP q
        · obtain ⟨x, hx, rfl⟩ := List.mem_map.mp m
          rw [cfs_mem wq.nd hx, cfs_mem wp.nd (hpq.mem_iff.mp hx)]
        · rw [cfs_none m, cfs_none fun m2 => m ((hpq.map _).mem_iff.mpr m2)]
      have pc : (lcutP q i).Perm (cutP p i) := wf_perm (wf_lcutP q i) (wf_cutP p i) ((lcut_eqv q i).trans (cut_congr heq i))
      have hbq : Box 5 6 q := fun x m => hb x (hpq.mem_iff.mp m)
      have ro : rowsOk i q = true := by
        have : ∀ p : PR, Box 5 6 p → rowsOk i p = true := by
          intro p
          induction p with
          | nil => intro _; rfl
          | cons x p ih =>
            intro hp
            obtain ⟨r, c⟩ := x
            have h3 : r.length = 6 := (hp (r, c) (List.mem_cons_self ..)).1
            unfold rowsOk
            rw [decide_eq_true (by omega), decide_eq_true (by omega)]
            exact ih fun e m => hp e (List.mem_cons_of_mem _ m)
        exact this q hbq
      have tl : ∀ (p : PR), (lcutTs i p).length = (cutTs i p).length := by
        intro p
        induction p with
        | nil => rfl
        | cons x p ih =>
          obtain ⟨r, c⟩ := x
          rw [lcutTs, cutTs, List.length_append, List.length_append, ih]
          congr 1
          unfold lcutT cutT mx mn
          rw [lcutG_len]
          generalize r.getD i 0 = b
          generalize r.getD (i - 1) 0 = a
          by_cases hc : b < a
          · rw [decide_eq_true hc, if_pos hc, if_neg (by omega)]
            dsimp only
            rw [cutG_len]
          · rw [decide_eq_false hc, if_neg hc]
            dsimp only
            rw [cutG_len]
            split
            · rfl
            · omega
      have h2 : (cutTs i q).length ≤ 5 * q.length := (box_cutTs (B := 5) (n := 6) (by decide) (i := i) e.1.2 (by omega) hbq).2
      have hlq := hpq.length_eq
      have c : lcutC q i = some (lcutP q i) := by
        unfold lcutC
        rw [decide_eq_true e.1.2, ro, decide_eq_true (by rw [tl]; omega)]
        rfl
      obtain ⟨r1, r2, r3, r4⟩ := lcuts_of (l := l) (box_cutP (B := 5) (n := 6) (by decide) e.1.2 (by omega) hb) (wf_cutP p i) (wf_lcutP q i) pc h
      refine ⟨?_, r2, r3, r4⟩
      show (match lcutC q i with | some q => lcutsC q l | none => none) = _
      rw [c]
      exact r1
    · cases h
def zero6 : PR → Bool
  | [] => true
  | (r, _) :: p => (match decide (r.getD 5 0 = 0) with
    | true => zero6 p
    | false => false)
theorem putsP_fresh : ∀ (q acc : PR), NdP (acc ++ q) → putsP acc q = acc ++ q
  | [], acc, _ => (List.append_nil _).symm
  | (k, v) :: q, acc, nd => by
    have nd2 : (kysP acc ++ k :: kysP q).Nodup := by
      have := nd
      unfold NdP at this
      rw [kysP_append] at this
      exact this
    have nk : k ∉ kysP acc := fun m => (List.nodup_append.mp nd2).2.2 k m k (List.mem_cons_self ..) rfl
    rw [putsP, putP_new acc k v nk, putsP_fresh q _ (by rw [List.append_assoc]; exact nd), List.append_assoc]
    rfl
theorem take5_mem : ∀ {p : PR} {k : List Int}, k ∈ kysP (take5 p) → ∃ e ∈ p, k = e.1.take 5
  | (r, v) :: p, k, h => by
    rcases List.mem_cons.mp h with rfl | h
    · exact ⟨(r, v), List.mem_cons_self .., rfl⟩
    · obtain ⟨e, he, ek⟩ := take5_mem h
      exact ⟨e, List.mem_cons_of_mem _ he, ek⟩
theorem row6 {r : List Int} (h1 : r.length = 6) (h2 : r.getD 5 0 = 0) : r = r.take 5 ++ [0] := by
  match r, h1, h2 with
  | [a, b, c, d, e, f], _, h2 =>
    have : f = 0 := h2
    subst this
    rfl
theorem zero6_iff : ∀ (p : PR), zero6 p = true ↔ ∀ e ∈ p, e.1.getD 5 0 = 0
  | [] => by simp [zero6]
  | (r, v) :: p => by
    have ih := zero6_iff p
    have e0 : zero6 ((r, v) :: p) = (match decide (r.getD 5 0 = 0) with | true => zero6 p | false => false) := rfl
    rw [e0]
    by_cases h : r.getD 5 0 = 0
    · rw [decide_eq_true h]
      dsimp only
      rw [ih]
      constructor
      · intro x e m
        rcases List.mem_cons.mp m with q | q
        · subst q; exact h
        · exact x e q
      · intro x e m
        exact x e (List.mem_cons_of_mem _ m)
    · rw [decide_eq_false h]
      constructor
      · intro x; cases x
      · intro x
        exact absurd (x (r, v) (List.mem_cons_self ..)) h
theorem nd_take5 : ∀ {p : PR}, Box 5 6 p → zero6 p = true → NdP p → NdP (take5 p)
  | [], _, _, _ => List.nodup_nil
  | (r, v) :: p, hb, hz, nd => by
    have nd' := List.nodup_cons.mp nd
    have hz' := (zero6_iff _).mp hz
    refine List.nodup_cons.mpr ⟨fun m => ?_, nd_take5 (fun e m => hb e (List.mem_cons_of_mem _ m)) ((zero6_iff p).mpr fun e m => hz' e (List.mem_cons_of_mem _ m)) nd'.2⟩
    obtain ⟨e, he, ek⟩ := take5_mem m
    have e1 := row6 (hb (r, v) (List.mem_cons_self ..)).1 (hz' (r, v) (List.mem_cons_self ..))
    have e2 := row6 (hb e (List.mem_cons_of_mem _ he)).1 (hz' e (List.mem_cons_of_mem _ he))
    have ek : r.take 5 = e.1.take 5 := ek
    have e1 : r = r.take 5 ++ [0] := e1
    have : r = e.1 := by rw [e1, ek, ← e2]
    exact nd'.1 (by show r ∈ _; rw [this]; exact List.mem_map.mpr ⟨e, he, rfl⟩)
theorem mx_box (m j : Int) (h1 : m ≤ 6) (h2 : 1 ≤ j) : 0 ≤ mx (m - j) 0 ∧ mx (m - j) 0 ≤ 5 := by
  unfold mx
  split <;> omega
theorem box_init (m : Int) (h1 : m ≤ 6) : Box 5 6 [(rowI m, 1)] := fun e he => by
  rcases List.mem_cons.mp he with rfl | he
  · refine ⟨rfl, fun x hx => ?_⟩
    unfold rowI at hx
    simp only [List.mem_cons, List.not_mem_nil, or_false] at hx
    rcases hx with rfl | rfl | rfl | rfl | rfl | rfl <;> exact mx_box m _ h1 (by decide)
  · exact nomatch he
theorem rowL_eq (m : Int) : rowL m = rowI m := by
  have : ∀ x : Int, mx 0 x = mx x 0 := fun x => by
    unfold mx
    split <;> split <;> omega
  unfold rowL rowI
  simp only [this]
def sumV (s : List Int) : PR := take5 (cutsV [(rowI (s.length : Nat), 1)] (roadP 20 s).reverse)
def lsumV (s : List Int) : PR := take5 (lcutsV [(rowL (s.length : Nat), 1)] (roadP 20 s).reverse)
def sumB1 (s : List Int) : Bool := decide (s.length ≤ 6) && cutsB [(rowI (s.length : Nat), 1)] (roadP 20 s).reverse && zero6 (cutsV [(rowI (s.length : Nat), 1)] (roadP 20 s).reverse)
theorem take5_perm {p q : PR} (h : p.Perm q) : (take5 p).Perm (take5 q) := by
  have : ∀ p : PR, take5 p = p.map fun e => (e.1.take 5, e.2) := by
    intro p
    induction p with
    | nil => rfl
    | cons x p ih =>
      obtain ⟨k, v⟩ := x
      rw [take5, ih]
      rfl
  rw [this, this]
  exact h.map _
theorem take5_nz {p : PR} (h : ∀ e ∈ p, e.2 ≠ 0) : ∀ e ∈ take5 p, e.2 ≠ 0 := by
  induction p with
  | nil => intro e m; exact nomatch m
  | cons x p ih =>
    obtain ⟨k, v⟩ := x
    intro e m
    rcases List.mem_cons.mp m with rfl | m
    · exact h (k, v) (List.mem_cons_self ..)
    · exact ih (fun e m => h e (List.mem_cons_of_mem _ m)) e m
theorem cutsV_ok : ∀ {l : List Nat} {p : PR}, Box 5 6 p → WfP p → cutsB p l = true → WfP (cutsV p l) ∧ Box 5 6 (cutsV p l)
  | [], p, hb, wp, _ => ⟨wp, hb⟩
  | i :: l, p, hb, wp, h => by
    unfold cutsB at h
    split at h
    · rename_i e
      simp only [Bool.and_eq_true, decide_eq_true_eq] at e
      exact cutsV_ok (l := l) (box_cutP (B := 5) (n := 6) (by decide) e.1.2 (by omega) hb) (wf_cutP p i) h
    · cases h
theorem wf_init (m : Int) : WfP [(rowI m, (1 : Int))] := ⟨List.nodup_cons.mpr ⟨by simp, List.nodup_nil⟩, fun e m => by
    rcases List.mem_cons.mp m with rfl | m
    · show (1 : Int) ≠ 0
      decide
    · exact nomatch m⟩
theorem sum_one {s : List Int} (h : sumB1 s = true) (r1 : roadR (rowD s) = some (((s.length : Nat) : Int), roadP 20 s)) : f_sum_by [rowD s] = some (toD (sumV s)) ∧ WfP (sumV s) := by
  unfold sumB1 at h
  simp only [Bool.and_eq_true, decide_eq_true_eq] at h
  obtain ⟨⟨h1, h2⟩, h3⟩ := h
  have hb := box_init (s.length : Nat) (by omega)
  have wf0 := wf_init (s.length : Nat)
  have e1 := cutsC_of hb h2
  have hl := cutsB_len h2
  obtain ⟨l3, l4⟩ := cutsV_ok hb wf0 h2
  have nd5 := nd_take5 l4 h3 l3.nd
  have wfs : WfP (sumV s) := ⟨nd5, take5_nz l3.nz⟩
  refine ⟨?_, wfs⟩
  refine tr_sum r1 ?_
  unfold sumC
  rw [e1]
  dsimp only
  rw [decide_eq_true (by omega)]
  dsimp only
  rw [putsP_fresh _ [] nd5]
  rfl
theorem sum_all {s : List Int} (h : sumB1 s = true) (r1 : roadR (rowD s) = some (((s.length : Nat) : Int), roadP 20 s)) :
    f_sum_by [rowD s] = some (toD (sumV s)) ∧ WfP (sumV s) ∧ (roadL (rowD s) = some (s.length, (roadP 20 s).reverse) → f__law_sum [rowD s] = some (toD (lsumV s)) ∧ WfP (lsumV s) ∧ (lsumV s).Perm (sumV s)) := by
  have one := sum_one h r1
  unfold sumB1 at h
  simp only [Bool.and_eq_true, decide_eq_true_eq] at h
  obtain ⟨⟨h1, h2⟩, h3⟩ := h
  have hb := box_init (s.length : Nat) (by omega)
  have wf0 := wf_init (s.length : Nat)
  have hl := cutsB_len h2
  obtain ⟨l1, l2, l3, l4⟩ := lcuts_of hb wf0 wf0 (List.Perm.refl _) h2
  refine ⟨one.1, one.2, fun r2 => ?_⟩
  have pm := take5_perm l2
  have hz : zero6 (lcutsV [(rowI ((s.length : Nat) : Int), 1)] (roadP 20 s).reverse) = true := (zero6_iff _).mpr fun e m => (zero6_iff _).mp h3 e (l2.mem_iff.mp m)
  have hb2 : Box 5 6 (lcutsV [(rowI ((s.length : Nat) : Int), 1)] (roadP 20 s).reverse) := fun e m => l4 e (l2.mem_iff.mp m)
  have ndl : NdP (lcutsV [(rowI ((s.length : Nat) : Int), 1)] (roadP 20 s).reverse) := (l2.map _).nodup_iff.mpr l3.nd
  have nd6 := nd_take5 hb2 hz ndl
  have el : lsumV s = take5 (lcutsV [(rowI ((s.length : Nat) : Int), 1)] (roadP 20 s).reverse) := by
    unfold lsumV
    rw [rowL_eq]
  rw [el]
  refine ⟨tr_lsum r2 ?_, ⟨nd6, take5_nz fun e m => l3.nz e (l2.mem_iff.mp m)⟩, pm⟩
  unfold lsumC
  rw [rowL_eq, l1]
  dsimp only
  rw [decide_eq_true (by rw [l2.length_eq]; omega)]
  dsimp only
  rw [putsP_fresh _ [] nd6]
  rfl
end L2.Dn
set_option Elab.async false
set_option linter.all false
set_option maxRecDepth 100000
set_option maxHeartbeats 0
/-! all sequences of so many wires -/
namespace L2.Dn
open PySem PySem.Spec PyProof.Rows C8
def insP {α : Type} (x : α) : List α → List (List α)
  | [] => [[x]]
  | y :: ys => (x :: y :: ys) :: (insP x ys).map (y :: ·)
def permsP {α : Type} : List α → List (List α)
  | [] => [[]]
  | x :: xs => (permsP xs).flatMap (insP x)
theorem insP_mem {α : Type} (x : α) : ∀ (l r : List α), l ++ x :: r ∈ insP x (l ++ r)
  | [], [] => by simp [insP]
  | [], y :: ys => by simp [insP]
  | y :: l, r => by
    have ih := insP_mem x l r
    show y :: (l ++ x :: r) ∈ (x :: y :: (l ++ r)) :: (insP x (l ++ r)).map (y :: ·)
    exact List.mem_cons_of_mem _ (List.mem_map.mpr ⟨_, ih, rfl⟩)
theorem permsP_mem {α : Type} : ∀ (xs ys : List α), ys.Perm xs → ys ∈ permsP xs
  | [], ys, h => by
    rw [List.Perm.eq_nil h]
    exact List.mem_singleton.mpr rfl
  | x :: xs, ys, h => by
    have hx : x ∈ ys := h.mem_iff.mpr (List.mem_cons_self ..)
    obtain ⟨l, r, rfl⟩ := List.append_of_mem hx
    have h2 : (l ++ r).Perm xs := (List.perm_middle.symm.trans h).cons_inv
    exact List.mem_flatMap.mpr ⟨_, permsP_mem xs _ h2, insP_mem x l r⟩
theorem insP_map {α β : Type} (f : α → β) (x : α) : ∀ (l : List α), insP (f x) (l.map f) = (insP x l).map (List.map f)
  | [] => rfl
  | y :: l => by
    show (f x :: f y :: l.map f) :: (insP (f x) (l.map f)).map (f y :: ·) = _
    rw [insP_map f x l]
    simp [insP, List.map_map, Function.comp_def]
theorem permsP_map {α β : Type} (f : α → β) : ∀ (l : List α), permsP (l.map f) = (permsP l).map (List.map f)
  | [] => rfl
  | x :: l => by
    show (permsP (l.map f)).flatMap (insP (f x)) = _
    rw [permsP_map f l]
    show _ = ((permsP l).flatMap (insP x)).map (List.map f)
    rw [List.map_flatMap, List.flatMap_map]
    congr 1
    funext y
    exact insP_map f x y
def rgL (a : Int) : Nat → List Int
  | 0 => []
  | n + 1 => a :: rgL (a + 1) n
theorem rgD_map : ∀ (n : Nat) (a : Int), rgD a n = (rgL a n).map D.int
  | 0, _ => rfl
  | n + 1, a => by
    show D.int a :: rgD (a + 1) n = D.int a :: (rgL (a + 1) n).map D.int
    rw [rgD_map n (a + 1)]
def seqsI (n : Nat) : List (List Int) := permsP (rgL 1 n)
theorem seqsI_of {n : Nat} {ys : List D} (h : ys.Perm (rgD 1 n)) : ∃ l ∈ seqsI n, ys = l.map D.int := by
  have m := permsP_mem _ _ h
  rw [rgD_map, permsP_map] at m
  obtain ⟨l, hl, e⟩ := List.mem_map.mp m
  exact ⟨l, hl, e.symm⟩
theorem insP_perm {α : Type} (x : α) : ∀ (l m : List α), m ∈ insP x l → m.Perm (x :: l)
  | [], m, h => by
    rw [List.mem_singleton.mp h]
  | y :: l, m, h => by
    rcases List.mem_cons.mp h with rfl | h
    · exact List.Perm.refl _
    · obtain ⟨t, ht, rfl⟩ := List.mem_map.mp h
      exact ((insP_perm x l t ht).cons y).trans (List.Perm.swap ..)
theorem permsP_perm {α : Type} : ∀ (l m : List α), m ∈ permsP l → m.Perm l
  | [], m, h => by rw [List.mem_singleton.mp h]
  | x :: l, m, h => by
    obtain ⟨t, ht, hm⟩ := List.mem_flatMap.mp h
    exact (insP_perm x t m hm).trans ((permsP_perm l t ht).cons x)
theorem rgL_len : ∀ (n : Nat) (a : Int), (rgL a n).length = n
  | 0, _ => rfl
  | n + 1, a => congrArg Nat.succ (rgL_len n (a + 1))
theorem seqsI_len {n : Nat} {l : List Int} (h : l ∈ seqsI n) : l.length = n := by
  rw [(permsP_perm _ _ h).length_eq, rgL_len]
end L2.Dn
set_option Elab.async false
set_option linter.all false
set_option maxRecDepth 100000
/-! tests, the plus of the law, unknowns exchanged -/
namespace L2.Dn
open PySem PySem.Spec PyProof.Rows C8
def isOk (o : Option D) : Bool := o.isSome
theorem isOk_ok {o : Option D} (h : isOk o = true) : ∃ d, o = some d := Option.isSome_iff_exists.mp h
def isT (o : Option D) : Bool := match o with
  | some (.bool b) => b
  | _ => false
theorem isT_ok {o : Option D} (h : isT o = true) : o = some (.bool true) := by
  unfold isT at h
  split at h
  · rw [h]
  · cases h
def tupIs (o : Option D) (s : List Int) : Bool := match o with
  | some (.tuple xs) => (match ints? xs with
    | some l => beqL l s
    | none => false)
  | _ => false
theorem tupIs_ok {o : Option D} {s : List Int} (h : tupIs o s = true) : o = some (rowD s) := by
  unfold tupIs at h
  split at h
  · split at h
    · rename_i e
      rw [beqL_eq] at h
      rw [ints_eq e, of_decide_eq_true h]
    · cases h
  · cases h
theorem dDrop_eq {f : Den} {env : En} {ds s : DS} {a : D} (h : f env ds = some (a, s)) : dDropS f env ds = some (.nx env, s) := by
  unfold dDropS
  rw [h]
  rfl
theorem tNot_t {f : Den} {env : En} {ds s : DS} (h : f env ds = some (.bool true, s)) : tNotD (dTest f) env ds = some (false, s) := by
  unfold tNotD
  rw [dTest_of h]
  rfl
theorem dOr_f {t u : DenT} {env : En} {ds s s1 : DS} {b : Bool} (h1 : t env ds = some (false, s)) (h2 : u env s = some (b, s1)) : tOrD t u env ds = some (b, s1) := by
  unfold tOrD
  rw [h1]
  exact h2
/-! unknowns exchanged -/
def swpR (r : List Int) (i : Nat) : List Int := r.take (i - 1) ++ [r.getD i 0, r.getD (i - 1) 0] ++ r.drop (i + 1)
def turnTs (i : Nat) : PR → PR
  | [] => []
  | (r, c) :: p => (swpR r i, c) :: turnTs i p
def turnP (p : PR) (i : Nat) : PR := putsP [] (turnTs i p)
def swpDen (j : Nat) (l : Nat) : Den := d2 gAdd (d2 gAdd (dSl (dRd j) none (some (d2 gSub (dRd l) (dC (.int 1))))) (dTup (aCons (d2 gIx (dRd j) (dRd l)) (aCons (d2 gIx (dRd j) (d2 gSub (dRd l) (dC (.int 1)))) (aNil))))) (dSl (dRd j) (some (d2 gAdd (dRd l) (dC (.int 1)))) none)
theorem swpDen_eq {j l : Nat} {env : En} {ds : DS} {r : List Int} {i : Nat} (hj : dRd j env ds = some (rowD r, ds)) (hi : dRd l env ds = some (.int (i : Nat), ds)) (h1 : 1 ≤ i) (h2 : i < r.length) (h3 : r.length < 1000) : swpDen j l env ds = some (rowD (swpR r i), ds) := by
  have hm : d2 gSub (dRd l) (dC (.int 1)) env ds = some (.int ((i : Int) - 1), ds) := d2_eq hi (b := .int 1) rfl rfl
  have hp : d2 gAdd (dRd l) (dC (.int 1)) env ds = some (.int ((i : Int) + 1), ds) := d2_eq hi (b := .int 1) rfl rfl
  have e1 : dSl (dRd j) none (some (d2 gSub (dRd l) (dC (.int 1)))) env ds = some (.tuple (cutD (r.map D.int) none (some ((i : Int) - 1))), ds) := by
    unfold dSl dPart
    rw [hj]
    unfold bnd
    dsimp only
    rw [hm]
  have e3 : dSl (dRd j) (some (d2 gAdd (dRd l) (dC (.int 1)))) none env ds = some (.tuple (cutD (r.map D.int) (some ((i : Int) + 1)) none), ds) := by
    unfold dSl dPart
    rw [hj]
    unfold bnd
    dsimp only
    rw [hp]
  have x1 : d2 gIx (dRd j) (dRd l) env ds = some (.int (r.getD i 0), ds) := d2_eq hj hi (ixRow r i h2)
  have x2 : d2 gIx (dRd j) (d2 gSub (dRd l) (dC (.int 1))) env ds = some (.int (r.getD (i - 1) 0), ds) := by
    refine d2_eq hj hm ?_
    have : ((i : Int) - 1) = ((i - 1 : Nat) : Int) := by omega
    rw [this]
    exact ixRow r (i - 1) (by omega)
  have e2 : dTup (aCons (d2 gIx (dRd j) (dRd l)) (aCons (d2 gIx (dRd j) (d2 gSub (dRd l) (dC (.int 1)))) (aNil))) env ds = some (.tuple [.int (r.getD i 0), .int (r.getD (i - 1) 0)], ds) := by
    unfold dTup
    rw [aCons_eq x1 (aCons1 x2)]
    rfl
  rw [cutD_pre r i h1 h2] at e1
  rw [cutD_post r i h2] at e3
  have e4 := d2_eq (g := gAdd) e1 e2 (c := .tuple ((r.take (i - 1)).map D.int ++ [.int (r.getD i 0), .int (r.getD (i - 1) 0)])) (gAddT (by simp; omega))
  have e5 := d2_eq (g := gAdd) e4 e3 (c := .tuple (((r.take (i - 1)).map D.int ++ [.int (r.getD i 0), .int (r.getD (i - 1) 0)]) ++ (r.drop (i + 1)).map D.int)) (gAddT (by simp; omega))
  unfold swpDen
  rw [e5]
  simp [rowD, swpR]
def U5 (R : Option Sl) (i : Nat) (acc : PR) (a3 a4 : Option Sl) : En := [R, vS (.int (i : Nat)), some (.own (toD acc)), a3, a4]
def turnBody : DenS := dSeq (dPut 2 (dVar 4) (swpDen 3 1)) (dNx)
theorem turn_loop (R : Option Sl) (i : Nat) (h1 : 1 ≤ i) (ds : DS) : ∀ (p acc : PR) (a3 a4 : Option Sl), RowsOk i p → NdP acc → acc.length + p.length < 100000 →
    ∃ b3 b4, forLoop (gPair 3 4) turnBody (itsP p) (U5 R i acc a3 a4) ds = some (.nx (U5 R i (putsP acc (turnTs i p)) b3 b4), ds)
  | [], acc, a3, a4, _, _, _ => ⟨a3, a4, rfl⟩
  | (r, c) :: p, acc, a3, a4, ok, nd, hl => by
    obtain ⟨h2, h3⟩ := ok (r, c) (List.mem_cons_self ..)
    simp only [List.length_cons] at hl
    obtain ⟨b3, b4, ih⟩ := turn_loop R i h1 ds p (putP acc (swpR r i) c) (vS (rowD r)) (vS (.int c)) (fun e m => ok e (List.mem_cons_of_mem _ m)) (nd_putP _ _ nd) (by have := putP_len acc (swpR r i) c; omega)
    refine ⟨b3, b4, ?_⟩
    have e1 := putAt (i := 2) (kd := swpDen 3 1) (vd := dVar 4) (env := U5 R i acc (vS (rowD r)) (vS (.int c))) (ds := ds) (p := acc) (k := swpR r i) (c := c) rfl (swpDen_eq rfl rfl h1 h2 h3) rfl nd (by omega)
    have e2 : turnBody (U5 R i acc (vS (rowD r)) (vS (.int c))) ds = some (.nx (U5 R i (putP acc (swpR r i) c) (vS (rowD r)) (vS (.int c))), ds) := (dSeq_eq e1).trans rfl
    exact (forLoop_cons (d := .tuple [rowD r, .int c]) rfl e2).trans ih
theorem turnTs_len (i : Nat) : ∀ (p : PR), (turnTs i p).length = p.length
  | [] => rfl
  | (r, c) :: p => congrArg Nat.succ (turnTs_len i p)
end L2.Dn
set_option Elab.async false
set_option linter.all false
set_option maxRecDepth 100000
/-! tellings: a basis of sums, what they come to -/
namespace L2.Dn
open PySem PySem.Spec PyProof.Rows C8
theorem nd_len {α : Type} [DecidableEq α] : ∀ (l m : List α), l.Nodup → (∀ x ∈ l, x ∈ m) → l.length ≤ m.length
  | [], m, _, _ => Nat.zero_le _
  | a :: l, m, nd, sub => by
    have nd' := List.nodup_cons.mp nd
    have ha : a ∈ m := sub a (List.mem_cons_self ..)
    have hl := (List.perm_cons_erase ha).length_eq
    have ih := nd_len l (m.erase a) nd'.2 fun x hx => (List.mem_erase_of_ne (fun z => nd'.1 (by rw [← z]; exact hx))).mpr (sub x (List.mem_cons_of_mem _ hx))
    simp only [List.length_cons] at hl ⊢
    omega
def smallB : PR → Bool
  | [] => true
  | (_, v) :: r => (match decide (-(2 ^ 64) < v) && decide (v < 2 ^ 64) with
    | true => smallB r
    | false => false)
theorem smallB_ok : ∀ {p : PR}, smallB p = true → SmallP p
  | [], _, e, m => nomatch m
  | (k, v) :: r, h, e, m => by
    unfold smallB at h
    split at h
    · rename_i h1
      rcases List.mem_cons.mp m with q | q
      · subst q
        rw [Bool.and_eq_true] at h1
        exact ⟨of_decide_eq_true h1.1, of_decide_eq_true h1.2⟩
      · exact smallB_ok h e q
    · cases h
def lkIs (o : Option Int) (n : Int) : Bool := match o with
  | some m => decide (m = n)
  | none => false
theorem lkIs_ok {o : Option Int} {n : Int} (h : lkIs o n = true) : o = some n := by
  unfold lkIs at h
  split at h
  · rw [of_decide_eq_true h]
  · cases h
def beqN : List Nat → List Nat → Bool
  | [], [] => true
  | a :: r, b :: t => (match Nat.beq a b with
    | true => beqN r t
    | false => false)
  | _, _ => false
theorem beqN_ok : ∀ {a b : List Nat}, beqN a b = true → a = b
  | [], [], _ => rfl
  | [], _ :: _, h => by cases h
  | _ :: _, [], h => by cases h
  | a :: r, b :: t, h => by
    unfold beqN at h
    split at h
    · rename_i e
      rw [Nat.eq_of_beq_eq_true e, beqN_ok h]
    · cases h
def seqR (s : List Int) : Bool := match roadR (rowD s) with
  | some (m, l) => (match decide (m = ((s.length : Nat) : Int)) with
    | true => beqN l (roadP 20 s)
    | false => false)
  | none => false
theorem seqR_ok {s : List Int} (h : seqR s = true) : roadR (rowD s) = some (((s.length : Nat) : Int), roadP 20 s) := by
  unfold seqR at h
  split at h
  · rename_i m l e
    split at h
    · rename_i e2
      rw [e, of_decide_eq_true e2, beqN_ok h]
    · cases h
  · cases h
def subB (ST : List (List Int)) : PR → Bool
  | [] => true
  | (k, _) :: p => (match ST.any (fun x => beqL k x) with
    | true => subB ST p
    | false => false)
theorem subB_ok {ST : List (List Int)} : ∀ {p : PR}, subB ST p = true → ∀ k ∈ kysP p, k ∈ ST
  | [], _, k, m => nomatch m
  | (k', v) :: p, h, k, m => by
    unfold subB at h
    split at h
    · rename_i e
      rcases List.mem_cons.mp m with rfl | m
      · obtain ⟨x, hx, e⟩ := List.any_eq_true.mp e
        rw [beqL_eq] at e
        rw [of_decide_eq_true e]
        exact hx
      · exact subB_ok h k m
    · cases h
theorem hOk_in {ST : List (List Int)} (hs : nodupI (ST.map hT) = true) {p : PR} (nd : NdP p) (h : ∀ k ∈ kysP p, k ∈ ST) : hOk p = true := by
  refine hOk_sub (q := ST.map fun r => (r, 1)) (fun k hk => ?_) nd ?_
  · have e : kysP (ST.map fun r => (r, (1 : Int))) = ST := by
      unfold kysP
      rw [List.map_map]
      exact List.map_id _
    rw [e]
    exact h k hk
  · rw [hOk_iff, List.map_map]
    exact (nodupI_iff _).mp hs
theorem lin_ne (w : List Int → Int) : ∀ (p : PR), lin w p ≠ 0 → ∃ e ∈ p, w e.1 ≠ 0
  | [], h => absurd rfl h
  | (k, v) :: p, h => by
    by_cases e : w k = 0
    · have : lin w p ≠ 0 := fun q => h (by show v * w k + lin w p = 0; rw [e, q]; omega)
      obtain ⟨x, hx, h2⟩ := lin_ne w p this
      exact ⟨x, List.mem_cons_of_mem _ hx, h2⟩
    · exact ⟨(k, v), List.mem_cons_self .., e⟩
theorem sub_len {ST : List (List Int)} {p : PR} (nd : NdP p) (h : ∀ k ∈ kysP p, k ∈ ST) : p.length ≤ ST.length := by
  have := nd_len (kysP p) ST nd h
  unfold kysP at this
  rwa [List.length_map] at this
theorem gtI_tot {a b : List Int} (h : a ≠ b) (h2 : gtI a b = false) : gtI b a = true := by
  cases q : gtI b a with
  | true => rfl
  | false => exact absurd (gtI_eq _ _ h2 q) h
theorem gtI_le {x a r : List Int} (h1 : gtI x a = false) (h2 : gtI a r = false) : gtI x r = false := by
  cases q : gtI x r with
  | false => rfl
  | true =>
    by_cases e : a = r
    · rw [e] at h1
      rw [q] at h1
      cases h1
    · rw [gtI_trans _ _ _ q (gtI_tot e h2)] at h1
      cases h1
theorem lin_at (w : List Int → Int) (s : List Int) : ∀ {T : PR}, NdP T → w s = 1 → (∀ e ∈ T, e.1 ≠ s → w e.1 = 0) → lin w T = cfs T s
  | [], _, _, _ => rfl
  | (k, v) :: T, nd, h1, h2 => by
    have nd' := List.nodup_cons.mp nd
    have ih := lin_at w s nd'.2 h1 fun e m => h2 e (List.mem_cons_of_mem _ m)
    show v * w k + lin w T = _
    rw [ih, cfs_cons]
    by_cases e : k = s
    · rw [if_pos e, e, h1, Int.mul_one]
    · rw [if_neg e, h2 (k, v) (List.mem_cons_self ..) e, Int.mul_zero]
def remP (s : List Int) : PR → PR
  | [] => []
  | (k, v) :: T => (match beqL k s with
    | true => T
    | false => (k, v) :: remP s T)
theorem lin_remP (w : List Int → Int) (s : List Int) (n : Int) : ∀ {T : PR}, NdP T → (s, n) ∈ T → lin w T = n * w s + lin w (remP s T)
  | (k, v) :: T, nd, m => by
    have nd' := List.nodup_cons.mp nd
    unfold remP
    rw [beqL_eq]
    rcases List.mem_cons.mp m with q | q
    · cases q
      rw [decide_eq_true rfl]
      rfl
    · have : k ≠ s := fun e => nd'.1 (by rw [e]; exact List.mem_map.mpr ⟨_, q, rfl⟩)
      rw [decide_eq_false this]
      show v * w k + lin w T = n * w s + (v * w k + lin w (remP s T))
      rw [lin_remP w s n nd'.2 q]
      omega
theorem remP_sub (s : List Int) : ∀ (T : PR), List.Sublist (remP s T) T
  | [] => .slnil
  | (k, v) :: T => by
    unfold remP
    split
    · exact List.sublist_cons_self _ _
    · exact (remP_sub s T).cons₂ _
theorem remP_len {s : List Int} : ∀ {T : PR} {n : Int}, (s, n) ∈ T → (remP s T).length + 1 = T.length
  | (k, v) :: T, n, m => by
    unfold remP
    rw [beqL_eq]
    by_cases e : k = s
    · rw [decide_eq_true e]
      rfl
    · rw [decide_eq_false e]
      rcases List.mem_cons.mp m with q | q
      · cases q
        exact absurd rfl e
      · have := remP_len q
        simp only [List.length_cons]
        omega
theorem remP_key {s : List Int} : ∀ {T : PR}, NdP T → s ∉ kysP (remP s T)
  | [], _, h => nomatch h
  | (k, v) :: T, nd, h => by
    have nd' := List.nodup_cons.mp nd
    unfold remP at h
    rw [beqL_eq] at h
    by_cases e : k = s
    · rw [decide_eq_true e] at h
      rw [e] at nd'
      exact nd'.1 h
    · rw [decide_eq_false e] at h
      rcases List.mem_cons.mp h with q | q
      · exact e q.symm
      · exact remP_key nd'.2 q
theorem cfs_lin : ∀ (T : PR) (s : List Int), cfs T s = lin (fun x => if x = s then 1 else 0) T
  | [], _ => rfl
  | (k, v) :: T, s => by
    show (if k = s then v else 0) + cfs T s = v * (if k = s then 1 else 0) + lin _ T
    rw [cfs_lin T s]
    split <;> omega
end L2.Dn
set_option Elab.async false
set_option linter.all false
set_option maxRecDepth 100000
/-! the program's functions with their tests; cut and exchanged by coefficients -/
namespace L2.Dn
open PySem PySem.Spec PyProof.Rows C8
theorem allE_ok : ∀ {r : List Int}, allE r = true → ∀ x ∈ r, 0 ≤ x ∧ x ≤ 60
  | [], _, x, m => nomatch m
  | y :: r, h, x, m => by
    unfold allE at h
    split at h
    · rename_i e
      rcases List.mem_cons.mp m with rfl | m
      · unfold expOk at e
        split at e
        · rename_i e0
          exact ⟨of_decide_eq_true e0, of_decide_eq_true e⟩
        · cases e
      · exact allE_ok h x m
    · cases h
theorem allE_of : ∀ {r : List Int}, (∀ x ∈ r, 0 ≤ x ∧ x ≤ 60) → allE r = true
  | [], _ => rfl
  | y :: r, h => by
    have h1 := h y (List.mem_cons_self ..)
    unfold allE expOk
    rw [decide_eq_true h1.1, decide_eq_true h1.2]
    exact allE_of fun x m => h x (List.mem_cons_of_mem _ m)
theorem box_poly {p : PR} (h : polyOk p = true) : Box 60 5 p := fun e m => by
  obtain ⟨h1, h2, _⟩ := (polyOk_iff p).mp h e m
  exact ⟨h1, allE_ok h2⟩
theorem poly_box {p : PR} (w : WfP p) (h : Box 60 5 p) : polyOk p = true := (polyOk_iff p).mpr fun e m => ⟨(h e m).1, allE_of (h e m).2, w.nz e m⟩
theorem poly_rows {p : PR} (h : polyOk p = true) {i : Nat} (hi : i ≤ 4) : RowsOk i p := fun e m => by
  have := (box_poly h e m).1
  omega
theorem needpoly {p : PR} (h : polyOk p = true) (hl : p.length ≤ 100000) : f_need_polynomial [toD p] = some .none := by
  have e1 : tNotD (dTest (dCallP 1 f_is_polynomial_of (aCons (dVar 0) (aNil)))) (envP 1 [toD p]) ds0 = some (false, ds0) := tNot_t (dCallP_eq (as := [toD p]) rfl rfl (tr_pol p h hl))
  have e2 : d_need_polynomial (envP 1 [toD p]) ds0 = some (.nx (envP 1 [toD p]), ds0) := (dSeq_eq ((dIfS_f e1).trans rfl)).trans rfl
  show (outD (d_need_polynomial (envP 1 [toD p]) ds0)).map (·.1) = _
  rw [e2]
  rfl
theorem cutTs_len60 {p : PR} (h : polyOk p = true) {i : Nat} (h1 : 1 ≤ i) (h2 : i ≤ 4) : (cutTs i p).length ≤ 60 * p.length := (box_cutTs (B := 60) (n := 5) (by decide) h1 (by omega) (box_poly h)).2
theorem isnum (m : Int) : f_is_number [.int m] = some (.bool true) := rfl
theorem mulP_len (p q : PR) : (mulP p q).length ≤ p.length * q.length := by
  have h1 := keepP_len (accP [] (mulTs q p))
  have h2 := accP_len (mulTs q p) []
  rw [mulTs_len] at h2
  simp only [List.length_nil] at h2
  unfold mulP
  omega
theorem gEqU_row (s : List Int) : gEqU (rowD s) (rowD s) = some (.bool true) := by
  have e1 : eqOk 8 (rowD s) = true := by
    show (s.map D.int).all (eqOk 7) = true
    rw [List.all_eq_true]
    intro x hx
    obtain ⟨y, _, rfl⟩ := List.mem_map.mp hx
    rfl
  have e2 : deq 8 (rowD s) (rowD s) = true := by
    show all2 (deq 7) (s.map D.int) (s.map D.int) = true
    induction s with
    | nil => rfl
    | cons a s ih =>
      show (decide (a = a) && all2 (deq 7) (s.map D.int) (s.map D.int)) = true
      rw [ih (by
        show (s.map D.int).all (eqOk 7) = true
        rw [List.all_eq_true]
        intro x hx
        obtain ⟨y, _, rfl⟩ := List.mem_map.mp hx
        rfl)]
      simp
  unfold gEqU gEqD
  rw [e1, e2]
  rfl
/-! ### by coefficients -/
theorem lin_cong2 {w w' : List Int → Int} : ∀ {T : PR}, (∀ e ∈ T, w e.1 = w' e.1) → lin w T = lin w' T
  | [], _ => rfl
  | (k, v) :: T, h => by
    show v * w k + lin w T = v * w' k + lin w' T
    have h1 : w k = w' k := h (k, v) (List.mem_cons_self ..)
    rw [h1, lin_cong2 fun e m => h e (List.mem_cons_of_mem _ m)]
theorem cfs_turnTs (i : Nat) (k : List Int) : ∀ (p : PR), cfs (turnTs i p) k = lin (fun r => if swpR r i = k then 1 else 0) p
  | [] => rfl
  | (r, c) :: p => by
    show (if swpR r i = k then c else 0) + cfs (turnTs i p) k = c * (if swpR r i = k then 1 else 0) + lin _ p
    rw [cfs_turnTs i k p]
    split <;> omega
theorem swpR_len {r : List Int} {i : Nat} (h1 : 1 ≤ i) (h2 : i < r.length) : (swpR r i).length = r.length := by
  unfold swpR
  simp
  omega
theorem swpR_inv {r : List Int} {i : Nat} (h1 : 1 ≤ i) (h2 : i < r.length) : swpR (swpR r i) i = r := by
  have hd : r = r.take (i - 1) ++ (r.getD (i - 1) 0 :: r.getD i 0 :: r.drop (i + 1)) := by
    have a1 : r.drop (i - 1) = r.getD (i - 1) 0 :: r.drop i := by
      rw [List.drop_eq_getElem_cons (by omega)]
      have : i - 1 + 1 = i := by omega
      rw [this]
      simp [List.getD, show i - 1 < r.length by omega]
    have a2 : r.drop i = r.getD i 0 :: r.drop (i + 1) := by
      rw [List.drop_eq_getElem_cons h2]
      simp [List.getD, h2]
    rw [← a2, ← a1, List.take_append_drop]
  generalize hp : r.take (i - 1) = pre at hd
  generalize hq : r.drop (i + 1) = post at hd
  generalize hx : r.getD (i - 1) 0 = x at hd
  generalize hy : r.getD i 0 = y at hd
  have lp : pre.length = i - 1 := by rw [← hp, List.length_take]; omega
  have e1 : swpR r i = pre ++ (y :: x :: post) := by
    unfold swpR
    rw [hp, hq, hx, hy]
    simp
  rw [e1]
  unfold swpR
  have t1 : (pre ++ (y :: x :: post)).take (i - 1) = pre := by rw [← lp]; simp
  have t2 : (pre ++ (y :: x :: post)).drop (i + 1) = post := by
    have : i + 1 = pre.length + 2 := by omega
    rw [this]
    simp
  have t3 : (pre ++ (y :: x :: post)).getD i 0 = x := by
    have : i = pre.length + 1 := by omega
    rw [this]
    simp [List.getD]
  have t4 : (pre ++ (y :: x :: post)).getD (i - 1) 0 = y := by
    rw [← lp]
    simp [List.getD]
  rw [t1, t2, t3, t4, hd]
  simp
theorem nd_turnTs {i : Nat} (h1 : 1 ≤ i) : ∀ {p : PR}, RowsOk i p → NdP p → NdP (turnTs i p)
  | [], _, _ => List.nodup_nil
  | (r, c) :: p, ok, nd => by
    have nd' := List.nodup_cons.mp nd
    refine List.nodup_cons.mpr ⟨fun m => ?_, nd_turnTs h1 (fun e m => ok e (List.mem_cons_of_mem _ m)) nd'.2⟩
    have : ∀ p : PR, ∀ k ∈ kysP (turnTs i p), ∃ e ∈ p, k = swpR e.1 i := by
      intro p
      induction p with
      | nil => intro k hk; exact nomatch hk
      | cons x p ih =>
        intro k hk
        obtain ⟨r, c⟩ := x
        rcases List.mem_cons.mp hk with rfl | hk
        · exact ⟨(r, c), List.mem_cons_self .., rfl⟩
        · obtain ⟨e, he, ek⟩ := ih k hk
          exact ⟨e, List.mem_cons_of_mem _ he, ek⟩
    obtain ⟨e, he, ek⟩ := this p _ m
    have ek : swpR r i = swpR e.1 i := ek
    have h2 : i < r.length := (ok (r, c) (List.mem_cons_self ..)).1
    have h3 := (ok e (List.mem_cons_of_mem _ he)).1
    have : r = e.1 := by rw [← swpR_inv h1 h2, ek, swpR_inv h1 h3]
    exact nd'.1 (by show r ∈ _; rw [this]; exact List.mem_map.mpr ⟨e, he, rfl⟩)
theorem turnP_eq {i : Nat} (h1 : 1 ≤ i) {p : PR} (ok : RowsOk i p) (nd : NdP p) : turnP p i = turnTs i p := putsP_fresh _ [] (nd_turnTs h1 ok nd)
theorem wf_turnP {i : Nat} (h1 : 1 ≤ i) {p : PR} (ok : RowsOk i p) (w : WfP p) : WfP (turnP p i) := by
  rw [turnP_eq h1 ok w.nd]
  refine ⟨nd_turnTs h1 ok w.nd, ?_⟩
  have : ∀ p : PR, (∀ e ∈ p, e.2 ≠ 0) → ∀ e ∈ turnTs i p, e.2 ≠ 0 := by
    intro p
    induction p with
    | nil => intro _ e m; exact nomatch m
    | cons x p ih =>
      intro h e m
      obtain ⟨r, c⟩ := x
      rcases List.mem_cons.mp m with rfl | m
      · exact h (r, c) (List.mem_cons_self ..)
      · exact ih (fun e m => h e (List.mem_cons_of_mem _ m)) e m
  exact this p w.nz
theorem cfs_turnP {i : Nat} (h1 : 1 ≤ i) {p : PR} (ok : RowsOk i p) (nd : NdP p) (k : List Int) : cfs (turnP p i) k = lin (fun r => if swpR r i = k then 1 else 0) p := by
  rw [turnP_eq h1 ok nd, cfs_turnTs]
end L2.Dn
set_option Elab.async false
set_option linter.all false
set_option maxRecDepth 100000
set_option maxHeartbeats 0
/-! k67: swaps, the ends of a drawing -/
namespace L2.Dn
open PySem PySem.Spec PyProof.Rows C8
abbrev pD (k : List Int) : D := .ptup (k.map D.int)
/-! ### swaps -/
theorem swp_split {r : List Int} {i : Nat} (h1 : 1 ≤ i) (h2 : i < r.length) : r = r.take (i - 1) ++ (r.getD (i - 1) 0 :: r.getD i 0 :: r.drop (i + 1)) := by
  have a1 : r.drop (i - 1) = r.getD (i - 1) 0 :: r.drop i := by
    rw [List.drop_eq_getElem_cons (by omega)]
    have : i - 1 + 1 = i := by omega
    rw [this]
    simp [List.getD, show i - 1 < r.length by omega]
  have a2 : r.drop i = r.getD i 0 :: r.drop (i + 1) := by
    rw [List.drop_eq_getElem_cons h2]
    simp [List.getD, h2]
  rw [← a2, ← a1, List.take_append_drop]
theorem swp_mid (pre post : List Int) (x y : Int) : swpP (pre ++ x :: y :: post) (pre.length + 1) = pre ++ y :: x :: post := by
  unfold swpP
  have t1 : (pre ++ (x :: y :: post)).take (pre.length + 1 - 1) = pre := by simp
  have t2 : (pre ++ (x :: y :: post)).drop (pre.length + 1 + 1) = post := by
    have : pre.length + 1 + 1 = pre.length + 2 := rfl
    rw [this]
    simp
  have t3 : (pre ++ (x :: y :: post)).getD (pre.length + 1) 0 = y := by simp [List.getD]
  have t4 : (pre ++ (x :: y :: post)).getD (pre.length + 1 - 1) 0 = x := by simp [List.getD]
  rw [t1, t2, t3, t4]
  simp
/-- a row split at a place -/
theorem swp_at {r : List Int} {i : Nat} (h1 : 1 ≤ i) (h2 : i < r.length) : ∃ pre post x y, r = pre ++ x :: y :: post ∧ i = pre.length + 1 := by
  refine ⟨r.take (i - 1), r.drop (i + 1), r.getD (i - 1) 0, r.getD i 0, swp_split h1 h2, ?_⟩
  rw [List.length_take]
  omega
theorem swp_len {r : List Int} {i : Nat} (h1 : 1 ≤ i) (h2 : i < r.length) : (swpP r i).length = r.length := by
  obtain ⟨pre, post, x, y, rfl, rfl⟩ := swp_at h1 h2
  rw [swp_mid]
  simp
theorem swp_perm {r : List Int} {i : Nat} (h1 : 1 ≤ i) (h2 : i < r.length) : (swpP r i).Perm r := by
  obtain ⟨pre, post, x, y, rfl, rfl⟩ := swp_at h1 h2
  rw [swp_mid]
  exact List.Perm.append_left _ (List.Perm.swap ..)
theorem swp_inv {r : List Int} {i : Nat} (h1 : 1 ≤ i) (h2 : i < r.length) : swpP (swpP r i) i = r := by
  obtain ⟨pre, post, x, y, rfl, rfl⟩ := swp_at h1 h2
  rw [swp_mid, swp_mid]
theorem swp_map (f : Int → Int) {r : List Int} {i : Nat} (h1 : 1 ≤ i) (h2 : i < r.length) : swpP (r.map f) i = (swpP r i).map f := by
  obtain ⟨pre, post, x, y, rfl, rfl⟩ := swp_at h1 h2
  rw [swp_mid]
  have := swp_mid (pre.map f) (post.map f) (f x) (f y)
  rw [List.length_map] at this
  simp only [List.map_append, List.map_cons]
  exact this
theorem swp_snoc {r : List Int} {i : Nat} (c : Int) (h1 : 1 ≤ i) (h2 : i < r.length) : swpP (r ++ [c]) i = swpP r i ++ [c] := by
  obtain ⟨pre, post, x, y, rfl, rfl⟩ := swp_at h1 h2
  rw [swp_mid]
  have := swp_mid pre (post ++ [c]) x y
  simpa using this
theorem swp_cons {r : List Int} {i : Nat} (c : Int) (h1 : 1 ≤ i) (h2 : i < r.length) : swpP (c :: r) (i + 1) = c :: swpP r i := by
  obtain ⟨pre, post, x, y, rfl, rfl⟩ := swp_at h1 h2
  rw [swp_mid]
  exact swp_mid (c :: pre) post x y
/-! ### drawings -/
def Crs (n : Nat) (l : List Int) : Prop := ∀ x ∈ l, 1 ≤ x ∧ x < n
def runP (s : List Int) : List Int → List Int
  | [] => s
  | i :: l => runP (swpP s i.toNat) l
theorem Crs.tail {n : Nat} {x : Int} {l : List Int} (h : Crs n (x :: l)) : Crs n l := fun y m => h y (List.mem_cons_of_mem _ m)
theorem Crs.head {n : Nat} {x : Int} {l : List Int} (h : Crs n (x :: l)) : 1 ≤ x.toNat ∧ x.toNat < n := by
  have := h x (List.mem_cons_self ..)
  omega
theorem run_len {n : Nat} : ∀ {l s : List Int}, Crs n l → s.length = n → (runP s l).length = n
  | [], s, _, h => h
  | x :: l, s, hc, h => run_len (l := l) hc.tail (by rw [swp_len hc.head.1 (by rw [h]; exact hc.head.2), h])
theorem run_perm {n : Nat} : ∀ {l s : List Int}, Crs n l → s.length = n → (runP s l).Perm s
  | [], s, _, h => List.Perm.refl _
  | x :: l, s, hc, h => (run_perm (l := l) hc.tail (by rw [swp_len hc.head.1 (by rw [h]; exact hc.head.2), h])).trans (swp_perm hc.head.1 (by rw [h]; exact hc.head.2))
theorem run_append (s : List Int) : ∀ (l m : List Int) , runP s (l ++ m) = runP (runP s l) m := by
  intro l
  induction l generalizing s with
  | nil => intro m; rfl
  | cons x l ih => intro m; exact ih (swpP s x.toNat) m
theorem run_map {n : Nat} (f : Int → Int) : ∀ {l s : List Int}, Crs n l → s.length = n → runP (s.map f) l = (runP s l).map f
  | [], s, _, _ => rfl
  | x :: l, s, hc, h => by
    have h2 : x.toNat < s.length := by rw [h]; exact hc.head.2
    show runP (swpP (s.map f) x.toNat) l = (runP (swpP s x.toNat) l).map f
    rw [swp_map f hc.head.1 h2]
    exact run_map f (l := l) hc.tail (by rw [swp_len hc.head.1 h2, h])
theorem run_snoc {n : Nat} (c : Int) : ∀ {l s : List Int}, Crs n l → s.length = n → runP (s ++ [c]) l = runP s l ++ [c]
  | [], s, _, _ => rfl
  | x :: l, s, hc, h => by
    have h2 : x.toNat < s.length := by rw [h]; exact hc.head.2
    show runP (swpP (s ++ [c]) x.toNat) l = runP (swpP s x.toNat) l ++ [c]
    rw [swp_snoc c hc.head.1 h2]
    exact run_snoc c (l := l) hc.tail (by rw [swp_len hc.head.1 h2, h])
theorem run_cons {n : Nat} (c : Int) : ∀ {l s : List Int}, Crs n l → s.length = n → runP (c :: s) (l.map (· + 1)) = c :: runP s l
  | [], s, _, _ => rfl
  | x :: l, s, hc, h => by
    have h2 : x.toNat < s.length := by rw [h]; exact hc.head.2
    have h1 := hc x (List.mem_cons_self ..)
    show runP (swpP (c :: s) (x + 1).toNat) (l.map (· + 1)) = c :: runP (swpP s x.toNat) l
    have : (x + 1).toNat = x.toNat + 1 := by omega
    rw [this, swp_cons c hc.head.1 h2]
    exact run_cons c (l := l) hc.tail (by rw [swp_len hc.head.1 h2, h])
/-- the ends of a drawing -/
def endP (n : Nat) (l : List Int) : List Int := runP (rgL 1 n) l
theorem end_len {n : Nat} {l : List Int} (h : Crs n l) : (endP n l).length = n := run_len h (rgL_len n 1)
theorem mapint_inj : ∀ {a b : List Int}, a.map D.int = b.map D.int → a = b
  | [], [], _ => rfl
  | [], _ :: _, h => by cases h
  | _ :: _, [], h => by cases h
  | x :: a, y :: b, h => by
    rw [List.map_cons, List.map_cons] at h
    injection h with h1 h2
    injection h1 with h1
    rw [h1, mapint_inj h2]
theorem end_mem {n : Nat} {l : List Int} (h : Crs n l) : endP n l ∈ seqsI n := by
  have p : ((endP n l).map D.int).Perm (rgD 1 n) := by
    rw [rgD_map]
    exact (run_perm h (rgL_len n 1)).map _
  obtain ⟨m, hm, e⟩ := seqsI_of p
  rw [mapint_inj e]
  exact hm
theorem swp_mem {n : Nat} {s : List Int} (hs : s ∈ seqsI n) {i : Nat} (h1 : 1 ≤ i) (h2 : i < n) : swpP s i ∈ seqsI n := by
  have hl := seqsI_len hs
  have p : ((swpP s i).map D.int).Perm (rgD 1 n) := by
    rw [rgD_map]
    exact ((swp_perm h1 (by omega)).trans (permsP_perm _ _ hs)).map _
  obtain ⟨m, hm, e⟩ := seqsI_of p
  rw [mapint_inj e]
  exact hm
theorem rgL_snoc : ∀ (n : Nat) (a : Int), rgL a (n + 1) = rgL a n ++ [a + (n : Nat)]
  | 0, a => by simp [rgL]
  | n + 1, a => by
    show a :: rgL (a + 1) (n + 1) = a :: (rgL (a + 1) n ++ [a + ((n + 1 : Nat) : Int)])
    rw [rgL_snoc n (a + 1)]
    congr 3
    omega
theorem rgL_succ : ∀ (n : Nat) (a : Int), (rgL a n).map (· + 1) = rgL (a + 1) n
  | 0, a => rfl
  | n + 1, a => by
    show (a + 1) :: (rgL (a + 1) n).map (· + 1) = _
    rw [rgL_succ n (a + 1)]
    rfl
theorem end_wide {n : Nat} {l : List Int} (h : Crs n l) : endP (n + 1) l = endP n l ++ [((n + 1 : Nat) : Int)] := by
  unfold endP
  rw [rgL_snoc, run_snoc _ h (rgL_len n 1)]
  congr 2
  omega
theorem end_far {n : Nat} {l : List Int} (h : Crs n l) : endP (n + 1) (l.map (· + 1)) = 1 :: (endP n l).map (· + 1) := by
  unfold endP
  show runP (1 :: rgL (1 + 1) n) _ = _
  rw [← rgL_succ, run_cons 1 h (by rw [List.length_map, rgL_len]), run_map _ h (rgL_len n 1)]
/-! ### the walk through swapped, ends -/
theorem gCatP_pp {a b : List D} (h : a.length + b.length ≤ 100000) : gCatP (.ptup a) (.ptup b) = some (.ptup (a ++ b)) := by
  show (if a.length + b.length ≤ 100000 then some (match a, b with | [], _ => D.ptup b | _, [] => .ptup a | _, _ => .ptup (a ++ b)) else none) = _
  rw [if_pos h]
  cases a with
  | nil => rfl
  | cons x a =>
    cases b with
    | nil => rw [List.append_nil]
    | cons y b => rfl
theorem tr_swpP {d : D} {r : List Int} {i : Nat} (hd : tupD? d = some (r.map D.int)) (h1 : 1 ≤ i) (h2 : i < r.length) (h3 : r.length < 1000) : f_swapped_p [d, .int (i : Nat)] = some (pD (swpP r i)) := by
  have x0 : gIx d (.int (i : Nat)) = some (.int (r.getD i 0)) := by
    cases d with
    | tuple xs => cases hd; exact ixRow r i h2
    | ptup xs => cases hd; exact ixRow r i h2
    | _ => cases hd
  have x1 : gIx d (.int ((i : Int) - 1)) = some (.int (r.getD (i - 1) 0)) := by
    have : ((i : Int) - 1) = ((i - 1 : Nat) : Int) := by omega
    rw [this]
    cases d with
    | tuple xs => cases hd; exact ixRow r (i - 1) (by omega)
    | ptup xs => cases hd; exact ixRow r (i - 1) (by omega)
    | _ => cases hd
  let env : En := [vS d, vS (.int (i : Nat))]
  have e1 : dSlP (dRd 0) none (some (d2 gSub (dRd 1) (dC (.int 1)))) env ds0 = some (.ptup ((r.take (i - 1)).map D.int), ds0) := by
    show (match tupD? d with | some xs => some (if HT.sIx xs.length 0 none = 0 ∧ HT.sIx xs.length xs.length (some ((i : Int) - 1)) = xs.length then d else .ptup (cutD xs none (some ((i : Int) - 1))), ds0) | none => none) = _
    rw [hd]
    dsimp only
    rw [if_neg (fun z => by
      have z := z.2
      have e : ((i : Int) - 1) = ((i - 1 : Nat) : Int) := by omega
      rw [e, HT.sIx_nat, List.length_map] at z
      omega), cutD_pre r i h1 h2]
  have e3 : dSlP (dRd 0) (some (d2 gAdd (dRd 1) (dC (.int 1)))) none env ds0 = some (.ptup ((r.drop (i + 1)).map D.int), ds0) := by
    show (match tupD? d with | some xs => some (if HT.sIx xs.length 0 (some ((i : Int) + 1)) = 0 ∧ HT.sIx xs.length xs.length none = xs.length then d else .ptup (cutD xs (some ((i : Int) + 1)) none), ds0) | none => none) = _
    rw [hd]
    dsimp only
    rw [if_neg (fun z => by
      have z := z.1
      have e : ((i : Int) + 1) = ((i + 1 : Nat) : Int) := by omega
      rw [e, HT.sIx_nat, List.length_map] at z
      omega), cutD_post r i h2]
  have e2 : dTupP (aCons (d2 gIx (dRd 0) (dRd 1)) (aCons (d2 gIx (dRd 0) (d2 gSub (dRd 1) (dC (.int 1)))) (aNil))) env ds0 = some (.ptup [.int (r.getD i 0), .int (r.getD (i - 1) 0)], ds0) := by
    unfold dTupP
    rw [aCons_eq (d2_eq (a := d) (b := .int (i : Nat)) rfl rfl x0) (aCons1 (d2_eq (a := d) (b := .int ((i : Int) - 1)) rfl rfl x1))]
    rfl
  have e4 := d2_eq (g := gCatP) e1 e2 (gCatP_pp (by simp; omega))
  have e5 := d2_eq (g := gCatP) e4 e3 (gCatP_pp (by simp; omega))
  refine fnP_eq (b := d_swapped_p) (s := ds0) (dSeq_rt (dRet_eq (e5.trans ?_)))
  simp [swpP]
def plBody : DenS := dSeq (dApp 2 (dCallP 2 f_swapped_p (aCons (d2 gIx (dRd 2) (d1 gNeg (dC (.int 1)))) (aCons (dVar 3) (aNil))))) (dNx)
theorem atI_last (L : List D) (x : D) : atI (L ++ [x]) (-1) = some x := by
  have h : ixN (L ++ [x]).length (-1) = some L.length := by
    unfold ixN
    rw [List.length_append, if_neg (by omega), if_pos (by simp only [List.length_cons, List.length_nil]; omega)]
    congr 1
    simp only [List.length_cons, List.length_nil]
    omega
  unfold atI
  rw [h]
  simp
theorem pl_loop {n : Nat} (hn : n < 1000) (a0 a1 : Option Sl) (ds : DS) : ∀ (l : List Int) (L : List D) (s : List Int) (a3 : Option Sl), Crs n l → s.length = n → L.length + l.length < 1000 → ∃ L' b3, forLoop (gNm 3) plBody (l.map D.int) [a0, a1, some (.own (.list (L ++ [pD s]))), a3] ds = some (.nx [a0, a1, some (.own (.list (L' ++ [pD (runP s l)]))), b3], ds)
  | [], L, s, a3, _, _, _ => ⟨L, a3, rfl⟩
  | x :: l, L, s, a3, hc, hl, hL => by
    simp only [List.length_cons] at hL
    have h1 := hc.head
    have hx := hc x (List.mem_cons_self ..)
    obtain ⟨j, rfl⟩ : ∃ j : Nat, x = (j : Int) := ⟨x.toNat, by omega⟩
    have hj : ((j : Int)).toNat = j := by omega
    rw [hj] at h1
    obtain ⟨L', b3, ih⟩ := pl_loop hn a0 a1 ds l (L ++ [pD s]) (swpP s j) (vS (.int (j : Int))) hc.tail (by rw [swp_len h1.1 (by omega), hl]) (by simp; omega)
    refine ⟨L', b3, ?_⟩
    have e0 : d2 gIx (dRd 2) (d1 gNeg (dC (.int 1))) [a0, a1, some (.own (.list (L ++ [pD s]))), vS (.int (j : Int))] ds = some (pD s, ds) := d2_eq (a := .list (L ++ [pD s])) (b := .int (-1)) rfl rfl (atI_last L (pD s))
    have e1 : dCallP 2 f_swapped_p (aCons (d2 gIx (dRd 2) (d1 gNeg (dC (.int 1)))) (aCons (dVar 3) (aNil))) [a0, a1, some (.own (.list (L ++ [pD s]))), vS (.int (j : Int))] ds = some (pD (swpP s j), ds) :=
      dCallP_eq (as := [pD s, .int (j : Nat)]) (aCons_eq e0 rfl) rfl (tr_swpP rfl h1.1 (by omega) (by omega))
    have e2 : dApp 2 (dCallP 2 f_swapped_p (aCons (d2 gIx (dRd 2) (d1 gNeg (dC (.int 1)))) (aCons (dVar 3) (aNil)))) [a0, a1, some (.own (.list (L ++ [pD s]))), vS (.int (j : Int))] ds = some (.nx [a0, a1, some (.own (.list (L ++ [pD s] ++ [pD (swpP s j)]))), vS (.int (j : Int))], ds) := by
      unfold dApp
      rw [e1]
      show (if (L ++ [pD s]).length < 100000 then _ else none) = _
      rw [if_pos (by simp; omega)]
      rfl
    have e3 : runP s ((j : Int) :: l) = runP (swpP s j) l := by
      show runP (swpP s ((j : Int)).toNat) l = _
      rw [hj]
    rw [e3]
    exact (forLoop_cons (d := .int (j : Int)) (env' := [a0, a1, some (.own (.list (L ++ [pD s]))), vS (.int (j : Int))]) rfl ((dSeq_eq e2).trans rfl)).trans ih
theorem rgD_p (n : Nat) (hn : n < 1000) (a1 a2 a3 : Option Sl) (ds : DS) : dTupIP (dRg2 (dC (.int 1)) (d2 gAdd (dRd 0) (dC (.int 1)))) [vS (.int (n : Nat)), a1, a2, a3] ds = some (pD (rgL 1 n), ds) := by
  have e2 : dRg2 (dC (.int 1)) (d2 gAdd (dRd 0) (dC (.int 1))) [vS (.int (n : Nat)), a1, a2, a3] ds = some (rgD 1 n, ds) := by
    unfold dRg2
    rw [show dC (.int 1) [vS (.int (n : Nat)), a1, a2, a3] ds = some (.int 1, ds) from rfl]
    unfold bnd
    dsimp only
    rw [show d2 gAdd (dRd 0) (dC (.int 1)) [vS (.int (n : Nat)), a1, a2, a3] ds = some (.int ((n : Int) + 1), ds) from rfl]
    dsimp only
    rw [if_pos (by omega)]
    have : (((n : Int) + 1) - 1).toNat = n := by omega
    rw [this]
  unfold dTupIP
  rw [e2]
  unfold bnd
  dsimp only
  rw [if_pos (by rw [rgD_len]; omega), rgD_map]
theorem tr_places {n : Nat} (hn : n < 1000) {l : List Int} (hc : Crs n l) (hl : l.length < 900) : ∃ L, f_places_by_p [.int (n : Nat), rowD l] = some (.list (L ++ [pD (endP n l)])) := by
  obtain ⟨L', b3, e⟩ := pl_loop hn (vS (.int (n : Nat))) (vS (rowD l)) ds0 l [] (rgL 1 n) none hc (rgL_len n 1) (by simp; omega)
  refine ⟨L', ?_⟩
  have e1 : dSet 2 true (dLst (aCons (dTupIP (dRg2 (dC (.int 1)) (d2 gAdd (dRd 0) (dC (.int 1))))) (aNil))) (envP 4 [.int (n : Nat), rowD l]) ds0 = some (.nx [vS (.int (n : Nat)), vS (rowD l), some (.own (.list ([] ++ [pD (rgL 1 n)]))), none], ds0) := by
    refine dSet_eq (i := 2) (k := true) (env := [vS (.int (n : Nat)), vS (rowD l), none, none]) ?_
    unfold dLst
    rw [aCons1 (rgD_p n hn (vS (rowD l)) none none ds0)]
    rfl
  have e2 : dFor (dItems (dVar 1)) (gNm 3) plBody [vS (.int (n : Nat)), vS (rowD l), some (.own (.list ([] ++ [pD (rgL 1 n)]))), none] ds0 = _ := (dFor_eq (dItems_eq (a := rowD l) rfl rfl)).trans e
  exact fnP_eq (b := d_places_by_p) ((dSeq_eq e1).trans ((dSeq_eq e2).trans rfl))
theorem isdraw_loop {n : Nat} (a1 : Option Sl) (s : DS) : ∀ (r : List Int), Crs n r → lcLoop (gNm 2) tYesD (dAnd (dCallP 1 f_is_number (aCons (dVar 2) (aNil))) (d3 gLe gLt (dC (.int 1)) (dRd 2) (dRd 0))) [vS (.int (n : Nat)), a1, none] (r.map D.int) s = some (r.map fun _ => .bool true, s)
  | [], _ => rfl
  | x :: r, h => by
    have hx := h x (List.mem_cons_self ..)
    have ih := isdraw_loop a1 s r h.tail
    refine lc_t (env' := [vS (.int (n : Nat)), a1, vS (.int x)]) (s := s) (s1 := s) (y := .bool true) rfl rfl ?_ ih
    have e1 : dCallP 1 f_is_number (aCons (dVar 2) (aNil)) [vS (.int (n : Nat)), a1, vS (.int x)] s = some (.bool true, s) := rfl
    unfold dAnd
    rw [e1]
    show (match (some (D.bool (decide (1 ≤ x))) : Option D) with | some (.bool true) => bnd (dRd 0 [vS (.int (n : Nat)), a1, vS (.int x)] s) fun c s2 => op1 (gLt (.int x) c) s2 | some (.bool false) => some (.bool false, s) | _ => none) = _
    rw [decide_eq_true hx.1]
    show some (D.bool (decide (x < (n : Int))), s) = _
    rw [decide_eq_true hx.2]
theorem tr_isdraw {n : Nat} {l : List Int} (h : Crs n l) (hl : l.length ≤ 60) : f_is_drawing_of [.int (n : Nat), rowD l] = some (.bool true) := by
  have e0 : tOrD (tNotD (dTest (dIsi .tuple (dRd 1)))) (dTest (d2 gGt (dB gLen (aCons (dRd 1) (aNil))) (dC (.int 60)))) [vS (.int (n : Nat)), vS (rowD l), none] ds0 = some (false, ds0) := by
    have q : dTest (d2 gGt (dB gLen (aCons (dRd 1) (aNil))) (dC (.int 60))) [vS (.int (n : Nat)), vS (rowD l), none] ds0 = some (decide ((60 : Int) < ((l.map D.int).length : Int)), ds0) := rfl
    rw [List.length_map, decide_eq_false (by omega)] at q
    unfold tOrD
    rw [show tNotD (dTest (dIsi .tuple (dRd 1))) [vS (.int (n : Nat)), vS (rowD l), none] ds0 = some (false, ds0) from rfl]
    exact q
  have e1 : dRet (dB gAll (aCons (dLc (dItems (dVar 1)) [2] (gNm 2) (tYesD) (dAnd (dCallP 1 f_is_number (aCons (dVar 2) (aNil))) (d3 gLe gLt (dC (.int 1)) (dRd 2) (dRd 0)))) (aNil))) [vS (.int (n : Nat)), vS (rowD l), none] ds0 = some (.rt (.bool true), ds0) :=
    dRet_eq (dB_eq (as := [.list (l.map fun _ => .bool true)]) (aCons1 (dLc_eq (dItems_eq (a := rowD l) rfl rfl) (isdraw_loop (vS (rowD l)) ds0 l h) (by rw [List.length_map]; omega))) (gAll_true l))
  exact fnP_eq (b := d_is_drawing_of) ((dSeq_eq ((dIfS_f e0).trans rfl)).trans (dSeq_rt e1))
theorem needw : ∀ n : Nat, 1 ≤ n → n ≤ 6 → f_need_wires [.int (n : Nat)] = some .none
  | 1, _, _ => by kernel_rfl
  | 2, _, _ => by kernel_rfl
  | 3, _, _ => by kernel_rfl
  | 4, _, _ => by kernel_rfl
  | 5, _, _ => by kernel_rfl
  | 6, _, _ => by kernel_rfl
  | 0, h, _ => by omega
  | n + 7, _, h => by omega
theorem tr_needd {n : Nat} (h1 : 1 ≤ n) (h6 : n ≤ 6) {l : List Int} (h : Crs n l) (hl : l.length ≤ 60) : f_need_drawing [.int (n : Nat), rowD l] = some .none := by
  have e1 : dDropS (dCallP 1 f_need_wires (aCons (dVar 0) (aNil))) (envP 2 [.int (n : Nat), rowD l]) ds0 = some (.nx [vS (.int (n : Nat)), vS (rowD l)], ds0) := dDrop_eq (env := [vS (.int (n : Nat)), vS (rowD l)]) (dCallP_eq (as := [.int (n : Nat)]) rfl rfl (needw n h1 h6))
  have e2 : tNotD (dTest (dCallP 2 f_is_drawing_of (aCons (dVar 0) (aCons (dVar 1) (aNil))))) [vS (.int (n : Nat)), vS (rowD l)] ds0 = some (false, ds0) := tNot_t (dCallP_eq (as := [.int (n : Nat), rowD l]) rfl rfl (tr_isdraw h hl))
  have e3 : d_need_drawing (envP 2 [.int (n : Nat), rowD l]) ds0 = some (.nx [vS (.int (n : Nat)), vS (rowD l)], ds0) := (dSeq_eq e1).trans ((dSeq_eq ((dIfS_f e2).trans rfl)).trans rfl)
  show (outD (d_need_drawing (envP 2 [.int (n : Nat), rowD l]) ds0)).map (·.1) = _
  rw [e3]
  rfl
/-- the ends of a drawing -/
theorem tr_ends {n : Nat} (h1 : 1 ≤ n) (h6 : n ≤ 6) {l : List Int} (h : Crs n l) (hl : l.length ≤ 60) : f_ends_p [.int (n : Nat), rowD l] = some (pD (endP n l)) := by
  obtain ⟨L, e⟩ := tr_places (n := n) (by omega) h (by omega)
  have e1 : f_ends_by_p [.int (n : Nat), rowD l] = some (pD (endP n l)) :=
    fnP_eq (b := d_ends_by_p) (s := ds0) (dSeq_rt (dRet_eq (d2_eq (a := .list (L ++ [pD (endP n l)])) (b := .int (-1)) (dCallP_eq (as := [.int (n : Nat), rowD l]) rfl rfl e) rfl (atI_last L _))))
  have e2 : dDropS (dCallP 2 f_need_drawing (aCons (dVar 0) (aCons (dVar 1) (aNil)))) (envP 2 [.int (n : Nat), rowD l]) ds0 = some (.nx [vS (.int (n : Nat)), vS (rowD l)], ds0) := dDrop_eq (env := [vS (.int (n : Nat)), vS (rowD l)]) (dCallP_eq (as := [.int (n : Nat), rowD l]) rfl rfl (tr_needd h1 h6 h hl))
  exact fnP_eq (b := d_ends_p) ((dSeq_eq e2).trans (dSeq_rt (dRet_eq (dCallP_eq (as := [.int (n : Nat), rowD l]) rfl rfl e1))))
end L2.Dn
set_option Elab.async false
set_option linter.all false
set_option maxRecDepth 100000
set_option maxHeartbeats 0
/-! k67: what the kernel sees of every sequence of two to five wires -/
namespace L2.Dn
open PySem PySem.Spec PyProof.Rows C8
def isI (o : Option D) (n : Int) : Bool := match o with
  | some (.int m) => decide (m = n)
  | _ => false
theorem isI_ok {o : Option D} {n : Int} (h : isI o n = true) : o = some (.int n) := by
  unfold isI at h
  split at h
  · rw [of_decide_eq_true h]
  · cases h
def anyIs (o : Option D) (s : List Int) : Bool := match o with
  | some d => (match tupD? d with
    | some xs => (match ints? xs with
      | some l => beqL l s
      | none => false)
    | none => false)
  | none => false
theorem anyIs_ok {o : Option D} {s : List Int} (h : anyIs o s = true) : ∃ d, o = some d ∧ tupD? d = some (s.map D.int) := by
  unfold anyIs at h
  split at h
  · rename_i d
    split at h
    · rename_i xs e1
      split at h
      · rename_i l e
        rw [beqL_eq] at h
        refine ⟨d, rfl, ?_⟩
        rw [e1, ints_eq e, of_decide_eq_true h]
      · cases h
    · cases h
  · cases h
/-- the road of a sequence given as d -/
def seqRD (d : D) (s : List Int) : Bool := match roadR d with
  | some (m, l) => (match decide (m = ((s.length : Nat) : Int)) with
    | true => beqN l (roadP 20 s)
    | false => false)
  | none => false
theorem seqRD_ok {d : D} {s : List Int} (h : seqRD d s = true) : roadR d = some (((s.length : Nat) : Int), roadP 20 s) := by
  unfold seqRD at h
  split at h
  · rename_i m l e
    split at h
    · rename_i e2
      rw [e, of_decide_eq_true e2, beqN_ok h]
    · cases h
  · cases h
theorem sum_oneD {d : D} {s : List Int} (h : sumB1 s = true) (r1 : roadR d = some (((s.length : Nat) : Int), roadP 20 s)) : f_sum_by [d] = some (toD (sumV s)) ∧ WfP (sumV s) := by
  unfold sumB1 at h
  simp only [Bool.and_eq_true, decide_eq_true_eq] at h
  obtain ⟨⟨h1, h2⟩, h3⟩ := h
  have hb := box_init (s.length : Nat) (by omega)
  have wf0 := wf_init (s.length : Nat)
  have e1 := cutsC_of hb h2
  have hl := cutsB_len h2
  obtain ⟨l3, l4⟩ := cutsV_ok hb wf0 h2
  have nd5 := nd_take5 l4 h3 l3.nd
  have wfs : WfP (sumV s) := ⟨nd5, take5_nz l3.nz⟩
  refine ⟨?_, wfs⟩
  refine tr_sum r1 ?_
  unfold sumC
  rw [e1]
  dsimp only
  rw [decide_eq_true (by omega)]
  dsimp only
  rw [putsP_fresh _ [] nd5]
  rfl
/-! ### plain functions of sequences -/
def lessN (x : Int) : List Int → Nat
  | [] => 0
  | y :: r => (match decide (y < x) with
    | true => Nat.succ (lessN x r)
    | false => lessN x r)
def invP : List Int → Nat
  | [] => 0
  | x :: r => Nat.add (lessN x r) (invP r)
/-- the place of a wire -/
def plcP (w : Int) : Int → List Int → Int
  | a, [] => a
  | a, x :: r => (match decide (x = w) with
    | true => a
    | false => plcP w (a + 1) r)
def backP (n : Nat) (s : List Int) : List Int := (rgL 1 n).map fun w => plcP w 1 s
def tauP (i p : Int) : Int := (match decide (p = i) with
  | true => i + 1
  | false => (match decide (p = i + 1) with
    | true => i
    | false => p))
/-- the dict of places -/
def kvsP : Int → List Int → List (Key × D) → List (Key × D)
  | _, [], acc => acc
  | w, p :: b, acc => kvsP (w + 1) b (putKD acc (.inl p) (.int w))
def rdK (kvs : List (Key × D)) : Int → List Int → Bool
  | _, [] => true
  | q, v :: e => (match gIx (.dK kvs) (.int q) with
    | some (.int u) => (match decide (u = v) with
      | true => rdK kvs (q + 1) e
      | false => false)
    | _ => false)
def one0 : PR := [([0, 0, 0, 0, 0], 1)]
def isId (n : Nat) (s : List Int) : Bool := beqL s (rgL 1 n)
/-- the places of the descents -/
def dscL : Int → List Int → List Int
  | a, x :: y :: r => (match decide (y < x) with
    | true => a :: dscL (a + 1) (y :: r)
    | false => dscL (a + 1) (y :: r))
  | _, _ => []
/-- x stands behind y, x < y -/
def inB (s : List Int) (x y : Int) : Bool := decide (plcP y 1 s < plcP x 1 s)
def pairsB : List (Int × Int) := [(1, 2), (1, 3), (1, 4), (1, 5), (2, 3), (2, 4), (2, 5), (3, 4), (3, 5), (4, 5)]
def greatP : Nat → List Int
  | 0 => []
  | n + 1 => ((n + 1 : Nat) : Int) :: greatP n
def thnP (e f : List Int) : List Int := f.map fun p => e.getD (p.toNat - 1) 0
def firstW (s : List Int) : Nat → List Int
  | 0 => []
  | 1 => []
  | k + 1 => firstW s k ++ (rgL 0 (lessN ((k + 1 : Nat) : Int) (s.drop (plcP ((k + 1 : Nat) : Int) 0 s).toNat))).map fun m => ((k : Nat) : Int) - m
def firstP (n : Nat) (s : List Int) : List Int := firstW s n
/-- v leads a sequence down to nothing -/
def chnB (n : Nat) : List Int → List Int → Bool
  | s, [] => beqL s (rgL 1 n)
  | s, i :: v => (match decide (1 ≤ i) && decide (i < (n : Int)) && decide (s.getD i.toNat 0 < s.getD (i.toNat - 1) 0) with
    | true => chnB n (swpP s i.toNat) v
    | false => false)
def rdL (d : D) (s : List Int) : Bool := match roadL d with
  | some (m, l) => (match Nat.beq m s.length with
    | true => beqN l (roadP 20 s).reverse
    | false => false)
  | none => false
theorem rdL_ok {d : D} {s : List Int} (h : rdL d s = true) : roadL d = some (s.length, (roadP 20 s).reverse) := by
  unfold rdL at h
  split at h
  · rename_i m l e
    split at h
    · rename_i e2
      rw [e, Nat.eq_of_beq_eq_true e2, beqN_ok h]
    · cases h
  · cases h
def facA (n : Nat) (s : List Int) : Bool :=
  isT (f_is_sequence_of [pD s]) && isI (f__law_many [pD s]) (invP s) && isI (f__law_many [rowD s]) (invP s) &&
  rdK (kvsP 1 (backP n s) []) 1 s && beqL ((rgL 1 n).map fun p => s.getD (p.toNat - 1) 0) s &&
  (match Nat.beq (invP s) 0 with
    | true => isId n s
    | false => (dscL 1 s).any fun _ => true) && Nat.ble (invP s) 10 &&
  tupIs (f_first_by [pD s]) (firstP n s) && chnB n s (firstP n s).reverse &&
  beqL (thnP (greatP n) (thnP (backP n (greatP n)) s)) s && (seqsI n).any (fun x => beqL (thnP (backP n (greatP n)) s) x)
def facS (s : List Int) : Bool :=
  seqRD (pD s) s && rdL (pD s) s && sumB1 s && polyOk (sumV s) && hOk (sumV s)
def stepS (n : Nat) (s : List Int) (i : Nat) : Bool :=
  tupIs (f__law_swapped [pD s, .int (i : Nat)]) (swpP s i) && tupIs (f__law_swapped [rowD s, .int (i : Nat)]) (swpP s i) &&
  beqL (backP n (swpP s i)) ((backP n s).map (tauP (i : Nat))) &&
  (match decide (s.getD i 0 < s.getD (i - 1) 0) with
    | true => Nat.beq (Nat.succ (invP (swpP s i))) (invP s) && eqP (cutP (sumV s) i) (sumV (swpP s i)) && inB s (s.getD i 0) (s.getD (i - 1) 0)
    | false => (match cutP (sumV s) i with
      | [] => true
      | _ => false) && !inB s (s.getD (i - 1) 0) (s.getD i 0) && pairsB.all fun p => (match decide (p.2 ≤ (n : Int)) with
        | false => true
        | true => (match inB (swpP s i) p.1 p.2 with
          | true => inB s p.1 p.2 || (decide (p.1 = s.getD (i - 1) 0) && decide (p.2 = s.getD i 0))
          | false => !inB s p.1 p.2 && !(decide (p.1 = s.getD (i - 1) 0) && decide (p.2 = s.getD i 0)))))
/-- two descents -/
def nearB (s : List Int) (i j : Nat) : Bool := decide ((swpP s i).getD j 0 < (swpP s i).getD (j - 1) 0) && decide ((swpP (swpP s i) j).getD i 0 < (swpP (swpP s i) j).getD (i - 1) 0) &&
  decide ((swpP s j).getD i 0 < (swpP s j).getD (i - 1) 0) && decide ((swpP (swpP s j) i).getD j 0 < (swpP (swpP s j) i).getD (j - 1) 0) &&
  beqL (swpP (swpP (swpP s i) j) i) (swpP (swpP (swpP s j) i) j)
def farB (s : List Int) (i j : Nat) : Bool := decide ((swpP s i).getD j 0 < (swpP s i).getD (j - 1) 0) && decide ((swpP s j).getD i 0 < (swpP s j).getD (i - 1) 0) && beqL (swpP (swpP s i) j) (swpP (swpP s j) i)
def twoB (s : List Int) (i j : Nat) : Bool := match decide (s.getD i 0 < s.getD (i - 1) 0) && decide (s.getD j 0 < s.getD (j - 1) 0) with
  | false => true
  | true => (match Nat.beq (i + 1) j with
    | true => nearB s i j
    | false => farB s i j)
def places : Nat → List Nat
  | 2 => [1]
  | 3 => [1, 2]
  | 4 => [1, 2, 3]
  | 5 => [1, 2, 3, 4]
  | _ => []
def facN (n : Nat) (l : List (List Int)) : Bool := l.all fun s => facA n s && facS s && (places n).all (stepS n s) && (places n).all fun i => (places n).all fun j => (match decide (i < j) with
  | true => twoB s i j
  | false => true)
end L2.Dn
set_option Elab.async false
set_option linter.all false
set_option maxRecDepth 100000
set_option maxHeartbeats 0
/-! k67: the kernel's look -/
namespace L2.Dn
open PySem PySem.Spec PyProof.Rows C8
theorem fac2 : facN 2 (seqsI 2) = true := by kernel_rfl
theorem fac3 : facN 3 (seqsI 3) = true := by kernel_rfl
theorem fac4 : facN 4 (seqsI 4) = true := by kernel_rfl
end L2.Dn
set_option Elab.async false
set_option linter.all false
set_option maxRecDepth 100000
set_option maxHeartbeats 0
/-! k67: the kernel's look, sequences 0 to 23 -/
namespace L2.Dn
open PySem PySem.Spec PyProof.Rows C8
theorem fac5_0_0 : facN 5 (((seqsI 5).drop 0).take 8) = true := by kernel_rfl
theorem fac5_0_1 : facN 5 (((seqsI 5).drop 8).take 8) = true := by kernel_rfl
theorem fac5_0_2 : facN 5 (((seqsI 5).drop 16).take 8) = true := by kernel_rfl
theorem fac5_0 : facN 5 (((seqsI 5).drop 0).take 24) = true := by
  have e : ((seqsI 5).drop 0).take 24 = (((seqsI 5).drop 0).take 8) ++ ((((seqsI 5).drop 8).take 8) ++ (((seqsI 5).drop 16).take 8)) := by kernel_rfl
  rw [e]
  have h0 := fac5_0_0
  have h1 := fac5_0_1
  have h2 := fac5_0_2
  unfold facN at h0 h1 h2 ⊢
  rw [List.all_append, List.all_append, h0, h1, h2]
  rfl
end L2.Dn
set_option Elab.async false
set_option linter.all false
set_option maxRecDepth 100000
set_option maxHeartbeats 0
/-! k67: the kernel's look, sequences 24 to 47 -/
namespace L2.Dn
open PySem PySem.Spec PyProof.Rows C8
theorem fac5_1_0 : facN 5 (((seqsI 5).drop 24).take 8) = true := by kernel_rfl
theorem fac5_1_1 : facN 5 (((seqsI 5).drop 32).take 8) = true := by kernel_rfl
theorem fac5_1_2 : facN 5 (((seqsI 5).drop 40).take 8) = true := by kernel_rfl
theorem fac5_1 : facN 5 (((seqsI 5).drop 24).take 24) = true := by
  have e : ((seqsI 5).drop 24).take 24 = (((seqsI 5).drop 24).take 8) ++ ((((seqsI 5).drop 32).take 8) ++ (((seqsI 5).drop 40).take 8)) := by kernel_rfl
  rw [e]
  have h0 := fac5_1_0
  have h1 := fac5_1_1
  have h2 := fac5_1_2
  unfold facN at h0 h1 h2 ⊢
  rw [List.all_append, List.all_append, h0, h1, h2]
  rfl
end L2.Dn
set_option Elab.async false
set_option linter.all false
set_option maxRecDepth 100000
set_option maxHeartbeats 0
/-! k67: the kernel's look, sequences 48 to 71 -/
namespace L2.Dn
open PySem PySem.Spec PyProof.Rows C8
theorem fac5_2_0 : facN 5 (((seqsI 5).drop 48).take 8) = true := by kernel_rfl
theorem fac5_2_1 : facN 5 (((seqsI 5).drop 56).take 8) = true := by kernel_rfl
theorem fac5_2_2 : facN 5 (((seqsI 5).drop 64).take 8) = true := by kernel_rfl
theorem fac5_2 : facN 5 (((seqsI 5).drop 48).take 24) = true := by
  have e : ((seqsI 5).drop 48).take 24 = (((seqsI 5).drop 48).take 8) ++ ((((seqsI 5).drop 56).take 8) ++ (((seqsI 5).drop 64).take 8)) := by kernel_rfl
  rw [e]
  have h0 := fac5_2_0
  have h1 := fac5_2_1
  have h2 := fac5_2_2
  unfold facN at h0 h1 h2 ⊢
  rw [List.all_append, List.all_append, h0, h1, h2]
  rfl
end L2.Dn
set_option Elab.async false
set_option linter.all false
set_option maxRecDepth 100000
set_option maxHeartbeats 0
/-! k67: the kernel's look, sequences 72 to 95 -/
namespace L2.Dn
open PySem PySem.Spec PyProof.Rows C8
theorem fac5_3_0 : facN 5 (((seqsI 5).drop 72).take 8) = true := by kernel_rfl
theorem fac5_3_1 : facN 5 (((seqsI 5).drop 80).take 8) = true := by kernel_rfl
theorem fac5_3_2 : facN 5 (((seqsI 5).drop 88).take 8) = true := by kernel_rfl
theorem fac5_3 : facN 5 (((seqsI 5).drop 72).take 24) = true := by
  have e : ((seqsI 5).drop 72).take 24 = (((seqsI 5).drop 72).take 8) ++ ((((seqsI 5).drop 80).take 8) ++ (((seqsI 5).drop 88).take 8)) := by kernel_rfl
  rw [e]
  have h0 := fac5_3_0
  have h1 := fac5_3_1
  have h2 := fac5_3_2
  unfold facN at h0 h1 h2 ⊢
  rw [List.all_append, List.all_append, h0, h1, h2]
  rfl
end L2.Dn
set_option Elab.async false
set_option linter.all false
set_option maxRecDepth 100000
set_option maxHeartbeats 0
/-! k67: the kernel's look, sequences 96 to 119 -/
namespace L2.Dn
open PySem PySem.Spec PyProof.Rows C8
theorem fac5_4_0 : facN 5 (((seqsI 5).drop 96).take 8) = true := by kernel_rfl
theorem fac5_4_1 : facN 5 (((seqsI 5).drop 104).take 8) = true := by kernel_rfl
theorem fac5_4_2 : facN 5 (((seqsI 5).drop 112).take 8) = true := by kernel_rfl
theorem fac5_4 : facN 5 (((seqsI 5).drop 96).take 24) = true := by
  have e : ((seqsI 5).drop 96).take 24 = (((seqsI 5).drop 96).take 8) ++ ((((seqsI 5).drop 104).take 8) ++ (((seqsI 5).drop 112).take 8)) := by kernel_rfl
  rw [e]
  have h0 := fac5_4_0
  have h1 := fac5_4_1
  have h2 := fac5_4_2
  unfold facN at h0 h1 h2 ⊢
  rw [List.all_append, List.all_append, h0, h1, h2]
  rfl
end L2.Dn
set_option Elab.async false
set_option linter.all false
set_option maxRecDepth 100000
set_option maxHeartbeats 0
/-! k67: the facts -/
namespace L2.Dn
open PySem PySem.Spec PyProof.Rows C8
theorem chunks5 (f : List Int → Bool) (h : ∀ j, j < 5 → (((seqsI 5).drop (24 * j)).take 24).all f = true) : ∀ s ∈ seqsI 5, f s = true := fun s hs => by
  obtain ⟨i, hi, e⟩ := List.getElem_of_mem hs
  have hl : (seqsI 5).length = 120 := rfl
  have hj : i / 24 < 5 := by omega
  refine List.all_eq_true.mp (h (i / 24) hj) s ?_
  rw [← e]
  refine List.mem_iff_getElem.mpr ⟨i % 24, ?_, ?_⟩
  · rw [List.length_take, List.length_drop]
    omega
  · rw [List.getElem_take, List.getElem_drop]
    congr 1
    omega
theorem fac_of {n : Nat} (h2 : 2 ≤ n) (h5 : n ≤ 5) {s : List Int} (h : s ∈ seqsI n) : facA n s = true ∧ facS s = true ∧ (places n).all (stepS n s) = true ∧ (places n).all (fun i => (places n).all fun j => (match decide (i < j) with | true => twoB s i j | false => true)) = true := by
  have spl : ∀ b : Bool, b = true → b = (facA n s && facS s && (places n).all (stepS n s) && (places n).all fun i => (places n).all fun j => (match decide (i < j) with | true => twoB s i j | false => true)) → facA n s = true ∧ facS s = true ∧ (places n).all (stepS n s) = true ∧ (places n).all (fun i => (places n).all fun j => (match decide (i < j) with | true => twoB s i j | false => true)) = true := fun b hb e => by
    rw [hb] at e
    have e := e.symm
    simp only [Bool.and_eq_true] at e
    exact ⟨e.1.1.1, e.1.1.2, e.1.2, e.2⟩
  rcases (show n = 2 ∨ n = 3 ∨ n = 4 ∨ n = 5 by omega) with rfl | rfl | rfl | rfl
  · exact spl _ (List.all_eq_true.mp fac2 s h) rfl
  · exact spl _ (List.all_eq_true.mp fac3 s h) rfl
  · exact spl _ (List.all_eq_true.mp fac4 s h) rfl
  · refine spl _ (chunks5 (fun s => facA 5 s && facS s && (places 5).all (stepS 5 s) && (places 5).all fun i => (places 5).all fun j => (match decide (i < j) with | true => twoB s i j | false => true)) (fun j hj => ?_) s h) rfl
    rcases (show j = 0 ∨ j = 1 ∨ j = 2 ∨ j = 3 ∨ j = 4 by omega) with rfl | rfl | rfl | rfl | rfl
    · exact fac5_0
    · exact fac5_1
    · exact fac5_2
    · exact fac5_3
    · exact fac5_4
theorem tup_two {d : D} {xs : List D} (h : tupD? d = some xs) : d = .tuple xs ∨ d = .ptup xs := by
  cases d with
  | tuple ys => cases h; exact .inl rfl
  | ptup ys => cases h; exact .inr rfl
  | _ => cases h
structure FA (n : Nat) (s : List Int) : Prop where
  isq : f_is_sequence_of [pD s] = some (.bool true)
  many : ∀ d, tupD? d = some (s.map D.int) → f__law_many [d] = some (.int (invP s))
  rd : rdK (kvsP 1 (backP n s) []) 1 s = true
  comp : (rgL 1 n).map (fun p => s.getD (p.toNat - 1) 0) = s
  id0 : invP s = 0 → s = rgL 1 n
  dsc : invP s ≠ 0 → dscL 1 s ≠ []
  le : invP s ≤ 10
  first : f_first_by [pD s] = some (rowD (firstP n s))
  chn : chnB n s (firstP n s).reverse = true
  great : thnP (greatP n) (thnP (backP n (greatP n)) s) = s
  rest : thnP (backP n (greatP n)) s ∈ seqsI n
theorem fa_of {n : Nat} (h2 : 2 ≤ n) (h5 : n ≤ 5) {s : List Int} (h : s ∈ seqsI n) : FA n s := by
  have hf := (fac_of h2 h5 h).1
  unfold facA at hf
  simp only [Bool.and_eq_true] at hf
  obtain ⟨⟨⟨⟨⟨⟨⟨⟨⟨⟨b1, b2⟩, b3⟩, b4⟩, b5⟩, b6⟩, b7⟩, b8⟩, b9⟩, b10⟩, b11⟩ := hf
  rw [beqL_eq] at b5 b10
  obtain ⟨x, hx, ex⟩ := List.any_eq_true.mp b11
  rw [beqL_eq] at ex
  refine ⟨isT_ok b1, fun d hd => ?_, b4, of_decide_eq_true b5, fun z => ?_, fun z e => ?_, Nat.le_of_ble_eq_true b7, tupIs_ok b8, b9, of_decide_eq_true b10, by rw [of_decide_eq_true ex]; exact hx⟩
  · rcases tup_two hd with rfl | rfl
    · exact isI_ok b3
    · exact isI_ok b2
  · rw [z] at b6
    have b6 : isId n s = true := b6
    unfold isId at b6
    rw [beqL_eq] at b6
    exact of_decide_eq_true b6
  · have : Nat.beq (invP s) 0 = false := by
      cases q : Nat.beq (invP s) 0 with
      | false => rfl
      | true => exact absurd (Nat.eq_of_beq_eq_true q) z
    rw [this, e] at b6
    cases b6
theorem sum_box {s : List Int} (h : sumB1 s = true) : Box 5 5 (sumV s) ∧ (sumV s).length < 16000 := by
  unfold sumB1 at h
  simp only [Bool.and_eq_true, decide_eq_true_eq] at h
  obtain ⟨⟨h1, h2⟩, h3⟩ := h
  have hb := box_init (s.length : Nat) (by omega)
  have wf0 := wf_init (s.length : Nat)
  have hl := cutsB_len h2
  obtain ⟨l3, l4⟩ := cutsV_ok hb wf0 h2
  refine ⟨fun e m => ?_, ?_⟩
  · obtain ⟨x, hx, ek⟩ := take5_mem (List.mem_map.mpr ⟨e, m, rfl⟩)
    obtain ⟨b1, b2⟩ := l4 x hx
    rw [ek]
    exact ⟨by rw [List.length_take]; omega, fun y hy => b2 y (List.mem_of_mem_take hy)⟩
  · unfold sumV
    rw [take5_len]
    exact hl
theorem lsum_oneD {d : D} {s : List Int} (h : sumB1 s = true) (r2 : roadL d = some (s.length, (roadP 20 s).reverse)) : f__law_sum [d] = some (toD (lsumV s)) ∧ WfP (lsumV s) ∧ (lsumV s).Perm (sumV s) := by
  unfold sumB1 at h
  simp only [Bool.and_eq_true, decide_eq_true_eq] at h
  obtain ⟨⟨h1, h2⟩, h3⟩ := h
  have hb := box_init (s.length : Nat) (by omega)
  have wf0 := wf_init (s.length : Nat)
  have hl := cutsB_len h2
  obtain ⟨l1, l2, l3, l4⟩ := lcuts_of hb wf0 wf0 (List.Perm.refl _) h2
  have pm := take5_perm l2
  have hz : zero6 (lcutsV [(rowI ((s.length : Nat) : Int), 1)] (roadP 20 s).reverse) = true := (zero6_iff _).mpr fun e m => (zero6_iff _).mp h3 e (l2.mem_iff.mp m)
  have hb2 : Box 5 6 (lcutsV [(rowI ((s.length : Nat) : Int), 1)] (roadP 20 s).reverse) := fun e m => l4 e (l2.mem_iff.mp m)
  have ndl : NdP (lcutsV [(rowI ((s.length : Nat) : Int), 1)] (roadP 20 s).reverse) := (l2.map _).nodup_iff.mpr l3.nd
  have nd6 := nd_take5 hb2 hz ndl
  have el : lsumV s = take5 (lcutsV [(rowI ((s.length : Nat) : Int), 1)] (roadP 20 s).reverse) := by
    unfold lsumV
    rw [rowL_eq]
  rw [el]
  refine ⟨tr_lsum r2 ?_, ⟨nd6, take5_nz fun e m => l3.nz e (l2.mem_iff.mp m)⟩, pm⟩
  unfold lsumC
  rw [rowL_eq, l1]
  dsimp only
  rw [decide_eq_true (by rw [l2.length_eq]; omega)]
  dsimp only
  rw [putsP_fresh _ [] nd6]
  rfl
structure FS (s : List Int) : Prop where
  sum : f_sum_by [pD s] = some (toD (sumV s))
  wf : WfP (sumV s)
  lsum : f__law_sum [pD s] = some (toD (lsumV s))
  wfl : WfP (lsumV s)
  pm : (lsumV s).Perm (sumV s)
  pol : polyOk (sumV s) = true
  hok : hOk (sumV s) = true
  box : Box 5 5 (sumV s) ∧ (sumV s).length < 16000
theorem fs_of {n : Nat} (h2 : 2 ≤ n) (h5 : n ≤ 5) {s : List Int} (h : s ∈ seqsI n) : FS s := by
  have hf := (fac_of h2 h5 h).2.1
  unfold facS at hf
  simp only [Bool.and_eq_true] at hf
  obtain ⟨⟨⟨⟨b1, b2⟩, b3⟩, b4⟩, b5⟩ := hf
  obtain ⟨s1, w1⟩ := sum_oneD b3 (seqRD_ok b1)
  obtain ⟨s2, w2, s3⟩ := lsum_oneD b3 (rdL_ok b2)
  exact ⟨s1, w1, s2, w2, s3, b4, b5, sum_box b3⟩
abbrev Dsc (s : List Int) (i : Nat) : Prop := s.getD i 0 < s.getD (i - 1) 0
structure FT (n : Nat) (s : List Int) (i : Nat) : Prop where
  sw : ∀ d, tupD? d = some (s.map D.int) → f__law_swapped [d, .int (i : Nat)] = some (rowD (swpP s i))
  bk : backP n (swpP s i) = (backP n s).map (tauP (i : Nat))
  inv : Dsc s i → invP (swpP s i) + 1 = invP s
  cut : Dsc s i → eqP (cutP (sumV s) i) (sumV (swpP s i)) = true
  seen : Dsc s i → inB s (s.getD i 0) (s.getD (i - 1) 0) = true
  zero : ¬ Dsc s i → cutP (sumV s) i = []
  new : ¬ Dsc s i → inB s (s.getD (i - 1) 0) (s.getD i 0) = false
  step : ¬ Dsc s i → ∀ p ∈ pairsB, p.2 ≤ (n : Int) → (inB (swpP s i) p.1 p.2 = true ↔ inB s p.1 p.2 = true ∨ (p.1 = s.getD (i - 1) 0 ∧ p.2 = s.getD i 0))
theorem place_mem {n : Nat} (h2 : 2 ≤ n) (h5 : n ≤ 5) {i : Nat} (h1 : 1 ≤ i) (hi : i < n) : i ∈ places n := by
  rcases (show n = 2 ∨ n = 3 ∨ n = 4 ∨ n = 5 by omega) with rfl | rfl | rfl | rfl
  · rcases (show i = 1 by omega) with rfl
    simp [places]
  · rcases (show i = 1 ∨ i = 2 by omega) with rfl | rfl <;> simp [places]
  · rcases (show i = 1 ∨ i = 2 ∨ i = 3 by omega) with rfl | rfl | rfl <;> simp [places]
  · rcases (show i = 1 ∨ i = 2 ∨ i = 3 ∨ i = 4 by omega) with rfl | rfl | rfl | rfl <;> simp [places]
theorem ft_of {n : Nat} (h2 : 2 ≤ n) (h5 : n ≤ 5) {s : List Int} (h : s ∈ seqsI n) {i : Nat} (h1 : 1 ≤ i) (hi : i < n) : FT n s i := by
  have hb := List.all_eq_true.mp (fac_of h2 h5 h).2.2.1 i (place_mem h2 h5 h1 hi)
  unfold stepS at hb
  rw [Bool.and_eq_true, Bool.and_eq_true, Bool.and_eq_true] at hb
  obtain ⟨⟨⟨b1, b2⟩, b3⟩, b6⟩ := hb
  rw [beqL_eq] at b3
  have dd : Dsc s i → Nat.beq (Nat.succ (invP (swpP s i))) (invP s) = true ∧ eqP (cutP (sumV s) i) (sumV (swpP s i)) = true ∧ inB s (s.getD i 0) (s.getD (i - 1) 0) = true := fun z => by
    rw [decide_eq_true z] at b6
    simp only [Bool.and_eq_true] at b6
    exact ⟨b6.1.1, b6.1.2, b6.2⟩
  have aa : ¬ Dsc s i → cutP (sumV s) i = [] ∧ inB s (s.getD (i - 1) 0) (s.getD i 0) = false ∧ ∀ p ∈ pairsB, p.2 ≤ (n : Int) → (inB (swpP s i) p.1 p.2 = true ↔ inB s p.1 p.2 = true ∨ (p.1 = s.getD (i - 1) 0 ∧ p.2 = s.getD i 0)) := fun z => by
    rw [decide_eq_false z] at b6
    simp only [Bool.and_eq_true, Bool.not_eq_true'] at b6
    obtain ⟨⟨c1, c2⟩, c3⟩ := b6
    refine ⟨?_, c2, fun p hp hn => ?_⟩
    · cases q : cutP (sumV s) i with
      | nil => rfl
      | cons a b => rw [q] at c1; cases c1
    · have c := List.all_eq_true.mp c3 p hp
      rw [decide_eq_true hn] at c
      cases q : inB (swpP s i) p.1 p.2 with
      | true =>
        rw [q] at c
        simp only [Bool.or_eq_true, Bool.and_eq_true, decide_eq_true_eq] at c
        exact ⟨fun _ => c, fun _ => rfl⟩
      | false =>
        rw [q] at c
        simp only [Bool.and_eq_true, Bool.not_eq_true', Bool.and_eq_false_imp, decide_eq_true_eq, decide_eq_false_iff_not] at c
        refine ⟨fun z => (by cases z), fun z => ?_⟩
        rcases z with z | z
        · rw [c.1] at z; cases z
        · exact absurd z.2 (c.2 z.1)
  refine ⟨fun d hd => ?_, of_decide_eq_true b3, fun z => Nat.eq_of_beq_eq_true (dd z).1, fun z => (dd z).2.1, fun z => (dd z).2.2, fun z => (aa z).1, fun z => (aa z).2.1, fun z => (aa z).2.2⟩
  rcases tup_two hd with rfl | rfl
  · exact tupIs_ok b2
  · exact tupIs_ok b1
/-- two descents -/
theorem two_far {n : Nat} (h2 : 2 ≤ n) (h5 : n ≤ 5) {s : List Int} (h : s ∈ seqsI n) {i j : Nat} (h1 : 1 ≤ i) (hij : i + 2 ≤ j) (hj : j < n) (di : Dsc s i) (dj : Dsc s j) : Dsc (swpP s i) j ∧ Dsc (swpP s j) i ∧ swpP (swpP s i) j = swpP (swpP s j) i := by
  have hb := List.all_eq_true.mp (List.all_eq_true.mp (fac_of h2 h5 h).2.2.2 i (place_mem h2 h5 h1 (by omega))) j (place_mem h2 h5 (by omega) hj)
  rw [decide_eq_true (show i < j by omega)] at hb
  unfold twoB at hb
  rw [decide_eq_true di, decide_eq_true dj] at hb
  have hn : Nat.beq (i + 1) j = false := by
    cases q : Nat.beq (i + 1) j with
    | false => rfl
    | true => have := Nat.eq_of_beq_eq_true q; omega
  rw [hn] at hb
  have hb : farB s i j = true := hb
  unfold farB at hb
  simp only [Bool.and_eq_true, decide_eq_true_eq] at hb
  obtain ⟨⟨c1, c2⟩, c3⟩ := hb
  rw [beqL_eq] at c3
  exact ⟨c1, c2, of_decide_eq_true c3⟩
theorem two_near {n : Nat} (h2 : 2 ≤ n) (h5 : n ≤ 5) {s : List Int} (h : s ∈ seqsI n) {i : Nat} (h1 : 1 ≤ i) (hj : i + 1 < n) (di : Dsc s i) (dj : Dsc s (i + 1)) : Dsc (swpP s i) (i + 1) ∧ Dsc (swpP (swpP s i) (i + 1)) i ∧ Dsc (swpP s (i + 1)) i ∧ Dsc (swpP (swpP s (i + 1)) i) (i + 1) ∧ swpP (swpP (swpP s i) (i + 1)) i = swpP (swpP (swpP s (i + 1)) i) (i + 1) := by
  have hb := List.all_eq_true.mp (List.all_eq_true.mp (fac_of h2 h5 h).2.2.2 i (place_mem h2 h5 h1 (by omega))) (i + 1) (place_mem h2 h5 (by omega) hj)
  rw [decide_eq_true (show i < i + 1 by omega)] at hb
  unfold twoB at hb
  rw [decide_eq_true di, decide_eq_true dj] at hb
  have hn : Nat.beq (i + 1) (i + 1) = true := Nat.beq_refl _
  rw [hn] at hb
  have hb : nearB s i (i + 1) = true := hb
  unfold nearB at hb
  simp only [Bool.and_eq_true, decide_eq_true_eq] at hb
  obtain ⟨⟨⟨⟨c1, c2⟩, c3⟩, c4⟩, c5⟩ := hb
  rw [beqL_eq] at c5
  exact ⟨c1, c2, c3, c4, of_decide_eq_true c5⟩
end L2.Dn
set_option Elab.async false
set_option linter.all false
set_option maxRecDepth 100000
set_option maxHeartbeats 0
/-! k67: rows of five exponents below four, their hashes -/
namespace L2.Dn
open PySem PySem.Spec PyProof.Rows C8
def E4 : List Int := [0, 1, 2, 3]
def R3 (a b : Int) : List (List Int) := E4.flatMap fun c => E4.flatMap fun d => E4.map fun e => [a, b, c, d, e]
def R5 : List (List Int) := E4.flatMap fun a => E4.flatMap fun b => R3 a b
def h00 : List Int := [-1981010948988890347, 4526629807113108078, -7412473510494445113, 1742839151258042009, -4847031172926231209, -2737747799808600912, -7630821828781297278, -1123181072679298853, -7284089019666476902, -776448263564478477, -5669522292537174843, -3560238919419544546, 2566059632297911150, 9073700388399909575, -7263760312192011744, 6289909732544843506, -2743807161142129654, 3763833594959868771, -8175269722647684420, 5378400322089170830, -782507624898007219, 5725133131203991206, 7834416504321621503, 2941342475348925137, 2021611738431524008, -7269819673525540486, -762178917423542061, -5655252946396238427, -415446108308721685, -5308520137281418051, -3199236764163787754, -8092310793136484120, -562769343195653225, 8592543318556833897, -3346559999050719294, 3161080757051279131, 4889021925784366699, -7050081391823186492, 6503588652913668758, -5435514664693884433, 6850321462028489134, 8959604835146119431, 4066530806173423065, -7872572511434130126, -6144631342701042558, 363009413400955867, -4530064615571740499, 1977576140530257926, -7056140753156715234, -548499997054716809, -5441574026027413175, -3332290652909782878, 2794007898807672818, -9145095418799880373, -7035812045682250076, 6517857999054605174, 356950052067427125, 6864590808169425550, -5074512509438127641, 8479157535298727609, 3650467403135004134, -8288635914472549057, 5265034130264306193, -6674069187343246998]
theorem h00_ok : (R3 0 0).map hT = h00 := by kernel_rfl
def h01 : List Int := [-378805714595001936, 1730477658522628361, -3162596370450068005, 3345044385651930420, -2815863561335247629, -7708937590307943995, -1201296834205945570, 907986538911684727, 477653789732329380, -4415420239240366986, 2092220516861631439, -7199210895095433055, -8118941632012834184, 5434728412724021066, 7544011785841651363, -4395091531765901828, 1876044281040953722, 3985327654158584019, -7953775663448969172, 5599894381287886078, -561013565699291971, 5946627190402706454, 8055910563520336751, 3162836534547640385, -2998071412439537664, 3509569343662460761, -1383504685310235605, 5124136070791762820, -5864091636376878526, 643549119725119899, -8647882292231944595, -2140241536129946170, -7313492394942315573, 6240177649794539677, -5698925667813013514, 808715088288984911, -5352192858698193138, 8201477186038662112, -8135983514553259207, -1628342758451260782, -7789250705438438831, 5764419339298416419, -6174683978309136772, -4065400605191506475, 2060897946525949221, 8568538702627947646, -722892709329116848, 5784748046772881577, 1149388536070276545, 3258671909187906842, -1634402119784789524, 4873238636317208901, 6601179805050296469, -5337923512557256722, 8215746532179598528, -3723356785427954663, 8562479341294418904, -7774981359297502415, 5778688685439352835, -6160414632168200356, 1298101734372709914, 7805742490474708339, 2912668461502011973, 5021951834619642270]
theorem h01_ok : (R3 0 1).map hT = h01 := by kernel_rfl
def h02 : List Int := [-2800897468774918449, 3706743287327079976, -1186330741645616390, 5321310014456382035, -5666917692712259311, 840723063389739114, -8450708348567325380, -1943067592465326955, -8103975539452505004, -1596334783350506579, -6489408812323202945, -4380125439205572648, 1746173112511883048, 8253813868613881473, -1037617543343183021, 5470023212758815404, 7268989464891823597, 2375915435919127231, 4485198809036757528, -407875219935938838, -838207969115294185, 5669432786986704240, -6269670530620848951, 2885642131131638171, -3275265815855539878, 3232374940246458547, -8706728377361094644, 4846941667375760606, -471146452526008651, -5364220481498705017, 1143420274603293408, -8148011137353771086, -8922904613181772361, -2415263857079773936, 6740048804672713186, -5199054512934840005, 7086781613787533562, -4852321703820019629, 8701348340916835621, -7636112359675085698, 4649723767047287869, -7289379550560265322, 6264290494176589928, -5674812823430963263, 1783703543109947007, 8291344299211945432, 3398270270239249066, 5507553643356879363, -4858381065153548371, 1649259690948450054, -7642171721008614440, -1134530964906616015, 4991767586810839681, 7101050959928469978, -4838052357679083213, 8715617687057772037, 8285284937878416690, -3653818379729136501, 5501494282023350621, -6437609035584202570, -311310483866746874, 1797972889250883423, 8305613645352881848, 3412539616380185482]
theorem h02_ok : (R3 0 2).map hT = h02 := by kernel_rfl
def h03 : List Int := [3151171788231619501, -1741902240741076865, 4765738515360921560, -127335513611774806, 5112471324475741936, -4178960087481322558, 2328680668620675867, -2564393360352020499, -7882481480253789756, 5671188564483065494, -6267914753124487697, 239726002977510728, -5921181944009667321, 3234130717742819801, -8704972599864733390, -2197331843762734965, -324553413940247543, 6183087342161750882, -5756015975445802309, 7797654069291052941, 1636746122303874892, 3746029495421505189, -8193073822186048002, 5360596222550807248, -5627631484617834098, 880009271484164327, 7387650027586162752, -1903781384370901742, -3666331948373711663, -1557048575256081366, -6450122604228777732, 57518151873220693, -5115732706939148710, 1391908049162849715, -3501165979809846651, 3006474776292151774, -3154433170695026275, 6000879491057460847, -5938223826550092344, 569416929551906081, 2297358098284993649, 8804998854386992074, 3911924825414295708, -8027178492193257483, 5590875449352570658, 697801420379874292, 7205442176481872717, -4733661141125680474, -4636887005954833123, 1870753750147165302, -3022320278825531064, -913036905707900767, -1343369654887256114, -6236443683859952480, 271197072242045945, 2380480445359676242, 8506778997077131938, -3432324320530421253, 5722988341222065869, -6216114976385487322, 6069721150336886245, -5869382167270666946, 7684287877466188304, -4254815440141364887]
theorem h03_ok : (R3 0 3).map hT = h03 := by kernel_rfl
def h10 : List Int := [2162716597377639257, -2730357431595057109, 3777283324506941316, -8161819993100611875, 4124016133621761692, -769057895350934674, 1340225477766695623, -3552848551206000743, -3140361473299947298, -8033435502272643664, -1525794746170645239, -6418868775143341605, -1179061937055824863, 7976250724696662259, -3962852592910890932, -8855926621883587298, 67702570400945376, 6575343326502943801, 1682269297530247435, 3791552670647877732, 3361219921468522385, -1531854107504173981, 4975786648597824444, 7085070021715454741, 924162074728276692, -3968911954244419674, 2538728801857578751, 9046369557959577176, -7672433347016886872, -1164792590914888447, -6057866619887584813, -3948583246769954516, -4723476722597955791, 8830193322138899459, -7507267378453021860, 6046402666283833390, -7160534569338201484, 6393135475398653766, -5545967842208899425, 8007702202527955825, 3179012070364232350, -8760091247243320841, 4793578797493534409, -7145524520114018782, -5417583351380931214, 1090057404721067211, 7597698160823065636, -1693733251133998858, 105233000999009335, 6612873757101007760, 1719799728128311394, 3829083101245941691, -2331824845741236358, 4175815910360762067, -717258118611934299, 5790382637490064126, -5197845069678577220, 8355824975058278030, -7981635725533643289, -1473994969431644864, -7634902916418822913, 5918767128318032337, -6020336189289520854, 487304566812477571]
theorem h10_ok : (R3 1 0).map hT = h10 := by kernel_rfl
def h11 : List Int := [-6873954335519495133, -4764670962401864836, 8788999082334990414, -3150104235272562777, -1422163066539475209, 5085477689562523216, 192403660589826850, 6700044416691825275, 539136469704647226, 7046777225806645651, -2244654186150418843, 4262986569951579582, -8057458952040516338, -5948175578922886041, 559465177179112384, -4333608851793583982, 1051035247383332614, -3842038781589363752, -1732755408471733455, 4774885347630264970, -6213342359538376376, 7340327685198478874, -4598775632409074317, 1908865123692924108, -4252042823294253941, 4903269838458233181, -7035833479149320010, 6517836565587535240, 1199748445685765983, 7707389201787764408, 2814315172815068042, -9124788144792485149, -3297438811813815096, 3210201944288183329, -6081229467668881165, 426411288433117260, -5734496658554060789, 773144097547937636, -4119929931424758730, -2010646558307128433, -3773197122309938354, -1663913749192308057, -6556987778165004423, -49347022063005998, 7409169344477904272, -4529933973129648919, 9023736071607206331, -7313724628984714988, 4627550771089012651, -265523257883683715, 1843760115233946582, 8351400871335945007, 7921068122156589660, 3027994093183893294, -8911109224423659897, 244203437328827225, -5916704509658350824, 590936246443647601, 7098577002545646026, 2205502973572949660, -3112585146328819597, -8005659175301515963, -1498018419199517538, 7657294242552969584]
theorem h11_ok : (R3 1 1).map hT = h11 := by kernel_rfl
def h12 : List Int := [-6652460276320779885, -144819520218781460, 9010493141533705662, -2928610176073847529, -9089518123061025578, -2581877366959027153, -7474951395931723519, -5365668022814093222, 760630528903362474, 7268271285005360899, -2023160126951703595, 4484480629150294830, 4054147879970939483, -838926149001756883, 5668714607100241542, 7777997980217871839, 1272529306582047862, -3620544722390648504, -1511261349273018207, -6404335378245714573, -6834668127425069920, -327027371323071495, 6180613384778926930, -3110818027178137564, -4030548764095538693, -8923622793068235059, -6814339419950604762, 6739330624786250488, -6467606610835784386, 7086063433901070864, -4853039883706482327, 4302272778046004795, 509733094428808555, -4383340934543887811, 2124299821558110614, 8631940577660109039, 2471032630672930990, -6820398781284133504, -312758025182135079, 6194882730919863346, 7922823899652950914, -4016279417954602277, -8909353446927298643, -2401712690825300218, -8562620637812478267, -6453337264694847970, 7100332780042007280, -4838770537565545911, 5338442818025773681, -6600660499581779510, 6953009545155075740, -4986093772452477451, -3258152603719389883, 3249488152382608542, -8689615165224944649, 465697496527542473, -1296853067475267448, 812430305642362849, 7320071061744361274, 2426997032771664908, -3733910914215513141, 2773729841886485284, -6517701570070579210, -10060813968580785]
theorem h12_ok : (R3 1 2).map hT = h12 := by kernel_rfl
def h13 : List Int := [-8134198531322207546, 5419471513414647704, -6519631804192905487, 2635680857559581635, -3525227089427596414, 2982413666674402011, -8956689650933151180, 4596980393803704070, -1563927553183473979, 4943713202918524446, 7052996576036154743, 2159922547063458377, 1240191810146057248, -8051239601811007246, -1543598845709008821, -6436672874681705187, -4069674983293983556, -8962749012266679922, -2455108256164681497, -7348182285137377863, 5780473668670404496, 887399639697708130, 7395040395799706555, -8942420304792214764, 3343415821930158803, -1549658207042537563, 4957982549059460862, -6981120768548092329, 477395597992817941, -4415678430979878425, -2306395057862248128, -7199469086834944494, -1814824987658027898, 4692815768443970527, -200258260528725839, 1909025112588904458, 8035323664306360154, -3903779653301193037, 5251533008451294085, -6687570309156259106, 5598265817566114461, -6340837500041438730, 7212832544695416520, -4726270772912136671, -2998329604179049103, 3509311151922949322, 5618594525040579619, 725520496067883253, -3909839014634721779, -1800555641517091482, 4707085114584906943, -185988914387789423, -5504077034289558680, 8049593010447296570, -3889510307160256621, -8782584336132952987, -3542777498045436245, -8435851527018132611, -6326568153900502314, 7227101890836352936, 7639588968742406381, 2746514939769710015, -9192588377837843176, 4361081666899012074]
theorem h13_ok : (R3 1 3).map hT = h13 := by kernel_rfl
def h20 : List Int := [3056632009055576707, 5165915382173207004, -6773187935434346187, 6780482109302509063, 6350149360123153716, -5588953957484399475, 3566358704268087647, -8372744613339465544, -2246446061622009848, -137162688504379551, -5030236717477075917, 1477404038624922508, -4683503908362255541, 1824136847739742884, -7467294564217321610, -959653808115323185, 839312444017685008, -4053761584955011358, -1944478211837381061, 4563162544264617364, -7757282977727478556, -5647999604609848259, 7905670440127006991, -4033432877480546200, -4463765626659901547, 9089904418076953703, -7247556282514967616, 6306113762221887634, 988025642320118377, -3905048386652577989, 2602592369449420436, 9110233125551418861, -5654058965943377001, 853581790158621424, -4039492238814074942, 2468148517287923483, 2037815768108568136, -7253615643848496358, -745974887746497933, 5761665868355500492, 7489607037088588060, -4449496280518965131, 9104173764217890119, -2834929553389663072, -8995837500376841121, -6886554127259210824, 6667115917477644426, -5271987400129908765, 8001505814767273448, 3108431785794577082, -8830671531812976109, 4722998512923879141, -595089606977890116, -5488163635950586482, 1019477120151411943, 3128760493269042240, -8702287040985007898, -2194646284883009473, 4312994471218988952, -4978436940738075542, 7307399185984298025, -4631704131623255166, 1875936624478743259, -3017137404493953107]
theorem h20_ok : (R3 2 0).map hT = h20 := by kernel_rfl
def h21 : List Int := [1574893754054149046, -3318180274918547320, -1208896901800917023, 5298743854301081402, -862164092686096647, -5755238121658793013, 752402634443205412, 7260043390545203837, 2431353258381480362, -2461720770591216004, 4045919985510782421, -847154043461913945, -6165242163363683202, 7388427881373172048, -4550675436234381143, 4604637225518105979, 6403603477651114172, -5535499839956439019, 8018170204780416231, -8319290495811505088, 8364903013895236607, -7972557686696684712, 5581112358040170538, -6357990959567382653, 1100525406973527617, 7608166163075526042, 2715092134102829676, 4824375507220459973, -1336532439766718076, 5171108316335280349, 278034287362583983, 6785675043464582408, -2737439837960436534, 6417872823792050588, -5521230493815502603, 8032439550921352647, 7602106801741997300, -4336996515865555891, 4818316145886931231, -7120787171720621960, -8040517908638023089, 1114794753114464033, 7622435509216462458, 2729361480243766092, -3431546466743411957, 3076094289358586468, 5185377662476216765, 292303633503520399, -482589842324480876, 1626693530793149421, -3266380498179546945, 3241260257922451480, -2919647689064726569, 3587993067037271856, -5703438344919792638, 804202411182205787, 6930500962899661483, 9039784336017291780, 4146710307044595414, -7792393010562957777, -8222725759742313124, -1715085003640314699, 7440227658112172423, -4498875659495380768]
theorem h21_ok : (R3 2 1).map hT = h21 := by kernel_rfl
def h22 : List Int := [-4887917450881975876, -2778634077764345579, -7671708106737041945, -1164067350635043520, 563873818098044048, 7071514574200042473, 2178440545227346107, 8686081301329344532, 2525173354342166483, 4634456727459796780, -258617301512899586, 6249023454589098839, -4739204252579542507, 1768436503522455918, -3124637525450240448, -1015354152332610151, -1790247628160611426, -6683321657133307792, -4574038284015677495, 1933602472086320930, -4227305474900857119, -9120379503873553485, -2612738747771555060, -503455374653924763, -2266005938656734684, 6889306723095752438, -5049796594511800753, 8503873450225054497, 3185785330323285240, -8753317987284267951, 4800352057452587299, -7138751260154965892, 2274275919867612564, 8781916675969610989, -509514735987453505, 5998126020114544920, -6322319501877551000, -4213036128759920703, -9106110157732617069, -2598469401630618644, -8759377348617796693, -2251736592515798268, -7144810621488494634, -5035527248370864337, 6821346501154414061, 8930629874272044358, 4037555845299347992, -7901547472308205199, -8247478570939111305, 5306191473797743945, -6632911843809809246, 2522400817942677876, 7333245278833099449, -1958186133123965045, 4549454622978033380, -343619405994662986, 4896187432092853756, 3113403120157390, 2112396776237787687, -2780677252734908679, -3700407989652309808, 5454904672100177314, -6484198645507375877, 7069471399229479373]
theorem h22_ok : (R3 2 2).map hT = h22 := by kernel_rfl
def h23 : List Int := [6808103571080913392, -5130999746526639799, 8422670298210215451, -3516433019397337740, 8769403107325035827, -7568057593266885492, 5985612451469969758, -5953490866137583433, -4225549697404495865, 2282091058697502560, -2610982970275193806, 3896657785826804619, -2264250161160373430, 4243390594941624995, -5048040817015439499, 1459599939086558926, -3713650919725810477, -8606724948698506843, -2099084192596508418, 4408556563505490007, 3978223814326134660, -5313207597630929834, 1194433158471068591, -3698640870501627775, -9016728990403397032, 4536941054333458218, -7402162263274094973, 6151507781462760277, -7055429454159274597, 2099883207593212525, 8607523963695210950, 3714449934722514584, 2495769979066327812, -2397304049906368554, 4110336706195629871, 6219620079313260168, 58712132326082119, -4834361896646614247, 1673278859455384178, 8180919615557382603, -8537883289419081445, -2030242533317083020, -6923316562289779386, -4814033189172149089, -5244365938351504436, 8309304106385350814, -3629799211222202377, -8522873240194898743, 4750619974702283470, -7188483342905269721, 1966829318847217401, 8474470074949215826, 2313562127962037777, 8821202884064036202, 3928128855091339836, -8010974462516213355, -6283033293783125787, 224607462318872638, 6732248218420871063, -2559183193536193431, -8720091140523371480, -2212450384421373055, 4295190371680625370, -597883657292070996]
theorem h23_ok : (R3 2 3).map hT = h23 := by kernel_rfl
def h30 : List Int := [7788596393746326004, 2895522364773629638, 5004805737891259935, -6934297579716293256, 5351538547006080311, 458464518033383945, 6966105274135382370, 9075388647253012667, 2914480700265834618, -1978593328706861748, 4529047427395136677, -364026601577559689, 48460476328493756, -4844613552644202610, -2735330179526572313, -7628404208499268679, -6593624131935001622, -85983375833003197, 9069329285919483925, -2869774031688069266, 3256524520029386430, 5365807893147016727, 472733864174320361, 6980374620276318786, 6550041871096963439, 1656967842124267073, 3766251215241897370, -8172852102365655821, -6444910933632568253, 62729822469430172, -4830344206503266194, 1677296549598732231, -4338774136299045964, 2168866619802952461, 4278149992920582758, -614924036052113608, -1534654772969514737, 7620657888782972385, -4318445428824580806, -9211519457797277172, -3971712619709760430, -8864786648682456796, -6755503275564826499, 6798166769172028751, 5878436032254627622, -3412995379702436872, 3094645376399561553, -1798428652573134813, 568569238814586818, -4324504790158109548, 2183135965943888877, 8690776722045887302, -8028026182930576746, -1520385426828578321, -6413459455801274687, -4304176082683644390, 7981660044038729177, -3957443273568824014, -8850517302541520380, -2342876546439521955, -2773209295618877302, 6382103366133609820, -5556999951473943371, 7996670093262911879]
theorem h30_ok : (R3 3 0).map hT = h30 := by kernel_rfl
def h31 : List Int := [-6850975773720601961, 6702694271016253289, -5236409046591299902, 3918903615161187220, -4889676237476479526, 4265636424276007596, -7673466893331545595, 5880203151405309655, 562115031503540398, -4330958997469155968, 2176681758632842457, -2716392270339853909, 2523414567747662833, -6768016844209401661, -260376088107403236, -5153450117080099602, -8945989800697295842, -6836706427579665545, 6716963617157189705, -5222139700450363486, 7063696426272010081, -4875406891335543110, 8678263153401312140, -7659197547190609179, 4626638579531764388, -266435449440931978, 6241205306661066447, -5697898010946486744, 1760618355594423526, -3132455673378272840, -1023172300260642543, 5484468455841355882, -4117280077100330716, 2390360679001667709, -6901070732955396785, -393429976853398360, -6554337923840576409, -46697167738577984, -4939771196711274350, 1567869559390724075, 3295810728123811643, -8643292589483741548, -2135651833381743123, 7019660828370743999, 6589328079191388652, -5349775238416164539, 8203894806320690711, -8133565894271230608, 790063298013302066, -4103010730959394300, 2404630025142604125, -2488444003830092241, 2751362834257424501, -2141711194715271865, -32427821597641568, -4925501850570337934, -4513014772664284489, 9040655272072570761, -2898448045534982430, -7791522074507678796, -2551715236420162054, 6603597425332325068, -5335505892275228123, 8218164152461627127]
theorem h31_ok : (R3 3 1).map hT = h31 := by kernel_rfl
def h32 : List Int := [-3171477830716007437, -1062194457598377140, -5955268486571073506, 552372269530924919, 2280313438264012487, 8787954194366010912, -3151149123241542279, -8044223152214238645, -8474555901393593992, -6365272528275963695, 7188397516460891555, -4750705801146661636, -3022764632413574068, 3484876123688424357, -1408197905284272009, 5099442850817726416, -7519951889913155147, -5410668516795524850, 1096972239306473575, -3796101789666222791, 8489734337056150776, -3449368980551402415, 3058271775550596010, -6233159636406468484, 6052676490315905083, -5886426827291648108, 621213928810350317, -4271860100162346049, 8856795853645436310, 3963721824672739944, -7975381492934813247, 1179931168817673875, 405037692989672600, 6912678449091671025, -2378752962865393469, 4128887793236604956, 3698555044057249609, -1194518984915446757, 914764388202183540, 7422405144304181965, 1261497197317003916, -3631576831655692450, 2876063924446305975, -9063039393161247216, -7335098224428159648, -827457468326161223, -5720531497298857589, -3611248124181227292, -4386141600009228567, 4769171061743258555, -7169932255864294636, 6383737788872560614, -6823199446749474260, 6730470597987380990, -5208632719620172201, 3946679942132314921, 9186486780219831663, 4293412751247135297, -7645690566360417894, 5907979478376437356, -5080248228792203990, 1427392527309794435, 3536675900427424732, -1356398128545271634]
theorem h32_ok : (R3 3 2).map hT = h32 := by kernel_rfl
def h33 : List Int := [-4653216085717435098, 8900453959019420152, -7437006741572501167, 6116663303164354083, 5196932566246952954, -4094498845710111540, 2413141910391886885, 8920782666493885310, 8490449917314529963, 3597375888341833597, 5706659261459463894, 813585232486767528, 6053392070574284270, 1160318041601587904, 7667958797703586329, -1623472614253478165, 1556204813074703191, -7735226598882361303, -1227585842780362878, -6120659871753059244, 7007996082054723115, 2114922053082026749, 8622562809184025174, -3316540508423528017, 8969295618298845550, -322135793658218944, 6185504962443779481, -5753598355163773710, 6532237771558599857, 1639163742585903491, 8146804498687901916, -8190656201904019403, -1919520389097163853, 189762984020466444, 6697403740122464869, 1804329711149768503, -3513758408752000754, -8406832437724697120, -1899191681622698695, -6792265710595395061, -7222598459774750408, -5113315086657120111, 8440354958079735139, -3498748359527818052, 8787087767194555515, -3152015550412997676, 6003297111339489446, -5935806206268063745, 2987822986016468929, -1905251042956227437, 4602389713145770988, -4689041698811293506, -5119374447990648853, 1388266308111349572, 7895907064213347997, 3002833035240651631, -2315255084661117626, -7208329113633813992, -700688357531815567, 8454624304220671555, -4752312931401363319, 8801357113335491931, -3137746204272061260, -8030820233244757626]
theorem h33_ok : (R3 3 3).map hT = h33 := by kernel_rfl
/-- no two alike: parted by bits -/
def bitI (k : Nat) (x : Int) : Bool := Nat.beq (Nat.mod (Nat.div (x + 9223372036854775808).toNat (Nat.pow 2 k)) 2) 1
def ndF : Nat → Nat → List Int → Bool
  | 0, _, l => nodupI l
  | n + 1, k, l => (match l with
    | [] => true
    | [_] => true
    | _ => ndF n (k + 1) (l.filter (bitI k)) && ndF n (k + 1) (l.filter fun x => !bitI k x))
theorem ndF_ok : ∀ (n k : Nat) (l : List Int), ndF n k l = true → l.Nodup
  | 0, _, l, h => (nodupI_iff l).mp h
  | n + 1, k, l, h => by
    unfold ndF at h
    split at h
    · exact List.nodup_nil
    · simp
    · rw [Bool.and_eq_true] at h
      have h1 := ndF_ok n (k + 1) _ h.1
      have h2 := ndF_ok n (k + 1) _ h.2
      have p : (l.filter (bitI k) ++ l.filter fun x => !bitI k x).Perm l := List.filter_append_perm _ _
      refine p.nodup_iff.mp (List.nodup_append.mpr ⟨h1, h2, fun a ha b hb => ?_⟩)
      intro e
      subst e
      have a1 := (List.mem_filter.mp ha).2
      have a2 := (List.mem_filter.mp hb).2
      rw [a1] at a2
      cases a2
def hAll : List Int := h00 ++ h01 ++ h02 ++ h03 ++ h10 ++ h11 ++ h12 ++ h13 ++ h20 ++ h21 ++ h22 ++ h23 ++ h30 ++ h31 ++ h32 ++ h33
theorem hAll_nd : ndF 20 3 hAll = true := by kernel_rfl
theorem r5_map : R5.map hT = hAll := by
  show (R3 0 0 ++ (R3 0 1 ++ (R3 0 2 ++ (R3 0 3 ++ []))) ++ ((R3 1 0 ++ (R3 1 1 ++ (R3 1 2 ++ (R3 1 3 ++ [])))) ++ ((R3 2 0 ++ (R3 2 1 ++ (R3 2 2 ++ (R3 2 3 ++ [])))) ++ ((R3 3 0 ++ (R3 3 1 ++ (R3 3 2 ++ (R3 3 3 ++ [])))) ++ [])))).map hT = _
  simp only [List.map_append, List.append_nil, List.map_nil, List.append_assoc, hAll, h00_ok, h01_ok, h02_ok, h03_ok, h10_ok, h11_ok, h12_ok, h13_ok, h20_ok, h21_ok, h22_ok, h23_ok, h30_ok, h31_ok, h32_ok, h33_ok]
theorem r5_hash : nodupI (R5.map hT) = true := (nodupI_iff _).mpr (by rw [r5_map]; exact ndF_ok _ _ _ hAll_nd)
end L2.Dn
set_option Elab.async false
set_option linter.all false
set_option maxRecDepth 100000
set_option maxHeartbeats 0
/-! k67: cuts of single rows: far ones change places, three go round, twice is nothing -/
namespace L2.Dn
open PySem PySem.Spec PyProof.Rows C8
def nilB (p : PR) : Bool := match p with
  | [] => true
  | _ => false
def cut2 (r : List Int) (i j : Nat) : PR := cutP (cutP [(r, 1)] i) j
def cut3 (r : List Int) (i j k : Nat) : PR := cutP (cut2 r i j) k
def relB (r : List Int) : Bool :=
  nilB (cut2 r 1 1) && nilB (cut2 r 2 2) && nilB (cut2 r 3 3) && nilB (cut2 r 4 4) &&
  eqP (cut2 r 1 3) (cut2 r 3 1) && eqP (cut2 r 1 4) (cut2 r 4 1) && eqP (cut2 r 2 4) (cut2 r 4 2) &&
  eqP (cut3 r 1 2 1) (cut3 r 2 1 2) && eqP (cut3 r 2 3 2) (cut3 r 3 2 3) && eqP (cut3 r 3 4 3) (cut3 r 4 3 4)
end L2.Dn
set_option Elab.async false
set_option linter.all false
set_option maxRecDepth 100000
set_option maxHeartbeats 0
/-! k67: the kernel on single rows -/
namespace L2.Dn
open PySem PySem.Spec PyProof.Rows C8
theorem rel00 : (R3 0 0).all relB = true := by kernel_rfl
theorem rel01 : (R3 0 1).all relB = true := by kernel_rfl
theorem rel02 : (R3 0 2).all relB = true := by kernel_rfl
theorem rel03 : (R3 0 3).all relB = true := by kernel_rfl
end L2.Dn
set_option Elab.async false
set_option linter.all false
set_option maxRecDepth 100000
set_option maxHeartbeats 0
/-! k67: the kernel on single rows -/
namespace L2.Dn
open PySem PySem.Spec PyProof.Rows C8
theorem rel10 : (R3 1 0).all relB = true := by kernel_rfl
theorem rel11 : (R3 1 1).all relB = true := by kernel_rfl
theorem rel12 : (R3 1 2).all relB = true := by kernel_rfl
theorem rel13 : (R3 1 3).all relB = true := by kernel_rfl
end L2.Dn
set_option Elab.async false
set_option linter.all false
set_option maxRecDepth 100000
set_option maxHeartbeats 0
/-! k67: the kernel on single rows -/
namespace L2.Dn
open PySem PySem.Spec PyProof.Rows C8
theorem rel20 : (R3 2 0).all relB = true := by kernel_rfl
theorem rel21 : (R3 2 1).all relB = true := by kernel_rfl
theorem rel22 : (R3 2 2).all relB = true := by kernel_rfl
theorem rel23 : (R3 2 3).all relB = true := by kernel_rfl
end L2.Dn
set_option Elab.async false
set_option linter.all false
set_option maxRecDepth 100000
set_option maxHeartbeats 0
/-! k67: the kernel on single rows -/
namespace L2.Dn
open PySem PySem.Spec PyProof.Rows C8
theorem rel30 : (R3 3 0).all relB = true := by kernel_rfl
theorem rel31 : (R3 3 1).all relB = true := by kernel_rfl
theorem rel32 : (R3 3 2).all relB = true := by kernel_rfl
theorem rel33 : (R3 3 3).all relB = true := by kernel_rfl
end L2.Dn
set_option Elab.async false
set_option linter.all false
set_option maxRecDepth 100000
set_option maxHeartbeats 0
/-! k67: cuts of polynomials of small rows by linearity -/
namespace L2.Dn
open PySem PySem.Spec PyProof.Rows C8
theorem e4_mem {x : Int} (h : 0 ≤ x ∧ x ≤ 3) : x ∈ E4 := by
  rcases (show x = 0 ∨ x = 1 ∨ x = 2 ∨ x = 3 by omega) with rfl | rfl | rfl | rfl <;> decide
theorem r5_mem {r : List Int} (hl : r.length = 5) (h : ∀ x ∈ r, 0 ≤ x ∧ x ≤ 3) : r ∈ R5 := by
  match r, hl with
  | [a, b, c, d, e], _ =>
    have m : ∀ x ∈ [a, b, c, d, e], x ∈ E4 := fun x hx => e4_mem (h x hx)
    refine List.mem_flatMap.mpr ⟨a, m a (by simp), List.mem_flatMap.mpr ⟨b, m b (by simp), List.mem_flatMap.mpr ⟨c, m c (by simp), List.mem_flatMap.mpr ⟨d, m d (by simp), List.mem_map.mpr ⟨e, m e (by simp), rfl⟩⟩⟩⟩⟩
theorem rel_all : ∀ r ∈ R5, relB r = true := fun r hr => by
  obtain ⟨a, ha, hr⟩ := List.mem_flatMap.mp hr
  obtain ⟨b, hb, hr⟩ := List.mem_flatMap.mp hr
  have key : ∀ a b : Int, (R3 a b).all relB = true → r ∈ R3 a b → relB r = true := fun a b h m => List.all_eq_true.mp h r m
  unfold E4 at ha hb
  simp only [List.mem_cons, List.not_mem_nil, or_false] at ha hb
  rcases ha with rfl | rfl | rfl | rfl <;> rcases hb with rfl | rfl | rfl | rfl
  · exact key _ _ rel00 hr
  · exact key _ _ rel01 hr
  · exact key _ _ rel02 hr
  · exact key _ _ rel03 hr
  · exact key _ _ rel10 hr
  · exact key _ _ rel11 hr
  · exact key _ _ rel12 hr
  · exact key _ _ rel13 hr
  · exact key _ _ rel20 hr
  · exact key _ _ rel21 hr
  · exact key _ _ rel22 hr
  · exact key _ _ rel23 hr
  · exact key _ _ rel30 hr
  · exact key _ _ rel31 hr
  · exact key _ _ rel32 hr
  · exact key _ _ rel33 hr
abbrev Sm (p : PR) : Prop := Box 3 5 p
theorem sm_r5 {p : PR} (h : Sm p) : ∀ k ∈ kysP p, k ∈ R5 := fun k hk => by
  obtain ⟨e, he, rfl⟩ := List.mem_map.mp hk
  exact r5_mem (h e he).1 (h e he).2
theorem sm_cut {p : PR} (h : Sm p) {i : Nat} (h1 : 1 ≤ i) (h4 : i ≤ 4) : Sm (cutP p i) := box_cutP (B := 3) (n := 5) (by decide) h1 (by omega) h
theorem sm_hok {p : PR} (h : Sm p) (nd : NdP p) : hOk p = true := hOk_in r5_hash nd (sm_r5 h)
theorem r5_len : R5.length = 1024 := by
  have := congrArg List.length r5_map
  rw [List.length_map] at this
  rw [this]
  rfl
theorem sm_len {p : PR} (h : Sm p) (nd : NdP p) : p.length ≤ 1024 := by
  have := sub_len nd (sm_r5 h)
  rwa [r5_len] at this
/-! ### by linearity -/
theorem lin_fam {p T : PR} (Q : List Int → PR) (w : List Int → Int) (h : ∀ k, cfs p k = lin (fun s => cfs (Q s) k) T) : lin w p = lin (fun s => lin w (Q s)) T := by
  let comb : PR → PR := fun T => T.flatMap fun e => scaleP e.2 (Q e.1)
  have h1 : ∀ (T : PR) (k : List Int), cfs (comb T) k = lin (fun s => cfs (Q s) k) T := by
    intro T
    induction T with
    | nil => intro k; rfl
    | cons x T ih =>
      intro k
      obtain ⟨s, n⟩ := x
      show cfs (scaleP n (Q s) ++ comb T) k = n * cfs (Q s) k + lin (fun s => cfs (Q s) k) T
      rw [cfs_append, cfs_scaleP, ih k]
  have h2 : ∀ (q : PR) (n : Int), lin w (scaleP n q) = n * lin w q := by
    intro q
    induction q with
    | nil => intro n; show (0 : Int) = n * 0; omega
    | cons x q ih =>
      intro n
      obtain ⟨k, v⟩ := x
      show n * v * w k + lin w (scaleP n q) = n * (v * w k + lin w q)
      rw [ih n, Int.mul_add, Int.mul_assoc]
  have h3 : ∀ T : PR, lin w (comb T) = lin (fun s => lin w (Q s)) T := by
    intro T
    induction T with
    | nil => rfl
    | cons x T ih =>
      obtain ⟨s, n⟩ := x
      show lin w (scaleP n (Q s) ++ comb T) = n * lin w (Q s) + _
      rw [lin_append, h2, ih]
  rw [← h3]
  exact lin_congr w fun k => by rw [h k, h1 T k]
theorem cut_fam1 (p : PR) (i : Nat) (k : List Int) : cfs (cutP p i) k = lin (fun r => cfs (cutP [(r, 1)] i) k) p := by
  rw [cfs_cutP, lin_fam (fun r => [(r, (1 : Int))]) _ (T := p)]
  · exact lin_ext (fun r => (cfs_cutP _ _ _).symm) p
  · intro k
    rw [cfs_lin]
    exact lin_ext (fun r => by show (if r = k then (1 : Int) else 0) = (if r = k then 1 else 0) + 0; omega) p
theorem cut_fam2 (p : PR) (i j : Nat) (k : List Int) : cfs (cutP (cutP p i) j) k = lin (fun r => cfs (cut2 r i j) k) p := by
  rw [cfs_cutP, lin_fam (fun r => cutP [(r, (1 : Int))] i) _ (T := p) (cut_fam1 p i)]
  exact lin_ext (fun r => (cfs_cutP _ _ _).symm) p
theorem cut_fam3 (p : PR) (i j l : Nat) (k : List Int) : cfs (cutP (cutP (cutP p i) j) l) k = lin (fun r => cfs (cut3 r i j l) k) p := by
  rw [cfs_cutP, lin_fam (fun r => cut2 r i j) _ (T := p) (cut_fam2 p i j)]
  exact lin_ext (fun r => (cfs_cutP _ _ _).symm) p
theorem nilB_ok {p : PR} (h : nilB p = true) : p = [] := by
  cases p with
  | nil => rfl
  | cons a b => cases h
structure Rel (r : List Int) : Prop where
  twice : ∀ i, 1 ≤ i → i ≤ 4 → cut2 r i i = []
  far : ∀ i j, 1 ≤ i → i + 2 ≤ j → j ≤ 4 → eqv (cut2 r i j) (cut2 r j i)
  three : ∀ i, 1 ≤ i → i ≤ 3 → eqv (cut3 r i (i + 1) i) (cut3 r (i + 1) i (i + 1))
theorem rel_of {r : List Int} (hr : r ∈ R5) : Rel r := by
  have h := rel_all r hr
  unfold relB at h
  simp only [Bool.and_eq_true] at h
  obtain ⟨⟨⟨⟨⟨⟨⟨⟨⟨b1, b2⟩, b3⟩, b4⟩, b5⟩, b6⟩, b7⟩, b8⟩, b9⟩, b10⟩ := h
  have e2 : ∀ i j i' j', eqP (cut2 r i j) (cut2 r i' j') = true → eqv (cut2 r i j) (cut2 r i' j') := fun i j i' j' h => (eqP_iff (wf_cutP _ _) (wf_cutP _ _)).mp h
  have e3 : ∀ i j l i' j' l', eqP (cut3 r i j l) (cut3 r i' j' l') = true → eqv (cut3 r i j l) (cut3 r i' j' l') := fun i j l i' j' l' h => (eqP_iff (wf_cutP _ _) (wf_cutP _ _)).mp h
  refine ⟨fun i h1 h2 => ?_, fun i j h1 h2 h3 => ?_, fun i h1 h2 => ?_⟩
  · rcases (show i = 1 ∨ i = 2 ∨ i = 3 ∨ i = 4 by omega) with rfl | rfl | rfl | rfl
    · exact nilB_ok b1
    · exact nilB_ok b2
    · exact nilB_ok b3
    · exact nilB_ok b4
  · rcases (show (i = 1 ∧ j = 3) ∨ (i = 1 ∧ j = 4) ∨ (i = 2 ∧ j = 4) by omega) with ⟨rfl, rfl⟩ | ⟨rfl, rfl⟩ | ⟨rfl, rfl⟩
    · exact e2 _ _ _ _ b5
    · exact e2 _ _ _ _ b6
    · exact e2 _ _ _ _ b7
  · rcases (show i = 1 ∨ i = 2 ∨ i = 3 by omega) with rfl | rfl | rfl
    · exact e3 _ _ _ _ _ _ b8
    · exact e3 _ _ _ _ _ _ b9
    · exact e3 _ _ _ _ _ _ b10
theorem sm_rel {p : PR} (h : Sm p) : ∀ e ∈ p, Rel e.1 := fun e m => rel_of (r5_mem (h e m).1 (h e m).2)
theorem cut_twice {p : PR} (h : Sm p) {i : Nat} (h1 : 1 ≤ i) (h4 : i ≤ 4) : cutP (cutP p i) i = [] := by
  refine eqv_nil (wf_cutP _ _) fun k => ?_
  rw [cut_fam2, lin_cong2 (w' := fun _ => 0) fun e m => by
    show cfs (cut2 e.1 i i) k = 0
    rw [(sm_rel h e m).twice i h1 h4]
    rfl]
  have : ∀ q : PR, lin (fun _ => 0) q = 0 := by
    intro q
    induction q with
    | nil => rfl
    | cons x q ih =>
      obtain ⟨a, b⟩ := x
      show b * 0 + lin (fun _ => 0) q = 0
      rw [ih]
      omega
  exact this p
theorem cut_far {p : PR} (h : Sm p) {i j : Nat} (h1 : 1 ≤ i) (h2 : i + 2 ≤ j) (h4 : j ≤ 4) : eqv (cutP (cutP p i) j) (cutP (cutP p j) i) := fun k => by
  rw [cut_fam2, cut_fam2]
  exact lin_cong2 fun e m => (sm_rel h e m).far i j h1 h2 h4 k
theorem cut_three {p : PR} (h : Sm p) {i : Nat} (h1 : 1 ≤ i) (h3 : i ≤ 3) : eqv (cutP (cutP (cutP p i) (i + 1)) i) (cutP (cutP (cutP p (i + 1)) i) (i + 1)) := fun k => by
  rw [cut_fam3, cut_fam3]
  exact lin_cong2 fun e m => (sm_rel h e m).three i h1 h3 k
end L2.Dn
set_option Elab.async false
set_option linter.all false
set_option maxRecDepth 100000
set_option maxHeartbeats 0
/-! k67: all chains cut alike -/
namespace L2.Dn
open PySem PySem.Spec PyProof.Rows C8
theorem dsc_mem : ∀ (suf pre : List Int), ∀ z ∈ dscL ((pre.length : Nat) + 1) suf, ∃ j : Nat, z = (j : Int) ∧ 1 ≤ j ∧ j < pre.length + suf.length ∧ (pre ++ suf).getD j 0 < (pre ++ suf).getD (j - 1) 0
  | [], pre, z, m => nomatch m
  | [x], pre, z, m => nomatch m
  | x :: y :: r, pre, z, m => by
    have hp : (((pre ++ [x]).length : Nat) : Int) = (pre.length : Nat) + 1 := by simp
    have ih := dsc_mem (y :: r) (pre ++ [x])
    rw [hp] at ih
    have rest : z ∈ dscL ((pre.length : Nat) + 1 + 1) (y :: r) → ∃ j : Nat, z = (j : Int) ∧ 1 ≤ j ∧ j < pre.length + (x :: y :: r).length ∧ (pre ++ x :: y :: r).getD j 0 < (pre ++ x :: y :: r).getD (j - 1) 0 := fun m => by
      obtain ⟨j, h1, h2, h3, h4⟩ := ih z m
      refine ⟨j, h1, h2, ?_, ?_⟩
      · simp only [List.length_append, List.length_cons, List.length_nil] at h3 ⊢
        omega
      · have : pre ++ [x] ++ y :: r = pre ++ x :: y :: r := by simp
        rw [this] at h4
        exact h4
    unfold dscL at m
    split at m
    · rename_i q
      rcases List.mem_cons.mp m with rfl | m
      · refine ⟨pre.length + 1, by omega, by omega, by simp, ?_⟩
        have e1 : (pre ++ x :: y :: r).getD (pre.length + 1 - 1) 0 = x := by simp [List.getD]
        have e2 : (pre ++ x :: y :: r).getD (pre.length + 1) 0 = y := by simp [List.getD]
        rw [e1, e2]
        exact of_decide_eq_true q
      · exact rest m
    · exact rest m
/-- exchanged down to nothing, place by place -/
inductive Chn (n : Nat) : List Int → List Int → Prop
  | nil : Chn n (rgL 1 n) []
  | cons {s : List Int} {j : Nat} {v : List Int} : s ∈ seqsI n → 1 ≤ j → j < n → Dsc s j → Chn n (swpP s j) v → Chn n s ((j : Int) :: v)
theorem Chn.crs {n : Nat} {s v : List Int} (h : Chn n s v) : Crs n v := by
  induction h with
  | nil => exact fun x m => nomatch m
  | cons hs h1 h2 _ _ ih =>
    intro x m
    rcases List.mem_cons.mp m with rfl | m
    · omega
    · exact ih x m
theorem id_inv : ∀ n : Nat, 2 ≤ n → n ≤ 5 → invP (rgL 1 n) = 0
  | 2, _, _ => by kernel_rfl
  | 3, _, _ => by kernel_rfl
  | 4, _, _ => by kernel_rfl
  | 5, _, _ => by kernel_rfl
  | 0, h, _ => by omega
  | 1, h, _ => by omega
  | n + 6, _, h => by omega
theorem id_mem (n : Nat) : rgL 1 n ∈ seqsI n := permsP_mem _ _ (List.Perm.refl _)
theorem Chn.mem {n : Nat} {s v : List Int} (h : Chn n s v) : s ∈ seqsI n := by
  cases h with
  | nil => exact id_mem n
  | cons hs _ _ _ _ => exact hs
theorem Chn.len {n : Nat} (h2 : 2 ≤ n) (h5 : n ≤ 5) {s v : List Int} (h : Chn n s v) : v.length = invP s := by
  induction h with
  | nil => exact (id_inv n h2 h5).symm
  | cons hs h1 h3 hd _ ih =>
    have := (ft_of h2 h5 hs h1 h3).inv hd
    simp only [List.length_cons]
    omega
theorem chn_ex {n : Nat} (h2 : 2 ≤ n) (h5 : n ≤ 5) : ∀ (m : Nat) {s : List Int}, invP s ≤ m → s ∈ seqsI n → ∃ v, Chn n s v := by
  intro m
  induction m with
  | zero =>
    intro s hm hs
    have := (fa_of h2 h5 hs).id0 (by omega)
    rw [this]
    exact ⟨[], .nil⟩
  | succ m ih =>
    intro s hm hs
    by_cases z : invP s = 0
    · rw [(fa_of h2 h5 hs).id0 z]
      exact ⟨[], .nil⟩
    · have hd := (fa_of h2 h5 hs).dsc z
      obtain ⟨x, hx⟩ := List.exists_mem_of_ne_nil _ hd
      obtain ⟨j, rfl, j1, j2, j3⟩ := dsc_mem s [] x hx
      have hl := seqsI_len hs
      have jn : j < n := by simpa [hl] using j2
      have := (ft_of h2 h5 hs j1 jn).inv j3
      obtain ⟨v, hv⟩ := ih (s := swpP s j) (by omega) (swp_mem hs j1 jn)
      exact ⟨_, .cons hs j1 jn j3 hv⟩
/-- cut at the places, the last of the list first -/
def cutR (p : PR) : List Int → PR
  | [] => p
  | i :: v => cutP (cutR p v) i.toNat
theorem cutR_sm {n : Nat} (h5 : n ≤ 5) {p : PR} (h : Sm p) : ∀ {v : List Int}, Crs n v → Sm (cutR p v)
  | [], _ => h
  | i :: v, hc => sm_cut (cutR_sm h5 h (v := v) hc.tail) hc.head.1 (by have := hc.head.2; omega)
theorem cutR_wf {p : PR} (h : WfP p) : ∀ (v : List Int), WfP (cutR p v)
  | [] => h
  | i :: v => wf_cutP _ _
/-- two different last places -/
theorem mats_lt {n : Nat} (h2 : 2 ≤ n) (h5 : n ≤ 5) {s u u' : List Int} {i j : Nat} (hs : s ∈ seqsI n) (h1 : 1 ≤ i) (hij : i < j) (hj : j < n) (di : Dsc s i) (dj : Dsc s j) {p : PR} (sp : Sm p)
    (ia : ∀ w, Chn n (swpP s i) w → eqv (cutR p u) (cutR p w)) (ib : ∀ w, Chn n (swpP s j) w → eqv (cutR p u') (cutR p w)) : eqv (cutP (cutR p u) i) (cutP (cutR p u') j) := by
  have mi := swp_mem hs h1 (show i < n by omega)
  have mj := swp_mem hs (show 1 ≤ j by omega) hj
  have nt : ∀ k : Nat, ((k : Int)).toNat = k := fun k => by omega
  by_cases hf : i + 2 ≤ j
  · obtain ⟨d1, d2, e⟩ := two_far h2 h5 hs h1 hf hj di dj
    have m2 := swp_mem mi (show 1 ≤ j by omega) hj
    obtain ⟨t, ht⟩ := chn_ex h2 h5 _ (Nat.le_refl _) m2
    have st := cutR_sm h5 sp ht.crs
    have a := ia _ (.cons mi (by omega) hj d1 ht)
    have b := ib _ (.cons mj h1 (by omega) d2 (by rw [← e]; exact ht))
    have a2 : eqv (cutP (cutR p u) i) (cutP (cutP (cutR p t) j) i) := (cut_congr a i).trans (by
      show eqv (cutP (cutP (cutR p t) ((j : Int)).toNat) i) _
      rw [nt]
      exact eqv.refl _)
    have b2 : eqv (cutP (cutR p u') j) (cutP (cutP (cutR p t) i) j) := (cut_congr b j).trans (by
      show eqv (cutP (cutP (cutR p t) ((i : Int)).toNat) j) _
      rw [nt]
      exact eqv.refl _)
    exact fun k => (a2 k).trans (((cut_far st h1 hf (by omega)) k).symm.trans (b2 k).symm)
  · obtain rfl : j = i + 1 := by omega
    obtain ⟨d1, d2, d3, d4, e⟩ := two_near h2 h5 hs h1 hj di dj
    have m2 := swp_mem mi (show 1 ≤ i + 1 by omega) hj
    have m2' := swp_mem mj h1 (show i < n by omega)
    have m3 := swp_mem m2 h1 (show i < n by omega)
    obtain ⟨t, ht⟩ := chn_ex h2 h5 _ (Nat.le_refl _) m3
    have st := cutR_sm h5 sp ht.crs
    have a := ia _ (.cons mi (by omega) hj d1 (.cons m2 h1 (by omega) d2 ht))
    have b := ib _ (.cons mj h1 (by omega) d3 (.cons m2' (by omega) hj d4 (by rw [← e]; exact ht)))
    have a2 : eqv (cutP (cutR p u) i) (cutP (cutP (cutP (cutR p t) i) (i + 1)) i) := (cut_congr a i).trans (by
      show eqv (cutP (cutP (cutP (cutR p t) ((i : Int)).toNat) (((i + 1 : Nat) : Int)).toNat) i) _
      rw [nt, nt]
      exact eqv.refl _)
    have b2 : eqv (cutP (cutR p u') (i + 1)) (cutP (cutP (cutP (cutR p t) (i + 1)) i) (i + 1)) := (cut_congr b (i + 1)).trans (by
      show eqv (cutP (cutP (cutP (cutR p t) (((i + 1 : Nat) : Int)).toNat) ((i : Int)).toNat) (i + 1)) _
      rw [nt, nt]
      exact eqv.refl _)
    exact fun k => (a2 k).trans (((cut_three st h1 (by omega)) k).trans (b2 k).symm)
/-- all chains of a sequence cut alike -/
theorem mats {n : Nat} (h2 : 2 ≤ n) (h5 : n ≤ 5) : ∀ (m : Nat) {s v v' : List Int}, invP s ≤ m → Chn n s v → Chn n s v' → ∀ {p : PR}, Sm p → eqv (cutR p v) (cutR p v') := by
  intro m
  induction m with
  | zero =>
    intro s v v' hm hv hv' p sp
    have l1 := hv.len h2 h5
    have l2 := hv'.len h2 h5
    have e1 : v = [] := List.length_eq_zero_iff.mp (by omega)
    have e2 : v' = [] := List.length_eq_zero_iff.mp (by omega)
    rw [e1, e2]
    exact eqv.refl _
  | succ m ih =>
    intro s v v' hm hv hv' p sp
    have l1 := hv.len h2 h5
    have l2 := hv'.len h2 h5
    cases hv with
    | nil =>
      have e2 : v' = [] := List.length_eq_zero_iff.mp (by simp at l1; omega)
      rw [e2]
      exact eqv.refl _
    | @cons _ i u hs i1 i2 di hu =>
      have fi := (ft_of h2 h5 hs i1 i2).inv di
      cases hv' with
      | nil =>
        have := id_inv n h2 h5
        omega
      | @cons _ j u' _ j1 j2 dj hu' =>
        have fj := (ft_of h2 h5 hs j1 j2).inv dj
        have ia : ∀ w, Chn n (swpP s i) w → eqv (cutR p u) (cutR p w) := fun w hw => ih (by omega) hu hw sp
        have ib : ∀ w, Chn n (swpP s j) w → eqv (cutR p u') (cutR p w) := fun w hw => ih (by omega) hu' hw sp
        have nt : ∀ k : Nat, ((k : Int)).toNat = k := fun k => by omega
        show eqv (cutP (cutR p u) ((i : Int)).toNat) (cutP (cutR p u') ((j : Int)).toNat)
        rw [nt, nt]
        rcases Nat.lt_trichotomy i j with q | q | q
        · exact mats_lt h2 h5 hs i1 q j2 di dj sp ia ib
        · subst q
          exact cut_congr (ia _ hu') i
        · have := mats_lt h2 h5 hs j1 q i2 dj di sp ib ia
          exact fun k => (this k).symm
end L2.Dn
set_option Elab.async false
set_option linter.all false
set_option maxRecDepth 100000
set_option maxHeartbeats 0
/-! k67: words that are not shortest cut to nothing; the sum of the greatest -/
namespace L2.Dn
open PySem PySem.Spec PyProof.Rows C8
/-- the ends, the last crossing first -/
def endR (n : Nat) : List Int → List Int
  | [] => rgL 1 n
  | i :: v => swpP (endR n v) i.toNat
theorem endR_rev (n : Nat) : ∀ (v : List Int), endP n v.reverse = endR n v
  | [] => rfl
  | i :: v => by
    rw [List.reverse_cons]
    unfold endP
    rw [run_append]
    show runP (endP n v.reverse) [i] = _
    rw [endR_rev n v]
    rfl
theorem endR_mem {n : Nat} : ∀ {v : List Int}, Crs n v → endR n v ∈ seqsI n
  | [], _ => id_mem n
  | i :: v, h => swp_mem (endR_mem (v := v) h.tail) h.head.1 h.head.2
theorem getD_swp {r : List Int} {i : Nat} (h1 : 1 ≤ i) (h2 : i < r.length) : (swpP r i).getD i 0 = r.getD (i - 1) 0 ∧ (swpP r i).getD (i - 1) 0 = r.getD i 0 := by
  obtain ⟨pre, post, x, y, rfl, rfl⟩ := swp_at h1 h2
  rw [swp_mid]
  constructor <;> simp [List.getD]
theorem getD_ne {n : Nat} {s : List Int} (hs : s ∈ seqsI n) {i : Nat} (h1 : 1 ≤ i) (h2 : i < n) : s.getD (i - 1) 0 ≠ s.getD i 0 := by
  have hl := seqsI_len hs
  have nd : s.Nodup := (permsP_perm _ _ hs).nodup_iff.mpr (rg_nd n 1)
  obtain ⟨pre, post, x, y, rfl, rfl⟩ := swp_at h1 (show i < s.length by omega)
  have e1 : (pre ++ x :: y :: post).getD (pre.length + 1 - 1) 0 = x := by simp [List.getD]
  have e2 : (pre ++ x :: y :: post).getD (pre.length + 1) 0 = y := by simp [List.getD]
  rw [e1, e2]
  intro e
  subst e
  have := (List.nodup_append.mp nd).2.1
  simp at this
where
  rg_nd : ∀ (k : Nat) (a : Int), (rgL a k).Nodup
    | 0, _ => List.nodup_nil
    | k + 1, a => List.nodup_cons.mpr ⟨fun m => by
      have lo : ∀ (k : Nat) (b x : Int), x ∈ rgL b k → b ≤ x := by
        intro k
        induction k with
        | zero => intro b x m; exact nomatch m
        | succ k ih =>
          intro b x m
          rcases List.mem_cons.mp m with rfl | m
          · omega
          · have := ih _ _ m
            omega
      have := lo k (a + 1) a m
      omega, rg_nd k (a + 1)⟩
/-- an ascent, exchanged, is a descent -/
theorem asc_swp {n : Nat} {s : List Int} (hs : s ∈ seqsI n) {i : Nat} (h1 : 1 ≤ i) (h2 : i < n) (h : ¬ Dsc s i) : Dsc (swpP s i) i := by
  have hl := seqsI_len hs
  obtain ⟨a, b⟩ := getD_swp (r := s) h1 (by omega)
  have := getD_ne hs h1 h2
  show (swpP s i).getD i 0 < (swpP s i).getD (i - 1) 0
  rw [a, b]
  have : ¬ s.getD i 0 < s.getD (i - 1) 0 := h
  omega
theorem asc_inv {n : Nat} (h2 : 2 ≤ n) (h5 : n ≤ 5) {s : List Int} (hs : s ∈ seqsI n) {i : Nat} (i1 : 1 ≤ i) (i2 : i < n) (h : ¬ Dsc s i) : invP (swpP s i) = invP s + 1 := by
  have hl := seqsI_len hs
  have := (ft_of h2 h5 (swp_mem hs i1 i2) i1 i2).inv (asc_swp hs i1 i2 h)
  rw [swp_inv i1 (by omega)] at this
  exact this.symm
/-- a word: a chain, or too long -/
theorem red_or {n : Nat} (h2 : 2 ≤ n) (h5 : n ≤ 5) : ∀ {v : List Int}, Crs n v → (Chn n (endR n v) v ∧ invP (endR n v) = v.length) ∨ ((∀ p, Sm p → WfP p → cutR p v = []) ∧ invP (endR n v) < v.length)
  | [], _ => .inl ⟨.nil, id_inv n h2 h5⟩
  | x :: v, hc => by
    have hm := endR_mem (n := n) (v := v) hc.tail
    have hl := seqsI_len hm
    obtain ⟨x1, x2⟩ := hc.head
    have hx := hc x (List.mem_cons_self ..)
    have xe : ((x.toNat : Nat) : Int) = x := by omega
    have ft := ft_of h2 h5 hm x1 x2
    rcases red_or h2 h5 (v := v) hc.tail with ⟨hv, hi⟩ | ⟨hz, hi⟩
    · by_cases d : Dsc (endR n v) x.toNat
      · refine .inr ⟨fun p sp wp => ?_, ?_⟩
        · obtain ⟨t, ht⟩ := chn_ex h2 h5 _ (Nat.le_refl _) (swp_mem hm x1 x2)
          have e := mats h2 h5 _ (Nat.le_refl _) hv (.cons hm x1 x2 d ht) sp
          have e2 := cut_congr e x.toNat
          have st := cutR_sm h5 sp ht.crs
          have tw := cut_twice st x1 (show x.toNat ≤ 4 by omega)
          refine eqv_nil (wf_cutP _ _) fun k => ?_
          have e3 := e2 k
          have e4 : cutP (cutR p (((x.toNat : Nat) : Int) :: t)) x.toNat = [] := by
            show cutP (cutP (cutR p t) (((x.toNat : Nat) : Int)).toNat) x.toNat = []
            rw [xe]
            exact tw
          rw [e4] at e3
          exact e3
        · have := ft.inv d
          show invP (swpP (endR n v) x.toNat) < v.length + 1
          omega
      · refine .inl ⟨?_, ?_⟩
        · have := Chn.cons (n := n) (s := swpP (endR n v) x.toNat) (j := x.toNat) (v := v) (swp_mem hm x1 x2) x1 x2 (asc_swp hm x1 x2 d) (by rw [swp_inv x1 (by omega)]; exact hv)
          rw [xe] at this
          exact this
        · show invP (swpP (endR n v) x.toNat) = v.length + 1
          rw [asc_inv h2 h5 hm x1 x2 d, hi]
    · refine .inr ⟨fun p sp wp => ?_, ?_⟩
      · show cutP (cutR p v) x.toNat = []
        rw [hz p sp wp]
        rfl
      · show invP (swpP (endR n v) x.toNat) < v.length + 1
        by_cases d : Dsc (endR n v) x.toNat
        · have := ft.inv d
          omega
        · have := asc_inv h2 h5 hm x1 x2 d
          omega
end L2.Dn
set_option Elab.async false
set_option linter.all false
set_option maxRecDepth 100000
set_option maxHeartbeats 0
/-! k67: the sum of the greatest, cut -/
namespace L2.Dn
open PySem PySem.Spec PyProof.Rows C8
theorem great_facts : ∀ n : Nat, 2 ≤ n → n ≤ 5 → backP n (greatP n) = greatP n ∧ ((seqsI n).any fun x => beqL (greatP n) x) = true ∧ ∀ p : Nat, 1 ≤ p → p ≤ n → (greatP n).getD (p - 1) 0 = (n : Int) + 1 - p
  | 2, _, _ => ⟨by kernel_rfl, by kernel_rfl, fun p h1 h2 => by
    rcases (show p = 1 ∨ p = 2 by omega) with rfl | rfl <;> kernel_rfl⟩
  | 3, _, _ => ⟨by kernel_rfl, by kernel_rfl, fun p h1 h2 => by
    rcases (show p = 1 ∨ p = 2 ∨ p = 3 by omega) with rfl | rfl | rfl <;> kernel_rfl⟩
  | 4, _, _ => ⟨by kernel_rfl, by kernel_rfl, fun p h1 h2 => by
    rcases (show p = 1 ∨ p = 2 ∨ p = 3 ∨ p = 4 by omega) with rfl | rfl | rfl | rfl <;> kernel_rfl⟩
  | 5, _, _ => ⟨by kernel_rfl, by kernel_rfl, fun p h1 h2 => by
    rcases (show p = 1 ∨ p = 2 ∨ p = 3 ∨ p = 4 ∨ p = 5 by omega) with rfl | rfl | rfl | rfl | rfl <;> kernel_rfl⟩
  | 0, h, _ => by omega
  | 1, h, _ => by omega
  | n + 6, _, h => by omega
theorem great_mem {n : Nat} (h2 : 2 ≤ n) (h5 : n ≤ 5) : greatP n ∈ seqsI n := by
  obtain ⟨x, hx, ex⟩ := List.any_eq_true.mp (great_facts n h2 h5).2.1
  rw [beqL_eq] at ex
  rw [of_decide_eq_true ex]
  exact hx
theorem thn_mem {n : Nat} (h2 : 2 ≤ n) (h5 : n ≤ 5) {s : List Int} (hs : s ∈ seqsI n) : thnP (greatP n) s ∈ seqsI n := by
  have := (fa_of h2 h5 hs).rest
  rwa [(great_facts n h2 h5).1] at this
theorem thn_id {n : Nat} (h2 : 2 ≤ n) (h5 : n ≤ 5) : thnP (greatP n) (rgL 1 n) = greatP n := (fa_of h2 h5 (great_mem h2 h5)).comp
theorem thn_swp {n : Nat} {s : List Int} (hs : s ∈ seqsI n) {i : Nat} (h1 : 1 ≤ i) (hi : i < n) (e : List Int) : swpP (thnP e s) i = thnP e (swpP s i) := swp_map _ h1 (by rw [seqsI_len hs]; exact hi)
theorem seq_bd {n : Nat} {s : List Int} (hs : s ∈ seqsI n) {i : Nat} (hi : i < n) : 1 ≤ s.getD i 0 ∧ s.getD i 0 ≤ n := by
  have hl := seqsI_len hs
  have a2 : i < s.length := by omega
  have e2 : s.getD i 0 = s[i] := by simp [List.getD, a2]
  have hm : s[i] ∈ rgL 1 n := (permsP_perm _ _ hs).mem_iff.mp (List.getElem_mem a2)
  have rg : ∀ (k : Nat) (a x : Int), x ∈ rgL a k → a ≤ x ∧ x < a + k := by
    intro k
    induction k with
    | zero => intro a x m; exact nomatch m
    | succ k ih =>
      intro a x m
      rcases List.mem_cons.mp m with rfl | m
      · omega
      · have := ih _ _ m
        omega
  have := rg n 1 _ hm
  rw [e2]
  omega
theorem thn_at {n : Nat} (h2 : 2 ≤ n) (h5 : n ≤ 5) {s : List Int} (hs : s ∈ seqsI n) {i : Nat} (hi : i < n) : (thnP (greatP n) s).getD i 0 = (n : Int) + 1 - s.getD i 0 := by
  have hl := seqsI_len hs
  have b := seq_bd hs hi
  have a2 : i < s.length := by omega
  have e2 : s.getD i 0 = s[i] := by simp [List.getD, a2]
  have e1 : (thnP (greatP n) s).getD i 0 = (greatP n).getD ((s.getD i 0).toNat - 1) 0 := by
    rw [e2]
    simp [thnP, List.getD, a2]
  rw [e1, (great_facts n h2 h5).2.2 (s.getD i 0).toNat (by omega) (by omega)]
  omega
/-- what rises in the one falls in the other -/
theorem thn_dsc {n : Nat} (h2 : 2 ≤ n) (h5 : n ≤ 5) {s : List Int} (hs : s ∈ seqsI n) {i : Nat} (h1 : 1 ≤ i) (hi : i < n) : Dsc (thnP (greatP n) s) i ↔ ¬ Dsc s i := by
  have e1 := thn_at h2 h5 hs hi
  have e2 := thn_at h2 h5 hs (i := i - 1) (by omega)
  have ne := getD_ne hs h1 hi
  show (thnP (greatP n) s).getD i 0 < (thnP (greatP n) s).getD (i - 1) 0 ↔ ¬ (s.getD i 0 < s.getD (i - 1) 0)
  rw [e1, e2]
  omega
theorem great_chn {n : Nat} (h2 : 2 ≤ n) (h5 : n ≤ 5) {s v : List Int} (h : Chn n s v) : eqv (cutR (sumV (greatP n)) v) (sumV (thnP (greatP n) s)) := by
  induction h with
  | nil =>
    rw [thn_id h2 h5]
    exact eqv.refl _
  | @cons s j v hs j1 j2 hd hc ih =>
    have hl := seqsI_len hs
    have m' := swp_mem hs j1 j2
    have t' := thn_mem h2 h5 m'
    have nd : ¬ Dsc (swpP s j) j := by
      obtain ⟨a, b⟩ := getD_swp (r := s) j1 (by omega)
      show ¬ ((swpP s j).getD j 0 < (swpP s j).getD (j - 1) 0)
      rw [a, b]
      have : s.getD j 0 < s.getD (j - 1) 0 := hd
      omega
    have d' := (thn_dsc h2 h5 m' j1 j2).mpr nd
    have ft := ft_of h2 h5 t' j1 j2
    have e1 := (eqP_iff (wf_cutP _ _) (fs_of h2 h5 (swp_mem t' j1 j2)).wf).mp (ft.cut d')
    rw [thn_swp m' j1 j2, swp_inv j1 (by omega)] at e1
    have nt : ((j : Int)).toNat = j := by omega
    show eqv (cutP (cutR (sumV (greatP n)) v) ((j : Int)).toNat) _
    rw [nt]
    exact (cut_congr ih j).trans e1
theorem great_or {n : Nat} (h2 : 2 ≤ n) (h5 : n ≤ 5) : ∀ {v : List Int}, Crs n v → Chn n (endR n v) v ∨ (cutR (sumV (greatP n)) v = [] ∧ invP (endR n v) < v.length)
  | [], _ => .inl .nil
  | x :: v, hc => by
    have hm := endR_mem (n := n) (v := v) hc.tail
    have hl := seqsI_len hm
    obtain ⟨x1, x2⟩ := hc.head
    have hx := hc x (List.mem_cons_self ..)
    have xe : ((x.toNat : Nat) : Int) = x := by omega
    have ft := ft_of h2 h5 hm x1 x2
    rcases great_or h2 h5 (v := v) hc.tail with hv | ⟨hz, hi⟩
    · have hi := hv.len h2 h5
      by_cases d : Dsc (endR n v) x.toNat
      · refine .inr ⟨?_, ?_⟩
        · have e := cut_congr (great_chn h2 h5 hv) x.toNat
          have t := thn_mem h2 h5 hm
          have z := (ft_of h2 h5 t x1 x2).zero (fun q => (thn_dsc h2 h5 hm x1 x2).mp q d)
          rw [z] at e
          exact eqv_nil (wf_cutP _ _) e
        · have := ft.inv d
          show invP (swpP (endR n v) x.toNat) < v.length + 1
          omega
      · refine .inl ?_
        have := Chn.cons (n := n) (s := swpP (endR n v) x.toNat) (j := x.toNat) (v := v) (swp_mem hm x1 x2) x1 x2 (asc_swp hm x1 x2 d) (by rw [swp_inv x1 (by omega)]; exact hv)
        rw [xe] at this
        exact this
    · refine .inr ⟨?_, ?_⟩
      · show cutP (cutR (sumV (greatP n)) v) x.toNat = []
        rw [hz]
        rfl
      · show invP (swpP (endR n v) x.toNat) < v.length + 1
        by_cases d : Dsc (endR n v) x.toNat
        · have := ft.inv d
          omega
        · have := asc_inv h2 h5 hm x1 x2 d
          omega
end L2.Dn
set_option Elab.async false
set_option linter.all false
set_option maxRecDepth 100000
set_option maxHeartbeats 0
/-! k67: the functions -/
namespace L2.Dn
open PySem PySem.Spec PyProof.Rows C8
/-! ### equal tuples -/
theorem ints_ok7 (l : List Int) : (l.map D.int).all (eqOk 7) = true := by
  rw [List.all_eq_true]
  intro x hx
  obtain ⟨y, _, rfl⟩ := List.mem_map.mp hx
  rfl
theorem ints_deq7 : ∀ l : List Int, all2 (deq 7) (l.map D.int) (l.map D.int) = true
  | [] => rfl
  | a :: s => by
    show (decide (a = a) && all2 (deq 7) (s.map D.int) (s.map D.int)) = true
    rw [ints_deq7 s]
    simp
theorem gNe_tup {a b : D} {l : List Int} (ha : tupD? a = some (l.map D.int)) (hb : tupD? b = some (l.map D.int)) : gNeU a b = some (.bool false) := by
  have e1 : ∀ d, tupD? d = some (l.map D.int) → eqOk 8 d = true := fun d hd => by
    rcases tup_two hd with rfl | rfl
    · exact ints_ok7 l
    · exact ints_ok7 l
  have e2 : deq 8 a b = true := by
    rcases tup_two ha with rfl | rfl <;> rcases tup_two hb with rfl | rfl <;> exact ints_deq7 l
  unfold gNeU gNeD
  rw [e1 a ha, e1 b hb, e2]
  rfl
/-! ### the traces of wires -/
def trP (p : Int) : List Int → Int
  | [] => p
  | x :: l => trP (tauP x p) l
theorem nat_of {n : Nat} {x : Int} {l : List Int} (hc : Crs n (x :: l)) : ((x.toNat : Nat) : Int) = x := by
  have := hc x (List.mem_cons_self ..)
  omega
theorem tau_nat {n : Nat} {x : Int} {l : List Int} (hc : Crs n (x :: l)) : tauP ((x.toNat : Nat) : Int) = tauP x := by rw [nat_of hc]
theorem back_run {n : Nat} (h2 : 2 ≤ n) (h5 : n ≤ 5) : ∀ {l s : List Int}, Crs n l → s ∈ seqsI n → backP n (runP s l) = (backP n s).map fun p => trP p l
  | [], s, _, _ => by
    show backP n s = (backP n s).map fun p => p
    rw [List.map_id']
  | x :: l, s, hc, hs => by
    have st := ft_of h2 h5 hs hc.head.1 hc.head.2
    show backP n (runP (swpP s x.toNat) l) = _
    rw [back_run h2 h5 (l := l) hc.tail (swp_mem hs hc.head.1 hc.head.2), st.bk, List.map_map, tau_nat hc]
    rfl
theorem id_back : ∀ n : Nat, 2 ≤ n → n ≤ 5 → backP n (rgL 1 n) = rgL 1 n
  | 2, _, _ => by kernel_rfl
  | 3, _, _ => by kernel_rfl
  | 4, _, _ => by kernel_rfl
  | 5, _, _ => by kernel_rfl
  | 0, h, _ => by omega
  | 1, h, _ => by omega
  | n + 6, _, h => by omega
theorem end_trace {n : Nat} (h2 : 2 ≤ n) (h5 : n ≤ 5) {l : List Int} (hc : Crs n l) : (rgL 1 n).map (fun p => trP p l) = backP n (endP n l) := by
  have := back_run h2 h5 hc (id_mem n)
  rw [id_back n h2 h5] at this
  exact this.symm
theorem end_join {n : Nat} (h2 : 2 ≤ n) (h5 : n ≤ 5) {l m : List Int} (hl : Crs n l) (hm : Crs n m) : endP n (l ++ m) = thnP (endP n l) (endP n m) := by
  have fa := fa_of h2 h5 (end_mem hl)
  show runP (rgL 1 n) (l ++ m) = _
  rw [run_append]
  show runP (endP n l) m = _
  have := run_map (fun p => (endP n l).getD (p.toNat - 1) 0) hm (rgL_len n 1)
  rw [fa.comp] at this
  exact this
theorem needseq {d : D} (h : f_is_sequence_of [d] = some (.bool true)) : f_need_sequence [d] = some .none := by
  have e1 : tNotD (dTest (dCallP 1 f_is_sequence_of (aCons (dVar 0) (aNil)))) (envP 1 [d]) ds0 = some (false, ds0) := tNot_t (dCallP_eq (as := [d]) rfl rfl h)
  have e2 : d_need_sequence (envP 1 [d]) ds0 = some (.nx (envP 1 [d]), ds0) := (dSeq_eq ((dIfS_f e1).trans rfl)).trans rfl
  show (outD (d_need_sequence (envP 1 [d]) ds0)).map (·.1) = _
  rw [e2]
  rfl
theorem w_sum {d a : D} (h : f_is_sequence_of [d] = some (.bool true)) (e : f_sum_by [d] = some a) : f_sum_of [d] = some a :=
  fnP_eq (b := d_sum_of) ((dSeq_eq (dDrop_eq (env := envP 1 [d]) (dCallP_eq (as := [d]) rfl rfl (needseq h)))).trans (dSeq_rt (dRet_eq (dCallP_eq (as := [d]) rfl rfl e))))
theorem w_back {d a : D} (h : f_is_sequence_of [d] = some (.bool true)) (e : f_back_by [d] = some a) : f_back [d] = some a :=
  fnP_eq (b := d_back) ((dSeq_eq (dDrop_eq (env := envP 1 [d]) (dCallP_eq (as := [d]) rfl rfl (needseq h)))).trans (dSeq_rt (dRet_eq (dCallP_eq (as := [d]) rfl rfl e))))
theorem ixPt (r : List Int) (j : Nat) (h : j < r.length) : gIx (pD r) (.int j) = some (.int (r.getD j 0)) := ixRow r j h
theorem then_loop {n : Nat} (e : List Int) (he : e.length = n) (a1 : Option Sl) (s : DS) : ∀ (f : List Int), (∀ x ∈ f, 1 ≤ x ∧ x ≤ n) → lcLoop (gNm 2) tYesD (d2 gIx (dRd 0) (d2 gSub (dRd 2) (dC (.int 1)))) [vS (pD e), a1, none] (f.map D.int) s = some ((thnP e f).map D.int, s)
  | [], _ => rfl
  | x :: f, h => by
    have hx := h x (List.mem_cons_self ..)
    have ih := then_loop e he a1 s f fun y m => h y (List.mem_cons_of_mem _ m)
    refine lc_t (env' := [vS (pD e), a1, vS (.int x)]) (s := s) (s1 := s) (y := .int (e.getD (x.toNat - 1) 0)) rfl rfl ?_ ih
    refine d2_eq (a := pD e) (b := .int (x - 1)) rfl rfl ?_
    have : x - 1 = ((x.toNat - 1 : Nat) : Int) := by omega
    rw [this]
    exact ixPt e _ (by omega)
theorem w_then {n : Nat} {e f : List Int} (he : e ∈ seqsI n) (hf : f ∈ seqsI n) (hn : n < 1000) (ie : f_is_sequence_of [pD e] = some (.bool true)) (iff' : f_is_sequence_of [pD f] = some (.bool true)) : f_then [pD e, pD f] = some (rowD (thnP e f)) := by
  have le := seqsI_len he
  have lf := seqsI_len hf
  have e1 : tNotD (dTest (dCallP 1 f_is_sequence_of (aCons (dVar 0) (aNil)))) (envP 2 [pD e, pD f]) ds0 = some (false, ds0) := tNot_t (dCallP_eq (as := [pD e]) rfl rfl ie)
  have e2 : tNotD (dTest (dCallP 1 f_is_sequence_of (aCons (dVar 1) (aNil)))) (envP 2 [pD e, pD f]) ds0 = some (false, ds0) := tNot_t (dCallP_eq (as := [pD f]) rfl rfl iff')
  have e3 : dTest (d2 gNeU (dB gLen (aCons (dRd 1) (aNil))) (dB gLen (aCons (dRd 0) (aNil)))) (envP 2 [pD e, pD f]) ds0 = some (false, ds0) := by
    have : dTest (d2 gNeU (dB gLen (aCons (dRd 1) (aNil))) (dB gLen (aCons (dRd 0) (aNil)))) (envP 2 [pD e, pD f]) ds0 = some (!decide (((f.map D.int).length : Int) = ((e.map D.int).length : Int)), ds0) := rfl
    rw [this, List.length_map, List.length_map, le, lf, decide_eq_true rfl]
    rfl
  have e4 : d_need_two (envP 2 [pD e, pD f]) ds0 = some (.nx (envP 2 [pD e, pD f]), ds0) := (dSeq_eq ((dIfS_f e1).trans rfl)).trans ((dSeq_eq ((dIfS_f (dOr_f e2 e3)).trans rfl)).trans rfl)
  have e5 : f_need_two [pD e, pD f] = some .none := by
    show (outD (d_need_two (envP 2 [pD e, pD f]) ds0)).map (·.1) = _
    rw [e4]
    rfl
  have bd : ∀ x ∈ f, 1 ≤ x ∧ x ≤ n := fun x hx => by
    have := (permsP_perm _ _ hf).mem_iff.mp hx
    have rg : ∀ (k : Nat) (a x : Int), x ∈ rgL a k → a ≤ x ∧ x < a + k := by
      intro k
      induction k with
      | zero => intro a x m; exact nomatch m
      | succ k ih =>
        intro a x m
        rcases List.mem_cons.mp m with rfl | m
        · omega
        · have := ih _ _ m
          omega
    have := rg n 1 x this
    omega
  have e6 : f_then_by [pD e, pD f] = some (rowD (thnP e f)) :=
    fnP_eq (b := d_then_by) (s := ds0) (dSeq_rt (dRet_eq (dB_eq (as := [.list ((thnP e f).map D.int)]) (aCons1 (dLc_eq (dItems_eq (a := pD f) rfl rfl) (then_loop e le (vS (pD f)) ds0 f bd) (by rw [List.length_map]; unfold thnP; rw [List.length_map]; omega))) rfl)))
  exact fnP_eq (b := d_then) ((dSeq_eq (dDrop_eq (env := envP 2 [pD e, pD f]) (dCallP_eq (as := [pD e, pD f]) rfl rfl e5))).trans (dSeq_rt (dRet_eq (dCallP_eq (as := [pD e, pD f]) rfl rfl e6))))
theorem w_joined {n : Nat} (h1 : 1 ≤ n) (h6 : n ≤ 6) {l m : List Int} (h : Crs n l) (hm : Crs n m) (hl : l.length + m.length ≤ 60) : f_joined [.int (n : Nat), rowD l, rowD m] = some (rowD (l ++ m)) := by
  let E : En := [vS (.int (n : Nat)), vS (rowD l), vS (rowD m)]
  have e1 : dDropS (dCallP 1 f_need_wires (aCons (dVar 0) (aNil))) E ds0 = some (.nx E, ds0) := dDrop_eq (dCallP_eq (as := [.int (n : Nat)]) rfl rfl (needw n h1 h6))
  have e2 : tNotD (dTest (dCallP 2 f_is_drawing_of (aCons (dVar 0) (aCons (dVar 1) (aNil))))) E ds0 = some (false, ds0) := tNot_t (dCallP_eq (as := [.int (n : Nat), rowD l]) rfl rfl (tr_isdraw h (by omega)))
  have e3 : tNotD (dTest (dCallP 2 f_is_drawing_of (aCons (dVar 0) (aCons (dVar 2) (aNil))))) E ds0 = some (false, ds0) := tNot_t (dCallP_eq (as := [.int (n : Nat), rowD m]) rfl rfl (tr_isdraw hm (by omega)))
  have e4 : f_short_drawing [.int (((l.length : Nat) : Int) + ((m.length : Nat) : Int))] = some .none := by
    have : dTest (d2 gGt (dRd 0) (dC (.int 60))) (envP 1 [.int (((l.length : Nat) : Int) + ((m.length : Nat) : Int))]) ds0 = some (decide ((60 : Int) < ((l.length : Nat) : Int) + ((m.length : Nat) : Int)), ds0) := rfl
    rw [decide_eq_false (by omega)] at this
    have e : d_short_drawing (envP 1 [.int (((l.length : Nat) : Int) + ((m.length : Nat) : Int))]) ds0 = some (.nx (envP 1 [.int (((l.length : Nat) : Int) + ((m.length : Nat) : Int))]), ds0) := (dSeq_eq ((dIfS_f this).trans rfl)).trans rfl
    show (outD (d_short_drawing (envP 1 [.int (((l.length : Nat) : Int) + ((m.length : Nat) : Int))]) ds0)).map (·.1) = _
    rw [e]
    rfl
  have e5 : d2 gAdd (dB gLen (aCons (dRd 1) (aNil))) (dB gLen (aCons (dRd 2) (aNil))) E ds0 = some (.int (((l.length : Nat) : Int) + ((m.length : Nat) : Int)), ds0) := by
    have : d2 gAdd (dB gLen (aCons (dRd 1) (aNil))) (dB gLen (aCons (dRd 2) (aNil))) E ds0 = some (.int (((l.map D.int).length : Nat) + ((m.map D.int).length : Nat)), ds0) := rfl
    rw [List.length_map, List.length_map] at this
    exact this
  have e6 : d2 gAdd (dRd 1) (dRd 2) E ds0 = some (rowD (l ++ m), ds0) := by
    refine d2_eq (a := rowD l) (b := rowD m) rfl rfl ?_
    show _ = some (D.tuple ((l ++ m).map D.int))
    rw [List.map_append]
    exact gAddT (by rw [List.length_map, List.length_map]; omega)
  exact fnP_eq (b := d_joined) ((dSeq_eq e1).trans ((dSeq_eq ((dIfS_f e2).trans rfl)).trans ((dSeq_eq ((dIfS_f e3).trans rfl)).trans ((dSeq_eq (dDrop_eq (env := E) (dCallP_eq (as := [.int (((l.length : Nat) : Int) + ((m.length : Nat) : Int))]) (aCons1 e5) rfl e4))).trans (dSeq_rt (dRet_eq e6))))))
/-! ### each wire followed by itself -/
def leIn : DenS := dSeq (dSet 4 false (dIf (dTest (d2 gEqU (dRd 4) (dRd 5))) (d2 gAdd (dRd 5) (dC (.int 1))) (dIf (dTest (d2 gEqU (dRd 4) (d2 gAdd (dRd 5) (dC (.int 1))))) (dVar 5) (dVar 4)))) (dNx)
theorem leIn_step (a0 a1 a2 a3 : Option Sl) (p x : Int) (s : DS) : leIn [a0, a1, a2, a3, vS (.int p), vS (.int x)] s = some (.nx [a0, a1, a2, a3, vS (.int (tauP x p)), vS (.int x)], s) := by
  have e1 : dTest (d2 gEqU (dRd 4) (dRd 5)) [a0, a1, a2, a3, vS (.int p), vS (.int x)] s = some (decide (p = x), s) := rfl
  have e2 : dTest (d2 gEqU (dRd 4) (d2 gAdd (dRd 5) (dC (.int 1)))) [a0, a1, a2, a3, vS (.int p), vS (.int x)] s = some (decide (p = x + 1), s) := rfl
  have e3 : dIf (dTest (d2 gEqU (dRd 4) (dRd 5))) (d2 gAdd (dRd 5) (dC (.int 1))) (dIf (dTest (d2 gEqU (dRd 4) (d2 gAdd (dRd 5) (dC (.int 1))))) (dVar 5) (dVar 4)) [a0, a1, a2, a3, vS (.int p), vS (.int x)] s = some (.int (tauP x p), s) := by
    unfold dIf
    rw [e1]
    unfold bnd
    dsimp only
    rw [e2]
    dsimp only
    unfold tauP
    cases decide (p = x) with
    | true => rfl
    | false =>
      cases decide (p = x + 1) with
      | true => rfl
      | false => rfl
  exact (dSeq_eq (dSet_eq (i := 4) (k := false) (env := [a0, a1, a2, a3, vS (.int p), vS (.int x)]) e3)).trans rfl
theorem leIn_loop (a0 a1 a2 a3 : Option Sl) (s : DS) : ∀ (l : List Int) (p : Int) (a5 : Option Sl), ∃ b5, forLoop (gNm 5) leIn (l.map D.int) [a0, a1, a2, a3, vS (.int p), a5] s = some (.nx [a0, a1, a2, a3, vS (.int (trP p l)), b5], s)
  | [], p, a5 => ⟨a5, rfl⟩
  | x :: l, p, a5 => by
    obtain ⟨b5, ih⟩ := leIn_loop a0 a1 a2 a3 s l (tauP x p) (vS (.int x))
    exact ⟨b5, (forLoop_cons (d := .int x) (env' := [a0, a1, a2, a3, vS (.int p), vS (.int x)]) rfl (leIn_step a0 a1 a2 a3 p x s)).trans ih⟩
theorem replK_len (k : Key) (x : D) : ∀ kds, (replK kds k x).length = kds.length
  | [] => rfl
  | (k', d) :: r => by
    unfold replK
    split
    · exact congrArg Nat.succ (replK_len k x r)
    · exact congrArg Nat.succ (replK_len k x r)
theorem putKD_len (kds : List (Key × D)) (k : Key) (x : D) : (putKD kds k x).length ≤ kds.length + 1 := by
  unfold putKD
  split
  · rw [replK_len]; omega
  · simp
def leOut : DenS := dSeq (dSet 4 false (dVar 3)) (dSeq (dFor (dItems (dVar 1)) (gNm 5) leIn) (dSeq (dPut 2 (dVar 3) (dRd 4)) (dNx)))
theorem leOut_loop (a0 : Option Sl) (l : List Int) (s : DS) : ∀ (k : Nat) (w : Int) (acc : List (Key × D)) (a3 a4 a5 : Option Sl), acc.length + k < 1000 → ∃ b3 b4 b5, forLoop (gNm 3) leOut (rgD w k) [a0, vS (rowD l), some (.own (.dK acc)), a3, a4, a5] s = some (.nx [a0, vS (rowD l), some (.own (.dK (kvsP w ((rgL w k).map fun p => trP p l) acc))), b3, b4, b5], s)
  | 0, w, acc, a3, a4, a5, _ => ⟨a3, a4, a5, rfl⟩
  | k + 1, w, acc, a3, a4, a5, h => by
    obtain ⟨b5', e1⟩ := leIn_loop a0 (vS (rowD l)) (some (.own (.dK acc))) (vS (.int w)) s l w a5
    obtain ⟨b3, b4, b5, ih⟩ := leOut_loop a0 l s k (w + 1) (putKD acc (.inl (trP w l)) (.int w)) (vS (.int w)) (vS (.int (trP w l))) b5' (by have := putKD_len acc (.inl (trP w l)) (.int w); omega)
    refine ⟨b3, b4, b5, ?_⟩
    have e2 : dFor (dItems (dVar 1)) (gNm 5) leIn [a0, vS (rowD l), some (.own (.dK acc)), vS (.int w), vS (.int w), a5] s = _ := (dFor_eq (dItems_eq (a := rowD l) rfl rfl)).trans e1
    have e3 : dPut 2 (dVar 3) (dRd 4) [a0, vS (rowD l), some (.own (.dK acc)), vS (.int w), vS (.int (trP w l)), b5'] s = some (.nx [a0, vS (rowD l), some (.own (.dK (putKD acc (.inl (trP w l)) (.int w)))), vS (.int w), vS (.int (trP w l)), b5'], s) := by
      show (if acc.length < 100000 then _ else none) = _
      rw [if_pos (by omega)]
      rfl
    have e4 : leOut [a0, vS (rowD l), some (.own (.dK acc)), vS (.int w), a4, a5] s = some (.nx [a0, vS (rowD l), some (.own (.dK (putKD acc (.inl (trP w l)) (.int w)))), vS (.int w), vS (.int (trP w l)), b5'], s) :=
      (dSeq_eq (e := [a0, vS (rowD l), some (.own (.dK acc)), vS (.int w), vS (.int w), a5]) (s := s) rfl).trans ((dSeq_eq e2).trans ((dSeq_eq e3).trans rfl))
    exact (forLoop_cons (d := .int w) (env' := [a0, vS (rowD l), some (.own (.dK acc)), vS (.int w), a4, a5]) rfl e4).trans ih
theorem rd_loop (a0 a1 a3 a5 : Option Sl) (kvs : List (Key × D)) (s : DS) : ∀ (e : List Int) (q : Int), rdK kvs q e = true → lcLoop (gNm 4) tYesD (d2 gIx (dRd 2) (dRd 4)) [a0, a1, some (.own (.dK kvs)), a3, none, a5] (rgD q e.length) s = some (e.map D.int, s)
  | [], _, _ => rfl
  | v :: e, q, h => by
    unfold rdK at h
    split at h
    · rename_i u eu
      split at h
      · rename_i ev
        have ev := of_decide_eq_true ev
        subst ev
        exact lc_t (env' := [a0, a1, some (.own (.dK kvs)), a3, vS (.int q), a5]) (s := s) (s1 := s) (y := .int u) rfl rfl (d2_eq (a := .dK kvs) (b := .int q) rfl rfl eu) (rd_loop a0 a1 a3 a5 kvs s e (q + 1) h)
      · cases h
    · cases h
theorem rg_n1 (n : Nat) (hn : n < 1000) (a1 a2 a3 a4 a5 : Option Sl) (ds : DS) : dRg2 (dC (.int 1)) (d2 gAdd (dRd 0) (dC (.int 1))) [vS (.int (n : Nat)), a1, a2, a3, a4, a5] ds = some (rgD 1 n, ds) := by
  unfold dRg2
  rw [show dC (.int 1) [vS (.int (n : Nat)), a1, a2, a3, a4, a5] ds = some (.int 1, ds) from rfl]
  unfold bnd
  dsimp only
  rw [show d2 gAdd (dRd 0) (dC (.int 1)) [vS (.int (n : Nat)), a1, a2, a3, a4, a5] ds = some (.int ((n : Int) + 1), ds) from rfl]
  dsimp only
  rw [if_pos (by omega)]
  have : (((n : Int) + 1) - 1).toNat = n := by omega
  rw [this]
theorem tr_lends {n : Nat} (h2 : 2 ≤ n) (h5 : n ≤ 5) {l : List Int} (hc : Crs n l) : f__law_ends [.int (n : Nat), rowD l] = some (rowD (endP n l)) := by
  have fa := fa_of h2 h5 (end_mem hc)
  obtain ⟨b3, b4, b5, e⟩ := leOut_loop (vS (.int (n : Nat))) l ds0 n 1 [] none none none (by simp; omega)
  rw [end_trace h2 h5 hc] at e
  let E : En := [vS (.int (n : Nat)), vS (rowD l), some (.own (.dK (kvsP 1 (backP n (endP n l)) []))), b3, b4, b5]
  have e1 : dFor (dRg2 (dC (.int 1)) (d2 gAdd (dRd 0) (dC (.int 1)))) (gNm 3) leOut [vS (.int (n : Nat)), vS (rowD l), some (.own (.dK [])), none, none, none] ds0 = some (.nx E, ds0) := (dFor_eq (rg_n1 n (by omega) _ _ _ _ _ ds0)).trans e
  have rl := rd_loop (vS (.int (n : Nat))) (vS (rowD l)) b3 b5 _ ds0 (endP n l) 1 fa.rd
  rw [end_len hc] at rl
  have e2 : dRet (dB gTupS (aCons (dLc (dRg2 (dC (.int 1)) (d2 gAdd (dRd 0) (dC (.int 1)))) [4] (gNm 4) (tYesD) (d2 gIx (dRd 2) (dRd 4))) (aNil))) E ds0 = some (.rt (rowD (endP n l)), ds0) :=
    dRet_eq (dB_eq (as := [.list ((endP n l).map D.int)]) (aCons1 (dLc_eq (rg_n1 n (by omega) _ _ _ _ _ ds0) rl (by rw [List.length_map, end_len hc]; omega))) rfl)
  exact fnP_eq (b := d__law_ends) ((dSeq_eq (e := [vS (.int (n : Nat)), vS (rowD l), some (.own (.dK [])), none, none, none]) (s := ds0) rfl).trans ((dSeq_eq e1).trans (dSeq_rt e2)))
end L2.Dn
set_option Elab.async false
set_option linter.all false
set_option maxRecDepth 100000
set_option maxHeartbeats 0
/-! k67: drawn shortest drawings, drawn drawings -/
namespace L2.Dn
open PySem PySem.Spec PyProof.Rows C8
theorem Chn.run {n : Nat} {s v : List Int} (h : Chn n s v) : endP n v.reverse = s := by
  induction h with
  | nil => rfl
  | @cons s j v hs h1 h3 hd hc ih =>
    have hl := seqsI_len hs
    rw [List.reverse_cons]
    unfold endP
    rw [run_append]
    show runP (endP n v.reverse) [(j : Int)] = _
    rw [ih]
    show swpP (swpP s j) ((j : Int)).toNat = s
    have : ((j : Int)).toNat = j := by omega
    rw [this, swp_inv h1 (by omega)]
theorem cfs_permP {p q : PR} (h : p.Perm q) (k : List Int) : cfs p k = cfs q k := by
  induction h with
  | nil => rfl
  | cons x _ ih => rw [cfs_cons, cfs_cons, ih]
  | swap x y l =>
    obtain ⟨a, b⟩ := x
    obtain ⟨c, d⟩ := y
    rw [cfs_cons, cfs_cons, cfs_cons, cfs_cons]
    exact Int.add_left_comm _ _ _
  | trans _ _ h1 h2 => rw [h1, h2]
def dscT : DenT := dTest (d2 gGt (d2 gIx (dRd 3) (d2 gSub (dRd 4) (dC (.int 1)))) (d2 gIx (dRd 3) (dRd 4)))
theorem ix_tup {d : D} {r : List Int} (hd : tupD? d = some (r.map D.int)) (j : Nat) (h : j < r.length) : gIx d (.int j) = some (.int (r.getD j 0)) := by
  rcases tup_two hd with rfl | rfl
  · exact ixRow r j h
  · exact ixRow r j h
theorem dsc_loop {d : D} {s : List Int} (hd : tupD? d = some (s.map D.int)) (a0 a1 a2 : Option Sl) (ds : DS) : ∀ (suf pre : List Int), s = pre ++ suf → lcLoop (gNm 4) dscT (dVar 4) [a0, a1, a2, vS d, none] (rgD ((pre.length : Nat) + 1) (suf.length - 1)) ds = some ((dscL ((pre.length : Nat) + 1) suf).map D.int, ds)
  | [], pre, _ => rfl
  | [x], pre, _ => rfl
  | x :: y :: r, pre, hs => by
    have ih := dsc_loop hd a0 a1 a2 ds (y :: r) (pre ++ [x]) (by rw [hs]; simp)
    have hl : s.length = pre.length + (r.length + 2) := by rw [hs]; simp
    have e1 : s.getD pre.length 0 = x := by rw [hs]; simp [List.getD]
    have e2 : s.getD (pre.length + 1) 0 = y := by rw [hs]; simp [List.getD]
    have hp : (((pre ++ [x]).length : Nat) : Int) = (pre.length : Nat) + 1 := by simp
    rw [hp] at ih
    have t : dscT [a0, a1, a2, vS d, vS (.int ((pre.length : Nat) + 1))] ds = some (decide (y < x), ds) := by
      refine dTest_of (d2_eq (a := .int x) (b := .int y) (d2_eq (a := d) (b := .int (((pre.length : Nat) : Int) + 1 - 1)) rfl rfl ?_) (d2_eq (a := d) (b := .int (((pre.length : Nat) : Int) + 1)) rfl rfl ?_) rfl)
      · have : ((pre.length : Nat) : Int) + 1 - 1 = ((pre.length : Nat) : Int) := by omega
        rw [this, ix_tup hd pre.length (by omega), e1]
      · have : ((pre.length : Nat) : Int) + 1 = ((pre.length + 1 : Nat) : Int) := by omega
        rw [this, ix_tup hd (pre.length + 1) (by omega), e2]
    show lcLoop (gNm 4) dscT (dVar 4) [a0, a1, a2, vS d, none] (D.int ((pre.length : Nat) + 1) :: rgD ((pre.length : Nat) + 1 + 1) (r.length + 1 - 1 + 0)) ds = some ((match decide (y < x) with | true => ((pre.length : Nat) + 1 : Int) :: dscL ((pre.length : Nat) + 1 + 1) (y :: r) | false => dscL ((pre.length : Nat) + 1 + 1) (y :: r)).map D.int, ds)
    cases q : decide (y < x) with
    | false =>
      rw [q] at t
      exact (lc_f (env' := [a0, a1, a2, vS d, vS (.int ((pre.length : Nat) + 1))]) rfl t).trans ih
    | true =>
      rw [q] at t
      exact lc_t (env' := [a0, a1, a2, vS d, vS (.int ((pre.length : Nat) + 1))]) (s := ds) (s1 := ds) (y := .int ((pre.length : Nat) + 1)) rfl t rfl ih
theorem dscL_len : ∀ (suf : List Int) (a : Int), (dscL a suf).length ≤ suf.length
  | [], a => Nat.le_refl _
  | [x], a => by simp [dscL]
  | x :: y :: r, a => by
    have := dscL_len (y :: r) (a + 1)
    unfold dscL
    simp only [List.length_cons] at this ⊢
    split
    · simp only [List.length_cons]; omega
    · omega
def shC : DenT := dTest (d2 gGt (dCallP 1 f__law_many (aCons (dVar 3) (aNil))) (dC (.int 0)))
def shPick : Den := dCallD 0 1 f__law_pick (aCons (dLc (dRg2 (dC (.int 1)) (dB gLen (aCons (dRd 3) (aNil)))) [4] (gNm 4) dscT (dVar 4)) (aNil))
def shB : DenS := dSeq (dSet 4 false shPick) (dSeq (dAsg (dTup (aCons (d2 gCat (dLst (aCons (dVar 4) (aNil))) (dRd 2)) (aCons (dCallP 2 f__law_swapped (aCons (dVar 3) (aCons (dVar 4) (aNil)))) (aNil)))) (gTp (gsCons (gNm 2) (gsCons (gNm 3) (gsNil))))) (dNx))
theorem glen_tup {d : D} {xs : List D} (h : tupD? d = some xs) : gLen [d] = some (.int (xs.length : Nat)) := by
  rcases tup_two h with rfl | rfl <;> rfl
theorem pick_dsc {n : Nat} (h2 : 2 ≤ n) (h5 : n ≤ 5) {s : List Int} (hs : s ∈ seqsI n) (h0 : invP s ≠ 0) {d : D} (hd : tupD? d = some (s.map D.int)) (a1 a2 a4 : Option Sl) (ds : DS) : ∃ (j : Nat) (ds' : DS), shPick [some .draw, a1, a2, vS d, a4] ds = some (.int (j : Nat), ds') ∧ 1 ≤ j ∧ j < n ∧ s.getD j 0 < s.getD (j - 1) 0 := by
  have fa := fa_of h2 h5 hs
  have hl := seqsI_len hs
  have e1 := dsc_loop hd (some .draw) a1 a2 ds s [] rfl
  have er : dRg2 (dC (.int 1)) (dB gLen (aCons (dRd 3) (aNil))) [some .draw, a1, a2, vS d, a4] ds = some (rgD 1 (s.length - 1), ds) := by
    unfold dRg2
    rw [show dC (.int 1) [some .draw, a1, a2, vS d, a4] ds = some (.int 1, ds) from rfl]
    unfold bnd
    dsimp only
    rw [dB_eq (as := [d]) (s := ds) rfl (glen_tup hd)]
    dsimp only
    rw [List.length_map, if_pos (by omega)]
    have : (((s.length : Nat) : Int) - 1).toNat = s.length - 1 := by omega
    rw [this]
  have e2 : dLc (dRg2 (dC (.int 1)) (dB gLen (aCons (dRd 3) (aNil)))) [4] (gNm 4) dscT (dVar 4) [some .draw, a1, a2, vS d, a4] ds = some (.list ((dscL 1 s).map D.int), ds) :=
    dLc_eq er e1 (by rw [List.length_map]; have := dscL_len s 1; omega)
  obtain ⟨x, ds', e3, hx⟩ := pick_ok ((dscL 1 s).map D.int) (by
    intro z
    exact fa.dsc h0 (List.map_eq_nil_iff.mp z)) (by rw [List.length_map]; have := dscL_len s 1; omega) ds
  obtain ⟨z, hz, rfl⟩ := List.mem_map.mp hx
  obtain ⟨j, rfl, j1, j2, j3⟩ := dsc_mem s [] z hz
  exact ⟨j, ds', (dCallD_eq (as := [.list ((dscL 1 s).map D.int)]) (s := ds) rfl (aCons1 e2) rfl).trans e3, j1, by simpa [hl] using j2, j3⟩
theorem shw_loop {n : Nat} (h2 : 2 ≤ n) (h5 : n ≤ 5) (a1 : Option Sl) : ∀ (m : Nat) (s w : List Int) (d : D) (a4 : Option Sl) (ds : DS), invP s ≤ m → s ∈ seqsI n → tupD? d = some (s.map D.int) → w.length + m < 1000 → ∀ fuel, m < fuel → ∃ v b4 d' ds', whLoop shC shB fuel [some .draw, a1, vS (.list (w.map D.int)), vS d, a4] ds = some (.nx [some .draw, a1, vS (.list ((v.reverse ++ w).map D.int)), vS d', b4], ds') ∧ Chn n s v := by
  intro m
  induction m with
  | zero =>
    intro s w d a4 ds hm hs hd hw fuel hf
    have fa := fa_of h2 h5 hs
    have z : invP s = 0 := by omega
    have e := fa.many d hd
    rw [z] at e
    obtain ⟨f, rfl⟩ : ∃ f, fuel = f + 1 := ⟨fuel - 1, by omega⟩
    have c : shC [some .draw, a1, vS (.list (w.map D.int)), vS d, a4] ds = some (false, ds) := dTest_of (d2_eq (a := .int ((0 : Nat) : Int)) (b := .int 0) (dCallP_eq (as := [d]) rfl rfl e) rfl rfl)
    refine ⟨[], a4, d, ds, wh_stop c, ?_⟩
    rw [fa.id0 z]
    exact .nil
  | succ m ih =>
    intro s w d a4 ds hm hs hd hw fuel hf
    have fa := fa_of h2 h5 hs
    have e := fa.many d hd
    obtain ⟨f, rfl⟩ : ∃ f, fuel = f + 1 := ⟨fuel - 1, by omega⟩
    by_cases z : invP s = 0
    · rw [z] at e
      have c : shC [some .draw, a1, vS (.list (w.map D.int)), vS d, a4] ds = some (false, ds) := dTest_of (d2_eq (a := .int ((0 : Nat) : Int)) (b := .int 0) (dCallP_eq (as := [d]) rfl rfl e) rfl rfl)
      refine ⟨[], a4, d, ds, wh_stop c, ?_⟩
      rw [fa.id0 z]
      exact .nil
    · have c : shC [some .draw, a1, vS (.list (w.map D.int)), vS d, a4] ds = some (true, ds) := by
        refine dTest_of (d2_eq (a := .int ((invP s : Nat) : Int)) (b := .int 0) (dCallP_eq (as := [d]) rfl rfl e) rfl ?_)
        show some (D.bool (decide ((0 : Int) < ((invP s : Nat) : Int)))) = _
        rw [decide_eq_true (by omega)]
      obtain ⟨j, ds1, e1, j1, j2, j3⟩ := pick_dsc h2 h5 hs z hd a1 (vS (.list (w.map D.int))) a4 ds
      have ft := ft_of h2 h5 hs j1 j2
      have hlt := ft.inv j3
      have hlt : invP (swpP s j) < invP s := by omega
      obtain ⟨v, b4, d', ds', e2, hc⟩ := ih (swpP s j) ((j : Int) :: w) (rowD (swpP s j)) (vS (.int (j : Nat))) ds1 (by omega) (swp_mem hs j1 j2) rfl (by simp only [List.length_cons]; omega) f (by omega)
      refine ⟨(j : Int) :: v, b4, d', ds', ?_, .cons hs j1 j2 j3 hc⟩
      have el : ((j : Int) :: v).reverse ++ w = v.reverse ++ (j : Int) :: w := by simp
      rw [el]
      refine (wh_step c (e := [some .draw, a1, vS (.list (((j : Int) :: w).map D.int)), vS (rowD (swpP s j)), vS (.int (j : Nat))]) (s1 := ds1) ?_).trans e2
      have q1 : dSet 4 false shPick [some .draw, a1, vS (.list (w.map D.int)), vS d, a4] ds = some (.nx [some .draw, a1, vS (.list (w.map D.int)), vS d, vS (.int (j : Nat))], ds1) := dSet_eq (i := 4) (k := false) (env := [some .draw, a1, vS (.list (w.map D.int)), vS d, a4]) e1
      have q2 : d2 gCat (dLst (aCons (dVar 4) (aNil))) (dRd 2) [some .draw, a1, vS (.list (w.map D.int)), vS d, vS (.int (j : Nat))] ds1 = some (.list (((j : Int) :: w).map D.int), ds1) := by
        refine d2_eq (a := .list [.int (j : Nat)]) (b := .list (w.map D.int)) rfl rfl ?_
        show (if ([D.int (j : Nat)]).length + (w.map D.int).length ≤ 100000 then some (D.list ([D.int (j : Nat)] ++ w.map D.int)) else none) = _
        rw [if_pos (by rw [List.length_map]; simp; omega)]
        rfl
      have q3 : dCallP 2 f__law_swapped (aCons (dVar 3) (aCons (dVar 4) (aNil))) [some .draw, a1, vS (.list (w.map D.int)), vS d, vS (.int (j : Nat))] ds1 = some (rowD (swpP s j), ds1) := dCallP_eq (as := [d, .int (j : Nat)]) rfl rfl (ft.sw d hd)
      have q4 : dTup (aCons (d2 gCat (dLst (aCons (dVar 4) (aNil))) (dRd 2)) (aCons (dCallP 2 f__law_swapped (aCons (dVar 3) (aCons (dVar 4) (aNil)))) (aNil))) [some .draw, a1, vS (.list (w.map D.int)), vS d, vS (.int (j : Nat))] ds1 = some (.tuple [.list (((j : Int) :: w).map D.int), rowD (swpP s j)], ds1) := by
        unfold dTup
        rw [aCons_eq q2 (aCons1 q3)]
        rfl
      have q5 : dAsg (dTup (aCons (d2 gCat (dLst (aCons (dVar 4) (aNil))) (dRd 2)) (aCons (dCallP 2 f__law_swapped (aCons (dVar 3) (aCons (dVar 4) (aNil)))) (aNil)))) (gTp (gsCons (gNm 2) (gsCons (gNm 3) (gsNil)))) [some .draw, a1, vS (.list (w.map D.int)), vS d, vS (.int (j : Nat))] ds1 = some (.nx [some .draw, a1, vS (.list (((j : Int) :: w).map D.int)), vS (rowD (swpP s j)), vS (.int (j : Nat))], ds1) := by
        unfold dAsg
        rw [q4]
        rfl
      exact (dSeq_eq q1).trans ((dSeq_eq q5).trans rfl)
theorem shortest_ok {n : Nat} (h2 : 2 ≤ n) (h5 : n ≤ 5) {s : List Int} (hs : s ∈ seqsI n) {d : D} (hd : tupD? d = some (s.map D.int)) (ds : DS) : ∃ v ds', f__law_shortest [d] ds = some (rowD v.reverse, ds') ∧ Chn n s v := by
  have fa := fa_of h2 h5 hs
  have hle := fa.le
  obtain ⟨v, b4, d', ds', e, hc⟩ := shw_loop h2 h5 (vS d) 10 s [] d none ds hle hs hd (by simp) 1000 (by omega)
  rw [List.append_nil] at e
  refine ⟨v, ds', ?_, hc⟩
  have e1 : dAsg (dTup (aCons (dLst (aNil)) (aCons (dVar 1) (aNil)))) (gTp (gsCons (gNm 2) (gsCons (gNm 3) (gsNil)))) [some .draw, vS d, none, none, none] ds = some (.nx [some .draw, vS d, vS (.list ([].map D.int)), vS d, none], ds) := rfl
  have e2 : dRet (dB gTupS (aCons (dRd 2) (aNil))) [some .draw, vS d, vS (.list (v.reverse.map D.int)), vS d', b4] ds' = some (.rt (rowD v.reverse), ds') := rfl
  show outD (d__law_shortest [some .draw, vS d, none, none, none] ds) = _
  have : d__law_shortest [some .draw, vS d, none, none, none] ds = some (.rt (rowD v.reverse), ds') := (dSeq_eq e1).trans ((dSeq_eq e).trans (dSeq_rt e2))
  rw [this]
  rfl
theorem cutD_drop (r : List Int) (k : Nat) : cutD (r.map D.int) (some (k : Int)) none = (r.drop k).map D.int := by
  unfold cutD
  rw [HT.sIx_nat, HT.sIx_none, List.length_map]
  by_cases h : k ≤ r.length
  · rw [Nat.min_eq_left h, ← List.map_drop, List.take_of_length_le (by rw [List.length_map, List.length_drop]; omega)]
  · rw [Nat.min_eq_right (by omega), ← List.map_drop, List.drop_of_length_le (Nat.le_refl _), List.drop_of_length_le (by omega)]
    simp
theorem draws_loop (i : Nat) (fm : Den) (n : Int) (hn : 0 < n ∧ n < 2 ^ 80) (env0 : En) (h0 : ∀ d, (env0.set i (vS d))[0]? = some (some .draw)) (hf : ∀ d s, fm (env0.set i (vS d)) s = some (.int n, s)) : ∀ (items : List D) (ds : DS), ∃ (l : List Int) (ds' : DS), lcLoop (gNm i) tYesD (d2 gAdd (dC (.int 1)) (dCallD 0 1 f__law_take (aCons fm (aNil)))) env0 items ds = some (l.map D.int, ds') ∧ l.length = items.length ∧ ∀ x ∈ l, 1 ≤ x ∧ x ≤ n
  | [], ds => ⟨[], ds, rfl, rfl, fun x m => nomatch m⟩
  | d :: items, ds => by
    obtain ⟨r, ds1, e1, hr⟩ := take_ok n hn ds
    obtain ⟨l, ds2, e2, h2, h3⟩ := draws_loop i fm n hn env0 h0 hf items ds1
    refine ⟨(1 + r) :: l, ds2, ?_, by simp [h2], fun x m => ?_⟩
    · have q : dCallD 0 1 f__law_take (aCons fm (aNil)) (env0.set i (vS d)) ds = some (.int r, ds1) := (dCallD_eq (as := [.int n]) (s := ds) (h0 d) (aCons1 (hf d ds)) rfl).trans e1
      exact lc_t (env' := env0.set i (vS d)) (s := ds) (s1 := ds1) (y := .int (1 + r)) rfl rfl (d2_eq (a := .int 1) rfl q rfl) e2
    · rcases List.mem_cons.mp m with rfl | m
      · omega
      · exact h3 x m
abbrev W9 (n : Nat) (a3 a4 a5 a6 a7 a8 : Option Sl) : En := [some .draw, vS (.int (n : Nat)), vS (.int 8), a3, a4, a5, a6, a7, a8]
def drB : DenS := dSeq (dSet 7 false (dCallD 0 1 f__law_take (aCons (d2 gAdd (dB gLen (aCons (dRd 5) (aNil))) (dC (.int 1))) (aNil)))) (dSeq (dSet 5 false (d2 gCat (d2 gCat (dSlL (dRd 5) none (some (dRd 7))) (dLst (aCons (dVar 6) (aCons (dVar 6) (aNil))))) (dSlL (dRd 5) (some (dRd 7)) none))) (dNx))
theorem gCat_ll {a b : List D} (h : a.length + b.length ≤ 100000) : gCat (.list a) (.list b) = some (.list (a ++ b)) := if_pos h
theorem dr_loop (n : Nat) (a3 a4 a8 : Option Sl) : ∀ (it line : List Int) (a6 a7 : Option Sl) (ds : DS), Crs n it → Crs n line → line.length + 2 * it.length ≤ 100 → ∃ (line' : List Int) (b6 b7 : Option Sl) (ds' : DS), forLoop (gNm 6) drB (it.map D.int) (W9 n a3 a4 (vS (.list (line.map D.int))) a6 a7 a8) ds = some (.nx (W9 n a3 a4 (vS (.list (line'.map D.int))) b6 b7 a8), ds') ∧ Crs n line' ∧ line'.length = line.length + 2 * it.length
  | [], line, a6, a7, ds, _, h, _ => ⟨line, a6, a7, ds, rfl, h, by simp⟩
  | x :: it, line, a6, a7, ds, hi, h, hl => by
    simp only [List.length_cons] at hl
    obtain ⟨r, ds1, e1, hr⟩ := take_ok (((line.length : Nat) : Int) + 1) (by omega) ds
    obtain ⟨k, rfl⟩ : ∃ k : Nat, r = (k : Int) := ⟨r.toNat, by omega⟩
    let E := W9 n a3 a4 (vS (.list (line.map D.int))) (vS (.int x)) a7 a8
    have q1 : dCallD 0 1 f__law_take (aCons (d2 gAdd (dB gLen (aCons (dRd 5) (aNil))) (dC (.int 1))) (aNil)) E ds = some (.int (k : Nat), ds1) := by
      refine (dCallD_eq (as := [.int (((line.length : Nat) : Int) + 1)]) (s := ds) rfl (aCons1 ?_) rfl).trans e1
      have : d2 gAdd (dB gLen (aCons (dRd 5) (aNil))) (dC (.int 1)) E ds = some (.int ((((line.map D.int).length : Nat) : Int) + 1), ds) := rfl
      rw [List.length_map] at this
      exact this
    let E1 := W9 n a3 a4 (vS (.list (line.map D.int))) (vS (.int x)) (vS (.int (k : Nat))) a8
    have q2 : dSet 7 false (dCallD 0 1 f__law_take (aCons (d2 gAdd (dB gLen (aCons (dRd 5) (aNil))) (dC (.int 1))) (aNil))) E ds = some (.nx E1, ds1) := dSet_eq (i := 7) (k := false) (env := E) q1
    have s1 : dSlL (dRd 5) none (some (dRd 7)) E1 ds1 = some (.list ((line.take k).map D.int), ds1) := by
      show some (D.list (cutD (line.map D.int) none (some ((k : Nat) : Int))), ds1) = _
      rw [cutD_take]
    have s2 : dSlL (dRd 5) (some (dRd 7)) none E1 ds1 = some (.list ((line.drop k).map D.int), ds1) := by
      show some (D.list (cutD (line.map D.int) (some ((k : Nat) : Int)) none), ds1) = _
      rw [cutD_drop]
    have s3 : dLst (aCons (dVar 6) (aCons (dVar 6) (aNil))) E1 ds1 = some (.list [.int x, .int x], ds1) := rfl
    have s4 := d2_eq (g := gCat) s1 s3 (gCat_ll (by rw [List.length_map, List.length_take]; simp only [List.length_cons, List.length_nil]; omega))
    have s5 := d2_eq (g := gCat) s4 s2 (gCat_ll (by simp only [List.length_append, List.length_map, List.length_take, List.length_drop, List.length_cons, List.length_nil]; omega))
    have el : (line.take k).map D.int ++ [D.int x, D.int x] ++ (line.drop k).map D.int = (line.take k ++ [x, x] ++ line.drop k).map D.int := by simp
    rw [el] at s5
    have hc : Crs n (line.take k ++ [x, x] ++ line.drop k) := fun y m => by
      rcases List.mem_append.mp m with m | m
      · rcases List.mem_append.mp m with m | m
        · exact h y (List.mem_of_mem_take m)
        · simp only [List.mem_cons, List.not_mem_nil, or_false, or_self] at m
          rw [m]
          exact hi x (List.mem_cons_self ..)
      · exact h y (List.mem_of_mem_drop m)
    have hlen : (line.take k ++ [x, x] ++ line.drop k).length = line.length + 2 := by
      simp only [List.length_append, List.length_take, List.length_drop, List.length_cons, List.length_nil]
      omega
    obtain ⟨line', b6, b7, ds', e2, h3, h4⟩ := dr_loop n a3 a4 a8 it (line.take k ++ [x, x] ++ line.drop k) (vS (.int x)) (vS (.int (k : Nat))) ds1 hi.tail hc (by omega)
    refine ⟨line', b6, b7, ds', ?_, h3, by simp only [List.length_cons]; omega⟩
    have q3 : dSet 5 false (d2 gCat (d2 gCat (dSlL (dRd 5) none (some (dRd 7))) (dLst (aCons (dVar 6) (aCons (dVar 6) (aNil))))) (dSlL (dRd 5) (some (dRd 7)) none)) E1 ds1 = some (.nx (W9 n a3 a4 (vS (.list ((line.take k ++ [x, x] ++ line.drop k).map D.int))) (vS (.int x)) (vS (.int (k : Nat))) a8), ds1) := dSet_eq (i := 5) (k := false) (env := E1) s5
    exact (forLoop_cons (d := .int x) (env' := E) rfl ((dSeq_eq q2).trans ((dSeq_eq q3).trans rfl))).trans e2
theorem drawing_ok {n : Nat} (h2 : 2 ≤ n) (h5 : n ≤ 5) (ds : DS) : ∃ (l : List Int) (ds' : DS), f__law_drawing [.int (n : Nat), .int 8] ds = some (rowD l, ds') ∧ Crs n l ∧ l.length ≤ 20 := by
  let E0 := W9 n none none none none none none
  obtain ⟨r, ds1, e1, hr⟩ := take_ok 9 (by decide) ds
  obtain ⟨m, ds2, e2, hm, hc⟩ := draws_loop 8 (d2 gSub (dRd 1) (dC (.int 1))) ((n : Int) - 1) ⟨by omega, by omega⟩ (wipeE E0 [8]) (fun d => rfl) (fun d s => rfl) (rgD 0 r.toNat) ds1
  rw [rgD_len] at hm
  have hm2 : m.length ≤ 8 := by omega
  have cm : Crs n m := fun x hx => by have := hc x hx; omega
  obtain ⟨w, ds3, e3, hw⟩ := take_ok 3 (by decide) ds2
  have q1 : dIfS (dTest (d2 gLt (dRd 1) (dC (.int 2)))) (dSeq (dRet (dTup (aNil))) (dNx)) (dNx) E0 ds = some (.nx E0, ds) := by
    have : dTest (d2 gLt (dRd 1) (dC (.int 2))) E0 ds = some (decide ((n : Int) < 2), ds) := rfl
    rw [decide_eq_false (by omega)] at this
    exact (dIfS_f this).trans rfl
  let E1 := W9 n (vS (.list (m.map D.int))) (vS (.int w)) none none none none
  have q2 : dPar 3 4 false false (dLc (dRg1 (dCallD 0 1 f__law_take (aCons (d2 gAdd (dRd 2) (dC (.int 1))) (aNil)))) [8] (gNm 8) (tYesD) (d2 gAdd (dC (.int 1)) (dCallD 0 1 f__law_take (aCons (d2 gSub (dRd 1) (dC (.int 1))) (aNil))))) (dCallD 0 1 f__law_take (aCons (dC (.int 3)) (aNil))) E0 ds = some (.nx E1, ds3) := by
    have x1 : dCallD 0 1 f__law_take (aCons (d2 gAdd (dRd 2) (dC (.int 1))) (aNil)) E0 ds = some (.int r, ds1) := (dCallD_eq (as := [.int 9]) (s := ds) rfl rfl rfl).trans e1
    have x2 := dLc_eq (gi := dRg1 (dCallD 0 1 f__law_take (aCons (d2 gAdd (dRd 2) (dC (.int 1))) (aNil)))) (own := [8]) (env := E0) (dRg1_eq x1 (by omega)) e2 (by rw [List.length_map]; omega)
    have x3 : dCallD 0 1 f__law_take (aCons (dC (.int 3)) (aNil)) E0 ds2 = some (.int w, ds3) := (dCallD_eq (as := [.int 3]) (s := ds2) rfl rfl rfl).trans e3
    exact dPar_eq (i := 3) (j := 4) (k := false) (l := false) (env := E0) x2 x3
  have t0 : dTest (d2 gEqU (dRd 4) (dC (.int 0))) E1 ds3 = some (decide (w = 0), ds3) := rfl
  by_cases hw0 : w = 0
  · rw [decide_eq_true hw0] at t0
    refine ⟨m, ds3, ?_, cm, by omega⟩
    have q3 : dIfS (dTest (d2 gEqU (dRd 4) (dC (.int 0)))) (dSeq (dRet (dB gTupS (aCons (dRd 3) (aNil)))) (dNx)) (dNx) E1 ds3 = some (.rt (rowD m), ds3) := (dIfS_t t0).trans rfl
    show outD (d__law_drawing E0 ds) = _
    have : d__law_drawing E0 ds = some (.rt (rowD m), ds3) := (dSeq_eq q1).trans ((dSeq_eq q2).trans (dSeq_rt q3))
    rw [this]
    rfl
  · rw [decide_eq_false hw0] at t0
    have q3 : dIfS (dTest (d2 gEqU (dRd 4) (dC (.int 0)))) (dSeq (dRet (dB gTupS (aCons (dRd 3) (aNil)))) (dNx)) (dNx) E1 ds3 = some (.nx E1, ds3) := (dIfS_f t0).trans rfl
    obtain ⟨ys, ds4, e4, p4⟩ := sequence_ok n (by omega) ds3
    obtain ⟨s, hs, rfl⟩ := seqsI_of p4
    obtain ⟨v, ds5, e5, hv⟩ := shortest_ok h2 h5 hs (d := pD s) rfl ds4
    have lv := hv.len h2 h5
    have le := (fa_of h2 h5 hs).le
    have cv : Crs n v.reverse := fun x hx => hv.crs x (List.mem_reverse.mp hx)
    let line := v.reverse.take 8
    have ll : line.length ≤ 10 := by
      show (v.reverse.take 8).length ≤ 10
      rw [List.length_take, List.length_reverse]
      omega
    have cl : Crs n line := fun x hx => cv x (List.mem_of_mem_take hx)
    let E2 := W9 n (vS (.list (m.map D.int))) (vS (.int w)) (vS (.list (line.map D.int))) none none none
    have q4 : dSet 5 false (dSlL (dB gListS (aCons (dCallD 0 1 f__law_shortest (aCons (dCallD 0 1 f__law_sequence (aCons (dVar 1) (aNil))) (aNil))) (aNil))) none (some (dRd 2))) E1 ds3 = some (.nx E2, ds5) := by
      have x1 : dCallD 0 1 f__law_sequence (aCons (dVar 1) (aNil)) E1 ds3 = some (pD s, ds4) := (dCallD_eq (as := [.int (n : Nat)]) (s := ds3) rfl rfl rfl).trans e4
      have x2 : dCallD 0 1 f__law_shortest (aCons (dCallD 0 1 f__law_sequence (aCons (dVar 1) (aNil))) (aNil)) E1 ds3 = some (rowD v.reverse, ds5) := (dCallD_eq (as := [pD s]) (s := ds4) rfl (aCons1 x1) rfl).trans e5
      have x3 : dB gListS (aCons (dCallD 0 1 f__law_shortest (aCons (dCallD 0 1 f__law_sequence (aCons (dVar 1) (aNil))) (aNil))) (aNil)) E1 ds3 = some (.list (v.reverse.map D.int), ds5) := dB_eq (as := [rowD v.reverse]) (aCons1 x2) rfl
      refine dSet_eq (i := 5) (k := false) (env := E1) ?_
      unfold dSlL dPart
      rw [x3]
      show some (D.list (cutD (v.reverse.map D.int) none (some ((8 : Nat) : Int))), ds5) = _
      rw [cutD_take]
    have fin : ∀ it : List Int, Crs n it → it.length ≤ 2 → dItems (dIf (tAndD (dTest (d2 gEqU (dRd 4) (dC (.int 2)))) (dTest (d2 gLe (d2 gAdd (dB gLen (aCons (dRd 5) (aNil))) (dC (.int 4))) (dRd 2)))) (dSlL (dRd 3) none (some (dC (.int 2)))) (dLst (aNil))) E2 ds5 = some (it.map D.int, ds5) → ∃ (l : List Int) (ds' : DS), f__law_drawing [.int (n : Nat), .int 8] ds = some (rowD l, ds') ∧ Crs n l ∧ l.length ≤ 20 := fun it ci li ei => by
      obtain ⟨line', b6, b7, ds6, e6, c6, l6⟩ := dr_loop n (vS (.list (m.map D.int))) (vS (.int w)) none it line none none ds5 ci cl (by omega)
      refine ⟨line', ds6, ?_, c6, by omega⟩
      have q5 : dFor (dItems (dIf (tAndD (dTest (d2 gEqU (dRd 4) (dC (.int 2)))) (dTest (d2 gLe (d2 gAdd (dB gLen (aCons (dRd 5) (aNil))) (dC (.int 4))) (dRd 2)))) (dSlL (dRd 3) none (some (dC (.int 2)))) (dLst (aNil)))) (gNm 6) drB E2 ds5 = _ := (dFor_eq ei).trans e6
      have q6 : dRet (dB gTupS (aCons (dRd 5) (aNil))) (W9 n (vS (.list (m.map D.int))) (vS (.int w)) (vS (.list (line'.map D.int))) b6 b7 none) ds6 = some (.rt (rowD line'), ds6) := rfl
      show outD (d__law_drawing E0 ds) = _
      have : d__law_drawing E0 ds = some (.rt (rowD line'), ds6) := (dSeq_eq q1).trans ((dSeq_eq q2).trans ((dSeq_eq q3).trans ((dSeq_eq q4).trans ((dSeq_eq q5).trans (dSeq_rt q6)))))
      rw [this]
      rfl
    have t1 : dTest (d2 gEqU (dRd 4) (dC (.int 2))) E2 ds5 = some (decide (w = 2), ds5) := rfl
    have t2 : dTest (d2 gLe (d2 gAdd (dB gLen (aCons (dRd 5) (aNil))) (dC (.int 4))) (dRd 2)) E2 ds5 = some (decide ((((line.map D.int).length : Nat) : Int) + 4 ≤ 8), ds5) := rfl
    have t3 : tAndD (dTest (d2 gEqU (dRd 4) (dC (.int 2)))) (dTest (d2 gLe (d2 gAdd (dB gLen (aCons (dRd 5) (aNil))) (dC (.int 4))) (dRd 2))) E2 ds5 = some (decide (w = 2) && decide ((((line.map D.int).length : Nat) : Int) + 4 ≤ 8), ds5) := by
      unfold tAndD
      rw [t1]
      unfold bnd
      dsimp only
      cases decide (w = 2) with
      | true => exact t2
      | false => rfl
    cases qb : (decide (w = 2) && decide ((((line.map D.int).length : Nat) : Int) + 4 ≤ 8)) with
    | true =>
      refine fin (m.take 2) (fun x hx => cm x (List.mem_of_mem_take hx)) (by rw [List.length_take]; omega) ?_
      refine dItems_eq (a := .list ((m.take 2).map D.int)) ?_ rfl
      unfold dIf
      rw [t3, qb]
      show some (D.list (cutD (m.map D.int) none (some ((2 : Nat) : Int))), ds5) = _
      rw [cutD_take]
    | false =>
      refine fin [] (fun x m => nomatch m) (by simp) ?_
      refine dItems_eq (a := .list []) ?_ rfl
      unfold dIf
      rw [t3, qb]
      rfl
end L2.Dn
set_option Elab.async false
set_option linter.all false
set_option maxRecDepth 100000
set_option maxHeartbeats 0
/-! k67: cut along a drawing -/
namespace L2.Dn
open PySem PySem.Spec PyProof.Rows C8
def cutL (p : PR) : List Int → PR
  | [] => p
  | i :: l => cutL (cutP p i.toNat) l
theorem cutL_append (p : PR) : ∀ (l m : List Int), cutL p (l ++ m) = cutL (cutL p l) m := by
  intro l
  induction l generalizing p with
  | nil => intro m; rfl
  | cons x l ih => intro m; exact ih (cutP p x.toNat) m
theorem cutL_rev (p : PR) : ∀ (v : List Int), cutL p v.reverse = cutR p v
  | [] => rfl
  | i :: v => by
    rw [List.reverse_cons, cutL_append, cutL_rev p v]
    rfl
theorem cutL_sm {n : Nat} (h5 : n ≤ 5) : ∀ {l : List Int} {p : PR}, Crs n l → Sm p → Sm (cutL p l)
  | [], p, _, h => h
  | i :: l, p, hc, h => cutL_sm h5 (l := l) hc.tail (sm_cut h hc.head.1 (by have := hc.head.2; omega))
theorem cutL_wf : ∀ {l : List Int} {p : PR}, WfP p → WfP (cutL p l)
  | [], p, h => h
  | i :: l, p, h => cutL_wf (l := l) (wf_cutP _ _)
def caBody : DenS := dSeq (dSet 2 false (dCallP 2 f_cut_by (aCons (dVar 2) (aCons (dVar 3) (aNil))))) (dNx)
/-- fit to be cut -/
structure Fit (p : PR) : Prop where
  box : Box 5 5 p
  wf : WfP p
  len : p.length < 16000
theorem Sm.fit {p : PR} (h : Sm p) (w : WfP p) : Fit p := ⟨fun e m => ⟨(h e m).1, fun x hx => by have := (h e m).2 x hx; omega⟩, w, by have := sm_len h w.nd; omega⟩
theorem Fit.poly {p : PR} (h : Fit p) : polyOk p = true := poly_box h.wf fun e m => ⟨(h.box e m).1, fun x hx => by have := (h.box e m).2 x hx; omega⟩
theorem ca_loop (a0 a1 : Option Sl) (ds : DS) : ∀ (l : List Int) (p : PR) (a3 : Option Sl), Crs 5 l → (∀ k, k ≤ l.length → Fit (cutL p (l.take k))) → ∃ b3, forLoop (gNm 3) caBody (l.map D.int) [a0, a1, vS (toD p), a3] ds = some (.nx [a0, a1, vS (toD (cutL p l)), b3], ds)
  | [], p, a3, _, _ => ⟨a3, rfl⟩
  | x :: l, p, a3, hc, hf => by
    have hx := hc x (List.mem_cons_self ..)
    obtain ⟨j, rfl⟩ : ∃ j : Nat, x = (j : Int) := ⟨x.toNat, by omega⟩
    have f0 : Fit p := hf 0 (Nat.zero_le _)
    have nt : ((j : Int)).toNat = j := by omega
    have cl := (box_cutTs (B := 5) (n := 5) (by decide) (i := j) (by omega) (by omega) (p := p) f0.box).2
    have five : Int.toNat 5 = 5 := rfl
    rw [five] at cl
    have hl := f0.len
    have e := tr_cut p j (by omega) (poly_rows f0.poly (by omega)) (by omega)
    obtain ⟨b3, e2⟩ := ca_loop a0 a1 ds l (cutP p j) (vS (.int (j : Int))) hc.tail (fun k hk => by
      have := hf (k + 1) (by simp only [List.length_cons]; omega)
      rw [List.take_succ_cons] at this
      have e : cutL p ((j : Int) :: l.take k) = cutL (cutP p j) (l.take k) := by
        show cutL (cutP p ((j : Int)).toNat) _ = _
        rw [nt]
      rwa [e] at this)
    refine ⟨b3, ?_⟩
    have e1 : dSet 2 false (dCallP 2 f_cut_by (aCons (dVar 2) (aCons (dVar 3) (aNil)))) [a0, a1, vS (toD p), vS (.int (j : Int))] ds = some (.nx [a0, a1, vS (toD (cutP p j)), vS (.int (j : Int))], ds) :=
      dSet_eq (i := 2) (k := false) (env := [a0, a1, vS (toD p), vS (.int (j : Int))]) (dCallP_eq (as := [toD p, .int (j : Nat)]) rfl rfl e)
    have e3 : cutL p ((j : Int) :: l) = cutL (cutP p j) l := by
      show cutL (cutP p ((j : Int)).toNat) _ = _
      rw [nt]
    rw [e3]
    exact (forLoop_cons (d := .int (j : Int)) (env' := [a0, a1, vS (toD p), vS (.int (j : Int))]) rfl ((dSeq_eq e1).trans rfl)).trans e2
theorem w_along {p : PR} {l : List Int} (hc : Crs 5 l) (hl : l.length ≤ 60) (hf : ∀ k, k ≤ l.length → Fit (cutL p (l.take k))) (hh : hOk (cutL p l) = true) : f_cut_along [toD p, rowD l] = some (toD (cutL p l)) := by
  have f0 : Fit p := hf 0 (Nat.zero_le _)
  have n1 := needpoly f0.poly (by have := f0.len; omega)
  obtain ⟨b3, e⟩ := ca_loop (vS (toD p)) (vS (rowD l)) ds0 l p none hc hf
  have e1 : tNotD (dTest (dCallP 2 f_is_drawing_of (aCons (dC (.int 5)) (aCons (dVar 1) (aNil))))) (envP 4 [toD p, rowD l]) ds0 = some (false, ds0) := tNot_t (dCallP_eq (as := [.int 5, rowD l]) rfl rfl (tr_isdraw hc hl))
  have e2 : dFor (dItems (dVar 1)) (gNm 3) caBody [vS (toD p), vS (rowD l), vS (toD p), none] ds0 = _ := (dFor_eq (dItems_eq (a := rowD l) rfl rfl)).trans e
  have e3 : dRet (dB gDict (aCons (dRd 2) (aNil))) [vS (toD p), vS (rowD l), vS (toD (cutL p l)), b3] ds0 = some (.rt (toD (cutL p l)), ds0) := dRet_eq (dB_eq (as := [toD (cutL p l)]) rfl (gDict_P hh))
  exact fnP_eq (b := d_cut_along) ((dSeq_eq (dDrop_eq (env := envP 4 [toD p, rowD l]) (dCallP_eq (as := [toD p]) rfl rfl n1))).trans ((dSeq_eq ((dIfS_f e1).trans rfl)).trans ((dSeq_eq (e := [vS (toD p), vS (rowD l), vS (toD p), none]) (s := ds0) rfl).trans ((dSeq_eq e2).trans (dSeq_rt e3)))))
/-- small polynomials along any drawing -/
theorem w_small {n : Nat} (h5 : n ≤ 5) {p : PR} (sp : Sm p) (wp : WfP p) {l : List Int} (hc : Crs n l) (hl : l.length ≤ 60) : f_cut_along [toD p, rowD l] = some (toD (cutL p l)) := by
  have c5 : Crs 5 l := fun x m => by have := hc x m; omega
  refine w_along c5 hl (fun k hk => ?_) (sm_hok (cutL_sm h5 hc sp) (cutL_wf wp).nd)
  have hk2 : Crs n (l.take k) := fun x m => hc x (List.mem_of_mem_take m)
  exact (cutL_sm h5 hk2 sp).fit (cutL_wf wp)
end L2.Dn
set_option Elab.async false
set_option linter.all false
set_option maxRecDepth 100000
set_option maxHeartbeats 0
/-! k67: the sum of the greatest along words; all words alike -/
namespace L2.Dn
open PySem PySem.Spec PyProof.Rows C8
theorem sum_fit {s : List Int} (fs : FS s) : Fit (sumV s) := ⟨fs.box.1, fs.wf, fs.box.2⟩
theorem fit_perm {p q : PR} (h : p.Perm q) (w : WfP p) (f : Fit q) : Fit p := ⟨fun e m => f.box e (h.mem_iff.mp m), w, by rw [h.length_eq]; exact f.len⟩
theorem nil_fit : Fit [] := ⟨(fun e m => nomatch m), ⟨List.nodup_nil, (fun e m => nomatch m)⟩, by decide⟩
/-- a beginning of a word, cut -/
theorem great_fit {n : Nat} (h2 : 2 ≤ n) (h5 : n ≤ 5) {l : List Int} (hc : Crs n l) : Fit (cutL (sumV (greatP n)) l) ∧ hOk (cutL (sumV (greatP n)) l) = true := by
  have cr : Crs n l.reverse := fun x m => hc x (List.mem_reverse.mp m)
  have e := cutL_rev (sumV (greatP n)) l.reverse
  rw [List.reverse_reverse] at e
  rw [e]
  have w := cutR_wf (fs_of h2 h5 (great_mem h2 h5)).wf l.reverse
  rcases great_or h2 h5 cr with hv | ⟨hz, _⟩
  · have fs := fs_of h2 h5 (thn_mem h2 h5 hv.mem)
    have pm := wf_perm w fs.wf (great_chn h2 h5 hv)
    exact ⟨fit_perm pm w (sum_fit fs), hOk_perm pm fs.hok⟩
  · rw [hz]
    exact ⟨nil_fit, by kernel_rfl⟩
theorem w_great {n : Nat} (h2 : 2 ≤ n) (h5 : n ≤ 5) {l : List Int} (hc : Crs n l) (hl : l.length ≤ 60) : f_cut_along [toD (sumV (greatP n)), rowD l] = some (toD (cutL (sumV (greatP n)) l)) := by
  have c5 : Crs 5 l := fun x m => by have := hc x m; omega
  exact w_along c5 hl (fun k hk => (great_fit h2 h5 fun x m => hc x (List.mem_of_mem_take m)).1) (great_fit h2 h5 hc).2
theorem chn_of {n : Nat} : ∀ {v s : List Int}, s ∈ seqsI n → chnB n s v = true → Chn n s v
  | [], s, _, h => by
    unfold chnB at h
    rw [beqL_eq] at h
    rw [of_decide_eq_true h]
    exact .nil
  | i :: v, s, hs, h => by
    unfold chnB at h
    split at h
    · rename_i q
      simp only [Bool.and_eq_true, decide_eq_true_eq] at q
      obtain ⟨⟨q1, q2⟩, q3⟩ := q
      have ie : ((i.toNat : Nat) : Int) = i := by omega
      have m := swp_mem hs (i := i.toNat) (by omega) (by omega)
      have := Chn.cons hs (by omega) (by omega) q3 (chn_of m h)
      rwa [ie] at this
    · cases h
theorem first_chn {n : Nat} (h2 : 2 ≤ n) (h5 : n ≤ 5) {s : List Int} (hs : s ∈ seqsI n) : Chn n s (firstP n s).reverse := chn_of hs (fa_of h2 h5 hs).chn
/-- two shortest drawings of a sequence cut alike -/
theorem alike {n : Nat} (h2 : 2 ≤ n) (h5 : n ≤ 5) {s l m : List Int} (hl : Chn n s l.reverse) (hm : Chn n s m.reverse) {p : PR} (sp : Sm p) : eqv (cutL p l) (cutL p m) := by
  have := mats h2 h5 _ (Nat.le_refl _) hl hm sp
  rw [← cutL_rev, ← cutL_rev, List.reverse_reverse, List.reverse_reverse] at this
  exact this
end L2.Dn
set_option Elab.async false
set_option linter.all false
set_option maxRecDepth 100000
set_option maxHeartbeats 0
/-! k67: no two wires cross twice -/
namespace L2.Dn
open PySem PySem.Spec PyProof.Rows C8
def linesP (s : List Int) : List Int → List (List Int)
  | [] => [s]
  | x :: l => s :: linesP (swpP s x.toNat) l
theorem w_swp {r : List Int} {i : Nat} (h1 : 1 ≤ i) (h2 : i < r.length) (h3 : r.length < 1000) : f_swapped [rowD r, .int (i : Nat)] = some (rowD (swpP r i)) :=
  fnP_eq (b := d_swapped) (s := ds0) (dSeq_rt (dRet_eq (swpDen_eq (j := 0) (l := 1) (env := [vS (rowD r), vS (.int (i : Nat))]) rfl rfl h1 h2 h3)))
def lnBody : DenS := dSeq (dApp 2 (dCallP 2 f_swapped (aCons (d2 gIx (dRd 2) (d1 gNeg (dC (.int 1)))) (aCons (dVar 3) (aNil))))) (dNx)
theorem ln_loop {n : Nat} (hn : n < 1000) (a0 a1 : Option Sl) (ds : DS) : ∀ (l : List Int) (L : List (List Int)) (s : List Int) (a3 : Option Sl), Crs n l → s.length = n → L.length + l.length < 1000 → ∃ b3, forLoop (gNm 3) lnBody (l.map D.int) [a0, a1, some (.own (.list ((L ++ [s]).map rowD))), a3] ds = some (.nx [a0, a1, some (.own (.list ((L ++ linesP s l).map rowD))), b3], ds)
  | [], L, s, a3, _, _, _ => ⟨a3, rfl⟩
  | x :: l, L, s, a3, hc, hl, hL => by
    simp only [List.length_cons] at hL
    have h1 := hc.head
    have hx := hc x (List.mem_cons_self ..)
    obtain ⟨j, rfl⟩ : ∃ j : Nat, x = (j : Int) := ⟨x.toNat, by omega⟩
    have hj : ((j : Int)).toNat = j := by omega
    rw [hj] at h1
    obtain ⟨b3, ih⟩ := ln_loop hn a0 a1 ds l (L ++ [s]) (swpP s j) (vS (.int (j : Int))) hc.tail (by rw [swp_len h1.1 (by omega), hl]) (by simp; omega)
    refine ⟨b3, ?_⟩
    have em : (L ++ [s]).map rowD = L.map rowD ++ [rowD s] := by simp
    have e0 : d2 gIx (dRd 2) (d1 gNeg (dC (.int 1))) [a0, a1, some (.own (.list ((L ++ [s]).map rowD))), vS (.int (j : Int))] ds = some (rowD s, ds) := by
      refine d2_eq (a := .list ((L ++ [s]).map rowD)) (b := .int (-1)) rfl rfl ?_
      rw [em]
      exact atI_last (L.map rowD) (rowD s)
    have e1 : dCallP 2 f_swapped (aCons (d2 gIx (dRd 2) (d1 gNeg (dC (.int 1)))) (aCons (dVar 3) (aNil))) [a0, a1, some (.own (.list ((L ++ [s]).map rowD))), vS (.int (j : Int))] ds = some (rowD (swpP s j), ds) :=
      dCallP_eq (as := [rowD s, .int (j : Nat)]) (aCons_eq e0 rfl) rfl (w_swp h1.1 (by omega) (by omega))
    have e2 : dApp 2 (dCallP 2 f_swapped (aCons (d2 gIx (dRd 2) (d1 gNeg (dC (.int 1)))) (aCons (dVar 3) (aNil)))) [a0, a1, some (.own (.list ((L ++ [s]).map rowD))), vS (.int (j : Int))] ds = some (.nx [a0, a1, some (.own (.list ((L ++ [s] ++ [swpP s j]).map rowD))), vS (.int (j : Int))], ds) := by
      unfold dApp
      rw [e1]
      show (if ((L ++ [s]).map rowD).length < 100000 then _ else none) = _
      rw [if_pos (by simp; omega), List.map_append (l₁ := L ++ [s])]
      rfl
    have e3 : L ++ linesP s ((j : Int) :: l) = L ++ [s] ++ linesP (swpP s j) l := by
      show L ++ (s :: linesP (swpP s ((j : Int)).toNat) l) = _
      rw [hj]
      simp
    rw [e3]
    exact (forLoop_cons (d := .int (j : Int)) (env' := [a0, a1, some (.own (.list ((L ++ [s]).map rowD))), vS (.int (j : Int))]) rfl ((dSeq_eq e2).trans rfl)).trans ih
theorem rgD_t (n : Nat) (hn : n < 1000) (a1 a2 a3 : Option Sl) (ds : DS) : dTupI (dRg2 (dC (.int 1)) (d2 gAdd (dRd 0) (dC (.int 1)))) [vS (.int (n : Nat)), a1, a2, a3] ds = some (rowD (rgL 1 n), ds) := by
  have e2 : dRg2 (dC (.int 1)) (d2 gAdd (dRd 0) (dC (.int 1))) [vS (.int (n : Nat)), a1, a2, a3] ds = some (rgD 1 n, ds) := by
    unfold dRg2
    rw [show dC (.int 1) [vS (.int (n : Nat)), a1, a2, a3] ds = some (.int 1, ds) from rfl]
    unfold bnd
    dsimp only
    rw [show d2 gAdd (dRd 0) (dC (.int 1)) [vS (.int (n : Nat)), a1, a2, a3] ds = some (.int ((n : Int) + 1), ds) from rfl]
    dsimp only
    rw [if_pos (by omega)]
    have : (((n : Int) + 1) - 1).toNat = n := by omega
    rw [this]
  unfold dTupI
  rw [e2]
  unfold bnd
  dsimp only
  rw [if_pos (by rw [rgD_len]; omega), rgD_map]
theorem tr_lines {n : Nat} (hn : n < 1000) {l : List Int} (hc : Crs n l) (hl : l.length < 900) : f_places_by [.int (n : Nat), rowD l] = some (.list ((linesP (rgL 1 n) l).map rowD)) := by
  obtain ⟨b3, e⟩ := ln_loop hn (vS (.int (n : Nat))) (vS (rowD l)) ds0 l [] (rgL 1 n) none hc (rgL_len n 1) (by simp; omega)
  have e1 : dSet 2 true (dLst (aCons (dTupI (dRg2 (dC (.int 1)) (d2 gAdd (dRd 0) (dC (.int 1))))) (aNil))) (envP 4 [.int (n : Nat), rowD l]) ds0 = some (.nx [vS (.int (n : Nat)), vS (rowD l), some (.own (.list (([] ++ [rgL 1 n]).map rowD))), none], ds0) := by
    refine dSet_eq (i := 2) (k := true) (env := [vS (.int (n : Nat)), vS (rowD l), none, none]) ?_
    unfold dLst
    rw [aCons1 (rgD_t n hn (vS (rowD l)) none none ds0)]
    rfl
  have e2 : dFor (dItems (dVar 1)) (gNm 3) lnBody [vS (.int (n : Nat)), vS (rowD l), some (.own (.list (([] ++ [rgL 1 n]).map rowD))), none] ds0 = _ := (dFor_eq (dItems_eq (a := rowD l) rfl rfl)).trans e
  exact fnP_eq (b := d_places_by) ((dSeq_eq e1).trans ((dSeq_eq e2).trans rfl))
/-! the pairs of wires that cross -/
def crsP (s : List Int) : List Int → List (List Int)
  | [] => []
  | x :: l => isort [s.getD (x.toNat - 1) 0, s.getD x.toNat 0] :: crsP (swpP s x.toNat) l
theorem cutD_two (r : List Int) (i : Nat) (h1 : 1 ≤ i) (h2 : i < r.length) : cutD (r.map D.int) (some ((i : Int) - 1)) (some ((i : Int) + 1)) = [r.getD (i - 1) 0, r.getD i 0].map D.int := by
  have e1 : ((i : Int) - 1) = ((i - 1 : Nat) : Int) := by omega
  have e2 : ((i : Int) + 1) = ((i + 1 : Nat) : Int) := by omega
  unfold cutD
  rw [e1, e2, HT.sIx_nat, HT.sIx_nat, List.length_map, Nat.min_eq_left (by omega), Nat.min_eq_left (by omega), ← List.map_drop, ← List.map_take]
  congr 1
  have e3 : i + 1 - (i - 1) = 2 := by omega
  rw [e3]
  have hs := swp_split h1 h2
  have hd : r.drop (i - 1) = r.getD (i - 1) 0 :: r.getD i 0 :: r.drop (i + 1) := by
    have hl : (r.take (i - 1)).length = i - 1 := by rw [List.length_take]; omega
    have h3 : r.drop (i - 1) = (r.take (i - 1) ++ (r.getD (i - 1) 0 :: r.getD i 0 :: r.drop (i + 1))).drop (i - 1) := by rw [← hs]
    rw [h3, List.drop_append_of_le_length (by omega), List.drop_of_length_le (by omega)]
    rfl
  rw [hd]
  rfl
theorem crs_elt (a0 a1 a2 : Option Sl) (s : List Int) (j : Nat) (h1 : 1 ≤ j) (h2 : j < s.length) (ds : DS) : dB gTupS (aCons (dB gSorted (aCons (dSl (dRd 3) (some (d2 gSub (dRd 4) (dC (.int 1)))) (some (d2 gAdd (dRd 4) (dC (.int 1))))) (aNil))) (aNil)) [a0, a1, a2, vS (rowD s), vS (.int (j : Int))] ds = some (rowD (isort [s.getD (j - 1) 0, s.getD j 0]), ds) := by
  have e1 : dSl (dRd 3) (some (d2 gSub (dRd 4) (dC (.int 1)))) (some (d2 gAdd (dRd 4) (dC (.int 1)))) [a0, a1, a2, vS (rowD s), vS (.int (j : Int))] ds = some (.tuple (cutD (s.map D.int) (some ((j : Int) - 1)) (some ((j : Int) + 1))), ds) := rfl
  rw [cutD_two s j h1 h2] at e1
  have e2 : dB gSorted (aCons (dSl (dRd 3) (some (d2 gSub (dRd 4) (dC (.int 1)))) (some (d2 gAdd (dRd 4) (dC (.int 1))))) (aNil)) [a0, a1, a2, vS (rowD s), vS (.int (j : Int))] ds = some (.list ((isort [s.getD (j - 1) 0, s.getD j 0]).map D.int), ds) := dB_eq (aCons1 e1) rfl
  exact dB_eq (aCons1 e2) rfl
theorem crs_loop {n : Nat} (a0 a1 a2 : Option Sl) (ds : DS) : ∀ (l s : List Int), Crs n l → s.length = n → lcLoop (gTp (gsCons (gNm 3) (gsCons (gNm 4) (gsNil)))) tYesD (dB gTupS (aCons (dB gSorted (aCons (dSl (dRd 3) (some (d2 gSub (dRd 4) (dC (.int 1)))) (some (d2 gAdd (dRd 4) (dC (.int 1))))) (aNil))) (aNil))) [a0, a1, a2, none, none] (zipD ((linesP s l).map rowD) (l.map D.int)) ds = some ((crsP s l).map rowD, ds)
  | [], s, _, _ => rfl
  | x :: l, s, hc, hl => by
    have h1 := hc.head
    have hx := hc x (List.mem_cons_self ..)
    obtain ⟨j, rfl⟩ : ∃ j : Nat, x = (j : Int) := ⟨x.toNat, by omega⟩
    have hj : ((j : Int)).toNat = j := by omega
    rw [hj] at h1
    have ih := crs_loop a0 a1 a2 ds l (swpP s j) hc.tail (by rw [swp_len h1.1 (by omega), hl])
    have e1 : zipD ((linesP s ((j : Int) :: l)).map rowD) (((j : Int) :: l).map D.int) = .tuple [rowD s, .int (j : Int)] :: zipD ((linesP (swpP s j) l).map rowD) (l.map D.int) := by
      show D.tuple [rowD s, .int (j : Int)] :: zipD ((linesP (swpP s ((j : Int)).toNat) l).map rowD) (l.map D.int) = _
      rw [hj]
    have e2 : (crsP s ((j : Int) :: l)).map rowD = rowD (isort [s.getD (j - 1) 0, s.getD j 0]) :: (crsP (swpP s j) l).map rowD := by
      show (isort [s.getD (((j : Int)).toNat - 1) 0, s.getD ((j : Int)).toNat 0] :: crsP (swpP s ((j : Int)).toNat) l).map rowD = _
      rw [hj]
      rfl
    rw [e1, e2]
    exact lc_t (env' := [a0, a1, a2, vS (rowD s), vS (.int (j : Int))]) (s := ds) (s1 := ds) rfl rfl (crs_elt a0 a1 a2 s j h1.1 (by omega) ds) ih
theorem crsP_len : ∀ (l s : List Int), (crsP s l).length = l.length
  | [], _ => rfl
  | x :: l, s => congrArg Nat.succ (crsP_len l _)
theorem tr_crossed {n : Nat} (hn : n < 1000) {l : List Int} (hc : Crs n l) (hl : l.length < 900) : f_crossed_by [.int (n : Nat), rowD l] = some (.list ((crsP (rgL 1 n) l).map rowD)) := by
  have e0 := tr_lines hn hc hl
  have e1 : dSet 2 false (dCallP 2 f_places_by (aCons (dVar 0) (aCons (dVar 1) (aNil)))) (envP 5 [.int (n : Nat), rowD l]) ds0 = some (.nx [vS (.int (n : Nat)), vS (rowD l), vS (.list ((linesP (rgL 1 n) l).map rowD)), none, none], ds0) :=
    dSet_eq (i := 2) (k := false) (env := [vS (.int (n : Nat)), vS (rowD l), none, none, none]) (dCallP_eq (as := [.int (n : Nat), rowD l]) rfl rfl e0)
  have e2 := crs_loop (n := n) (vS (.int (n : Nat))) (vS (rowD l)) (vS (.list ((linesP (rgL 1 n) l).map rowD))) ds0 l (rgL 1 n) hc (rgL_len n 1)
  have e3 : dZipM (dVar 2) (dVar 1) [vS (.int (n : Nat)), vS (rowD l), vS (.list ((linesP (rgL 1 n) l).map rowD)), none, none] ds0 = some (zipD ((linesP (rgL 1 n) l).map rowD) (l.map D.int), ds0) := rfl
  have e4 := dLc_eq (own := [3, 4]) (env := [vS (.int (n : Nat)), vS (rowD l), vS (.list ((linesP (rgL 1 n) l).map rowD)), none, none]) e3 e2 (by rw [List.length_map, crsP_len]; omega)
  exact fnP_eq (b := d_crossed_by) ((dSeq_eq e1).trans (dSeq_rt (dRet_eq e4)))
/-! twice -/
def Asc (s : List Int) : List Int → Prop
  | [] => True
  | x :: l => ¬ Dsc s x.toNat ∧ Asc (swpP s x.toNat) l
def twBody : DenS := dSeq (dIfS (dTest (d2 (gInM false) (dRd 4) (dRd 2))) (dSeq (dRet (dTup (aCons (d2 gIx (dRd 2) (dRd 4)) (aCons (dVar 3) (aNil))))) (dNx)) (dNx)) (dSeq (dPut 2 (dVar 3) (dRd 4)) (dNx))
theorem pairs_mem {a b : Int} (h1 : 1 ≤ a) (h2 : a < b) (h3 : b ≤ 5) : (a, b) ∈ pairsB := by
  have : a = 1 ∨ a = 2 ∨ a = 3 ∨ a = 4 := by omega
  rcases this with rfl | rfl | rfl | rfl
  · rcases (show b = 2 ∨ b = 3 ∨ b = 4 ∨ b = 5 by omega) with rfl | rfl | rfl | rfl <;> decide
  · rcases (show b = 3 ∨ b = 4 ∨ b = 5 by omega) with rfl | rfl | rfl <;> decide
  · rcases (show b = 4 ∨ b = 5 by omega) with rfl | rfl <;> decide
  · rcases (show b = 5 by omega) with rfl; decide
theorem forLoop_rt {g : DenG} {f : DenS} {d : D} {r : List D} {env0 env' : En} {s s1 : DS} {a : D} (h1 : g d env0 = some env') (h2 : f env' s = some (.rt a, s1)) : forLoop g f (d :: r) env0 s = some (.rt a, s1) := by
  unfold forLoop
  rw [h1]
  dsimp only
  rw [h2]
theorem has_dP {acc : PR} {k : List Int} (nd : NdP acc) : (lookT (dP acc) (keyI k)).isSome = decide (k ∈ kysP acc) := by
  rw [lookT_dP]
  rcases lookP_cfs (p := acc) k nd with ⟨e, h, _⟩ | ⟨e, h⟩
  · rw [e, decide_eq_false h]
    rfl
  · rw [e, decide_eq_true (show k ∈ kysP acc from List.mem_map.mpr ⟨_, h, rfl⟩)]
    rfl
theorem tw_loop {n : Nat} (h2 : 2 ≤ n) (h5 : n ≤ 5) (a0 a1 : Option Sl) (ds : DS) : ∀ (l s : List Int) (a : Int) (acc : PR) (a3 a4 : Option Sl), Crs n l → s ∈ seqsI n → NdP acc → acc.length + l.length < 1000 → (∀ c d : Int, 1 ≤ c → c < d → d ≤ n → ([c, d] ∈ kysP acc ↔ inB s c d = true)) →
    (Asc s l ∧ ∃ e, forLoop (gTp (gsCons (gNm 3) (gsCons (gNm 4) (gsNil)))) twBody (enumD a ((crsP s l).map rowD)) [a0, a1, some (.own (toD acc)), a3, a4] ds = some (.nx e, ds)) ∨
    (¬ Asc s l ∧ ∃ x y, forLoop (gTp (gsCons (gNm 3) (gsCons (gNm 4) (gsNil)))) twBody (enumD a ((crsP s l).map rowD)) [a0, a1, some (.own (toD acc)), a3, a4] ds = some (.rt (.tuple [x, y]), ds))
  | [], s, a, acc, a3, a4, _, _, _, _, _ => .inl ⟨trivial, _, rfl⟩
  | x :: l, s, a, acc, a3, a4, hc, hs, nd, hl, hk => by
    simp only [List.length_cons] at hl
    have h1 := hc.head
    have hx := hc x (List.mem_cons_self ..)
    obtain ⟨j, rfl⟩ : ∃ j : Nat, x = (j : Int) := ⟨x.toNat, by omega⟩
    have hj : ((j : Int)).toNat = j := by omega
    rw [hj] at h1
    have sl := seqsI_len hs
    have b1 := seq_bd hs (i := j - 1) (by omega)
    have b2 := seq_bd hs (i := j) (by omega)
    have ne := getD_ne hs h1.1 h1.2
    have ft := ft_of h2 h5 hs h1.1 h1.2
    have e1 : (crsP s ((j : Int) :: l)).map rowD = rowD (isort [s.getD (j - 1) 0, s.getD j 0]) :: (crsP (swpP s j) l).map rowD := by
      show (isort [s.getD (((j : Int)).toNat - 1) 0, s.getD ((j : Int)).toNat 0] :: crsP (swpP s ((j : Int)).toNat) l).map rowD = _
      rw [hj]
      rfl
    have ea : Asc s ((j : Int) :: l) ↔ ¬ Dsc s j ∧ Asc (swpP s j) l := by
      show (¬ Dsc s ((j : Int)).toNat ∧ Asc (swpP s ((j : Int)).toNat) l) ↔ _
      rw [hj]
    rw [e1, ea]
    show (_ ∧ ∃ e, forLoop _ twBody (D.tuple [.int a, rowD (isort [s.getD (j - 1) 0, s.getD j 0])] :: enumD (a + 1) ((crsP (swpP s j) l).map rowD)) _ ds = _) ∨ (_ ∧ ∃ x y, forLoop _ twBody (D.tuple [.int a, rowD (isort [s.getD (j - 1) 0, s.getD j 0])] :: enumD (a + 1) ((crsP (swpP s j) l).map rowD)) _ ds = _)
    have tst : ∀ k : List Int, dTest (d2 (gInM false) (dRd 4) (dRd 2)) [a0, a1, some (.own (toD acc)), vS (.int a), vS (rowD k)] ds = some (decide (k ∈ kysP acc), ds) := fun k => by
      refine dTest_of (d2_eq (a := rowD k) (b := toD acc) rfl rfl ?_)
      show (match keyOf? (rowD k) with | some ks => some (D.bool (xor false (lookT (dP acc) ks).isSome)) | none => none) = _
      rw [keyOf_row]
      dsimp only
      rw [has_dP nd]
      simp
    by_cases d : Dsc s j
    · have ei : isort [s.getD (j - 1) 0, s.getD j 0] = [s.getD j 0, s.getD (j - 1) 0] := by
        show (match decide (s.getD (j - 1) 0 ≤ s.getD j 0) with | true => _ | false => _) = _
        rw [decide_eq_false (by show ¬ _; have : s.getD j 0 < s.getD (j - 1) 0 := d; omega)]
        rfl
      rw [ei]
      have hd : s.getD j 0 < s.getD (j - 1) 0 := d
      have hm : [s.getD j 0, s.getD (j - 1) 0] ∈ kysP acc := (hk _ _ b2.1 hd b1.2).mpr (ft.seen d)
      refine .inr ⟨fun z => z.1 d, ?_⟩
      have t := tst [s.getD j 0, s.getD (j - 1) 0]
      rw [decide_eq_true hm] at t
      obtain ⟨e, he, ek⟩ := List.mem_map.mp hm
      obtain ⟨k0, v⟩ := e
      have ek : k0 = [s.getD j 0, s.getD (j - 1) 0] := ek
      subst ek
      have lk : lookP acc [s.getD j 0, s.getD (j - 1) 0] = some v := (lookP_some nd).mpr he
      have ix : d2 gIx (dRd 2) (dRd 4) [a0, a1, some (.own (toD acc)), vS (.int a), vS (rowD [s.getD j 0, s.getD (j - 1) 0])] ds = some (.int v, ds) := by
        refine d2_eq (a := toD acc) (b := rowD [s.getD j 0, s.getD (j - 1) 0]) rfl rfl ?_
        show (match keyOf? (rowD [s.getD j 0, s.getD (j - 1) 0]) with | some ks => lookT (dP acc) ks | none => none) = _
        rw [keyOf_row]
        dsimp only
        rw [lookT_dP, lk]
        rfl
      refine ⟨.int v, .int a, forLoop_rt (env' := [a0, a1, some (.own (toD acc)), vS (.int a), vS (rowD [s.getD j 0, s.getD (j - 1) 0])]) rfl ?_⟩
      refine dSeq_rt ((dIfS_t t).trans (dSeq_rt (dRet_eq ?_)))
      unfold dTup
      rw [aCons_eq ix rfl]
      rfl
    · have hd : s.getD (j - 1) 0 < s.getD j 0 := by have : ¬ s.getD j 0 < s.getD (j - 1) 0 := d; omega
      have ei : isort [s.getD (j - 1) 0, s.getD j 0] = [s.getD (j - 1) 0, s.getD j 0] := by
        show (match decide (s.getD (j - 1) 0 ≤ s.getD j 0) with | true => _ | false => _) = _
        rw [decide_eq_true (by omega)]
      rw [ei]
      have hm : [s.getD (j - 1) 0, s.getD j 0] ∉ kysP acc := fun z => by
        have := (hk _ _ b1.1 hd b2.2).mp z
        rw [ft.new d] at this
        cases this
      have t := tst [s.getD (j - 1) 0, s.getD j 0]
      rw [decide_eq_false hm] at t
      have ep := putAt (i := 2) (kd := dRd 4) (vd := dVar 3) (env := [a0, a1, some (.own (toD acc)), vS (.int a), vS (rowD [s.getD (j - 1) 0, s.getD j 0])]) (ds := ds) (p := acc) (k := [s.getD (j - 1) 0, s.getD j 0]) (c := a) rfl rfl rfl nd (by omega)
      have es : twBody [a0, a1, some (.own (toD acc)), vS (.int a), vS (rowD [s.getD (j - 1) 0, s.getD j 0])] ds = some (.nx [a0, a1, some (.own (toD (putP acc [s.getD (j - 1) 0, s.getD j 0] a))), vS (.int a), vS (rowD [s.getD (j - 1) 0, s.getD j 0])], ds) := (dSeq_eq ((dIfS_f t).trans rfl)).trans ((dSeq_eq ep).trans rfl)
      have ih := tw_loop h2 h5 a0 a1 ds l (swpP s j) (a + 1) (putP acc [s.getD (j - 1) 0, s.getD j 0] a) (vS (.int a)) (vS (rowD [s.getD (j - 1) 0, s.getD j 0])) hc.tail (swp_mem hs h1.1 h1.2) (nd_putP _ _ nd) (by have := putP_len acc [s.getD (j - 1) 0, s.getD j 0] a; omega) (fun c e q1 q2 q3 => by
        rw [mem_putP, hk c e q1 q2 q3]
        have := ft.step d (c, e) (pairs_mem q1 q2 (by omega)) q3
        rw [this]
        constructor
        · rintro (z | z)
          · exact .inl z
          · simp only [List.cons.injEq, and_true] at z
            exact .inr z
        · rintro (z | z)
          · exact .inl z
          · refine .inr ?_
            have z1 : c = s.getD (j - 1) 0 := z.1
            have z2 : e = s.getD j 0 := z.2
            rw [z1, z2])
      rcases ih with ⟨i1, e, i2⟩ | ⟨i1, x, y, i2⟩
      · exact .inl ⟨⟨d, i1⟩, e, (forLoop_cons (d := .tuple [.int a, rowD [s.getD (j - 1) 0, s.getD j 0]]) rfl es).trans i2⟩
      · exact .inr ⟨fun z => i1 z.2, x, y, (forLoop_cons (d := .tuple [.int a, rowD [s.getD (j - 1) 0, s.getD j 0]]) rfl es).trans i2⟩
theorem asc_len {n : Nat} (h2 : 2 ≤ n) (h5 : n ≤ 5) : ∀ (l s : List Int), Crs n l → s ∈ seqsI n → (Asc s l → invP (runP s l) = invP s + l.length) ∧ (¬ Asc s l → invP (runP s l) < invP s + l.length)
  | [], s, _, _ => ⟨fun _ => rfl, fun z => absurd trivial z⟩
  | x :: l, s, hc, hs => by
    have h1 := hc.head
    obtain ⟨i1, i2⟩ := asc_len h2 h5 l (swpP s x.toNat) hc.tail (swp_mem hs h1.1 h1.2)
    show ((¬ Dsc s x.toNat ∧ Asc (swpP s x.toNat) l) → invP (runP (swpP s x.toNat) l) = invP s + (l.length + 1)) ∧ (¬ (¬ Dsc s x.toNat ∧ Asc (swpP s x.toNat) l) → invP (runP (swpP s x.toNat) l) < invP s + (l.length + 1))
    refine ⟨fun z => ?_, fun z => ?_⟩
    · rw [i1 z.2, asc_inv h2 h5 hs h1.1 h1.2 z.1]
      omega
    · by_cases d : Dsc s x.toNat
      · have e := (ft_of h2 h5 hs h1.1 h1.2).inv d
        by_cases q : Asc (swpP s x.toNat) l
        · rw [i1 q]; omega
        · have := i2 q; omega
      · have e := asc_inv h2 h5 hs h1.1 h1.2 d
        have := i2 fun q => z ⟨d, q⟩
        omega
theorem id_inB : ∀ n : Nat, 2 ≤ n → n ≤ 5 → ∀ p ∈ pairsB, p.2 ≤ (n : Int) → inB (rgL 1 n) p.1 p.2 = false := by
  intro n h2 h5 p hp hn
  have key : ∀ n : Nat, (pairsB.all fun p => !decide (p.2 ≤ (n : Int)) || !inB (rgL 1 n) p.1 p.2) = true → p.2 ≤ (n : Int) → inB (rgL 1 n) p.1 p.2 = false := fun n h hn => by
    have := List.all_eq_true.mp h p hp
    rw [decide_eq_true hn] at this
    simpa using this
  rcases (show n = 2 ∨ n = 3 ∨ n = 4 ∨ n = 5 by omega) with rfl | rfl | rfl | rfl
  · exact key 2 (by kernel_rfl) hn
  · exact key 3 (by kernel_rfl) hn
  · exact key 4 (by kernel_rfl) hn
  · exact key 5 (by kernel_rfl) hn
/-- whether a drawing is a shortest one -/
theorem w_isshort {n : Nat} (h2 : 2 ≤ n) (h5 : n ≤ 5) {l : List Int} (hc : Crs n l) (hl : l.length ≤ 60) : f_is_shortest [.int (n : Nat), rowD l] = some (.bool (decide (l.length = invP (endP n l)))) := by
  have e0 := tr_crossed (n := n) (by omega) hc (by omega)
  have idm := id_mem n
  obtain ⟨q1, q2⟩ := asc_len h2 h5 l (rgL 1 n) hc idm
  rw [id_inv n h2 h5] at q1 q2
  have h := tw_loop h2 h5 (vS (.int (n : Nat))) (vS (rowD l)) ds0 l (rgL 1 n) 0 [] none none hc idm List.nodup_nil (by simp; omega) (fun c d z1 z2 z3 => by
    rw [id_inB n h2 h5 (c, d) (pairs_mem z1 z2 (by omega)) z3]
    constructor
    · intro z; exact nomatch z
    · intro z; cases z)
  have e1 : dSet 2 true (dC (.dT [])) (envP 5 [.int (n : Nat), rowD l]) ds0 = some (.nx [vS (.int (n : Nat)), vS (rowD l), some (.own (toD [])), none, none], ds0) := rfl
  have e2 : dEn1 (dCallP 2 f_crossed_by (aCons (dVar 0) (aCons (dVar 1) (aNil)))) [vS (.int (n : Nat)), vS (rowD l), some (.own (toD [])), none, none] ds0 = some (enumD 0 ((crsP (rgL 1 n) l).map rowD), ds0) := by
    have q : dCallP 2 f_crossed_by (aCons (dVar 0) (aCons (dVar 1) (aNil))) [vS (.int (n : Nat)), vS (rowD l), some (.own (toD [])), none, none] ds0 = some (.list ((crsP (rgL 1 n) l).map rowD), ds0) := dCallP_eq (as := [.int (n : Nat), rowD l]) rfl rfl e0
    unfold dEn1
    rw [q]
    rfl
  have e6 : dDropS (dCallP 2 f_need_drawing (aCons (dVar 0) (aCons (dVar 1) (aNil)))) (envP 2 [.int (n : Nat), rowD l]) ds0 = some (.nx [vS (.int (n : Nat)), vS (rowD l)], ds0) := dDrop_eq (env := [vS (.int (n : Nat)), vS (rowD l)]) (dCallP_eq (as := [.int (n : Nat), rowD l]) rfl rfl (tr_needd (by omega) (by omega) hc hl))
  rcases h with ⟨i1, e, i2⟩ | ⟨i1, x, y, i2⟩
  · have e3 : f_twice_by [.int (n : Nat), rowD l] = some .none := fnP_eq (b := d_twice_by) (s := ds0) ((dSeq_eq e1).trans ((dSeq_eq (e := e) (s := ds0) ((dFor_eq e2).trans i2)).trans rfl))
    have hq := q1 i1
    rw [decide_eq_true (by show l.length = invP (runP (rgL 1 n) l); omega)]
    exact fnP_eq (b := d_is_shortest) ((dSeq_eq e6).trans (dSeq_rt (dRet_eq (d2_eq (a := .none) (b := .none) (dCallP_eq (as := [.int (n : Nat), rowD l]) rfl rfl e3) rfl rfl))))
  · have e3 : f_twice_by [.int (n : Nat), rowD l] = some (.tuple [x, y]) := fnP_eq (b := d_twice_by) (s := ds0) ((dSeq_eq e1).trans (dSeq_rt ((dFor_eq e2).trans i2)))
    have hq := q2 i1
    rw [decide_eq_false (by show ¬ l.length = invP (runP (rgL 1 n) l); omega)]
    exact fnP_eq (b := d_is_shortest) ((dSeq_eq e6).trans (dSeq_rt (dRet_eq (d2_eq (a := .tuple [x, y]) (b := .none) (dCallP_eq (as := [.int (n : Nat), rowD l]) rfl rfl e3) rfl rfl))))
end L2.Dn
set_option Elab.async false
set_option linter.all false
set_option maxRecDepth 100000
set_option maxHeartbeats 0
/-! k67: the drawn polynomial, first_shortest -/
namespace L2.Dn
open PySem PySem.Spec PyProof.Rows C8
def rwElt : Den := dCallD 0 1 f__law_take (aCons (dCallD 0 1 f__law_pick (aCons (dLst (aCons (dC (.int 1)) (aCons (dC (.int 2)) (aCons (dC (.int 4)) (aNil))))) (aNil))) (aNil))
theorem rw_loop (i : Nat) (env0 : En) (h0 : ∀ d, (env0.set i (vS d))[0]? = some (some .draw)) : ∀ (items : List D) (ds : DS), ∃ (l : List Int) (ds' : DS), lcLoop (gNm i) tYesD rwElt env0 items ds = some (l.map D.int, ds') ∧ l.length = items.length ∧ ∀ x ∈ l, 0 ≤ x ∧ x ≤ 3
  | [], ds => ⟨[], ds, rfl, rfl, fun x m => nomatch m⟩
  | d :: items, ds => by
    obtain ⟨x, ds1, e1, hx⟩ := pick_ok [.int 1, .int 2, .int 4] (by simp) (by decide) ds
    obtain ⟨n, hn, rfl⟩ : ∃ n : Int, (0 < n ∧ n ≤ 4) ∧ x = .int n := by
      simp only [List.mem_cons, List.not_mem_nil, or_false] at hx
      rcases hx with rfl | rfl | rfl
      · exact ⟨1, by decide, rfl⟩
      · exact ⟨2, by decide, rfl⟩
      · exact ⟨4, by decide, rfl⟩
    obtain ⟨r, ds2, e2, hr⟩ := take_ok n (by omega) ds1
    obtain ⟨l, ds3, e3, h2, h3⟩ := rw_loop i env0 h0 items ds2
    refine ⟨r :: l, ds3, ?_, by simp [h2], fun x m => ?_⟩
    · have q1 : dCallD 0 1 f__law_pick (aCons (dLst (aCons (dC (.int 1)) (aCons (dC (.int 2)) (aCons (dC (.int 4)) (aNil))))) (aNil)) (env0.set i (vS d)) ds = some (.int n, ds1) := (dCallD_eq (as := [.list [.int 1, .int 2, .int 4]]) (s := ds) (h0 d) rfl rfl).trans e1
      have q2 : rwElt (env0.set i (vS d)) ds = some (.int r, ds2) := (dCallD_eq (as := [.int n]) (s := ds1) (h0 d) (aCons1 q1) rfl).trans e2
      exact lc_t (env' := env0.set i (vS d)) (s := ds) (s1 := ds2) (y := .int r) rfl rfl q2 e3
    · rcases List.mem_cons.mp m with rfl | m
      · omega
      · exact h3 x m
def poVal : Den := d2 gSub (d2 gAdd (dGet2 (dRd 1) (dRd 3) (dC (.int 0))) (dCallD 0 1 f__law_take (aCons (dC (.int 9)) (aNil)))) (dC (.int 4))
def poBody : DenS := dSeq (dSet 3 false (dB gTupS (aCons (dLc (dRg1 (dC (.int 5))) [4] (gNm 4) (tYesD) rwElt) (aNil)))) (dSeq (dPut 1 poVal (dRd 3)) (dNx))
theorem po_step (acc : PR) (nd : NdP acc) (hl : acc.length < 1000) (a2 a3 a4 : Option Sl) (ds : DS) : ∃ (l : List Int) (c : Int) (ds' : DS), poBody [some .draw, some (.own (toD acc)), a2, a3, a4] ds = some (.nx [some .draw, some (.own (toD (putP acc l c))), a2, vS (rowD l), a4], ds') ∧ l.length = 5 ∧ ∀ x ∈ l, 0 ≤ x ∧ x ≤ 3 := by
  obtain ⟨l, ds1, e1, h1, h2⟩ := rw_loop 4 (wipeE [some .draw, some (.own (toD acc)), a2, a3, a4] [4]) (fun d => rfl) (rgD 0 5) ds
  obtain ⟨r, ds2, e2, hr⟩ := take_ok 9 (by decide) ds1
  have q1 : dSet 3 false (dB gTupS (aCons (dLc (dRg1 (dC (.int 5))) [4] (gNm 4) (tYesD) rwElt) (aNil))) [some .draw, some (.own (toD acc)), a2, a3, a4] ds = some (.nx [some .draw, some (.own (toD acc)), a2, vS (rowD l), a4], ds1) :=
    dSet_eq (i := 3) (k := false) (env := [some .draw, some (.own (toD acc)), a2, a3, a4]) (dB_eq (as := [.list (l.map D.int)]) (aCons1 (dLc_eq (dRg1_eq (n := 5) (s := ds) rfl (by decide)) e1 (by rw [List.length_map, h1]; decide))) rfl)
  let env : En := [some .draw, some (.own (toD acc)), a2, vS (rowD l), a4]
  let c0 : Int := match lookP acc l with | some v => v | none => 0
  have g2 : dGet2 (dRd 1) (dRd 3) (dC (.int 0)) env ds1 = some (.int c0, ds1) := by
    have : gGet (toD acc) (rowD l) (.int 0) = some (.int c0) := by
      show (match keyOf? (rowD l) with | some ks => (match lookT (dP acc) ks with | some v => some v | none => some (D.int 0)) | none => none) = _
      rw [keyOf_row]
      dsimp only
      rw [lookT_dP]
      show _ = some (D.int (match lookP acc l with | some v => v | none => 0))
      cases lookP acc l <;> rfl
    show op1 (gGet (toD acc) (rowD l) (.int 0)) ds1 = _
    rw [this]
    rfl
  have g3 : poVal env ds1 = some (.int (c0 + r - 4), ds2) := d2_eq (d2_eq g2 ((dCallD_eq (as := [.int 9]) (s := ds1) rfl rfl rfl).trans e2) (c := .int (c0 + r)) rfl) (b := .int 4) rfl rfl
  refine ⟨l, c0 + r - 4, ds2, ?_, by rw [h1]; rfl, h2⟩
  have q2 : dPut 1 poVal (dRd 3) env ds1 = some (.nx [some .draw, some (.own (toD (putP acc l (c0 + r - 4)))), a2, vS (rowD l), a4], ds2) := by
    unfold dPut
    rw [g3]
    show (match keyOf? (rowD l) with | some ks => if (dP acc).length < 100000 then some (Out.nx (env.set 1 (some (.own (.dT (putT (dP acc) ks (.int (c0 + r - 4))))))), ds2) else none | none => none) = _
    rw [keyOf_row]
    dsimp only
    rw [if_pos (by unfold dP; rw [List.length_map]; omega), putT_dP acc l _ nd]
    rfl
  exact (dSeq_eq q1).trans ((dSeq_eq q2).trans rfl)
theorem po_loop : ∀ (items : List D) (acc : PR) (a2 a3 a4 : Option Sl) (ds : DS), NdP acc → Sm acc → acc.length + items.length < 1000 → ∃ (acc' : PR) (b2 b3 b4 : Option Sl) (ds' : DS), forLoop (gNm 2) poBody items [some .draw, some (.own (toD acc)), a2, a3, a4] ds = some (.nx [some .draw, some (.own (toD acc')), b2, b3, b4], ds') ∧ NdP acc' ∧ Sm acc' ∧ acc'.length < 1000
  | [], acc, a2, a3, a4, ds, nd, sm, hl => ⟨acc, a2, a3, a4, ds, rfl, nd, sm, by simpa using hl⟩
  | d :: items, acc, a2, a3, a4, ds, nd, sm, hl => by
    simp only [List.length_cons] at hl
    obtain ⟨l, c, ds1, e1, h1, h2⟩ := po_step acc nd (by omega) (vS d) a3 a4 ds
    have sm' : Sm (putP acc l c) := fun e m => by
      have hk : e.1 ∈ kysP (putP acc l c) := List.mem_map.mpr ⟨e, m, rfl⟩
      rcases (mem_putP _ _ _ _).mp hk with h | h
      · obtain ⟨e', m', ek⟩ := List.mem_map.mp h
        rw [← ek]
        exact sm e' m'
      · rw [h]
        exact ⟨h1, h2⟩
    obtain ⟨acc', b2, b3, b4, ds', e2, q1, q2, q3⟩ := po_loop items (putP acc l c) (vS d) (vS (rowD l)) a4 ds1 (nd_putP _ _ nd) sm' (by have := putP_len acc l c; omega)
    exact ⟨acc', b2, b3, b4, ds', (forLoop_cons (d := d) (env' := [some .draw, some (.own (toD acc)), vS d, a3, a4]) rfl e1).trans e2, q1, q2, q3⟩
theorem polynomial_ok (ds : DS) : ∃ (p : PR) (ds' : DS), f__law_polynomial [] ds = some (toD p, ds') ∧ Sm p ∧ WfP p := by
  obtain ⟨r, ds1, e1, hr⟩ := take_ok 6 (by decide) ds
  have hlen : (rgD 0 r.toNat).length < 1000 := by rw [rgD_len]; omega
  obtain ⟨acc, b2, b3, b4, ds2, e2, nd, sm, hl⟩ := po_loop (rgD 0 r.toNat) [] none none none ds1 List.nodup_nil (fun e m => nomatch m) (by simpa using hlen)
  refine ⟨keepP acc, ds2, ?_, fun e m => sm e ((keepP_sub acc e).mp m).1, wf_keepP nd⟩
  have q1 : dSet 1 true (dC (.dT [])) [some .draw, none, none, none, none] ds = some (.nx [some .draw, some (.own (toD [])), none, none, none], ds) := rfl
  have q2 : dFor (dRg1 (dCallD 0 1 f__law_take (aCons (dC (.int 6)) (aNil)))) (gNm 2) poBody [some .draw, some (.own (toD [])), none, none, none] ds = _ := (dFor_eq (dRg1_eq (n := r) ((dCallD_eq (as := [.int 6]) (s := ds) rfl rfl rfl).trans e1) (by omega))).trans e2
  have q3 : dFrz 1 (dRet (dCallP 1 f__law_kept (aCons (dVar 1) (aNil)))) [some .draw, some (.own (toD acc)), b2, b3, b4] ds2 = some (.rt (toD (keepP acc)), ds2) :=
    dRet_eq (env := [some .draw, vS (toD acc), b2, b3, b4]) (dCallP_eq (as := [toD acc]) rfl rfl (tr_kept acc nd (by omega)))
  show outD (d__law_polynomial [some .draw, none, none, none, none] ds) = _
  have : d__law_polynomial [some .draw, none, none, none, none] ds = some (.rt (toD (keepP acc)), ds2) := (dSeq_eq q1).trans ((dSeq_eq q2).trans (dSeq_rt q3))
  rw [this]
  rfl
theorem w_first {n : Nat} (h2 : 2 ≤ n) (h5 : n ≤ 5) {s : List Int} (hs : s ∈ seqsI n) : f_first_shortest [pD s] = some (rowD (firstP n s)) := by
  have fa := fa_of h2 h5 hs
  exact fnP_eq (b := d_first_shortest) (s := ds0) ((dSeq_eq (dDrop_eq (env := envP 1 [pD s]) (dCallP_eq (as := [pD s]) rfl rfl (needseq fa.isq)))).trans (dSeq_rt (dRet_eq (dCallP_eq (as := [pD s]) rfl rfl fa.first))))
theorem cutL_congr {p q : PR} (h : eqv p q) : ∀ (l : List Int), eqv (cutL p l) (cutL q l) := by
  intro l
  induction l generalizing p q with
  | nil => exact h
  | cons x l ih => exact ih (cut_congr h x.toNat)
end L2.Dn
set_option Elab.async false
set_option linter.all false
set_option maxRecDepth 100000
set_option maxHeartbeats 0
/-! k67: the lap, the law -/
namespace L2.Dn
open PySem PySem.Spec PyProof.Rows C8
abbrev L14 (a0 a2 a3 a4 a5 a6 a7 a8 a9 a10 a11 a12 a13 : Option Sl) : En := [a0, some .draw, a2, a3, a4, a5, a6, a7, a8, a9, a10, a11, a12, a13]
theorem neP {p q : PR} (hp : WfP p) (hq : WfP q) (h : eqv p q) : gNeU (toD p) (toD q) = some (.bool false) := by
  rw [gNeU_P, (eqP_iff hp hq).mpr h]
  rfl
theorem great_pt : ∀ n : Nat, 2 ≤ n → n ≤ 5 → f_greatest_p [.int (n : Nat)] = some (pD (greatP n))
  | 2, _, _ => by kernel_rfl
  | 3, _, _ => by kernel_rfl
  | 4, _, _ => by kernel_rfl
  | 5, _, _ => by kernel_rfl
  | 0, h, _ => by omega
  | 1, h, _ => by omega
  | n + 6, _, h => by omega
theorem great_bk : ∀ n : Nat, 2 ≤ n → n ≤ 5 → f_back_by [pD (greatP n)] = some (rowD (greatP n))
  | 2, _, _ => by kernel_rfl
  | 3, _, _ => by kernel_rfl
  | 4, _, _ => by kernel_rfl
  | 5, _, _ => by kernel_rfl
  | 0, h, _ => by omega
  | 1, h, _ => by omega
  | n + 6, _, h => by omega
theorem great_isr : ∀ n : Nat, 2 ≤ n → n ≤ 5 → f_is_sequence_of [rowD (greatP n)] = some (.bool true)
  | 2, _, _ => by kernel_rfl
  | 3, _, _ => by kernel_rfl
  | 4, _, _ => by kernel_rfl
  | 5, _, _ => by kernel_rfl
  | 0, h, _ => by omega
  | 1, h, _ => by omega
  | n + 6, _, h => by omega
theorem then_loopR {n : Nat} (e : List Int) (he : e.length = n) (a1 : Option Sl) (s : DS) : ∀ (f : List Int), (∀ x ∈ f, 1 ≤ x ∧ x ≤ n) → lcLoop (gNm 2) tYesD (d2 gIx (dRd 0) (d2 gSub (dRd 2) (dC (.int 1)))) [vS (rowD e), a1, none] (f.map D.int) s = some ((thnP e f).map D.int, s)
  | [], _ => rfl
  | x :: f, h => by
    have hx := h x (List.mem_cons_self ..)
    have ih := then_loopR e he a1 s f (fun y m => h y (List.mem_cons_of_mem _ m))
    refine lc_t (env' := [vS (rowD e), a1, vS (.int x)]) (s := s) (s1 := s) (y := .int (e.getD (x.toNat - 1) 0)) rfl rfl ?_ ih
    refine d2_eq (a := rowD e) (b := .int (x - 1)) rfl rfl ?_
    have : x - 1 = ((x.toNat - 1 : Nat) : Int) := by omega
    rw [this]
    exact ixRow e (x.toNat - 1) (by omega)
theorem w_thenR {n : Nat} {e f : List Int} (he : e ∈ seqsI n) (hf : f ∈ seqsI n) (hn : n < 1000) (ie : f_is_sequence_of [rowD e] = some (.bool true)) (iff' : f_is_sequence_of [pD f] = some (.bool true)) : f_then [rowD e, pD f] = some (rowD (thnP e f)) := by
  have le := seqsI_len he
  have lf := seqsI_len hf
  have bd : ∀ x ∈ f, 1 ≤ x ∧ x ≤ n := fun x hx => by
    obtain ⟨i, hi, ex⟩ := List.getElem_of_mem hx
    have := seq_bd hf (i := i) (by omega)
    have e2 : f.getD i 0 = f[i] := by simp [List.getD, hi]
    rw [e2, ex] at this
    exact this
  have e1 := then_loopR e le (vS (pD f)) ds0 f bd
  have e2 : f_then_by [rowD e, pD f] = some (rowD (thnP e f)) := by
    have := dLc_eq (own := [2]) (env := [vS (rowD e), vS (pD f), none]) (dItems_eq (f := dVar 1) (a := pD f) (s := ds0) rfl rfl) e1 (by rw [List.length_map]; unfold thnP; rw [List.length_map]; omega)
    exact fnP_eq (b := d_then_by) (s := ds0) (dSeq_rt (dRet_eq (dB_eq (as := [.list ((thnP e f).map D.int)]) (aCons1 this) rfl)))
  have n1 : f_need_two [rowD e, pD f] = some .none := by
    have t1 : tNotD (dTest (dCallP 1 f_is_sequence_of (aCons (dVar 0) (aNil)))) [vS (rowD e), vS (pD f)] ds0 = some (false, ds0) := tNot_t (dCallP_eq (as := [rowD e]) rfl rfl ie)
    have t2 : tOrD (tNotD (dTest (dCallP 1 f_is_sequence_of (aCons (dVar 1) (aNil))))) (dTest (d2 gNeU (dB gLen (aCons (dRd 1) (aNil))) (dB gLen (aCons (dRd 0) (aNil))))) [vS (rowD e), vS (pD f)] ds0 = some (false, ds0) := by
      refine dOr_f (tNot_t (dCallP_eq (as := [pD f]) rfl rfl iff')) (dTest_of (d2_eq (a := .int ((f.map D.int).length : Nat)) (b := .int ((e.map D.int).length : Nat)) rfl rfl ?_))
      rw [List.length_map, List.length_map, le, lf]
      show some (D.bool (!decide (((n : Nat) : Int) = ((n : Nat) : Int)))) = _
      rw [decide_eq_true rfl]
      rfl
    have e3 : d_need_two (envP 2 [rowD e, pD f]) ds0 = some (.nx [vS (rowD e), vS (pD f)], ds0) := (dSeq_eq ((dIfS_f t1).trans rfl)).trans ((dSeq_eq ((dIfS_f t2).trans rfl)).trans rfl)
    show (outD (d_need_two (envP 2 [rowD e, pD f]) ds0)).map (·.1) = _
    rw [e3]
    rfl
  exact fnP_eq (b := d_then) (s := ds0) ((dSeq_eq (dDrop_eq (env := envP 2 [rowD e, pD f]) (dCallP_eq (as := [rowD e, pD f]) rfl rfl n1))).trans (dSeq_rt (dRet_eq (dCallP_eq (as := [rowD e, pD f]) rfl rfl e2))))
theorem dAnd_f {t u : DenT} {env : En} {ds s : DS} (h : t env ds = some (false, s)) : tAndD t u env ds = some (false, s) := by
  unfold tAndD
  rw [h]
  rfl
theorem dAnd_t {t u : DenT} {env : En} {ds s s1 : DS} {b : Bool} (h : t env ds = some (true, s)) (h2 : u env s = some (b, s1)) : tAndD t u env ds = some (b, s1) := by
  unfold tAndD
  rw [h]
  exact h2
def lap67 : DenS := dSeq l_1 (dSeq l_2 (dSeq l_3 (dSeq l_4 (dSeq l_5 (dSeq l_6 (dSeq l_7 (dSeq l_8 (dSeq l_9 (dSeq l_10 (dSeq l_11 (dSeq l_12 (dSeq l_13 (dSeq l_14 (dSeq l_15 (dNx)))))))))))))))
theorem len_eqb (l : List Int) (k : Nat) : gEqU (.int ((l.map D.int).length : Nat)) (.int ((k : Nat) : Int)) = some (.bool (decide (l.length = k))) := by
  rw [List.length_map]
  show some (D.bool (decide (((l.length : Nat) : Int) = ((k : Nat) : Int)))) = _
  congr 2
  apply decide_eq_decide.mpr
  omega
theorem lap67_ok (a0 a2 a3 a4 a5 a6 a7 a8 a9 a10 a11 a12 a13 : Option Sl) (ds : DS) : ∃ (c3 c4 c5 c6 c7 c8 c9 c10 c11 c12 c13 : Option Sl) (ds' : DS), lap67 (L14 a0 a2 a3 a4 a5 a6 a7 a8 a9 a10 a11 a12 a13) ds = some (.nx (L14 a0 a2 c3 c4 c5 c6 c7 c8 c9 c10 c11 c12 c13), ds') := by
  obtain ⟨r, ds1, e1, hr⟩ := take_ok 4 (by decide) ds
  obtain ⟨n, h2, h5, hn⟩ : ∃ n : Nat, 2 ≤ n ∧ n ≤ 5 ∧ 2 + r = (n : Int) := ⟨(2 + r).toNat, by omega, by omega, by omega⟩
  obtain ⟨ys, ds2, e2, p2⟩ := sequence_ok n (by omega) ds1
  obtain ⟨s, hs, rfl⟩ := seqsI_of p2
  have fa := fa_of h2 h5 hs
  have fs := fs_of h2 h5 hs
  have gm := great_mem h2 h5
  have fg := fa_of h2 h5 gm
  have fsg := fs_of h2 h5 gm
  have tm := thn_mem h2 h5 hs
  have gp := great_pt n h2 h5
  have bk := (great_facts n h2 h5).1
  -- l_1, l_2
  let E1 := L14 a0 a2 (vS (.int (n : Nat))) a4 a5 a6 a7 a8 a9 a10 a11 a12 a13
  have q1 : l_1 (L14 a0 a2 a3 a4 a5 a6 a7 a8 a9 a10 a11 a12 a13) ds = some (.nx E1, ds1) := by
    refine dSet_eq (i := 3) (k := false) (env := L14 a0 a2 a3 a4 a5 a6 a7 a8 a9 a10 a11 a12 a13) (a := .int (n : Nat)) ?_
    rw [← hn]
    exact d2_eq (a := .int 2) (b := .int r) rfl ((dCallD_eq (as := [.int 4]) (s := ds) rfl rfl rfl).trans e1) rfl
  let E2 := L14 a0 a2 (vS (.int (n : Nat))) (vS (pD s)) a5 a6 a7 a8 a9 a10 a11 a12 a13
  have q2 : l_2 E1 ds1 = some (.nx E2, ds2) := dSet_eq (i := 4) (k := false) (env := E1) ((dCallD_eq (as := [.int (n : Nat)]) (s := ds1) rfl rfl rfl).trans e2)
  -- l_3
  have wb : f_back [pD (greatP n)] = some (rowD (greatP n)) := w_back fg.isq (great_bk n h2 h5)
  have wt := w_thenR gm hs (by omega) (great_isr n h2 h5) fa.isq
  let E3 := L14 a0 a2 (vS (.int (n : Nat))) (vS (pD s)) (vS (rowD (thnP (greatP n) s))) a6 a7 a8 a9 a10 a11 a12 a13
  have q3 : l_3 E2 ds2 = some (.nx E3, ds2) :=
    dSet_eq (i := 5) (k := false) (env := E2) (dCallP_eq (as := [rowD (greatP n), pD s]) (aCons_eq (a := rowD (greatP n)) (s := ds2) (dCallP_eq (as := [pD (greatP n)]) (aCons1 (dCallP_eq (as := [.int (n : Nat)]) rfl rfl gp)) rfl wb) rfl) rfl wt)
  -- l_4
  obtain ⟨v, ds3, e3, hv⟩ := shortest_ok h2 h5 tm (d := rowD (thnP (greatP n) s)) rfl ds2
  have lv := hv.len h2 h5
  have hle := (fa_of h2 h5 tm).le
  have cv : Crs n v.reverse := fun x hx => hv.crs x (List.mem_reverse.mp hx)
  let E4 := L14 a0 a2 (vS (.int (n : Nat))) (vS (pD s)) (vS (rowD (thnP (greatP n) s))) (vS (rowD v.reverse)) a7 a8 a9 a10 a11 a12 a13
  have q4 : l_4 E3 ds2 = some (.nx E4, ds3) := dSet_eq (i := 6) (k := false) (env := E3) ((dCallD_eq (as := [rowD (thnP (greatP n) s)]) (s := ds2) rfl rfl rfl).trans e3)
  -- l_5
  have sG := w_sum fg.isq fsg.sum
  have sS := w_sum fa.isq fs.sum
  have wg := w_great h2 h5 cv (by rw [List.length_reverse]; omega)
  have gc : eqv (cutL (sumV (greatP n)) v.reverse) (sumV s) := by
    rw [cutL_rev]
    have := great_chn h2 h5 hv
    have e : thnP (greatP n) (thnP (greatP n) s) = s := by
      have := fa.great
      rwa [bk] at this
    rwa [e] at this
  have q5 : l_5 E4 ds3 = some (.nx E4, ds3) := by
    have x0 : dCallP 1 f_sum_of (aCons (dCallP 1 f_greatest_p (aCons (dVar 3) (aNil))) (aNil)) E4 ds3 = some (toD (sumV (greatP n)), ds3) := dCallP_eq (as := [pD (greatP n)]) (aCons1 (dCallP_eq (as := [.int (n : Nat)]) rfl rfl gp)) rfl sG
    have x1 : dTest (d2 gNeU (dCallP 2 f_cut_along (aCons (dCallP 1 f_sum_of (aCons (dCallP 1 f_greatest_p (aCons (dVar 3) (aNil))) (aNil))) (aCons (dVar 6) (aNil)))) (dCallP 1 f_sum_of (aCons (dVar 4) (aNil)))) E4 ds3 = some (false, ds3) :=
      dTest_of (d2_eq (dCallP_eq (as := [toD (sumV (greatP n)), rowD v.reverse]) (aCons_eq x0 rfl) rfl wg) (dCallP_eq (as := [pD s]) rfl rfl sS) (neP (cutL_wf fsg.wf) fs.wf gc))
    have x2 : dTest (d2 gNeU (dCallP 1 f_sum_of (aCons (dVar 4) (aNil))) (dCallP 1 f__law_sum (aCons (dVar 4) (aNil)))) E4 ds3 = some (false, ds3) :=
      dTest_of (d2_eq (dCallP_eq (as := [pD s]) rfl rfl sS) (dCallP_eq (as := [pD s]) rfl rfl fs.lsum) (neP fs.wf fs.wfl (fun k => (cfs_permP fs.pm k).symm)))
    exact (dIfS_f (dOr_f x1 x2)).trans rfl
  -- l_6
  obtain ⟨w, ds4, e4, hw⟩ := shortest_ok h2 h5 hs (d := pD s) rfl ds3
  have lw := hw.len h2 h5
  have hle2 := fa.le
  have cw : Crs n w.reverse := fun x hx => hw.crs x (List.mem_reverse.mp hx)
  have hfc := first_chn h2 h5 hs
  have lf := hfc.len h2 h5
  rw [List.length_reverse] at lf
  have cf : Crs n (firstP n s) := fun x hx => hfc.crs x (List.mem_reverse.mpr hx)
  let E6 := L14 a0 a2 (vS (.int (n : Nat))) (vS (pD s)) (vS (rowD (thnP (greatP n) s))) (vS (rowD v.reverse)) (vS (rowD w.reverse)) (vS (rowD (firstP n s))) a9 a10 a11 a12 a13
  have q6 : l_6 E4 ds3 = some (.nx E6, ds4) := dPar_eq (i := 7) (j := 8) (k := false) (l := false) (env := E4) ((dCallD_eq (as := [pD s]) (s := ds3) rfl rfl rfl).trans e4) (dCallP_eq (as := [pD s]) rfl rfl (w_first h2 h5 hs))
  -- l_7, l_8
  obtain ⟨p, ds5, e5, sp, wp⟩ := polynomial_ok ds4
  let E7 := L14 a0 a2 (vS (.int (n : Nat))) (vS (pD s)) (vS (rowD (thnP (greatP n) s))) (vS (rowD v.reverse)) (vS (rowD w.reverse)) (vS (rowD (firstP n s))) (vS (toD p)) a10 a11 a12 a13
  have q7 : l_7 E6 ds4 = some (.nx E7, ds5) := dSet_eq (i := 9) (k := false) (env := E6) ((dCallD_eq (as := []) (s := ds4) rfl rfl rfl).trans e5)
  have w1 := w_small h5 sp wp cw (by rw [List.length_reverse]; omega)
  let E8 := L14 a0 a2 (vS (.int (n : Nat))) (vS (pD s)) (vS (rowD (thnP (greatP n) s))) (vS (rowD v.reverse)) (vS (rowD w.reverse)) (vS (rowD (firstP n s))) (vS (toD p)) (vS (toD (cutL p w.reverse))) a11 a12 a13
  have q8 : l_8 E7 ds5 = some (.nx E8, ds5) := dSet_eq (i := 10) (k := false) (env := E7) (dCallP_eq (as := [toD p, rowD w.reverse]) rfl rfl w1)
  -- l_9
  have w2 := w_small h5 sp wp cf (by omega)
  have al : eqv (cutL p w.reverse) (cutL p (firstP n s)) := alike h2 h5 (by rw [List.reverse_reverse]; exact hw) hfc sp
  have tW := tr_ends (n := n) (by omega) (by omega) cw (by rw [List.length_reverse]; omega)
  have tF := tr_ends (n := n) (by omega) (by omega) cf (by omega)
  have rF := hfc.run
  rw [List.reverse_reverse] at rF
  rw [hw.run] at tW
  rw [rF] at tF
  have sW := w_isshort h2 h5 cw (by rw [List.length_reverse]; omega)
  rw [hw.run, List.length_reverse, decide_eq_true lw] at sW
  have q9 : l_9 E8 ds5 = some (.nx E8, ds5) := by
    have x1 : dTest (d2 gNeU (dRd 10) (dCallP 2 f_cut_along (aCons (dVar 9) (aCons (dVar 8) (aNil))))) E8 ds5 = some (false, ds5) :=
      dTest_of (d2_eq (a := toD (cutL p w.reverse)) rfl (dCallP_eq (as := [toD p, rowD (firstP n s)]) rfl rfl w2) (neP (cutL_wf wp) (cutL_wf wp) al))
    have x2 : dTest (d2 gNeU (dCallP 2 f_ends_p (aCons (dVar 3) (aCons (dVar 7) (aNil)))) (dRd 4)) E8 ds5 = some (false, ds5) := dTest_of (d2_eq (dCallP_eq (as := [.int (n : Nat), rowD w.reverse]) rfl rfl tW) (b := pD s) rfl (gNe_tup (l := s) rfl rfl))
    have x3 : dTest (d2 gNeU (dCallP 2 f_ends_p (aCons (dVar 3) (aCons (dVar 8) (aNil)))) (dRd 4)) E8 ds5 = some (false, ds5) := dTest_of (d2_eq (dCallP_eq (as := [.int (n : Nat), rowD (firstP n s)]) rfl rfl tF) (b := pD s) rfl (gNe_tup (l := s) rfl rfl))
    have x4 : dTest (d2 (gIsB true) (dCallP 2 f_is_shortest (aCons (dVar 3) (aCons (dVar 7) (aNil)))) (dC (.bool true))) E8 ds5 = some (false, ds5) := dTest_of (d2_eq (dCallP_eq (as := [.int (n : Nat), rowD w.reverse]) rfl rfl sW) (b := .bool true) rfl rfl)
    exact (dIfS_f (dOr_f x1 (dOr_f x2 (dOr_f x3 x4)))).trans rfl
  -- l_10, l_11
  obtain ⟨l, ds6, e6, cl, ll⟩ := drawing_ok h2 h5 ds5
  let E10 := L14 a0 a2 (vS (.int (n : Nat))) (vS (pD s)) (vS (rowD (thnP (greatP n) s))) (vS (rowD v.reverse)) (vS (rowD w.reverse)) (vS (rowD (firstP n s))) (vS (toD p)) (vS (toD (cutL p w.reverse))) (vS (rowD l)) a12 a13
  have q10 : l_10 E8 ds5 = some (.nx E10, ds6) := dSet_eq (i := 11) (k := false) (env := E8) ((dCallD_eq (as := [.int (n : Nat), .int 8]) (s := ds5) rfl rfl rfl).trans e6)
  have em := end_mem cl
  have fe := fa_of h2 h5 em
  let one : Bool := decide (l.length = invP (endP n l))
  let E11 := L14 a0 a2 (vS (.int (n : Nat))) (vS (pD s)) (vS (rowD (thnP (greatP n) s))) (vS (rowD v.reverse)) (vS (rowD w.reverse)) (vS (rowD (firstP n s))) (vS (toD p)) (vS (toD (cutL p w.reverse))) (vS (rowD l)) (vS (.bool one)) a13
  have q11 : l_11 E10 ds6 = some (.nx E11, ds6) := by
    refine dSet_eq (i := 12) (k := false) (env := E10) ?_
    exact d2_eq (a := .int ((l.map D.int).length : Nat)) (b := .int ((invP (endP n l) : Nat) : Int)) rfl (dCallP_eq (as := [rowD (endP n l)]) (aCons1 (dCallP_eq (as := [.int (n : Nat), rowD l]) rfl rfl (tr_lends h2 h5 cl))) rfl (fe.many _ rfl)) (len_eqb l (invP (endP n l)))
  -- the two ways
  have wl := w_small h5 sp wp cl (by omega)
  have wgl := w_great h2 h5 cl (by omega)
  have sl := w_isshort h2 h5 cl (by omega)
  have cr : Crs n l.reverse := fun x hx => cl x (List.mem_reverse.mp hx)
  have ro := red_or h2 h5 cr
  have go := great_or h2 h5 cr
  rw [← endR_rev, List.reverse_reverse, List.length_reverse] at ro go
  rw [← cutL_rev, List.reverse_reverse] at go
  have q12 : l_12 E11 ds6 = some (.nx E11, ds6) := by
    have x1 : dTest (d2 gNeU (dCallP 2 f_is_shortest (aCons (dVar 3) (aCons (dVar 11) (aNil)))) (dRd 12)) E11 ds6 = some (false, ds6) := by
      refine dTest_of (d2_eq (dCallP_eq (as := [.int (n : Nat), rowD l]) rfl rfl sl) (b := .bool one) rfl ?_)
      show gNeU (.bool one) (.bool one) = _
      cases one <;> rfl
    have y0 : tNotD (dTest (dRd 12)) E11 ds6 = some (!one, ds6) := by
      show bnd (dTest (dRd 12) E11 ds6) _ = _
      rw [dTest_of (b := one) (s := ds6) rfl]
      rfl
    by_cases z : l.length = invP (endP n l)
    · have o1 : one = true := decide_eq_true z
      rw [o1] at y0
      exact (dIfS_f (dOr_f x1 (dOr_f (dAnd_f y0) (dAnd_f y0)))).trans rfl
    · have o1 : one = false := decide_eq_false z
      rw [o1] at y0
      have z1 : cutL p l = [] := by
        rcases ro with ⟨_, h⟩ | ⟨h, _⟩
        · exact absurd h.symm z
        · have := h p sp wp
          rw [← cutL_rev, List.reverse_reverse] at this
          exact this
      have z2 : cutL (sumV (greatP n)) l = [] := by
        rcases go with h | ⟨h, _⟩
        · have := h.len h2 h5
          rw [List.length_reverse] at this
          exact absurd this z
        · exact h
      rw [z1] at wl
      rw [z2] at wgl
      have x0 : dCallP 1 f_sum_of (aCons (dCallP 1 f_greatest_p (aCons (dVar 3) (aNil))) (aNil)) E11 ds6 = some (toD (sumV (greatP n)), ds6) := dCallP_eq (as := [pD (greatP n)]) (aCons1 (dCallP_eq (as := [.int (n : Nat)]) rfl rfl gp)) rfl sG
      have x2 : dTest (d2 gNeU (dCallP 2 f_cut_along (aCons (dVar 9) (aCons (dVar 11) (aNil)))) (dC (.dT []))) E11 ds6 = some (false, ds6) := dTest_of (d2_eq (dCallP_eq (as := [toD p, rowD l]) rfl rfl wl) (b := .dT []) rfl rfl)
      have x3 : dTest (d2 gNeU (dCallP 2 f_cut_along (aCons (dCallP 1 f_sum_of (aCons (dCallP 1 f_greatest_p (aCons (dVar 3) (aNil))) (aNil))) (aCons (dVar 11) (aNil)))) (dC (.dT []))) E11 ds6 = some (false, ds6) := dTest_of (d2_eq (dCallP_eq (as := [toD (sumV (greatP n)), rowD l]) (aCons_eq x0 rfl) rfl wgl) (b := .dT []) rfl rfl)
      exact (dIfS_f (dOr_f x1 (dOr_f (dAnd_t y0 x2) (dAnd_t y0 x3)))).trans rfl
  -- l_13
  have cj : Crs n (w.reverse ++ l) := fun x hx => (List.mem_append.mp hx).elim (cw x) (cl x)
  have hj := w_joined (n := n) (by omega) (by omega) cw cl (by rw [List.length_reverse]; omega)
  let E13 := L14 a0 a2 (vS (.int (n : Nat))) (vS (pD s)) (vS (rowD (thnP (greatP n) s))) (vS (rowD v.reverse)) (vS (rowD w.reverse)) (vS (rowD (firstP n s))) (vS (toD p)) (vS (toD (cutL p w.reverse))) (vS (rowD l)) (vS (.bool one)) (vS (rowD (w.reverse ++ l)))
  have q13 : l_13 E11 ds6 = some (.nx E13, ds6) := dSet_eq (i := 13) (k := false) (env := E11) (dCallP_eq (as := [.int (n : Nat), rowD w.reverse, rowD l]) rfl rfl hj)
  -- l_14
  have wj := w_small h5 sp wp cj (by rw [List.length_append, List.length_reverse]; omega)
  have wd := w_small h5 (cutL_sm h5 cw sp) (cutL_wf (l := w.reverse) wp) cl (by omega)
  have q14 : l_14 E13 ds6 = some (.nx E13, ds6) := by
    have x1 : dTest (d2 gNeU (dCallP 2 f_cut_along (aCons (dVar 9) (aCons (dVar 13) (aNil)))) (dCallP 2 f_cut_along (aCons (dVar 10) (aCons (dVar 11) (aNil))))) E13 ds6 = some (false, ds6) :=
      dTest_of (d2_eq (dCallP_eq (as := [toD p, rowD (w.reverse ++ l)]) rfl rfl wj) (dCallP_eq (as := [toD (cutL p w.reverse), rowD l]) rfl rfl wd) (neP (cutL_wf wp) (cutL_wf (cutL_wf wp)) (by rw [cutL_append]; exact eqv.refl _)))
    exact (dIfS_f x1).trans rfl
  -- l_15
  have q15 : l_15 E13 ds6 = some (.nx E13, ds6) := by
    have y0 : dTest (dRd 12) E13 ds6 = some (one, ds6) := dTest_of (b := one) rfl
    by_cases z : l.length = invP (endP n l)
    · have o1 : one = true := decide_eq_true z
      rw [o1] at y0
      have hc : Chn n (endP n l) l.reverse := by
        rcases ro with ⟨h, _⟩ | ⟨_, h⟩
        · exact h
        · omega
      have hf2 := first_chn h2 h5 em
      have lf2 := hf2.len h2 h5
      rw [List.length_reverse] at lf2
      have le2 := fe.le
      have cf2 : Crs n (firstP n (endP n l)) := fun x hx => hf2.crs x (List.mem_reverse.mpr hx)
      have wf2 := w_small h5 sp wp cf2 (by omega)
      have tE := tr_ends (n := n) (by omega) (by omega) cl (by omega)
      have x1 : dTest (d2 gNeU (dCallP 2 f_cut_along (aCons (dVar 9) (aCons (dVar 11) (aNil)))) (dCallP 2 f_cut_along (aCons (dVar 9) (aCons (dCallP 1 f_first_shortest (aCons (dCallP 2 f_ends_p (aCons (dVar 3) (aCons (dVar 11) (aNil)))) (aNil))) (aNil))))) E13 ds6 = some (false, ds6) :=
        dTest_of (d2_eq (dCallP_eq (as := [toD p, rowD l]) rfl rfl wl) (dCallP_eq (as := [toD p, rowD (firstP n (endP n l))]) (aCons_eq (a := toD p) (s := ds6) rfl (aCons1 (dCallP_eq (as := [pD (endP n l)]) (aCons1 (dCallP_eq (as := [.int (n : Nat), rowD l]) rfl rfl tE)) rfl (w_first h2 h5 em)))) rfl wf2) (neP (cutL_wf wp) (cutL_wf wp) (alike h2 h5 hc hf2 sp)))
      exact (dIfS_f (dAnd_t y0 x1)).trans rfl
    · have o1 : one = false := decide_eq_false z
      rw [o1] at y0
      exact (dIfS_f (dAnd_f y0)).trans rfl
  refine ⟨vS (.int (n : Nat)), vS (pD s), vS (rowD (thnP (greatP n) s)), vS (rowD v.reverse), vS (rowD w.reverse), vS (rowD (firstP n s)), vS (toD p), vS (toD (cutL p w.reverse)), vS (rowD l), vS (.bool one), vS (rowD (w.reverse ++ l)), ds6, ?_⟩
  unfold lap67
  rw [dSeq_eq q1, dSeq_eq q2, dSeq_eq q3, dSeq_eq q4, dSeq_eq q5, dSeq_eq q6, dSeq_eq q7, dSeq_eq q8, dSeq_eq q9, dSeq_eq q10, dSeq_eq q11, dSeq_eq q12, dSeq_eq q13, dSeq_eq q14, dSeq_eq q15]
  rfl
theorem laps67 (a0 : Option Sl) : ∀ (items : List D) (a2 a3 a4 a5 a6 a7 a8 a9 a10 a11 a12 a13 : Option Sl) (ds : DS), ∃ (c2 c3 c4 c5 c6 c7 c8 c9 c10 c11 c12 c13 : Option Sl) (ds' : DS), forLoop (gNm 2) lap67 items (L14 a0 a2 a3 a4 a5 a6 a7 a8 a9 a10 a11 a12 a13) ds = some (.nx (L14 a0 c2 c3 c4 c5 c6 c7 c8 c9 c10 c11 c12 c13), ds')
  | [], a2, a3, a4, a5, a6, a7, a8, a9, a10, a11, a12, a13, ds => ⟨a2, a3, a4, a5, a6, a7, a8, a9, a10, a11, a12, a13, ds, rfl⟩
  | d :: items, a2, a3, a4, a5, a6, a7, a8, a9, a10, a11, a12, a13, ds => by
    obtain ⟨c3, c4, c5, c6, c7, c8, c9, c10, c11, c12, c13, ds1, e1⟩ := lap67_ok a0 (vS d) a3 a4 a5 a6 a7 a8 a9 a10 a11 a12 a13 ds
    obtain ⟨g2, g3, g4, g5, g6, g7, g8, g9, g10, g11, g12, g13, ds2, e2⟩ := laps67 a0 items (vS d) c3 c4 c5 c6 c7 c8 c9 c10 c11 c12 c13 ds1
    exact ⟨g2, g3, g4, g5, g6, g7, g8, g9, g10, g11, g12, g13, ds2, (forLoop_cons (env' := L14 a0 (vS d) a3 a4 a5 a6 a7 a8 a9 a10 a11 a12 a13) rfl e1).trans e2⟩
theorem law67 : LawHolds N_law d_law := fun ns hl => by
  let E := L14 (some (.scr ns)) none none none none none none none none none none none none
  let s0 : DS := ⟨bgLarge ns, 0, bgCells ns, 0⟩
  let m : Int := 2 + (if (5 : Int) < ((ns.length : Nat) : Int) then (5 : Int) else ((ns.length : Nat) : Int))
  obtain ⟨y2, y3, y4, y5, y6, y7, y8, y9, y10, y11, y12, y13, ds', e⟩ := laps67 (some (.scr ns)) (rgD 0 m.toNat) none none none none none none none none none none none none s0
  refine ⟨ds', ?_⟩
  have q1 : dB gMin2 (aCons (dLenS 0) (aCons (dC (.int 5)) (aNil))) E s0 = some (.int (if (5 : Int) < ((ns.length : Nat) : Int) then (5 : Int) else ((ns.length : Nat) : Int)), s0) := dB_eq (as := [.int (ns.length : Nat), .int 5]) rfl rfl
  have q : d2 gAdd (dC (.int 2)) (dB gMin2 (aCons (dLenS 0) (aCons (dC (.int 5)) (aNil)))) E s0 = some (.int m, s0) := d2_eq (a := .int 2) rfl q1 rfl
  have hm : m < 100000 ∧ -100000 < m := by
    show 2 + (if (5 : Int) < ((ns.length : Nat) : Int) then (5 : Int) else ((ns.length : Nat) : Int)) < 100000 ∧ -100000 < 2 + (if (5 : Int) < ((ns.length : Nat) : Int) then (5 : Int) else ((ns.length : Nat) : Int))
    split <;> omega
  have e9 : dFor (dRg1 (d2 gAdd (dC (.int 2)) (dB gMin2 (aCons (dLenS 0) (aCons (dC (.int 5)) (aNil)))))) (gNm 2) lap67 E s0 = some (.nx (L14 (some (.scr ns)) y2 y3 y4 y5 y6 y7 y8 y9 y10 y11 y12 y13), ds') := (dFor_eq (dRg1_eq q hm)).trans e
  exact (dSeq_eq (f := dFor (dRg1 (d2 gAdd (dC (.int 2)) (dB gMin2 (aCons (dLenS 0) (aCons (dC (.int 5)) (aNil)))))) (gNm 2) lap67) (g := dSeq (dRet (dC (.bool true))) (dNx)) (env := E) (ds := s0) e9).trans rfl
end L2.Dn
set_option Elab.async false
set_option linter.all false
set_option maxRecDepth 100000
set_option maxHeartbeats 0
open PySem PySem.W PySem.Calls PyProof.Rows
theorem PySem.Challenge.cw_crosswires_k67_across_cuts_along_drawing_holds : PySem.Challenge.rw_crosswires_k67_across_cuts_along_drawing.Holds := by
  w_on; o_law
  refine HandSHeadRun.head_any (r := OpenLaw.row PySem.Challenge.rw_crosswires_k67_across_cuts_along_drawing) (q := view (OpenLaw.row PySem.Challenge.rw_crosswires_k67_across_cuts_along_drawing).prog [68]) (H := Hd.hk) (ob := Hd.ob) (M := 60000) (loose := Hd.loose) (d := HandSHeadRun.topDef (OpenLaw.row PySem.Challenge.rw_crosswires_k67_across_cuts_along_drawing).prog 68) (kwd := []) Hd.ob_eq
    (by kernel_rfl) (fun s => by kernel_rfl) Hd.run (by kernel_rfl) (by kernel_rfl) (by kernel_rfl) (by rfl) (by first | assumption | decide +kernel) (by decide +kernel) ⟨rfl, rfl, rfl, rfl, rfl, by decide +kernel⟩ ?hw ?hc
  case hw => w_witness2
  case hc =>
    refine L2.walk_ofE (l := PySem.Challenge.rw_crosswires_k67_across_cuts_along_drawing) (n := 63) (k := 6) (x := "script") (CX := L2.CX0) rfl (by decide) (by kernel_rfl) ⟨rfl, by decide, by decide⟩ ?F (fun _ _ _ _ z => z)
    intro w mg fa h Y G hmg0
    obtain ⟨K, KX, c⟩ := Y
    have hmg : mg ("law" : PySem.Str) = some (.ref fa) := by
      have e : (HandSHeadRun.topDef (OpenLaw.row PySem.Challenge.rw_crosswires_k67_across_cuts_along_drawing).prog 68).name = ("law" : PySem.Str) := by kernel_rfl
      rw [← e]
      exact hmg0
    have e := hmg.symm.trans (He.glo_ok KX G (c.fact 46 (f := .glo "law") rfl))
    cases e
    obtain ⟨fd, hb, hF⟩ := L2.Dn.ok_law (P := (PySem.Challenge.rw_crosswires_k67_across_cuts_along_drawing).prog) (w := w) KX G c L2.Dn.law67
    exact ⟨K, fd, L2.Dn.spL K, KX, hb, fun H a ns hl _ hS => ⟨rfl, a, ns, rfl, hS, hl, fun _ => rfl⟩, fun base _ _ => hF base⟩
