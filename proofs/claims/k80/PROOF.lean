import PyProof.Rows.All
import HandS.ForMost
import HandS.Deep
import HandS.Conv
import HandS.TupAny
import HandS.Zip
import HandS.TupLen
import HandS.IsInst
import HandS.Star
import HandS.Style
import HandS.Rev
import HandS.Codes
import HandS.SetFor
import HandS.Defaults
import HandS.SortInts
import HandS.SortRule
import KE.KSortedM
import KE.KDictWalk
import HandS.Iter
import HandS.DictComp
import KE.KDictCopyH
import KE.KDictOf
import HandS.More
import HandS.DictEq
import KE.KDictDisplayH
import KE.DataMinKey
import HandS.TupLe
import HandS.SortKw
import KE.GoesEnum
import HandS.Strs
import Wide.All
import OpenK.AllK
import Wide.FinOn
import KE.KStateDown
import Lean
import HandS.Base
import HandS.Call
import HandS.Ends
import HandS.Words
import HandS.WordsExc
import HandS.Head0
import HandS.Head1
import HandS.Head2
import HandS.HeadEnd
import HandS.HeadHook1
import HandS.HeadHook2
import PySem.Challenge.RW_crosswires_k80_across_sums_and_telling_c
set_option Elab.async false
set_option linter.all false
set_option maxRecDepth 100000
/-! data denotations over the hand layer: what a piece of the text computes on plain data, and that it does -/
namespace L2.Dn
open PySem PySem.Spec PyProof.Rows
/-- plain data; a dict by the kind of its keys -/
inductive D where
  | none | bool (b : Bool) | int (i : Int) | str (x : Str) | list (xs : List D) | tuple (xs : List D) | ptup (xs : List D)
  | dT (kvs : List (List Key × D)) | dK (kvs : List (Key × D))
  deriving Inhabited
/-! ### keys -/
def keyD : Key → D
  | .inl i => .int i
  | .inr s => .str s
def keyT (k : List Key) : D := .tuple (k.map keyD)
/-! ### a value that represents data, in a heap whose objects stay -/
mutual
inductive Rp (H : Hp) : V → D → Prop
  | non : Rp H .non .none
  | bl (b : Bool) : Rp H (.bl b) (.bool b)
  | int (i : Int) : Rp H (.int i) (.int i)
  | str (x : Str) : Rp H (.str x) (.str x)
  | lst {a : Addr} {vs : List V} {ds : List D} : H a = some (.lst vs) → RpL H vs ds → Rp H (.ref a) (.list ds)
  | tup {a : Addr} {vs : List V} {ds : List D} : H a = some (.tup vs) → RpL H vs ds → Rp H (.ref a) (.tuple ds)
  | ptup {a : Addr} {o : Obj} {vs : List V} {ds : List D} : H a = some (.frz o (.tup vs)) → o.dict = none → RpL H vs ds → Rp H (.ref a) (.ptup ds)
  | dT {a : Addr} {o : Obj} {kvs : List (List Key × V)} {ds : List (List Key × D)} : H a = some (.frz o (.dT kvs)) → RpT H kvs ds → Rp H (.ref a) (.dT ds)
  | dK {a : Addr} {o : Obj} {kvs : List (Key × V)} {ds : List (Key × D)} : H a = some (.frz o (.dK kvs)) → RpK H kvs ds → Rp H (.ref a) (.dK ds)
inductive RpL (H : Hp) : List V → List D → Prop
  | nil : RpL H [] []
  | cons {v : V} {vs : List V} {d : D} {ds : List D} : Rp H v d → RpL H vs ds → RpL H (v :: vs) (d :: ds)
inductive RpT (H : Hp) : List (List Key × V) → List (List Key × D) → Prop
  | nil : RpT H [] []
  | cons {k : List Key} {v : V} {d : D} {kvs : List (List Key × V)} {ds : List (List Key × D)} : Rp H v d → RpT H kvs ds → RpT H ((k, v) :: kvs) ((k, d) :: ds)
inductive RpK (H : Hp) : List (Key × V) → List (Key × D) → Prop
  | nil : RpK H [] []
  | cons {k : Key} {v : V} {d : D} {kvs : List (Key × V)} {ds : List (Key × D)} : Rp H v d → RpK H kvs ds → RpK H ((k, v) :: kvs) ((k, d) :: ds)
end
mutual
theorem Rp.mono {H H' : Hp} (e : Same H H') : ∀ (d : D) (v : V), Rp H v d → Rp H' v d
  | .none, _, h => by cases h; exact .non
  | .bool b, _, h => by cases h; exact .bl b
  | .int i, _, h => by cases h; exact .int i
  | .str x, _, h => by cases h; exact .str x
  | .list ds, _, h => by
    cases h with
    | lst h1 h2 => exact .lst (e _ _ h1) (RpL.mono e ds _ h2)
  | .tuple ds, _, h => by
    cases h with
    | tup h1 h2 => exact .tup (e _ _ h1) (RpL.mono e ds _ h2)
  | .ptup ds, _, h => by
    cases h with
    | ptup h1 hd h2 => exact .ptup (e _ _ h1) hd (RpL.mono e ds _ h2)
  | .dT ds, _, h => by
    cases h with
    | dT h1 h2 => exact .dT (e _ _ h1) (RpT.mono e ds _ h2)
  | .dK ds, _, h => by
    cases h with
    | dK h1 h2 => exact .dK (e _ _ h1) (RpK.mono e ds _ h2)
theorem RpL.mono {H H' : Hp} (e : Same H H') : ∀ (ds : List D) (vs : List V), RpL H vs ds → RpL H' vs ds
  | [], _, h => by cases h; exact .nil
  | d :: ds, _, h => by
    cases h with
    | cons h1 h2 => exact .cons (Rp.mono e d _ h1) (RpL.mono e ds _ h2)
theorem RpT.mono {H H' : Hp} (e : Same H H') : ∀ (ds : List (List Key × D)) (kvs : List (List Key × V)), RpT H kvs ds → RpT H' kvs ds
  | [], _, h => by cases h; exact .nil
  | (_, d) :: ds, _, h => by
    cases h with
    | cons h1 h2 => exact .cons (Rp.mono e d _ h1) (RpT.mono e ds _ h2)
theorem RpK.mono {H H' : Hp} (e : Same H H') : ∀ (ds : List (Key × D)) (kvs : List (Key × V)), RpK H kvs ds → RpK H' kvs ds
  | [], _, h => by cases h; exact .nil
  | (_, d) :: ds, _, h => by
    cases h with
    | cons h1 h2 => exact .cons (Rp.mono e d _ h1) (RpK.mono e ds _ h2)
end
theorem Rp.up {H H' : Hp} {v : V} {d : D} (h : Rp H v d) (e : Same H H') : Rp H' v d := Rp.mono e d v h
theorem RpL.up {H H' : Hp} {vs : List V} {ds : List D} (h : RpL H vs ds) (e : Same H H') : RpL H' vs ds := RpL.mono e ds vs h
theorem RpT.up {H H' : Hp} {vs : List (List Key × V)} {ds : List (List Key × D)} (h : RpT H vs ds) (e : Same H H') : RpT H' vs ds := RpT.mono e ds vs h
theorem RpK.up {H H' : Hp} {vs : List (Key × V)} {ds : List (Key × D)} (h : RpK H vs ds) (e : Same H H') : RpK H' vs ds := RpK.mono e ds vs h
theorem RpL.length {H : Hp} : ∀ {vs : List V} {ds : List D}, RpL H vs ds → vs.length = ds.length
  | _, _, .nil => rfl
  | _, _, .cons _ t => congrArg Nat.succ (RpL.length t)
theorem RpL.append {H : Hp} : ∀ {vs ws : List V} {ds es : List D}, RpL H vs ds → RpL H ws es → RpL H (vs ++ ws) (ds ++ es)
  | _, _, _, _, .nil, h => h
  | _, _, _, _, .cons h t, h2 => .cons h (RpL.append t h2)
theorem RpL.get {H : Hp} : ∀ {vs : List V} {ds : List D} {i : Nat} {d : D}, RpL H vs ds → ds[i]? = some d → ∃ v, vs[i]? = some v ∧ Rp H v d
  | _, _, _, _, .nil, e => by simp at e
  | _, _, 0, _, .cons h _, e => by simp at e; subst e; exact ⟨_, rfl, h⟩
  | _, _, i + 1, _, .cons _ t, e => by
    obtain ⟨v, h1, h2⟩ := RpL.get (i := i) t (by simpa using e)
    exact ⟨v, by simpa using h1, h2⟩
theorem RpL.get' {H : Hp} : ∀ {vs : List V} {ds : List D} {i : Nat} {v : V}, RpL H vs ds → vs[i]? = some v → ∃ d, ds[i]? = some d ∧ Rp H v d
  | _, _, _, _, .nil, e => by simp at e
  | _, _, 0, _, .cons h _, e => by simp at e; subst e; exact ⟨_, rfl, h⟩
  | _, _, i + 1, _, .cons _ t, e => by
    obtain ⟨v, h1, h2⟩ := RpL.get' (i := i) t (by simpa using e)
    exact ⟨v, by simpa using h1, h2⟩
theorem RpL.take {H : Hp} : ∀ {vs : List V} {ds : List D} (n : Nat), RpL H vs ds → RpL H (vs.take n) (ds.take n)
  | _, _, 0, _ => .nil
  | _, _, _ + 1, .nil => .nil
  | _, _, n + 1, .cons h t => .cons h (RpL.take n t)
theorem RpL.drop {H : Hp} : ∀ {vs : List V} {ds : List D} (n : Nat), RpL H vs ds → RpL H (vs.drop n) (ds.drop n)
  | _, _, 0, h => h
  | _, _, _ + 1, .nil => .nil
  | _, _, n + 1, .cons _ t => RpL.drop n t
theorem RpL.set {H : Hp} {v : V} {d : D} (h : Rp H v d) : ∀ {vs : List V} {ds : List D} (i : Nat), RpL H vs ds → RpL H (vs.set i v) (ds.set i d)
  | _, _, _, .nil => .nil
  | _, _, 0, .cons _ t => .cons h t
  | _, _, i + 1, .cons h2 t => .cons h2 (RpL.set h i t)
theorem RpL.erase {H : Hp} : ∀ {vs : List V} {ds : List D} (i : Nat), RpL H vs ds → RpL H (vs.eraseIdx i) (ds.eraseIdx i)
  | _, _, _, .nil => .nil
  | _, _, 0, .cons _ t => t
  | _, _, i + 1, .cons h2 t => .cons h2 (RpL.erase i t)
theorem RpL.reverse {H : Hp} : ∀ {vs : List V} {ds : List D}, RpL H vs ds → RpL H vs.reverse ds.reverse
  | _, _, .nil => .nil
  | _, _, .cons h t => by
    rw [List.reverse_cons, List.reverse_cons]
    exact RpL.append (RpL.reverse t) (.cons h .nil)
theorem RpL.isEmpty {H : Hp} : ∀ {vs : List V} {ds : List D}, RpL H vs ds → vs.isEmpty = ds.isEmpty
  | _, _, .nil => rfl
  | _, _, .cons _ _ => rfl
/-! ### ints of a list of data -/
def ints? : List D → Option (List Int)
  | [] => some []
  | .int i :: r => (ints? r).map (i :: ·)
  | _ => none
theorem ints_eq : ∀ {ds : List D} {ns : List Int}, ints? ds = some ns → ds = ns.map D.int
  | [], _, h => by cases h; rfl
  | .int i :: r, ns, h => by
    simp only [ints?, Option.map_eq_some_iff] at h
    obtain ⟨ms, h1, rfl⟩ := h
    rw [ints_eq h1]; rfl
  | .none :: _, _, h => by simp [ints?] at h
  | .bool _ :: _, _, h => by simp [ints?] at h
  | .str _ :: _, _, h => by simp [ints?] at h
  | .list _ :: _, _, h => by simp [ints?] at h
  | .tuple _ :: _, _, h => by simp [ints?] at h
  | .ptup _ :: _, _, h => by simp [ints?] at h
  | .dT _ :: _, _, h => by simp [ints?] at h
  | .dK _ :: _, _, h => by simp [ints?] at h
theorem rpl_ints {H : Hp} : ∀ {ns : List Int} {vs : List V}, RpL H vs (ns.map D.int) → vs = ns.map V.int
  | [], _, h => by cases h; rfl
  | n :: ns, _, h => by
    cases h with
    | cons h1 h2 => cases h1; rw [rpl_ints h2]; rfl
theorem ints_rpl {H : Hp} : ∀ (ns : List Int), RpL H (ns.map V.int) (ns.map D.int)
  | [] => .nil
  | n :: ns => .cons (.int n) (ints_rpl ns)
def bools? : List D → Option (List Bool)
  | [] => some []
  | .bool i :: r => (bools? r).map (i :: ·)
  | _ => none
theorem bools_eq : ∀ {ds : List D} {ns : List Bool}, bools? ds = some ns → ds = ns.map D.bool
  | [], _, h => by cases h; rfl
  | .bool i :: r, ns, h => by
    simp only [bools?, Option.map_eq_some_iff] at h
    obtain ⟨ms, h1, rfl⟩ := h
    rw [bools_eq h1]; rfl
  | .none :: _, _, h => by simp [bools?] at h
  | .int _ :: _, _, h => by simp [bools?] at h
  | .str _ :: _, _, h => by simp [bools?] at h
  | .list _ :: _, _, h => by simp [bools?] at h
  | .tuple _ :: _, _, h => by simp [bools?] at h
  | .ptup _ :: _, _, h => by simp [bools?] at h
  | .dT _ :: _, _, h => by simp [bools?] at h
  | .dK _ :: _, _, h => by simp [bools?] at h
theorem rpl_bools {H : Hp} : ∀ {ns : List Bool} {vs : List V}, RpL H vs (ns.map D.bool) → vs = ns.map V.bl
  | [], _, h => by cases h; rfl
  | n :: ns, _, h => by
    cases h with
    | cons h1 h2 => cases h1; rw [rpl_bools h2]; rfl
/-! ### the draws -/
structure DS where
  large : List Int
  rest : Int
  cells : List Int
  turn : Int
def drawKV (l c : Addr) (ds : DS) : List (Key × V) := [(.inr "large", .ref l), (.inr "rest", .int ds.rest), (.inr "cells", .ref c), (.inr "turn", .int ds.turn)]
/-! ### what a slot holds -/
inductive Sl where
  | val (d : D) | own (d : D) | draw | scr (ns : List Int)
abbrev En := List (Option Sl)
/-- an object that may yet change: its parts stay -/
inductive Tp (Hf H : Hp) (a : Addr) : D → Prop
  | lst {vs : List V} {ds : List D} : H a = some (.lst vs) → RpL Hf vs ds → Tp Hf H a (.list ds)
  | dT {kvs : List (List Key × V)} {ds : List (List Key × D)} : H a = some (.dT kvs) → RpT Hf kvs ds → Tp Hf H a (.dT ds)
  | dK {kvs : List (Key × V)} {ds : List (Key × D)} : H a = some (.dK kvs) → RpK Hf kvs ds → Tp Hf H a (.dK ds)
/-- the base of a run: the heap at the entry, what stayed then, the draws' objects -/
structure Bs where
  H0 : Hp
  Hf0 : Hp
  dr : Option (Addr × Addr × Addr)
def Bs.isDr (B : Bs) (a : Addr) : Prop := ∃ x l c, B.dr = some (x, l, c) ∧ (a = x ∨ a = l)
def DrawR (dr : Option (Addr × Addr × Addr)) (ds : DS) (Hf H : Hp) : Prop :=
  ∀ x l c, dr = some (x, l, c) → H x = some (.dK (drawKV l c ds)) ∧ H l = some (.lst (ds.large.map V.int)) ∧ Hf x = none ∧ Hf l = none ∧ Hf c = some (.lst (ds.cells.map V.int))
def SlotR (B : Bs) (K : PySem.W.Frag) (Hf H : Hp) (σ : St) (i : Nat) : Sl → Prop
  | .val d => ∃ v, σ[i]? = some (some v) ∧ Rp Hf v d
  | .own d => ∃ a, σ[i]? = some (some (.ref a)) ∧ Hf a = none ∧ B.H0 a = none ∧ ¬ B.isDr a ∧ Tp Hf H a d
  | .draw => ∃ x l c, B.dr = some (x, l, c) ∧ σ[i]? = some (some (.ref x))
  | .scr ns => ∃ a, σ[i]? = some (some (.ref a)) ∧ (∀ o, B.H0 a = some o → ¬ B.isDr a) ∧ SqL K B.H0 a (ns.map V.int)
structure SR (B : Bs) (K : PySem.W.Frag) (env : En) (ds : DS) (σ : St) (Hf H : Hp) : Prop where
  sub : Same Hf H
  base : ∀ a o, B.H0 a = some o → ∃ o', H a = some o' ∧ (¬ B.isDr a → o' = o)
  fbase : Same B.Hf0 Hf
  fnew : ∀ a, Hf a ≠ none → B.Hf0 a ≠ none ∨ B.H0 a = none ∨ (¬ B.isDr a ∧ ∃ xs, B.H0 a = some (.tup xs))
  slots : ∀ (i : Nat) (s : Sl), env[i]? = some (some s) → SlotR B K Hf H σ i s
  apart : ∀ (i j : Nat) (d e : D) (a : Addr), i ≠ j → env[i]? = some (some (.own d)) → env[j]? = some (some (.own e)) → σ[i]? = some (some (.ref a)) → σ[j]? = some (some (.ref a)) → False
  draw : DrawR B.dr ds Hf H
  len : env.length = σ.length
/-- what an expression may do: new objects, some of them staying; the draws' objects may change -/
structure Gr (B : Bs) (Hf H Hf' H' : Hp) : Prop where
  hh : ∀ a o, H a = some o → ∃ o', H' a = some o' ∧ (¬ B.isDr a → o' = o)
  ff : Same Hf Hf'
  nw : ∀ a, Hf' a ≠ none → Hf a ≠ none ∨ H a = none ∨ (¬ B.isDr a ∧ ∃ xs, H a = some (.tup xs))
theorem Gr.refl {B : Bs} {Hf H : Hp} : Gr B Hf H Hf H := ⟨fun _ o e => ⟨o, e, fun _ => rfl⟩, fun _ _ e => e, fun _ h => .inl h⟩
theorem Gr.trans {B : Bs} {Hf H Hf1 H1 Hf2 H2 : Hp} (a : Gr B Hf H Hf1 H1) (b : Gr B Hf1 H1 Hf2 H2) : Gr B Hf H Hf2 H2 where
  hh := fun x o e => by
    obtain ⟨o1, e1, n1⟩ := a.hh x o e
    obtain ⟨o2, e2, n2⟩ := b.hh x o1 e1
    exact ⟨o2, e2, fun n => (n2 n).trans (n1 n)⟩
  ff := a.ff.trans b.ff
  nw := fun x h => by
    rcases b.nw x h with h1 | h1 | ⟨nd, xs, h1⟩
    · exact a.nw x h1
    · refine .inr (.inl ?_)
      cases q : H x with
      | none => rfl
      | some o =>
        obtain ⟨o1, e1, _⟩ := a.hh x o q
        rw [h1] at e1; cases e1
    · cases q : H x with
      | none => exact .inr (.inl rfl)
      | some o =>
        obtain ⟨o1, e1, n1⟩ := a.hh x o q
        rw [h1] at e1; cases e1
        exact .inr (.inr ⟨nd, xs, by rw [← n1 nd]⟩)
theorem Gr.at {B : Bs} {Hf H Hf' H' : Hp} (g : Gr B Hf H Hf' H') {a : Addr} {o : HO} (e : H a = some o) (n : ¬ B.isDr a) : H' a = some o := by
  obtain ⟨o', e', h⟩ := g.hh a o e
  rw [e', h n]
theorem Gr.fresh {B : Bs} {Hf H Hf' H' : Hp} (g : Gr B Hf H Hf' H') {a : Addr} (e : H' a = none) : H a = none := by
  cases q : H a with
  | none => rfl
  | some o =>
    obtain ⟨o', e', _⟩ := g.hh a o q
    rw [e] at e'; cases e'
theorem Gr.noF {B : Bs} {Hf H Hf' H' : Hp} (g : Gr B Hf H Hf' H') {a : Addr} (e : Hf a = none) (n : H a ≠ none) (nt : ∀ xs, H a ≠ some (.tup xs)) : Hf' a = none := by
  cases q : Hf' a with
  | none => rfl
  | some o =>
    rcases g.nw a (by rw [q]; simp) with h | h | ⟨_, xs, h⟩
    · exact absurd e h
    · exact absurd h n
    · exact absurd h (nt xs)
theorem Tp.ne {Hf H : Hp} {a : Addr} {d : D} (t : Tp Hf H a d) : H a ≠ none := by
  cases t with
  | lst h _ => rw [h]; simp
  | dT h _ => rw [h]; simp
  | dK h _ => rw [h]; simp
theorem Tp.nt {Hf H : Hp} {a : Addr} {d : D} (t : Tp Hf H a d) : ∀ xs, H a ≠ some (.tup xs) := fun xs z => by
  cases t with
  | lst h _ => rw [h] at z; cases z
  | dT h _ => rw [h] at z; cases z
  | dK h _ => rw [h] at z; cases z
theorem Tp.up {B : Bs} {Hf H Hf' H' : Hp} {a : Addr} {d : D} (t : Tp Hf H a d) (g : Gr B Hf H Hf' H') (n : ¬ B.isDr a) : Tp Hf' H' a d := by
  cases t with
  | lst h r => exact .lst (g.at h n) (r.up g.ff)
  | dT h r => exact .dT (g.at h n) (r.up g.ff)
  | dK h r => exact .dK (g.at h n) (r.up g.ff)
/-- what may be read: it stays, or an object whose parts stay -/
inductive Rd1 (B : Bs) (Hf H : Hp) : V → D → Prop
  | fz {v : V} {d : D} : Rp Hf v d → Rd1 B Hf H v d
  | tm {a : Addr} {d : D} : Hf a = none → ¬ B.isDr a → Tp Hf H a d → Rd1 B Hf H (.ref a) d
theorem Rd1.up {B : Bs} {Hf H Hf' H' : Hp} {v : V} {d : D} (t : Rd1 B Hf H v d) (g : Gr B Hf H Hf' H') : Rd1 B Hf' H' v d := by
  cases t with
  | fz h => exact .fz (h.up g.ff)
  | tm h n t => exact .tm (g.noF h t.ne t.nt) n (t.up g n)
/-! ### judgements -/
def SE (X : Cx) (e : Expr) (σ : St) (H : Hp) (Q : VK) : Prop := ∀ pins s, Inv X pins σ H s → wpAny (model X.prog X.w) X.A (eval e X.env) (EP X pins σ Q) X.xe s
def STt (X : Cx) (e : Expr) (σ : St) (H : Hp) (Q : Bool → Hp → Prop) : Prop := ∀ pins s, Inv X pins σ H s → wpAny (model X.prog X.w) X.A (isTrue e X.env (eval e X.env)) (TP X pins σ Q) X.xe s
def SW (X : Cx) (e : Expr) (σ : St) (H : Hp) (Q : Bool → Hp → Prop) : Prop := ∀ (whole : Sem Value) pins s, Inv X pins σ H s → wpAny (model X.prog X.w) X.A (isTrue e X.env whole) (TP X pins σ Q) X.xe s
def SA (X : Cx) (es : List Expr) (σ : St) (H : Hp) (Q : List V → Hp → Prop) : Prop := ∀ pos pins s, Inv X pins σ H s → wpAny (model X.prog X.w) X.A (spliced (backTo pos (starEach es X.env))) (AP X pins σ Q) X.xe s
def SS (X : Cx) (st : Stmt) (Dd : Ends) (σ : St) (H : Hp) : Prop := ∀ pins s, Inv X pins σ H s → wpAny (model X.prog X.w) X.A (exec st X.env) (SP X pins Dd) X.xe s
def SSs (X : Cx) (st : List Stmt) (Dd : Ends) (σ : St) (H : Hp) : Prop := ∀ pins s, Inv X pins σ H s → wpAny (model X.prog X.w) X.A (execs st X.env) (SP X pins Dd) X.xe s
theorem pe_se (X : Cx) (e : Expr) : PE X e (SE X e) := ⟨fun pins s σ H Q I h => h pins s I⟩
theorem pt_st (X : Cx) (e : Expr) : PT X e (STt X e) := ⟨fun pins s σ H Q I h => h pins s I⟩
theorem pw_sw (X : Cx) (e : Expr) : PW X e (SW X e) := ⟨fun whole pins s σ H Q I h => h whole pins s I⟩
theorem pa_sa (X : Cx) (es : List Expr) : PA X es (SA X es) := ⟨fun pos pins s σ H Q I h => h pos pins s I⟩
theorem ps_ss (X : Cx) (st : Stmt) : PS X st (SS X st) := ⟨fun pins s σ H Dd I h => h pins s I⟩
theorem pss_ss (X : Cx) (st : List Stmt) : PSs X st (SSs X st) := ⟨fun pins s σ H Dd I h => h pins s I⟩
theorem SE.of {X : Cx} {e : Expr} {t : TE} (p : PE X e t) {σ : St} {H : Hp} {Q : VK} (h : t σ H Q) : SE X e σ H Q := fun pins s I => p.run pins s σ H Q I h
theorem STt.of {X : Cx} {e : Expr} {t : TT} (p : PT X e t) {σ : St} {H : Hp} {Q : Bool → Hp → Prop} (h : t σ H Q) : STt X e σ H Q := fun pins s I => p.run pins s σ H Q I h
theorem SW.of {X : Cx} {e : Expr} {t : TT} (p : PW X e t) {σ : St} {H : Hp} {Q : Bool → Hp → Prop} (h : t σ H Q) : SW X e σ H Q := fun whole pins s I => p.run whole pins s σ H Q I h
theorem SA.of {X : Cx} {es : List Expr} {t : TA} (p : PA X es t) {σ : St} {H : Hp} {Q : List V → Hp → Prop} (h : t σ H Q) : SA X es σ H Q := fun pos pins s I => p.run pos pins s σ H Q I h
theorem SS.of {X : Cx} {st : Stmt} {t : TS} (p : PS X st t) {σ : St} {H : Hp} {Dd : Ends} (h : t Dd σ H) : SS X st Dd σ H := fun pins s I => p.run pins s σ H Dd I h
theorem SSs.of {X : Cx} {st : List Stmt} {t : TS} (p : PSs X st t) {σ : St} {H : Hp} {Dd : Ends} (h : t Dd σ H) : SSs X st Dd σ H := fun pins s I => p.run pins s σ H Dd I h
theorem SE.mono {X : Cx} {e : Expr} {σ : St} {H : Hp} {Q Q' : VK} (h : SE X e σ H Q) (m : ∀ v H', Q v H' → Q' v H') : SE X e σ H Q' := fun pins s I =>
  thn (h pins s I) fun u s' ⟨v, H', I', r, q⟩ => ⟨v, H', I', r, m v H' q⟩
theorem STt.mono {X : Cx} {e : Expr} {σ : St} {H : Hp} {Q Q' : Bool → Hp → Prop} (h : STt X e σ H Q) (m : ∀ v H', Q v H' → Q' v H') : STt X e σ H Q' := fun pins s I =>
  thn (h pins s I) fun u s' ⟨H', I', q⟩ => ⟨H', I', m u H' q⟩
/-! ### denotations -/
abbrev Den := En → DS → Option (D × DS)
abbrev DenT := En → DS → Option (Bool × DS)
abbrev DenA := En → DS → Option (List D × DS)
def bnd {α β : Type} (o : Option (α × DS)) (k : α → DS → Option β) : Option β := match o with
  | none => none
  | some (a, s) => k a s
theorem bnd_eq {α β : Type} {o : Option (α × DS)} {k : α → DS → Option β} {b : β} (h : bnd o k = some b) : ∃ a s, o = some (a, s) ∧ k a s = some b := by
  cases o with
  | none => cases h
  | some p => obtain ⟨a, s⟩ := p; exact ⟨a, s, rfl, h⟩
def op1 {α : Type} (o : Option α) (ds : DS) : Option (α × DS) := match o with
  | none => none
  | some a => some (a, ds)
theorem op1_eq {α : Type} {o : Option α} {ds ds' : DS} {b : α} (h : op1 o ds = some (b, ds')) : o = some b ∧ ds' = ds := by
  cases o with
  | none => cases h
  | some a => cases h; exact ⟨rfl, rfl⟩
/-- what follows a value that stays, a new object, a value that may be read, a test, values -/
def CF (B : Bs) (K : PySem.W.Frag) (env : En) (ds : DS) (σ : St) (Hf H : Hp) (d : D) (Q : VK) : Prop := ∀ v Hf' H', Gr B Hf H Hf' H' → SR B K env ds σ Hf' H' → Rp Hf' v d → Q v H'
def CN (B : Bs) (K : PySem.W.Frag) (env : En) (ds : DS) (σ : St) (Hf H : Hp) (d : D) (Q : VK) : Prop := ∀ a Hf' H', Gr B Hf H Hf' H' → SR B K env ds σ Hf' H' → H a = none → Hf' a = none → Tp Hf' H' a d → Q (.ref a) H'
def CR (B : Bs) (K : PySem.W.Frag) (env : En) (ds : DS) (σ : St) (Hf H : Hp) (d : D) (Q : VK) : Prop := ∀ v Hf' H', Gr B Hf H Hf' H' → SR B K env ds σ Hf' H' → Rd1 B Hf' H' v d → Q v H'
def CT (B : Bs) (K : PySem.W.Frag) (env : En) (ds : DS) (σ : St) (Hf H : Hp) (b : Bool) (Q : Bool → Hp → Prop) : Prop := ∀ Hf' H', Gr B Hf H Hf' H' → SR B K env ds σ Hf' H' → Q b H'
def CA (B : Bs) (K : PySem.W.Frag) (env : En) (ds : DS) (σ : St) (Hf H : Hp) (d : List D) (Q : List V → Hp → Prop) : Prop := ∀ vs Hf' H', Gr B Hf H Hf' H' → SR B K env ds σ Hf' H' → RpL Hf' vs d → Q vs H'
/-- its value stays -/
def EvF (X : Cx) (e : Expr) (f : Den) : Prop := ∀ B env ds σ Hf H d ds', SR B X.K env ds σ Hf H → f env ds = some (d, ds') → ∀ Q : VK, CF B X.K env ds' σ Hf H d Q → SE X e σ H Q
/-- its value is a new object -/
def EvN (X : Cx) (e : Expr) (f : Den) : Prop := ∀ B env ds σ Hf H d ds', SR B X.K env ds σ Hf H → f env ds = some (d, ds') → ∀ Q : VK, CN B X.K env ds' σ Hf H d Q → SE X e σ H Q
/-- its value may be read -/
def EvR (X : Cx) (e : Expr) (f : Den) : Prop := ∀ B env ds σ Hf H d ds', SR B X.K env ds σ Hf H → f env ds = some (d, ds') → ∀ Q : VK, CR B X.K env ds' σ Hf H d Q → SE X e σ H Q
def EvT (X : Cx) (e : Expr) (f : DenT) : Prop := ∀ B env ds σ Hf H d ds', SR B X.K env ds σ Hf H → f env ds = some (d, ds') → ∀ Q : Bool → Hp → Prop, CT B X.K env ds' σ Hf H d Q → STt X e σ H Q
def EvW (X : Cx) (e : Expr) (f : DenT) : Prop := ∀ B env ds σ Hf H d ds', SR B X.K env ds σ Hf H → f env ds = some (d, ds') → ∀ Q : Bool → Hp → Prop, CT B X.K env ds' σ Hf H d Q → SW X e σ H Q
def EvA (X : Cx) (es : List Expr) (f : DenA) : Prop := ∀ B env ds σ Hf H d ds', SR B X.K env ds σ Hf H → f env ds = some (d, ds') → ∀ Q : List V → Hp → Prop, CA B X.K env ds' σ Hf H d Q → SA X es σ H Q
section
variable {B : Bs} {K : PySem.W.Frag} {env : En} {ds ds' : DS} {σ : St} {Hf H Hf1 H1 : Hp} {a : Addr} {o : HO}
theorem CF.step {d : D} {Q : VK} (c : CF B K env ds σ Hf H d Q) (g : Gr B Hf H Hf1 H1) : CF B K env ds σ Hf1 H1 d Q := fun v Hf' H' g' S r => c v Hf' H' (g.trans g') S r
theorem CR.step {d : D} {Q : VK} (c : CR B K env ds σ Hf H d Q) (g : Gr B Hf H Hf1 H1) : CR B K env ds σ Hf1 H1 d Q := fun v Hf' H' g' S r => c v Hf' H' (g.trans g') S r
theorem CN.step {d : D} {Q : VK} (c : CN B K env ds σ Hf H d Q) (g : Gr B Hf H Hf1 H1) : CN B K env ds σ Hf1 H1 d Q := fun a Hf' H' g' S n nf t => c a Hf' H' (g.trans g') S (g.fresh n) nf t
theorem CT.step {d : Bool} {Q : Bool → Hp → Prop} (c : CT B K env ds σ Hf H d Q) (g : Gr B Hf H Hf1 H1) : CT B K env ds σ Hf1 H1 d Q := fun Hf' H' g' S => c Hf' H' (g.trans g') S
theorem CA.step {d : List D} {Q : List V → Hp → Prop} (c : CA B K env ds σ Hf H d Q) (g : Gr B Hf H Hf1 H1) : CA B K env ds σ Hf1 H1 d Q := fun v Hf' H' g' S r => c v Hf' H' (g.trans g') S r
theorem SR.isDr (S : SR B K env ds σ Hf H) (n : B.isDr a) : H a ≠ none ∧ Hf a = none := by
  obtain ⟨x, l, c, e, h⟩ := n
  obtain ⟨h1, h2, h3, h4, _⟩ := S.draw x l c e
  rcases h with rfl | rfl
  · exact ⟨by rw [h1]; simp, h3⟩
  · exact ⟨by rw [h2]; simp, h4⟩
theorem SR.noDr (S : SR B K env ds σ Hf H) (h : H a = none) : ¬ B.isDr a := fun n => (S.isDr n).1 h
theorem SR.noDrF (S : SR B K env ds σ Hf H) (h : Hf a ≠ none) : ¬ B.isDr a := fun n => h (S.isDr n).2
/-- an address that nothing of the run holds -/
structure Fre (B : Bs) (env : En) (σ : St) (a : Addr) : Prop where
  h0 : B.H0 a = none
  nd : ¬ B.isDr a
  no : ∀ (i : Nat) (d : D), env[i]? = some (some (.own d)) → σ[i]? ≠ some (some (.ref a))
theorem SR.fre (S : SR B K env ds σ Hf H) (h : H a = none) : Fre B env σ a where
  h0 := by
    cases q : B.H0 a with
    | none => rfl
    | some o =>
      obtain ⟨o', e, _⟩ := S.base a o q
      rw [h] at e; cases e
  nd := S.noDr h
  no := fun i d e z => by
    obtain ⟨b, e1, _, _, _, t⟩ := S.slots i _ e
    rw [e1] at z
    cases z
    exact t.ne h
/-- an object that nothing holds is laid or changed -/
theorem Tp.hp {d : D} {b : Addr} (t : Tp Hf H b d) (h : b ≠ a) : Tp Hf (upd H a o) b d := by
  cases t with
  | lst h1 r => exact .lst (by rw [upd_ne h]; exact h1) r
  | dT h1 r => exact .dT (by rw [upd_ne h]; exact h1) r
  | dK h1 r => exact .dK (by rw [upd_ne h]; exact h1) r
theorem Tp.fz {d : D} {b : Addr} (t : Tp Hf H b d) (h : Hf a = none) : Tp (upd Hf a o) H b d := by
  have e : Same Hf (upd Hf a o) := fun c x q => by rw [upd_ne (ne_of_none q h)]; exact q
  cases t with
  | lst h1 r => exact .lst h1 (r.up e)
  | dT h1 r => exact .dT h1 (r.up e)
  | dK h1 r => exact .dK h1 (r.up e)
theorem SlotR.hp {K : PySem.W.Frag} {i : Nat} {s : Sl} (h : SlotR B K Hf H σ i s) (no : ∀ (d : D), s = .own d → σ[i]? ≠ some (some (.ref a))) : SlotR B K Hf (upd H a o) σ i s := by
  cases s with
  | val d => exact h
  | own d =>
    obtain ⟨b, e, n1, n2, n3, t⟩ := h
    refine ⟨b, e, n1, n2, n3, t.hp fun z => ?_⟩
    subst z
    exact no d rfl e
  | draw => exact h
  | scr ns => exact h
theorem SlotR.fz {K : PySem.W.Frag} {i : Nat} {s : Sl} (h : SlotR B K Hf H σ i s) (nf : Hf a = none) (no : ∀ (d : D), s = .own d → σ[i]? ≠ some (some (.ref a))) : SlotR B K (upd Hf a o) H σ i s := by
  have e : Same Hf (upd Hf a o) := fun c x q => by rw [upd_ne (ne_of_none q nf)]; exact q
  cases s with
  | val d =>
    obtain ⟨v, e1, r⟩ := h
    exact ⟨v, e1, r.up e⟩
  | own d =>
    obtain ⟨b, e1, n1, n2, n3, t⟩ := h
    refine ⟨b, e1, ?_, n2, n3, t.fz nf⟩
    rw [upd_ne]
    · exact n1
    · intro z; subst z; exact no d rfl e1
  | draw => exact h
  | scr ns => exact h
/-- an object that nothing holds is laid or changed -/
theorem SR.hp (S : SR B K env ds σ Hf H) (nf : Hf a = none) (F : Fre B env σ a) : SR B K env ds σ Hf (upd H a o) where
  sub := fun b x e => by rw [upd_ne (ne_of_none e nf)]; exact S.sub b x e
  base := fun b x e => by
    rw [upd_ne (ne_of_none e F.h0)]; exact S.base b x e
  fbase := S.fbase
  fnew := S.fnew
  slots := fun i s e => (S.slots i s e).hp fun d q => by subst q; exact F.no i d e
  apart := S.apart
  draw := fun x l c e => by
    obtain ⟨h1, h2, h3, h4, h5⟩ := S.draw x l c e
    refine ⟨?_, ?_, h3, h4, h5⟩
    · rw [upd_ne]
      · exact h1
      · intro z; subst z; exact F.nd ⟨_, _, _, e, .inl rfl⟩
    · rw [upd_ne]
      · exact h2
      · intro z; subst z; exact F.nd ⟨_, _, _, e, .inr rfl⟩
  len := S.len
/-- an object that nothing holds stays from now on -/
theorem SR.fz (S : SR B K env ds σ Hf H) (nf : Hf a = none) (e : H a = some o) (F : Fre B env σ a) : SR B K env ds σ (upd Hf a o) H where
  sub := fun b x q => by
    by_cases h : b = a
    · subst h; rw [upd_same] at q; cases q; exact e
    · rw [upd_ne h] at q; exact S.sub b x q
  base := S.base
  fbase := fun b x q => by rw [upd_ne (ne_of_none (S.fbase b x q) nf)]; exact S.fbase b x q
  fnew := fun b q => by
    by_cases h : b = a
    · subst h; exact .inr (.inl F.h0)
    · rw [upd_ne h] at q; exact S.fnew b q
  slots := fun i s e => (S.slots i s e).fz nf fun d q => by subst q; exact F.no i d e
  apart := S.apart
  draw := fun x l c ed => by
    obtain ⟨h1, h2, h3, h4, h5⟩ := S.draw x l c ed
    refine ⟨h1, h2, ?_, ?_, ?_⟩
    · rw [upd_ne]
      · exact h3
      · intro z; subst z; exact F.nd ⟨_, _, _, ed, .inl rfl⟩
    · rw [upd_ne]
      · exact h4
      · intro z; subst z; exact F.nd ⟨_, _, _, ed, .inr rfl⟩
    · rw [upd_ne (ne_of_none h5 nf)]; exact h5
  len := S.len
/-- a tuple that stands may stay from now on -/
theorem SR.fzT {xs : List V} (S : SR B K env ds σ Hf H) (nf : Hf a = none) (e : H a = some (.tup xs)) : SR B K env ds σ (upd Hf a (.tup xs)) H := by
  have nd : ¬ B.isDr a := fun n => by
    obtain ⟨x, l, c, ed, h⟩ := n
    obtain ⟨h1, h2, _, _, _⟩ := S.draw x l c ed
    rcases h with rfl | rfl
    · rw [e] at h1; cases h1
    · rw [e] at h2; cases h2
  have no : ∀ (i : Nat) (d : D), env[i]? = some (some (.own d)) → σ[i]? ≠ some (some (.ref a)) := fun i d e1 z => by
    obtain ⟨b, e2, _, _, _, t⟩ := S.slots i _ e1
    rw [e2] at z; cases z
    exact t.nt xs e
  exact {
    sub := fun b x q => by
      by_cases h : b = a
      · subst h; rw [upd_same] at q; cases q; exact e
      · rw [upd_ne h] at q; exact S.sub b x q
    base := S.base
    fbase := fun b x q => by rw [upd_ne (ne_of_none (S.fbase b x q) nf)]; exact S.fbase b x q
    fnew := fun b q => by
      by_cases h : b = a
      · subst h
        cases q0 : B.H0 b with
        | none => exact .inr (.inl rfl)
        | some o =>
          obtain ⟨o', e', n'⟩ := S.base b o q0
          rw [e] at e'; cases e'
          exact .inr (.inr ⟨nd, xs, by rw [← n' nd]⟩)
      · rw [upd_ne h] at q; exact S.fnew b q
    slots := fun i s e => (S.slots i s e).fz nf fun d q => by subst q; exact no i d e
    apart := S.apart
    draw := fun x l c ed => by
      obtain ⟨h1, h2, h3, h4, h5⟩ := S.draw x l c ed
      refine ⟨h1, h2, ?_, ?_, ?_⟩
      · rw [upd_ne]
        · exact h3
        · intro z; subst z; exact nd ⟨_, _, _, ed, .inl rfl⟩
      · rw [upd_ne]
        · exact h4
        · intro z; subst z; exact nd ⟨_, _, _, ed, .inr rfl⟩
      · rw [upd_ne (ne_of_none h5 nf)]; exact h5
    len := S.len }
theorem SR.noDrT {xs : List V} (S : SR B K env ds σ Hf H) (e : H a = some (.tup xs)) : ¬ B.isDr a := fun n => by
  obtain ⟨x, l, c, ed, h⟩ := n
  obtain ⟨h1, h2, _, _, _⟩ := S.draw x l c ed
  rcases h with rfl | rfl
  · rw [e] at h1; cases h1
  · rw [e] at h2; cases h2
theorem Gr.hp (g : Gr B Hf H Hf1 H1) (n : H a = none) : Gr B Hf H Hf1 (upd H1 a o) where
  hh := fun b x e => by
    rw [upd_ne (ne_of_none e n)]; exact g.hh b x e
  ff := g.ff
  nw := g.nw
theorem Gr.fz (g : Gr B Hf H Hf1 H1) (n : H a = none) (nf : Hf1 a = none) : Gr B Hf H (upd Hf1 a o) H1 where
  hh := g.hh
  ff := fun b x e => by rw [upd_ne (ne_of_none (g.ff b x e) nf)]; exact g.ff b x e
  nw := fun b q => by
    by_cases h : b = a
    · subst h; exact .inr (.inl n)
    · rw [upd_ne h] at q; exact g.nw b q
theorem upd_self {H : Hp} {a : Addr} {o : HO} (e : H a = some o) : upd H a o = H := by
  funext b
  by_cases h : b = a
  · subst h; rw [upd_same, e]
  · rw [upd_ne h]
theorem sub_none (S : SR B K env ds σ Hf H) (n : H a = none) : Hf a = none := by
  cases q : Hf a with
  | none => rfl
  | some o => rw [S.sub a o q] at n; cases n
theorem same_fz (nf : Hf a = none) : Same Hf (upd Hf a o) := fun c x q => by rw [upd_ne (ne_of_none q nf)]; exact q
/-- a new tuple: it stays -/
theorem CF.tup {d : List D} {vs : List V} {Q : VK} (c : CF B K env ds σ Hf H (.tuple d) Q) (S : SR B K env ds σ Hf H) (r : RpL Hf vs d) : ∀ p, H p = none → Q (.ref p) (upd H p (.tup vs)) := fun p n => by
  have nf := sub_none S n
  have F := S.fre n
  exact c _ _ _ ((Gr.refl.hp n).fz n nf) ((S.hp nf F).fz nf upd_same F) (.tup upd_same (r.up (same_fz nf)))
/-- a new plain tuple: it stays -/
theorem CF.ptup {d : List D} {vs : List V} {o : Obj} {Q : VK} (c : CF B K env ds σ Hf H (.ptup d) Q) (S : SR B K env ds σ Hf H) (r : RpL Hf vs d) (hd : o.dict = none) : ∀ p, H p = none → Q (.ref p) (upd H p (.frz o (.tup vs))) := fun p n => by
  have nf := sub_none S n
  have F := S.fre n
  exact c _ _ _ ((Gr.refl.hp n).fz n nf) ((S.hp nf F).fz nf upd_same F) (.ptup upd_same hd (r.up (same_fz nf)))
/-- a new list -/
theorem CN.lst {d : List D} {vs : List V} {Q : VK} (c : CN B K env ds σ Hf H (.list d) Q) (S : SR B K env ds σ Hf H) (r : RpL Hf vs d) : ∀ p, H p = none → Q (.ref p) (upd H p (.lst vs)) := fun p n => by
  have nf := sub_none S n
  exact c _ _ _ (Gr.refl.hp n) (S.hp nf (S.fre n)) n nf (.lst upd_same r)
theorem CN.dT {d : List (List Key × D)} {vs : List (List Key × V)} {Q : VK} (c : CN B K env ds σ Hf H (.dT d) Q) (S : SR B K env ds σ Hf H) (r : RpT Hf vs d) : ∀ p, H p = none → Q (.ref p) (upd H p (.dT vs)) := fun p n => by
  have nf := sub_none S n
  exact c _ _ _ (Gr.refl.hp n) (S.hp nf (S.fre n)) n nf (.dT upd_same r)
theorem CN.dK {d : List (Key × D)} {vs : List (Key × V)} {Q : VK} (c : CN B K env ds σ Hf H (.dK d) Q) (S : SR B K env ds σ Hf H) (r : RpK Hf vs d) : ∀ p, H p = none → Q (.ref p) (upd H p (.dK vs)) := fun p n => by
  have nf := sub_none S n
  exact c _ _ _ (Gr.refl.hp n) (S.hp nf (S.fre n)) n nf (.dK upd_same r)
theorem CF.now {d : D} {v : V} {Q : VK} (c : CF B K env ds σ Hf H d Q) (S : SR B K env ds σ Hf H) (r : Rp Hf v d) : Q v H := c v Hf H Gr.refl S r
end
section
variable {X : Cx} {e : Expr} {f : Den}
theorem EvF.r (h : EvF X e f) : EvR X e f := fun B env ds σ Hf H d ds' S hf Q q => h B env ds σ Hf H d ds' S hf Q fun v Hf' H' g S' r => q v Hf' H' g S' (.fz r)
theorem EvN.r (h : EvN X e f) : EvR X e f := fun B env ds σ Hf H d ds' S hf Q q => h B env ds σ Hf H d ds' S hf Q fun a Hf' H' g S' n nf t => q _ Hf' H' g S' (.tm nf (S.noDr n) t)
/-- a value's dict is locked for good -/
theorem SE.lock {σ : St} {H : Hp} {Q : VK} (h : SE X e σ H fun v H' => ∃ a u, v = .ref a ∧ H' a = some u ∧ Mut (some u) ∧ ∀ o, Q v (upd H' a (.frz o u))) : SE X e σ H Q := fun pins s I =>
  thn (h pins s I) fun u s' ⟨v, H', I', r, a, u', e, q, m, k⟩ => by
    obtain ⟨o, I2⟩ := I'.lock q m
    exact ⟨v, _, I2, r, k o⟩
/-- a new object stays from now on -/
theorem EvN.toF (h : EvN X e f) : EvF X e f := fun B env ds σ Hf H d ds' S hf Q q => by
  cases d with
  | list xs =>
    refine h B env ds σ Hf H _ ds' S hf Q fun a Hf' H' g S' n nf t => ?_
    cases t with
    | lst h1 r =>
      have F := S.fre n
      exact q _ _ _ (g.fz n nf) (S'.fz nf h1 F) (.lst upd_same (r.up (same_fz nf)))
  | dT xs =>
    refine SE.lock (h B env ds σ Hf H _ ds' S hf _ fun a Hf' H' g S' n nf t => ?_)
    have F := S.fre n
    cases t with
    | dT h1 r =>
      refine ⟨a, _, rfl, h1, True.intro, fun o => ?_⟩
      exact q _ _ _ ((g.hp n).fz n nf) ((S'.hp nf F).fz nf upd_same F) (.dT upd_same (r.up (same_fz nf)))
  | dK xs =>
    refine SE.lock (h B env ds σ Hf H _ ds' S hf _ fun a Hf' H' g S' n nf t => ?_)
    have F := S.fre n
    cases t with
    | dK h1 r =>
      refine ⟨a, _, rfl, h1, True.intro, fun o => ?_⟩
      exact q _ _ _ ((g.hp n).fz n nf) ((S'.hp nf F).fz nf upd_same F) (.dK upd_same (r.up (same_fz nf)))
  | _ => exact h B env ds σ Hf H _ ds' S hf Q fun a Hf' H' g S' n nf t => nomatch t
end
end L2.Dn
set_option Elab.async false
set_option linter.all false
set_option maxRecDepth 100000
namespace L2.Dn
open PySem PySem.Spec PyProof.Rows
section
variable {B : Bs} {K : PySem.W.Frag} {env : En} {ds ds' : DS} {σ : St} {Hf H Hf1 H1 : Hp} {a : Addr} {o : HO} {v : V}
theorem Rd1.int {i : Int} (r : Rd1 B Hf H v (.int i)) : v = .int i := by
  cases r with
  | fz h => cases h; rfl
  | tm _ _ t => cases t
theorem Rd1.bl {i : Bool} (r : Rd1 B Hf H v (.bool i)) : v = .bl i := by
  cases r with
  | fz h => cases h; rfl
  | tm _ _ t => cases t
theorem Rd1.non (r : Rd1 B Hf H v .none) : v = .non := by
  cases r with
  | fz h => cases h; rfl
  | tm _ _ t => cases t
theorem Rd1.str {i : Str} (r : Rd1 B Hf H v (.str i)) : v = .str i := by
  cases r with
  | fz h => cases h; rfl
  | tm _ _ t => cases t
theorem Rd1.tup {d : List D} (r : Rd1 B Hf H v (.tuple d)) : ∃ a vs, v = .ref a ∧ Hf a = some (.tup vs) ∧ RpL Hf vs d := by
  cases r with
  | fz h => cases h with
    | tup h r => exact ⟨_, _, rfl, h, r⟩
  | tm _ _ t => cases t
theorem Rd1.ptup {d : List D} (r : Rd1 B Hf H v (.ptup d)) : ∃ a vs o, v = .ref a ∧ Hf a = some (.frz o (.tup vs)) ∧ o.dict = none ∧ RpL Hf vs d := by
  cases r with
  | fz h => cases h with
    | ptup h1 hd h2 => exact ⟨_, _, _, rfl, h1, hd, h2⟩
  | tm _ _ t => cases t
theorem Rd1.lst {d : List D} (s : Same Hf H) (r : Rd1 B Hf H v (.list d)) : ∃ a vs, v = .ref a ∧ H a = some (.lst vs) ∧ RpL Hf vs d := by
  cases r with
  | fz h => cases h with
    | lst h r => exact ⟨_, _, rfl, s _ _ h, r⟩
  | tm _ _ t => cases t with
    | lst h r => exact ⟨_, _, rfl, h, r⟩
theorem Rd1.dT {d : List (List Key × D)} (s : Same Hf H) (r : Rd1 B Hf H v (.dT d)) : ∃ a kvs, v = .ref a ∧ Rd H a (.dT kvs) ∧ RpT Hf kvs d := by
  cases r with
  | fz h => cases h with
    | dT h r => exact ⟨_, _, rfl, .inr ⟨_, s _ _ h⟩, r⟩
  | tm _ _ t => cases t with
    | dT h r => exact ⟨_, _, rfl, .inl h, r⟩
theorem Rd1.dK {d : List (Key × D)} (s : Same Hf H) (r : Rd1 B Hf H v (.dK d)) : ∃ a kvs, v = .ref a ∧ Rd H a (.dK kvs) ∧ RpK Hf kvs d := by
  cases r with
  | fz h => cases h with
    | dK h r => exact ⟨_, _, rfl, .inr ⟨_, s _ _ h⟩, r⟩
  | tm _ _ t => cases t with
    | dK h r => exact ⟨_, _, rfl, .inl h, r⟩
end
/-! ### equality of data without dicts -/
mutual
def toPy : D → PyData
  | .none => .none
  | .bool b => .bool b
  | .int i => .int i
  | .str x => .str x
  | .list xs => .list (toPyL xs)
  | .tuple xs => .tuple (toPyL xs)
  | .ptup xs => .tuple (toPyL xs)
  | .dT _ => .dict []
  | .dK _ => .dict []
def toPyL : List D → List PyData
  | [] => []
  | x :: xs => toPy x :: toPyL xs
end
/-- no dict, no text, at most so deep -/
def eqOk : Nat → D → Bool
  | _, .none => true
  | _, .bool _ => true
  | _, .int _ => true
  | n + 1, .list xs => xs.all (eqOk n)
  | n + 1, .tuple xs => xs.all (eqOk n)
  | n + 1, .ptup xs => xs.all (eqOk n)
  | _, _ => false
def all2 (p : D → D → Bool) : List D → List D → Bool
  | [], [] => true
  | x :: xs, y :: ys => p x y && all2 p xs ys
  | _, _ => false
def deq : Nat → D → D → Bool
  | _, .none, .none => true
  | _, .bool a, .bool b => a == b
  | _, .bool a, .int j => decide ((if a then 1 else 0) = j)
  | _, .int i, .bool b => decide (i = (if b then 1 else 0))
  | _, .int i, .int j => decide (i = j)
  | n + 1, .list xs, .list ys => all2 (deq n) xs ys
  | n + 1, .tuple xs, .tuple ys => all2 (deq n) xs ys
  | n + 1, .ptup xs, .tuple ys => all2 (deq n) xs ys
  | n + 1, .tuple xs, .ptup ys => all2 (deq n) xs ys
  | n + 1, .ptup xs, .ptup ys => all2 (deq n) xs ys
  | _, _, _ => false
theorem eqOk_lay : ∀ (n : Nat) (d : D), eqOk n d = true → (toPy d).canLay0 = true ∧ (toPy d).depth ≤ n
  | n, .none, _ => by simp [toPy, PyData.canLay0, PyData.depth]
  | n, .bool _, _ => by simp [toPy, PyData.canLay0, PyData.depth]
  | n, .int _, _ => by simp [toPy, PyData.canLay0, PyData.depth]
  | 0, .list _, h => by simp [eqOk] at h
  | 0, .tuple _, h => by simp [eqOk] at h
  | 0, .ptup _, h => by simp [eqOk] at h
  | n + 1, .list xs, h => by
    have l : ∀ ys : List D, (∀ y ∈ ys, eqOk n y = true) → PyData.canLayAll0 (toPyL ys) = true ∧ PyData.depthAll (toPyL ys) ≤ n := by
      intro ys
      induction ys with
      | nil => intro _; simp [toPyL, PyData.canLayAll0, PyData.depthAll]
      | cons y ys ih =>
        intro hy
        have h1 := eqOk_lay n y (hy y (List.mem_cons_self ..))
        have h2 := ih fun z hz => hy z (List.mem_cons_of_mem _ hz)
        simp only [toPyL, PyData.canLayAll0, PyData.depthAll, h1.1, h2.1, Bool.and_self, true_and]
        omega
    have := l xs (by simpa [eqOk] using h)
    simp only [toPy, PyData.canLay0, PyData.depth]
    exact ⟨this.1, by omega⟩
  | n + 1, .tuple xs, h => by
    have l : ∀ ys : List D, (∀ y ∈ ys, eqOk n y = true) → PyData.canLayAll0 (toPyL ys) = true ∧ PyData.depthAll (toPyL ys) ≤ n := by
      intro ys
      induction ys with
      | nil => intro _; simp [toPyL, PyData.canLayAll0, PyData.depthAll]
      | cons y ys ih =>
        intro hy
        have h1 := eqOk_lay n y (hy y (List.mem_cons_self ..))
        have h2 := ih fun z hz => hy z (List.mem_cons_of_mem _ hz)
        simp only [toPyL, PyData.canLayAll0, PyData.depthAll, h1.1, h2.1, Bool.and_self, true_and]
        omega
    have := l xs (by simpa [eqOk] using h)
    simp only [toPy, PyData.canLay0, PyData.depth]
    exact ⟨this.1, by omega⟩
  | n + 1, .ptup xs, h => by
    have l : ∀ ys : List D, (∀ y ∈ ys, eqOk n y = true) → PyData.canLayAll0 (toPyL ys) = true ∧ PyData.depthAll (toPyL ys) ≤ n := by
      intro ys
      induction ys with
      | nil => intro _; simp [toPyL, PyData.canLayAll0, PyData.depthAll]
      | cons y ys ih =>
        intro hy
        have h1 := eqOk_lay n y (hy y (List.mem_cons_self ..))
        have h2 := ih fun z hz => hy z (List.mem_cons_of_mem _ hz)
        simp only [toPyL, PyData.canLayAll0, PyData.depthAll, h1.1, h2.1, Bool.and_self, true_and]
        omega
    have := l xs (by simpa [eqOk] using h)
    simp only [toPy, PyData.canLay0, PyData.depth]
    exact ⟨this.1, by omega⟩
  | n, .str _, h => by cases n <;> simp [eqOk] at h
  | n, .dT _, h => by cases n <;> simp [eqOk] at h
  | n, .dK _, h => by cases n <;> simp [eqOk] at h
theorem eqOk_shaped {n : Nat} {d : D} (hn : n ≤ 60) (h : eqOk n d = true) : SeqAt.shaped (toPy d) = true := by
  obtain ⟨h1, h2⟩ := eqOk_lay n d h
  show ((toPy d).canLay0 && decide ((toPy d).depth ≤ 64)) = true
  rw [Bool.and_eq_true]
  exact ⟨h1, decide_eq_true (by omega)⟩
theorem deq_eqv : ∀ (n : Nat) (d e : D), eqOk n d = true → eqOk n e = true → PyData.eqv (toPy d) (toPy e) = deq n d e := by
  intro n
  induction n with
  | zero =>
    intro d e h1 h2
    cases d <;> first
      | (simp [eqOk] at h1; done)
      | (cases e <;> first
          | (simp [eqOk] at h2; done)
          | (simp [toPy, PyData.eqv, deq]; done)
          | (simp only [toPy, PyData.eqv, deq]; first | rfl | (rw [Bool.beq_eq_decide_eq])))
  | succ n ih =>
    have l : ∀ xs ys : List D, (∀ y ∈ xs, eqOk n y = true) → (∀ y ∈ ys, eqOk n y = true) → PyData.eqvAll (toPyL xs) (toPyL ys) = all2 (deq n) xs ys := by
      intro xs
      induction xs with
      | nil => intro ys _ _; cases ys <;> simp [toPyL, PyData.eqvAll, all2]
      | cons x xs ihx =>
        intro ys hx hy
        cases ys with
        | nil => simp [toPyL, PyData.eqvAll, all2]
        | cons y ys =>
          simp only [toPyL, PyData.eqvAll, all2]
          rw [ih x y (hx x (List.mem_cons_self ..)) (hy y (List.mem_cons_self ..)), ihx ys (fun z hz => hx z (List.mem_cons_of_mem _ hz)) fun z hz => hy z (List.mem_cons_of_mem _ hz)]
    intro d e h1 h2
    cases d <;> first
      | (simp [eqOk] at h1; done)
      | (cases e <;> first
          | (simp [eqOk] at h2; done)
          | (simp only [toPy, PyData.eqv, deq]; exact l _ _ (by simpa [eqOk] using h1) (by simpa [eqOk] using h2))
          | (simp [toPy, PyData.eqv, deq]; done)
          | (simp only [toPy, PyData.eqv, deq]; first | rfl | (rw [Bool.beq_eq_decide_eq])))
mutual
theorem Rp.dp {K : PySem.W.Frag} {Hf H : Hp} (s : Same Hf H) : ∀ (d : D) (v : V), (toPy d).canLay0 = true → Rp Hf v d → Dp K H v (toPy d)
  | .none, _, _, h => by cases h; exact .non
  | .bool b, _, _, h => by cases h; exact .bl b
  | .int i, _, _, h => by cases h; exact .int i
  | .str x, _, _, h => by cases h; exact .str x
  | .list ds, _, c, h => by
    cases h with
    | lst h1 h2 => exact .lst (.inl (.inl (s _ _ h1))) (RpL.dp s ds _ (by simpa only [toPy, PyData.canLay0] using c) h2)
  | .tuple ds, _, c, h => by
    cases h with
    | tup h1 h2 => exact .tup (.inl (.inl (s _ _ h1))) (RpL.dp s ds _ (by simpa only [toPy, PyData.canLay0] using c) h2)
  | .ptup ds, _, c, h => by
    cases h with
    | ptup h1 hd h2 => exact .tup (.inl (.inr ⟨_, s _ _ h1⟩)) (RpL.dp s ds _ (by simpa only [toPy, PyData.canLay0] using c) h2)
  | .dT ds, _, c, h => by simp only [toPy, PyData.canLay0] at c; cases c
  | .dK ds, _, c, h => by simp only [toPy, PyData.canLay0] at c; cases c
theorem RpL.dp {K : PySem.W.Frag} {Hf H : Hp} (s : Same Hf H) : ∀ (ds : List D) (vs : List V), PyData.canLayAll0 (toPyL ds) = true → RpL Hf vs ds → DpAll K H vs (toPyL ds)
  | [], _, _, h => by cases h; exact .nil
  | d :: ds, _, c, h => by
    cases h with
    | cons h1 h2 =>
      simp only [toPyL, PyData.canLayAll0, Bool.and_eq_true] at c
      exact .cons (Rp.dp s d _ c.1 h1) (RpL.dp s ds _ c.2 h2)
end
theorem Rd1.dp {B : Bs} {K : PySem.W.Frag} {Hf H : Hp} {v : V} {d : D} (s : Same Hf H) (c : (toPy d).canLay0 = true) (r : Rd1 B Hf H v d) : Dp K H v (toPy d) := by
  cases r with
  | fz h => exact h.dp s _ _ c
  | tm _ _ t => cases t with
    | lst h r => exact .lst (.inl (.inl h)) (RpL.dp s _ _ (by simpa only [toPy, PyData.canLay0] using c) r)
    | dT h r => simp only [toPy, PyData.canLay0] at c; cases c
    | dK h r => simp only [toPy, PyData.canLay0] at c; cases c
/-! ### names, constants -/
def dVar (i : Nat) : Den := fun env ds => match env[i]? with
  | some (some (.val d)) => some (d, ds)
  | _ => none
def dRd (i : Nat) : Den := fun env ds => match env[i]? with
  | some (some (.val d)) => some (d, ds)
  | some (some (.own d)) => some (d, ds)
  | _ => none
def dC (d : D) : Den := fun _ ds => some (d, ds)
theorem dVar_eq {i : Nat} {env : En} {ds ds' : DS} {d : D} (h : dVar i env ds = some (d, ds')) : env[i]? = some (some (.val d)) ∧ ds' = ds := by
  unfold dVar at h
  split at h
  · rename_i e; cases h; exact ⟨e, rfl⟩
  · cases h
section
variable {X : Cx} {pos : Pos}
theorem evf_var (i : Nat) {x : Str} (hN : X.N[i]? = some x := by rfl) (hv : Vis X.env.scope x := by first | exact Or.inl rfl | exact Or.inr (Or.inl rfl) | exact Or.inr (Or.inr rfl)) (hd : (x == ("__debug__" : Str)) = false := by decide)
    (hcd : (x == ("__classdict__" : Str)) = false := by decide) : EvF X (.Name x pos) (dVar i) := fun B env ds σ Hf H d ds' S hf Q q => by
  obtain ⟨e, rfl⟩ := dVar_eq hf
  obtain ⟨v, e2, r⟩ := S.slots i _ e
  exact SE.of (pe_var hN hv hd hcd) ⟨v, e2, q.now S r⟩
theorem evr_var (i : Nat) {x : Str} (hN : X.N[i]? = some x := by rfl) (hv : Vis X.env.scope x := by first | exact Or.inl rfl | exact Or.inr (Or.inl rfl) | exact Or.inr (Or.inr rfl)) (hd : (x == ("__debug__" : Str)) = false := by decide)
    (hcd : (x == ("__classdict__" : Str)) = false := by decide) : EvR X (.Name x pos) (dRd i) := fun B env ds σ Hf H d ds' S hf Q q => by
  unfold dRd at hf
  split at hf
  · rename_i e
    cases hf
    obtain ⟨v, e2, r⟩ := S.slots i _ e
    exact SE.of (pe_var hN hv hd hcd) ⟨v, e2, q v Hf H Gr.refl S (.fz r)⟩
  · rename_i e
    cases hf
    obtain ⟨a, e2, n1, n2, n3, t⟩ := S.slots i _ e
    exact SE.of (pe_var hN hv hd hcd) ⟨_, e2, q _ Hf H Gr.refl S (.tm n1 n3 t)⟩
  · cases hf
theorem evf_int {i : Int} {j : Nat} : EvF X (.Constant (.int i) j pos) (dC (.int i)) := fun B env ds σ Hf H d ds' S hf Q q => by
  cases hf
  exact SE.of pe_int (q.now S (.int i))
theorem evf_bl {b : Bool} {j : Nat} : EvF X (.Constant (.bool b) j pos) (dC (.bool b)) := fun B env ds σ Hf H d ds' S hf Q q => by
  cases hf
  exact SE.of pe_bl (q.now S (.bl b))
theorem evf_non {j : Nat} : EvF X (.Constant .none j pos) (dC .none) := fun B env ds σ Hf H d ds' S hf Q q => by
  cases hf
  exact SE.of pe_non (q.now S .non)
theorem evf_str {x : Str} {j : Nat} : EvF X (.Constant (.str x) j pos) (dC (.str x)) := fun B env ds σ Hf H d ds' S hf Q q => by
  cases hf
  exact SE.of pe_str (q.now S (.str x))
theorem evf_glob {x : Str} {n : Int} (hm : ∃ t, X.mg x = some (.int n t)) (hg : Gl X x := by rfl) (hd : (x == ("__debug__" : Str)) = false := by decide) : EvF X (.Name x pos) (dC (.int n)) := fun B env ds σ Hf H d ds' S hf Q q => by
  cases hf
  obtain ⟨t, hm⟩ := hm
  exact SE.of (pe_glob (v := .int n) hg hm ⟨t, rfl⟩ hd) (q.now S (.int n))
end
/-! ### two operands -/
def d1 (g : D → Option D) (f : Den) : Den := fun env ds => bnd (f env ds) fun a s => op1 (g a) s
def d2 (g : D → D → Option D) (f h : Den) : Den := fun env ds => bnd (f env ds) fun a s => bnd (h env s) fun b s' => op1 (g a b) s'
def R2F (X : Cx) (r : R2) (g : D → D → Option D) : Prop := ∀ B env ds σ Hf H d1 d2 d x y Q, SR B X.K env ds σ Hf H → Rd1 B Hf H x d1 → Rd1 B Hf H y d2 → g d1 d2 = some d → CF B X.K env ds σ Hf H d Q → r x y H Q
def R2N (X : Cx) (r : R2) (g : D → D → Option D) : Prop := ∀ B env ds σ Hf H d1 d2 d x y Q, SR B X.K env ds σ Hf H → Rd1 B Hf H x d1 → Rd1 B Hf H y d2 → g d1 d2 = some d → CN B X.K env ds σ Hf H d Q → r x y H Q
section
variable {X : Cx} {a b c : Expr} {pos : Pos} {f h k : Den} {r : R2} {g : D → D → Option D}
theorem ev2 (ha : EvR X a f) (hb : EvR X b h) {B env ds σ Hf H d ds'} {Q : VK} (S : SR B X.K env ds σ Hf H) (e : d2 g f h env ds = some (d, ds'))
    (q : ∀ d1 d2 x y Hf' H', Gr B Hf H Hf' H' → SR B X.K env ds' σ Hf' H' → Rd1 B Hf' H' x d1 → Rd1 B Hf' H' y d2 → g d1 d2 = some d → r x y H' Q) : tOp r (SE X a) (SE X b) σ H Q := by
  obtain ⟨v1, s1, e1, e⟩ := bnd_eq e
  obtain ⟨v2, s2, e2, e⟩ := bnd_eq e
  obtain ⟨e3, rfl⟩ := op1_eq e
  refine ha B env ds σ Hf H _ _ S e1 _ fun x Hf1 H1 g1 S1 r1 => ?_
  refine hb B env s1 σ Hf1 H1 _ _ S1 e2 _ fun y Hf2 H2 g2 S2 r2 => ?_
  exact q _ _ _ _ _ _ (g1.trans g2) S2 (r1.up g2) r2 e3
theorem evf_op {op : Operator} (ho : OpR X (binaryOp op) r) (hr : R2F X r g) (ha : EvR X a f) (hb : EvR X b h) : EvF X (.BinOp a op b pos) (d2 g f h) := fun B env ds σ Hf H d ds' S hf Q q =>
  SE.of (pe_op ho (pe_se X a) (pe_se X b)) (ev2 ha hb S hf fun d1 d2 x y Hf' H' gr S' r1 r2 e => hr _ _ _ _ _ _ _ _ _ _ _ _ S' r1 r2 e (q.step gr))
theorem evn_op {op : Operator} (ho : OpR X (binaryOp op) r) (hr : R2N X r g) (ha : EvR X a f) (hb : EvR X b h) : EvN X (.BinOp a op b pos) (d2 g f h) := fun B env ds σ Hf H d ds' S hf Q q =>
  SE.of (pe_op ho (pe_se X a) (pe_se X b)) (ev2 ha hb S hf fun d1 d2 x y Hf' H' gr S' r1 r2 e => hr _ _ _ _ _ _ _ _ _ _ _ _ S' r1 r2 e (q.step gr))
theorem evf_cmp {op : CmpOp} (ho : OpR X (compareOp op) r) (hr : R2F X r g) (ha : EvR X a f) (hb : EvR X b h) (hm : behindInMarks op b = false) : EvF X (.Compare a [op] [b] pos) (d2 g f h) := fun B env ds σ Hf H d ds' S hf Q q =>
  SE.of (pe_cmpR ho (pe_se X a) (pe_se X b) hm) (ev2 ha hb S hf fun d1 d2 x y Hf' H' gr S' r1 r2 e => hr _ _ _ _ _ _ _ _ _ _ _ _ S' r1 r2 e (q.step gr))
/-- a bool for a test -/
def asB : D → Option Bool
  | .bool b => some b
  | _ => none
def dTest (f : Den) : DenT := fun env ds => bnd (f env ds) fun a s => op1 (asB a) s
theorem asB_eq {d : D} {b : Bool} (h : asB d = some b) : d = .bool b := by
  cases d <;> first | (cases h; rfl) | cases h
theorem dTest_eq {f : Den} {env ds ds'} {b : Bool} (h : dTest f env ds = some (b, ds')) : f env ds = some (.bool b, ds') := by
  obtain ⟨v, s, e1, e⟩ := bnd_eq h
  obtain ⟨e2, rfl⟩ := op1_eq e
  rw [asB_eq e2] at e1
  exact e1
theorem evt_cmp {op : CmpOp} (ho : OpR X (compareOp op) r) (hr : R2F X r g) (ha : EvR X a f) (hb : EvR X b h) (hm : behindInMarks op b = false) : EvT X (.Compare a [op] [b] pos) (dTest (d2 g f h)) := fun B env ds σ Hf H d ds' S hf Q q =>
  STt.of (pt_cmpR ho (pe_se X a) (pe_se X b) hm) (ev2 ha hb S (dTest_eq hf) fun d1 d2 x y Hf' H' gr S' r1 r2 e => hr _ _ _ _ _ _ _ _ _ _ _ _ S' r1 r2 e fun v Hf2 H2 g2 S2 rv => by
    cases rv
    exact ⟨_, rfl, q _ _ (gr.trans g2) S2⟩)
/-- a op b op c -/
def d3 (g g' : D → D → Option D) (f h k : Den) : Den := fun env ds => bnd (f env ds) fun a s => bnd (h env s) fun b s1 => match g a b with
  | some (.bool true) => bnd (k env s1) fun c s2 => op1 (g' b c) s2
  | some (.bool false) => some (.bool false, s1)
  | _ => none
theorem ev3 {r' : R2} {g' : D → D → Option D} (hr : R2F X r g) (hr' : R2F X r' g') (ha : EvR X a f) (hb : EvR X b h) (hc : EvR X c k) {B env ds σ Hf H d ds'} {Q : VK} (S : SR B X.K env ds σ Hf H) (e : d3 g g' f h k env ds = some (d, ds'))
    (q : CF B X.K env ds' σ Hf H d Q) : tChain r r' (SE X a) (SE X b) (SE X c) σ H Q := by
  obtain ⟨v1, s1, e1, e⟩ := bnd_eq e
  obtain ⟨v2, s2, e2, e⟩ := bnd_eq e
  refine ha B env ds σ Hf H _ _ S e1 _ fun x Hf1 H1 g1 S1 r1 => ?_
  refine hb B env s1 σ Hf1 H1 _ _ S1 e2 _ fun y Hf2 H2 g2 S2 r2 => ?_
  cases hg : g v1 v2 with
  | none => rw [hg] at e; cases e
  | some z =>
    rw [hg] at e
    refine hr _ _ _ _ _ _ _ _ _ _ _ _ S2 (r1.up g2) r2 hg fun v Hf3 H3 g3 S3 rv => ?_
    cases z with
    | bool t =>
      cases rv
      refine ⟨t, rfl, ?_⟩
      cases t with
      | true =>
        rw [if_pos rfl]
        obtain ⟨v3, s3, e3, e⟩ := bnd_eq e
        obtain ⟨e4, rfl⟩ := op1_eq e
        refine hc B env s2 σ Hf3 H3 _ _ S3 e3 _ fun w Hf4 H4 g4 S4 r4 => ?_
        exact hr' _ _ _ _ _ _ _ _ _ _ _ _ S4 ((r2.up g3).up g4) r4 e4 (q.step (((g1.trans g2).trans g3).trans g4))
      | false =>
        rw [if_neg Bool.false_ne_true]
        cases e
        exact q _ _ _ ((g1.trans g2).trans g3) S3 (.bl false)
    | _ => cases e
theorem evf_chain {op op' : CmpOp} {r' : R2} {g' : D → D → Option D} (ho : OpR X (compareOp op) r) (ho' : OpR X (compareOp op') r') (hr : R2F X r g) (hr' : R2F X r' g') (ha : EvR X a f) (hb : EvR X b h) (hc : EvR X c k) (hm : lastMarks [op, op'] [b, c] = false) :
    EvF X (.Compare a [op, op'] [b, c] pos) (d3 g g' f h k) := fun B env ds σ Hf H d ds' S hf Q q =>
  SE.of (pe_chain ho ho' (pe_se X a) (pe_se X b) (pe_se X c) hm) (ev3 hr hr' ha hb hc S hf q)
theorem evt_chain {op op' : CmpOp} {r' : R2} {g' : D → D → Option D} (ho : OpR X (compareOp op) r) (ho' : OpR X (compareOp op') r') (hr : R2F X r g) (hr' : R2F X r' g') (ha : EvR X a f) (hb : EvR X b h) (hc : EvR X c k) (hm : lastMarks [op, op'] [b, c] = false) :
    EvT X (.Compare a [op, op'] [b, c] pos) (dTest (d3 g g' f h k)) := fun B env ds σ Hf H d ds' S hf Q q =>
  STt.of (pt_chain ho ho' (pe_se X a) (pe_se X b) (pe_se X c) hm) (ev3 hr hr' ha hb hc S (dTest_eq hf) fun v Hf' H' gr S' rv => by
    cases rv
    exact ⟨_, rfl, q _ _ gr S'⟩)
end
/-! ### the operators -/
def gAdd : D → D → Option D
  | .int i, .int j => some (.int (i + j))
  | .tuple xs, .tuple ys => if xs.length + ys.length ≤ 100000 then some (.tuple (xs ++ ys)) else none
  | _, _ => none
def gCat : D → D → Option D
  | .list xs, .list ys => if xs.length + ys.length ≤ 100000 then some (.list (xs ++ ys)) else none
  | _, _ => none
def gRep : D → D → Option D
  | .list xs, .int k => if 0 ≤ k ∧ k < 1000 ∧ xs.length ≤ 1000 then some (.list (List.replicate k.toNat xs).flatten) else none
  | _, _ => none
def gSub : D → D → Option D
  | .int i, .int j => some (.int (i - j))
  | _, _ => none
def gMul : D → D → Option D
  | .int i, .int j => if (-(2 ^ 64) < i ∧ i < 2 ^ 64) ∨ (-(2 ^ 64) < j ∧ j < 2 ^ 64) then some (.int (i * j)) else none
  | _, _ => none
def gDiv : D → D → Option D
  | .int i, .int j => if 0 < j ∧ j < 1073741824 then some (.int (i / j)) else none
  | _, _ => none
def gMod : D → D → Option D
  | .int i, .int j => if 0 < j then some (.int (i % j)) else none
  | _, _ => none
def gCmp (p : Int → Int → Bool) : D → D → Option D
  | .int i, .int j => some (.bool (p i j))
  | _, _ => none
abbrev gLt := gCmp fun i j => decide (i < j)
abbrev gLe := gCmp fun i j => decide (i ≤ j)
abbrev gGt := gCmp fun i j => decide (j < i)
abbrev gGe := gCmp fun i j => decide (j ≤ i)
def gEqD : D → D → Option D := fun x y => if eqOk 8 x && eqOk 8 y then some (.bool (deq 8 x y)) else none
def gNeD : D → D → Option D := fun x y => if eqOk 8 x && eqOk 8 y then some (.bool (!deq 8 x y)) else none
def gIn : D → D → Option D
  | x, .list ys => if eqOk 8 x && ys.all (eqOk 8) then some (.bool (ys.any fun z => deq 8 z x)) else none
  | _, _ => none
def gNotIn : D → D → Option D
  | x, .list ys => if eqOk 8 x && ys.all (eqOk 8) then some (.bool (!ys.any fun z => deq 8 z x)) else none
  | _, _ => none
def gIsN : D → D → Option D
  | .none, .none => some (.bool true)
  | .bool _, .none | .int _, .none | .str _, .none | .list _, .none | .tuple _, .none | .ptup _, .none | .dT _, .none | .dK _, .none => some (.bool false)
  | _, _ => none
def gNotN : D → D → Option D
  | .none, .none => some (.bool false)
  | .bool _, .none | .int _, .none | .str _, .none | .list _, .none | .tuple _, .none | .ptup _, .none | .dT _, .none | .dK _, .none => some (.bool true)
  | _, _ => none
theorem sz_ok {n : Nat} (h : n ≤ 100000) : n ≤ sizeLine := Nat.le_trans h (by rw [sizeLine_eq]; decide)
section
variable {X : Cx}
def rAddA (K : PySem.W.Frag) : R2 := fun x y H Q => rI0 (fun i j => .int (i + j)) x y H Q ∨ rCatA K x y H Q
theorem op_addA : OpR X (binaryOp .Add) (rAddA X.K) := OpR.or op_add op_catA
theorem r2_add : R2F X (rAddA X.K) gAdd := fun B env ds σ Hf H d1 d2 d x y Q S r1 r2 e q => by
  unfold gAdd at e
  split at e
  · cases e
    cases r1.int; cases r2.int
    exact .inl ⟨_, _, rfl, rfl, q.now S (.int _)⟩
  · split at e
    · rename_i hz
      cases e
      obtain ⟨a, vs, rfl, h1, t1⟩ := r1.tup
      obtain ⟨b, ws, rfl, h2, t2⟩ := r2.tup
      have l1 := t1.length
      have l2 := t2.length
      refine .inr ⟨a, b, vs, ws, rfl, rfl, .inl (.inl (S.sub _ _ h1)), .inl (.inl (S.sub _ _ h2)), sz_ok (by omega), fun e1 => ?_, fun e1 e2 => ?_, fun _ _ => ?_⟩
      · subst e1
        cases t1
        exact q.now S (.tup h2 t2)
      · subst e2
        cases t2
        exact q.now S (by rw [List.append_nil]; exact .tup h1 t1)
      · exact q.tup S (t1.append t2)
    · cases e
  · cases e
theorem r2_sub : R2F X (rI0 fun i j => .int (i - j)) gSub := fun B env ds σ Hf H d1 d2 d x y Q S r1 r2 e q => by
  unfold gSub at e
  split at e
  · cases e
    cases r1.int; cases r2.int
    exact ⟨_, _, rfl, rfl, q.now S (.int _)⟩
  · cases e
theorem r2_mul : R2F X (rI CMul fun i j => .int (i * j)) gMul := fun B env ds σ Hf H d1 d2 d x y Q S r1 r2 e q => by
  unfold gMul at e
  split at e
  · split at e
    · rename_i hz
      cases e
      cases r1.int; cases r2.int
      exact ⟨_, _, rfl, rfl, hz, q.now S (.int _)⟩
    · cases e
  · cases e
theorem r2_div : R2F X (rI CDiv fun i j => .int (i / j)) gDiv := fun B env ds σ Hf H d1 d2 d x y Q S r1 r2 e q => by
  unfold gDiv at e
  split at e
  · split at e
    · rename_i hz
      cases e
      cases r1.int; cases r2.int
      exact ⟨_, _, rfl, rfl, hz, q.now S (.int _)⟩
    · cases e
  · cases e
theorem r2_mod : R2F X (rI (fun _ j => 0 < j) fun i j => .int (i % j)) gMod := fun B env ds σ Hf H d1 d2 d x y Q S r1 r2 e q => by
  unfold gMod at e
  split at e
  · split at e
    · rename_i hz
      cases e
      cases r1.int; cases r2.int
      exact ⟨_, _, rfl, rfl, hz, q.now S (.int _)⟩
    · cases e
  · cases e
theorem r2_cmp {p : Int → Int → Bool} : R2F X (rI0 fun i j => .bl (p i j)) (gCmp p) := fun B env ds σ Hf H d1 d2 d x y Q S r1 r2 e q => by
  unfold gCmp at e
  split at e
  · cases e
    cases r1.int; cases r2.int
    exact ⟨_, _, rfl, rfl, q.now S (.bl _)⟩
  · cases e
theorem r2_eqD : R2F X (rEqD X.K) gEqD := fun B env ds σ Hf H d1 d2 d x y Q S r1 r2 e q => by
  unfold gEqD at e
  split at e
  · rename_i hz
    rw [Bool.and_eq_true] at hz
    cases e
    refine ⟨_, _, r1.dp S.sub (eqOk_lay _ _ hz.1).1, r2.dp S.sub (eqOk_lay _ _ hz.2).1, eqOk_shaped (by decide) hz.1, eqOk_shaped (by decide) hz.2, ?_⟩
    rw [deq_eqv _ _ _ hz.1 hz.2]
    exact q.now S (.bl _)
  · cases e
theorem r2_neD : R2F X (rNeD X.K) gNeD := fun B env ds σ Hf H d1 d2 d x y Q S r1 r2 e q => by
  unfold gNeD at e
  split at e
  · rename_i hz
    rw [Bool.and_eq_true] at hz
    cases e
    refine ⟨_, _, r1.dp S.sub (eqOk_lay _ _ hz.1).1, r2.dp S.sub (eqOk_lay _ _ hz.2).1, eqOk_shaped (by decide) hz.1, eqOk_shaped (by decide) hz.2, ?_⟩
    rw [deq_eqv _ _ _ hz.1 hz.2]
    exact q.now S (.bl _)
  · cases e
theorem any_eqv {x : D} (hx : eqOk 8 x = true) : ∀ {ys : List D}, ys.all (eqOk 8) = true → ((toPyL ys).any fun z => PyData.eqv z (toPy x)) = ys.any fun z => deq 8 z x
  | [], _ => rfl
  | y :: ys, h => by
    simp only [List.all_cons, Bool.and_eq_true] at h
    simp only [toPyL, List.any_cons]
    rw [deq_eqv 8 _ _ h.1 hx, any_eqv hx h.2]
theorem list_ok {ys : List D} (h : ys.all (eqOk 8) = true) : eqOk 9 (.list ys) = true := h
theorem r2_in : R2F X (rInD X.K) gIn := fun B env ds σ Hf H d1 d2 d x y Q S r1 r2 e q => by
  unfold gIn at e
  split at e
  · split at e
    · rename_i hz
      rw [Bool.and_eq_true] at hz
      cases e
      have r2' := r2.dp (K := X.K) S.sub (eqOk_lay _ _ (list_ok hz.2)).1
      simp only [toPy] at r2'
      refine ⟨_, _, r1.dp S.sub (eqOk_lay _ _ hz.1).1, r2', eqOk_shaped (by decide) hz.1, by have := eqOk_shaped (by decide) (list_ok hz.2); simpa only [toPy] using this, ?_⟩
      rw [any_eqv hz.1 hz.2]
      exact q.now S (.bl _)
    · cases e
  · cases e
theorem r2_notIn : R2F X (rNotInD X.K) gNotIn := fun B env ds σ Hf H d1 d2 d x y Q S r1 r2 e q => by
  unfold gNotIn at e
  split at e
  · split at e
    · rename_i hz
      rw [Bool.and_eq_true] at hz
      cases e
      have r2' := r2.dp (K := X.K) S.sub (eqOk_lay _ _ (list_ok hz.2)).1
      simp only [toPy] at r2'
      refine ⟨_, _, r1.dp S.sub (eqOk_lay _ _ hz.1).1, r2', eqOk_shaped (by decide) hz.1, by have := eqOk_shaped (by decide) (list_ok hz.2); simpa only [toPy] using this, ?_⟩
      rw [any_eqv hz.1 hz.2]
      exact q.now S (.bl _)
    · cases e
  · cases e
theorem Rd1.notNon {B : Bs} {Hf H : Hp} {v : V} {d : D} (r : Rd1 B Hf H v d) (h : d ≠ .none) : v ≠ .non := by
  cases r with
  | fz r => cases r <;> first | exact absurd rfl h | (intro z; cases z)
  | tm _ _ _ => intro z; cases z
theorem r2_isN : R2F X (fun x y H Q => y = .non ∧ Q (.bl (decide (x = .non))) H) gIsN := fun B env ds σ Hf H d1 d2 d x y Q S r1 r2 e q => by
  unfold gIsN at e
  split at e
  · cases e; cases r1.non; cases r2.non
    exact ⟨rfl, q.now S (.bl true)⟩
  all_goals first
    | (cases e
       cases r2.non
       refine ⟨rfl, ?_⟩
       rw [decide_eq_false (r1.notNon (by intro z; cases z))]
       exact q.now S (.bl false))
    | cases e
theorem r2_notN : R2F X (fun x y H Q => y = .non ∧ Q (.bl (!decide (x = .non))) H) gNotN := fun B env ds σ Hf H d1 d2 d x y Q S r1 r2 e q => by
  unfold gNotN at e
  split at e
  · cases e; cases r1.non; cases r2.non
    exact ⟨rfl, q.now S (.bl false)⟩
  all_goals first
    | (cases e
       cases r2.non
       refine ⟨rfl, ?_⟩
       rw [decide_eq_false (r1.notNon (by intro z; cases z))]
       exact q.now S (.bl true))
    | cases e
theorem r2_cat : R2N X rCat gCat := fun B env ds σ Hf H d1 d2 d x y Q S r1 r2 e q => by
  unfold gCat at e
  split at e
  · split at e
    · rename_i hz
      cases e
      obtain ⟨a, vs, rfl, h1, t1⟩ := r1.lst S.sub
      obtain ⟨b, ws, rfl, h2, t2⟩ := r2.lst S.sub
      have l1 := t1.length
      have l2 := t2.length
      exact ⟨a, b, vs, ws, rfl, rfl, h1, h2, sz_ok (by omega), q.lst S (t1.append t2)⟩
    · cases e
  · cases e
theorem RpL.rep {Hf : Hp} {vs : List V} {xs : List D} (t : RpL Hf vs xs) : ∀ n : Nat, RpL Hf (List.replicate n vs).flatten (List.replicate n xs).flatten
  | 0 => .nil
  | n + 1 => by
    rw [List.replicate_succ, List.replicate_succ, List.flatten_cons, List.flatten_cons]
    exact t.append (RpL.rep t n)
theorem r2_rep : R2N X rRep gRep := fun B env ds σ Hf H d1 d2 d x y Q S r1 r2 e q => by
  unfold gRep at e
  split at e
  · split at e
    · rename_i k hz
      cases e
      obtain ⟨a, vs, rfl, h1, t1⟩ := r1.lst S.sub
      cases r2.int
      have l1 := t1.length
      refine ⟨a, _, vs, rfl, rfl, h1, by omega, by omega, ?_, q.lst S (t1.rep _)⟩
      have h3 : vs.length * k.toNat ≤ 1000 * 1000 := Nat.mul_le_mul (by omega) (by omega)
      rw [sizeLine_eq]; omega
    · cases e
  · cases e
end
end L2.Dn
set_option Elab.async false
set_option linter.all false
set_option maxRecDepth 100000
/-! rules of the hand layer's make that it lacks -/
namespace L2.Dn
open PySem PySem.Spec PyProof.Rows PySem.W
/-! ### t[::-1] of a tuple -/
section
variable {prog : Program} {w : World} {A : Around} {E : Value → Shared → Prop} {s : Shared}
theorem adjust_rev (n : Nat) : Builtin.Slice.sliceAdjust none none (-1) (n : Int) = ((n : Int) - 1, -1) := by
  unfold Builtin.Slice.sliceAdjust
  simp
theorem places_rev (n : Nat) : Builtin.Slice.slicePlaces ((n : Int) - 1) (-1) (-1) = n := by
  unfold Builtin.Slice.slicePlaces
  have h1 : ¬ ((-1 : Int) > 0) := by decide
  simp only [h1, if_false, show (- -1 : Int) = 1 by decide, Int.ediv_one]
  split <;> omega
theorem pick_rev (xs : Array Value) : ((List.range xs.size).filterMap fun (m : Nat) => xs[((xs.size : Int) - 1 + (m : Int) * (-1)).toNat]?).toArray = xs.toList.reverse.toArray := by
  have e : ((List.range xs.size).filterMap fun (m : Nat) => xs[((xs.size : Int) - 1 + (m : Int) * (-1)).toNat]?) = ((List.range xs.size).map fun k => xs.size - 1 - k).filterMap (xs[·]?) := by
    rw [List.filterMap_map]
    congr 1
    funext m
    show xs[((xs.size : Int) - 1 + (m : Int) * (-1)).toNat]? = xs[xs.size - 1 - m]?
    by_cases h : m ≤ xs.size - 1
    · rw [show ((xs.size : Int) - 1 + (m : Int) * (-1)).toNat = xs.size - 1 - m by omega]
    · rw [show ((xs.size : Int) - 1 + (m : Int) * (-1)).toNat = xs.size - 1 - m by omega]
  rw [e, krv_range, List.filterMap_reverse, krv_all]
theorem getItem_tuple_rev {t sl : Addr} {items : Array Value} {vl vu vs : Value} {Q : Value → Shared → Prop} (ht : IsTup s.heap t items) (hs : s.heap.IsSliceOf sl vl vu vs) (pl : IsPart vl none) (pu : IsPart vu none) (ps : IsPart vs (some (-1)))
    (h : Q (.ref s.heap.objs.size) { s with heap := s.heap.push { cls := .type "tuple", data := .seq items.toList.reverse.toArray } })
    (hsz : items.size ≤ sizeLine) : wpAny (model prog w) A (getItem (.ref t) (.ref sl)) Q E s := by
  have htake : sizeOk (.seq items.toList.reverse.toArray) := by
    show items.toList.reverse.toArray.size ≤ sizeLine
    rw [List.size_toArray, List.length_reverse, Array.length_toList]
    exact hsz
  obtain ⟨os, hos, hcs, hds⟩ := id hs
  have hTs : s.TypeIs (.ref sl) "slice" := ⟨os, hos, hcs⟩
  unfold getItem
  try with_reducible refine wpAny_holding ?_
  first | refine wpAny_bind (wpAny_pure ?_) | skip
  refine wpAny_bind (wpAny_sequenceKey ht.typeIs (by decide) ?_)
  refine wpAny_bind (wpAny_callSpecial?_slot (name := Str.ofString "__getitem__") ht.typeIs PyProof.Rows.slot_tuple_getitem
    (wpAny_call_entry PyProof.Rows.slot_tuple_getitem ht.typeIs entry_tuple_getitem ?_ (args_tuple_getitem _ _)))
  show wpAny _ _ (Builtin.Tuple.tupleItemsOf (.ref t) >>= _) _ _ s
  refine wpAny_bind (tupleItemsOf_ ht ?_)
  refine wpAny_bind (wpAny_typeOf hTs ?_)
  rw [if_pos (by decide)]
  refine wpAny_bind ?_
  · unfold Builtin.Slice.sliceApplied Builtin.Slice.sliceFields
    refine wpAny_bind (wpAny_bind (wpAny_field hos hds (x := vl) rfl (wpAny_bind (wpAny_field hos hds (x := vu) rfl (wpAny_bind (wpAny_field hos hds (x := vs) rfl (wpAny_pure ?_)))))))
    refine wpAny_bind (HT.slicePart_ ps ?_)
    show wpAny _ _ (if ((-1 : Int) == 0) = true then _ else _) _ _ s
    rw [if_neg (by decide)]
    refine wpAny_bind (HT.slicePart_ pl (wpAny_bind (HT.slicePart_ pu (wpAny_bind (wpAny_pure ?_)))))
    show wpAny _ _ (match Builtin.Slice.sliceAdjust none none (-1) (items.size : Int) with | (lo, hi) => pure (lo, (-1 : Int), Builtin.Slice.slicePlaces lo hi (-1))) _ _ s
    rw [adjust_rev]
    show wpAny _ _ (pure ((items.size : Int) - 1, (-1 : Int), Builtin.Slice.slicePlaces ((items.size : Int) - 1) (-1) (-1))) _ _ s
    rw [places_rev]
    refine wpAny_pure ?_
    have hno : ¬ ((((items.size : Int) - 1) == 0 && (-1 : Int) == 1 && items.size == items.size) = true) := by
      intro q
      rw [Bool.and_eq_true, Bool.and_eq_true] at q
      exact absurd q.1.2 (by decide)
    show wpAny _ _ (if (((items.size : Int) - 1) == 0 && (-1 : Int) == 1 && items.size == items.size) = true then _ else _) _ _ s
    rw [if_neg hno, pick_rev]
    first
      | exact wpAny_bind (m := Builtin.Tuple.tupleExact _) (wpAny_newObj_type (wpAny_pure ⟨_, rfl, wpAny_pure h⟩) htake)
      | exact wpAny_bind (m := Builtin.Tuple.tupleExact _) (wpAny_newObj_type (wpAny_bind (wpAny_pure (wpAny_pure ⟨_, rfl, wpAny_pure h⟩))) htake)
      | exact wpAny_bind (wpAny_bind (m := Builtin.Tuple.tupleExact _) (wpAny_newObj_type (wpAny_pure (wpAny_pure ⟨_, rfl, wpAny_pure h⟩)) htake))
      | exact wpAny_bind (wpAny_bind (m := Builtin.Tuple.tupleExact _) (wpAny_newObj_type (wpAny_pure ⟨_, rfl, wpAny_pure h⟩) htake))
end
section
variable {X : Cx}
def tRevT (K : PySem.W.Frag) (te : TE) : TE := fun σ H Q => te σ H fun x H1 => ∃ a xs, x = .ref a ∧ SqT K H1 a xs ∧ ∀ p, H1 p = none → Q (.ref p) (upd H1 p (.tup xs.reverse))
theorem pe_revT {e : Expr} {te : TE} {k : Nat} {p1 p2 p3 pos : Pos} (he : PE X e te) : PE X (.Subscript e (.Slice none none (some (.UnaryOp .USub (.Constant (.int 1) k p1) p2)) p3) pos) (tRevT X.K te) := by
  refine ⟨fun pins s σ H Q I h => ?_⟩
  refine Subscript_ (thn (he.run pins s σ H _ I h) fun v s1 ⟨x, H1, I1, r1, q1⟩ => ?_)
  obtain ⟨a, xs, ex, hx, q⟩ := q1
  subst ex
  cases r1
  have hst : PO X (some (.UnaryOp .USub (.Constant (.int 1) k p1) p2)) (tPart (tUn (rU fun i => .int (-i)) (tC (.int 1)))) := po_some (pe_un un_neg pe_int)
  refine wpAny_Slice (thn (po_none.run pins s1 σ H1 (fun o H2 => o = none ∧ H2 = H1) I1 ⟨rfl, rfl⟩) fun vl s2 ⟨l, H2, I2, pl, el, e2⟩ => ?_)
  subst el e2
  refine thn (po_none.run pins s2 σ H2 (fun o H3 => o = none ∧ H3 = H2) I2 ⟨rfl, rfl⟩) fun vu s3 ⟨u, H3, I3, pu, eu, e3⟩ => ?_
  subst eu e3
  refine thn (hst.run pins s3 σ H3 (fun o H4 => o = some (-1) ∧ H4 = H3) I3 ⟨1, rfl, -1, rfl, rfl, rfl⟩) fun vs s4 ⟨o, H4, I4, ps, eo, e4⟩ => ?_
  subst eo e4
  have I5 : Inv X pins σ H4 { s4 with heap := s4.heap.push { cls := .type "slice", data := .fields #[vl, vu, vs] } } := I4.kept (t' := s4.toks) fun b ob q => Heap.get?_push_of_some _ q
  obtain ⟨its, r, ht, hz⟩ := I5.tuple hx
  have hlen := r.length
  show wpAny (model X.prog X.w) X.A (subscriptTail e (.Slice none none (some (.UnaryOp .USub (.Constant (.int 1) k p1) p2)) p3) (.ref a) (.ref s4.heap.objs.size)) (EP X pins σ Q) X.xe { s4 with heap := s4.heap.push { cls := .type "slice", data := .fields #[vl, vu, vs] } }
  refine tail_any (ops := [.ref a, .ref s4.heap.objs.size]) ht.typeIs (PyProof.Rows.slot_tuple_getitem.lookup) ?_ (by with_unfolding_all rfl)
  refine getItem_tuple_rev ht (Heap.IsSliceOf.new _ vl vu vs) pl pu ps ?_ (by rw [List.size_toArray]; omega)
  refine ⟨.ref _, _, I5.laid (t' := s4.toks) (o := .tup xs.reverse) (fun b ob q => Heap.get?_push_of_some _ q) (Nat.le_refl _) ?_, rfl, q _ (I5.hok.fresh (Nat.le_refl _))⟩
  exact ⟨by rw [List.length_reverse]; exact hz, _, r.reverse, IsTup.new _ _⟩
end
end L2.Dn
set_option Elab.async false
set_option linter.all false
set_option maxRecDepth 100000
namespace L2.Dn
open PySem PySem.Spec PyProof.Rows
/-! ### keys, tables -/
def beqK : Key → Key → Bool
  | .inl i, .inl j => decide (i = j)
  | .inr x, .inr y => decide (x = y)
  | _, _ => false
def beqKs : List Key → List Key → Bool
  | [], [] => true
  | a :: r, b :: t => beqK a b && beqKs r t
  | _, _ => false
theorem beqK_eq (a b : Key) : beqK a b = decide (a = b) := by
  cases a <;> cases b <;> simp [beqK]
theorem beqKs_eq : ∀ (a b : List Key), beqKs a b = decide (a = b)
  | [], [] => rfl
  | [], _ :: _ => by simp [beqKs]
  | _ :: _, [] => by simp [beqKs]
  | a :: r, b :: t => by
    simp only [beqKs, beqK_eq, beqKs_eq r t]
    by_cases h1 : a = b
    · by_cases h2 : r = t
      · simp [h1, h2]
      · simp [h1, h2]
    · simp [h1]
def lookT (kds : List (List Key × D)) (k : List Key) : Option D := match kds with
  | [] => none
  | (k', d) :: r => match beqKs k' k with
    | true => some d
    | false => lookT r k
def lookK (kds : List (Key × D)) (k : Key) : Option D := match kds with
  | [] => none
  | (k', d) :: r => match beqK k' k with
    | true => some d
    | false => lookK r k
def hasT (kds : List (List Key × D)) (k : List Key) : Bool := match kds with
  | [] => false
  | (k', _) :: r => match beqKs k' k with
    | true => true
    | false => hasT r k
def hasK (kds : List (Key × D)) (k : Key) : Bool := match kds with
  | [] => false
  | (k', _) :: r => match beqK k' k with
    | true => true
    | false => hasK r k
theorem hasT_none : ∀ {kds : List (List Key × D)} {k : List Key}, hasT kds k = false → lookT kds k = none
  | [], _, _ => rfl
  | (k', d) :: r, k, h => by
    unfold hasT at h
    unfold lookT
    cases e : beqKs k' k with
    | true => rw [e] at h; cases h
    | false => rw [e] at h; exact hasT_none h
theorem RpT.look {Hf : Hp} {k : List Key} : ∀ {kvs : List (List Key × V)} {ds : List (List Key × D)}, RpT Hf kvs ds → (∀ d, lookT ds k = some d → ∃ v, valV kvs k = some v ∧ Rp Hf v d) ∧ (lookT ds k = none → valV kvs k = none)
  | _, _, .nil => ⟨fun d h => (by cases h), fun _ => rfl⟩
  | _, _, .cons (k := k') (v := v) (d := d) (kvs := kvs) (ds := ds) h t => by
    have ih := RpT.look (k := k) t
    unfold lookT
    rw [beqKs_eq]
    by_cases e : k' = k
    · rw [decide_eq_true e]
      refine ⟨fun d' hd => ?_, fun hd => (by cases hd)⟩
      cases hd
      exact ⟨v, valV_pos (k := k) e, h⟩
    · rw [decide_eq_false e]
      rw [valV_neg (k := k) (p := (k', v)) e]
      exact ih
theorem RpK.look {Hf : Hp} {k : Key} : ∀ {kvs : List (Key × V)} {ds : List (Key × D)}, RpK Hf kvs ds → (∀ d, lookK ds k = some d → ∃ v, valV kvs k = some v ∧ Rp Hf v d) ∧ (lookK ds k = none → valV kvs k = none)
  | _, _, .nil => ⟨fun d h => (by cases h), fun _ => rfl⟩
  | _, _, .cons (k := k') (v := v) (d := d) (kvs := kvs) (ds := ds) h t => by
    have ih := RpK.look (k := k) t
    unfold lookK
    rw [beqK_eq]
    by_cases e : k' = k
    · rw [decide_eq_true e]
      refine ⟨fun d' hd => ?_, fun hd => (by cases hd)⟩
      cases hd
      exact ⟨v, valV_pos (k := k) e, h⟩
    · rw [decide_eq_false e]
      rw [valV_neg (k := k) (p := (k', v)) e]
      exact ih
def replT (kds : List (List Key × D)) (k : List Key) (x : D) : List (List Key × D) := match kds with
  | [] => []
  | (k', d) :: r => match beqKs k' k with
    | true => (k', x) :: replT r k x
    | false => (k', d) :: replT r k x
def putT (kds : List (List Key × D)) (k : List Key) (x : D) : List (List Key × D) := match hasT kds k with
  | true => replT kds k x
  | false => kds ++ [(k, x)]
def replK (kds : List (Key × D)) (k : Key) (x : D) : List (Key × D) := match kds with
  | [] => []
  | (k', d) :: r => match beqK k' k with
    | true => (k', x) :: replK r k x
    | false => (k', d) :: replK r k x
def putKD (kds : List (Key × D)) (k : Key) (x : D) : List (Key × D) := match hasK kds k with
  | true => replK kds k x
  | false => kds ++ [(k, x)]
theorem RpT.length {Hf : Hp} : ∀ {kvs : List (List Key × V)} {ds : List (List Key × D)}, RpT Hf kvs ds → kvs.length = ds.length
  | _, _, .nil => rfl
  | _, _, .cons _ t => congrArg Nat.succ (RpT.length t)
theorem RpK.length {Hf : Hp} : ∀ {kvs : List (Key × V)} {ds : List (Key × D)}, RpK Hf kvs ds → kvs.length = ds.length
  | _, _, .nil => rfl
  | _, _, .cons _ t => congrArg Nat.succ (RpK.length t)
theorem RpT.has {Hf : Hp} {k : List Key} : ∀ {kvs : List (List Key × V)} {ds : List (List Key × D)}, RpT Hf kvs ds → (kvs.any fun kv => decide (kv.1 = k)) = hasT ds k
  | _, _, .nil => rfl
  | _, _, .cons (k := k') h t => by
    have ih := RpT.has (k := k) t
    unfold hasT
    rw [beqKs_eq, List.any_cons, ih]
    by_cases e : k' = k
    · simp [e]
    · simp [e]
theorem RpK.has {Hf : Hp} {k : Key} : ∀ {kvs : List (Key × V)} {ds : List (Key × D)}, RpK Hf kvs ds → (kvs.any fun kv => decide (kv.1 = k)) = hasK ds k
  | _, _, .nil => rfl
  | _, _, .cons (k := k') h t => by
    have ih := RpK.has (k := k) t
    unfold hasK
    rw [beqK_eq, List.any_cons, ih]
    by_cases e : k' = k
    · simp [e]
    · simp [e]
theorem RpT.append {Hf : Hp} : ∀ {kvs kvs' : List (List Key × V)} {ds ds' : List (List Key × D)}, RpT Hf kvs ds → RpT Hf kvs' ds' → RpT Hf (kvs ++ kvs') (ds ++ ds')
  | _, _, _, _, .nil, h => h
  | _, _, _, _, .cons h t, h2 => .cons h (RpT.append t h2)
theorem RpK.append {Hf : Hp} : ∀ {kvs kvs' : List (Key × V)} {ds ds' : List (Key × D)}, RpK Hf kvs ds → RpK Hf kvs' ds' → RpK Hf (kvs ++ kvs') (ds ++ ds')
  | _, _, _, _, .nil, h => h
  | _, _, _, _, .cons h t, h2 => .cons h (RpK.append t h2)
theorem RpT.repl {Hf : Hp} {k : List Key} {x : D} {y : V} (r : Rp Hf y x) : ∀ {kvs : List (List Key × V)} {ds : List (List Key × D)}, RpT Hf kvs ds → RpT Hf (kvs.map fun kv => if kv.1 = k then (kv.1, y) else kv) (replT ds k x)
  | _, _, .nil => .nil
  | _, _, .cons (k := k') h t => by
    have ih := RpT.repl (k := k) r t
    unfold replT
    rw [beqKs_eq, List.map_cons]
    by_cases e : k' = k
    · rw [decide_eq_true e, if_pos e]; exact .cons r ih
    · rw [decide_eq_false e, if_neg e]; exact .cons h ih
theorem RpK.repl {Hf : Hp} {k : Key} {x : D} {y : V} (r : Rp Hf y x) : ∀ {kvs : List (Key × V)} {ds : List (Key × D)}, RpK Hf kvs ds → RpK Hf (kvs.map fun kv => if kv.1 = k then (kv.1, y) else kv) (replK ds k x)
  | _, _, .nil => .nil
  | _, _, .cons (k := k') h t => by
    have ih := RpK.repl (k := k) r t
    unfold replK
    rw [beqK_eq, List.map_cons]
    by_cases e : k' = k
    · rw [decide_eq_true e, if_pos e]; exact .cons r ih
    · rw [decide_eq_false e, if_neg e]; exact .cons h ih
theorem RpT.put {Hf : Hp} {k : List Key} {x : D} {y : V} {kvs : List (List Key × V)} {ds : List (List Key × D)} (t : RpT Hf kvs ds) (r : Rp Hf y x) : RpT Hf (putK kvs k y) (putT ds k x) := by
  unfold putT putK
  rw [t.has]
  cases hasT ds k with
  | true => rw [if_pos rfl]; exact t.repl r
  | false => rw [if_neg Bool.false_ne_true]; exact t.append (.cons r .nil)
theorem RpK.put {Hf : Hp} {k : Key} {x : D} {y : V} {kvs : List (Key × V)} {ds : List (Key × D)} (t : RpK Hf kvs ds) (r : Rp Hf y x) : RpK Hf (putK kvs k y) (putKD ds k x) := by
  unfold putKD putK
  rw [t.has]
  cases hasK ds k with
  | true => rw [if_pos rfl]; exact t.repl r
  | false => rw [if_neg Bool.false_ne_true]; exact t.append (.cons r .nil)
def key1? : D → Option Key
  | .int i => some (.inl i)
  | .str x => some (.inr x)
  | _ => none
def keys? : List D → Option (List Key)
  | [] => some []
  | d :: r => match key1? d with
    | none => none
    | some k => match keys? r with
      | none => none
      | some ks => some (k :: ks)
def keyOf? : D → Option (List Key)
  | .tuple ds => keys? ds
  | _ => none
theorem key1_rp {Hf : Hp} {v : V} {d : D} {k : Key} (r : Rp Hf v d) (h : key1? d = some k) : v = kV k := by
  cases r <;> first
    | (cases h; rfl)
    | cases h
theorem keys_rp {Hf : Hp} : ∀ {vs : List V} {ds : List D} {k : List Key}, RpL Hf vs ds → keys? ds = some k → vs = k.map kV
  | _, _, _, .nil, h => by cases h; rfl
  | _, _, k, .cons (d := d) (ds := ds) r t, h => by
    unfold keys? at h
    cases e1 : key1? d with
    | none => rw [e1] at h; cases h
    | some k1 =>
      cases e2 : keys? ds with
      | none => rw [e1, e2] at h; cases h
      | some ks =>
        rw [e1, e2] at h
        cases h
        rw [List.map_cons, key1_rp r e1, keys_rp t e2]
/-- a key that may be read: its tuple stays -/
theorem keyOf_rd {B : Bs} {Hf H : Hp} {v : V} {d : D} {k : List Key} (r : Rd1 B Hf H v d) (h : keyOf? d = some k) : ∃ b, v = .ref b ∧ Hf b = some (.tup (k.map kV)) := by
  cases d with
  | tuple ds =>
    obtain ⟨a, vs, rfl, e, t⟩ := r.tup
    have := keys_rp t (show keys? ds = some k from h)
    subst this
    exact ⟨a, rfl, e⟩
  | _ => cases h
theorem key1_rd {B : Bs} {Hf H : Hp} {v : V} {d : D} {k : Key} (r : Rd1 B Hf H v d) (h : key1? d = some k) : v = kV k := by
  cases r with
  | fz r => exact key1_rp r h
  | tm _ _ t => cases t <;> cases h
theorem key_rp {Hf : Hp} : ∀ {k : List Key}, RpL Hf (k.map kV) (k.map keyD)
  | [] => .nil
  | .inl i :: r => .cons (.int i) key_rp
  | .inr x :: r => .cons (.str x) key_rp
/-! ### subscripts -/
def gIx : D → D → Option D
  | .list xs, .int i => atI xs i
  | .tuple xs, .int i => atI xs i
  | .ptup xs, .int i => atI xs i
  | .dT kds, k => match keyOf? k with
    | some k => lookT kds k
    | none => none
  | .dK kds, k => match key1? k with
    | some k => lookK kds k
    | none => none
  | _, _ => none
theorem RpL.at {Hf : Hp} {vs : List V} {ds : List D} {i : Int} {d : D} (t : RpL Hf vs ds) (h : atI ds i = some d) : ∃ v, atI vs i = some v ∧ Rp Hf v d := by
  unfold atI at h ⊢
  rw [t.length]
  cases e : ixN ds.length i with
  | none => rw [e] at h; cases h
  | some j =>
    rw [e] at h
    exact t.get h
section
variable {X : Cx} {a b c : Expr} {pos : Pos} {f h k : Den}
theorem evf_ix (hu : X.A.units + 1 < cLine) (ha : EvR X a f) (hb : EvR X b h) (hs : PlainIx b := by first | exact fun _ _ => rfl | exact fun _ _ => by with_unfolding_all rfl) : EvF X (.Subscript a b pos) (d2 gIx f h) := fun B env ds σ Hf H d ds' S hf Q q => by
  obtain ⟨v1, s1, e1, e⟩ := bnd_eq hf
  obtain ⟨v2, s2, e2, e⟩ := bnd_eq e
  obtain ⟨e3, rfl⟩ := op1_eq e
  unfold gIx at e3
  split at e3
  · refine SE.of (pe_ix (r := rIxL X.K) ix_list (pe_se X a) (pe_se X b) hs) ?_
    refine ha B env ds σ Hf H _ _ S e1 _ fun x Hf1 H1 g1 S1 r1 => hb B env s1 σ Hf1 H1 _ _ S1 e2 _ fun y Hf2 H2 g2 S2 r2 => ?_
    obtain ⟨p, vs, rfl, h1, t⟩ := (r1.up g2).lst S2.sub
    cases r2.int
    obtain ⟨v, hv, rv⟩ := t.at e3
    exact ⟨p, vs, _, v, rfl, rfl, .inl (.inl h1), hv, q _ _ _ (g1.trans g2) S2 rv⟩
  · refine SE.of (pe_ix (r := rIxT X.K) ix_tup (pe_se X a) (pe_se X b) hs) ?_
    refine ha B env ds σ Hf H _ _ S e1 _ fun x Hf1 H1 g1 S1 r1 => hb B env s1 σ Hf1 H1 _ _ S1 e2 _ fun y Hf2 H2 g2 S2 r2 => ?_
    obtain ⟨p, vs, rfl, h1, t⟩ := (r1.up g2).tup
    cases r2.int
    obtain ⟨v, hv, rv⟩ := t.at e3
    exact ⟨p, vs, _, v, rfl, rfl, .inl (.inl (S2.sub _ _ h1)), hv, q _ _ _ (g1.trans g2) S2 rv⟩
  · refine SE.of (pe_ix (r := rIxT X.K) ix_tup (pe_se X a) (pe_se X b) hs) ?_
    refine ha B env ds σ Hf H _ _ S e1 _ fun x Hf1 H1 g1 S1 r1 => hb B env s1 σ Hf1 H1 _ _ S1 e2 _ fun y Hf2 H2 g2 S2 r2 => ?_
    obtain ⟨p, vs, o, rfl, h1, _, t⟩ := (r1.up g2).ptup
    cases r2.int
    obtain ⟨v, hv, rv⟩ := t.at e3
    exact ⟨p, vs, _, v, rfl, rfl, .inl (.inr ⟨o, S2.sub _ _ h1⟩), hv, q _ _ _ (g1.trans g2) S2 rv⟩
  · split at e3
    · rename_i kk hk
      refine SE.of (pe_dget hu (pe_se X a) (pe_se X b) hs) ?_
      refine ha B env ds σ Hf H _ _ S e1 _ fun x Hf1 H1 g1 S1 r1 => hb B env s1 σ Hf1 H1 _ _ S1 e2 _ fun y Hf2 H2 g2 S2 r2 => ?_
      obtain ⟨p, kvs, rfl, h1, t⟩ := (r1.up g2).dT S2.sub
      obtain ⟨bb, rfl, hb⟩ := keyOf_rd r2 hk
      obtain ⟨v, hv, rv⟩ := (t.look (k := kk)).1 _ e3
      exact ⟨p, v, rfl, .inr ⟨kvs, kk, bb, h1, rfl, S2.sub _ _ hb, hv.symm⟩, q _ _ _ (g1.trans g2) S2 rv⟩
    · cases e3
  · split at e3
    · rename_i kk hk
      refine SE.of (pe_dget hu (pe_se X a) (pe_se X b) hs) ?_
      refine ha B env ds σ Hf H _ _ S e1 _ fun x Hf1 H1 g1 S1 r1 => hb B env s1 σ Hf1 H1 _ _ S1 e2 _ fun y Hf2 H2 g2 S2 r2 => ?_
      obtain ⟨p, kvs, rfl, h1, t⟩ := (r1.up g2).dK S2.sub
      have hb := key1_rd r2 hk
      obtain ⟨v, hv, rv⟩ := (t.look (k := kk)).1 _ e3
      exact ⟨p, v, rfl, .inl ⟨kvs, kk, h1, hb, hv.symm⟩, q _ _ _ (g1.trans g2) S2 rv⟩
    · cases e3
  · cases e3
/-! ### slices -/
def cutD (xs : List D) (lo hi : Option Int) : List D := (xs.drop (HT.sIx xs.length 0 lo)).take (HT.sIx xs.length xs.length hi - HT.sIx xs.length 0 lo)
theorem RpL.cut {Hf : Hp} {vs : List V} {ds : List D} (t : RpL Hf vs ds) (lo hi : Option Int) : RpL Hf (cutV vs lo hi) (cutD ds lo hi) := by
  unfold cutV cutD
  rw [t.length]
  exact (t.drop _).take _
def dPart (f : Option Den) : En → DS → Option (Option Int × DS) := match f with
  | none => fun _ ds => some (none, ds)
  | some f => fun env ds => bnd (f env ds) fun a s => match a with
    | .int i => some (some i, s)
    | _ => none
/-- a slice's part -/
def EvP (X : Cx) (e : Option Expr) (f : Option Den) : Prop := ∃ t : TO, PO X e t ∧ ∀ B env ds σ Hf H d ds', SR B X.K env ds σ Hf H → dPart f env ds = some (d, ds') → ∀ Q : Option Int → Hp → Prop,
  (∀ Hf' H', Gr B Hf H Hf' H' → SR B X.K env ds' σ Hf' H' → Q d H') → t σ H Q
theorem evp_none : EvP X none none := ⟨tNoPart, po_none, fun B env ds σ Hf H d ds' S hf Q q => by
  cases hf
  exact q _ _ Gr.refl S⟩
theorem evp_some (ha : EvR X a f) : EvP X (some a) (some f) := ⟨_, po_some (pe_se X a), fun B env ds σ Hf H d ds' S hf Q q => by
  obtain ⟨v1, s1, e1, e⟩ := bnd_eq hf
  refine ha B env ds σ Hf H _ _ S e1 _ fun x Hf1 H1 g1 S1 r1 => ?_
  cases v1 with
  | int i =>
    cases e
    cases r1.int
    exact ⟨i, rfl, q _ _ g1 S1⟩
  | _ => cases e⟩
def dSl (f : Den) (lo hi : Option Den) : Den := fun env ds => bnd (f env ds) fun a s => bnd (dPart lo env s) fun l s1 => bnd (dPart hi env s1) fun u s2 => match a with
  | .tuple xs => some (.tuple (cutD xs l u), s2)
  | .ptup xs => some (if HT.sIx xs.length 0 l = 0 ∧ HT.sIx xs.length xs.length u = xs.length then .ptup xs else .tuple (cutD xs l u), s2)
  | _ => none
def dSlL (f : Den) (lo hi : Option Den) : Den := fun env ds => bnd (f env ds) fun a s => bnd (dPart lo env s) fun l s1 => bnd (dPart hi env s1) fun u s2 => match a with
  | .list xs => some (.list (cutD xs l u), s2)
  | _ => none
theorem evf_slice {lo hi : Option Expr} {fl fh : Option Den} {p2 : Pos} (ha : EvR X a f) (hl : EvP X lo fl) (hh : EvP X hi fh) : EvF X (.Subscript a (.Slice lo hi none p2) pos) (dSl f fl fh) := fun B env ds σ Hf H d ds' S hf Q q => by
  obtain ⟨v1, s1, e1, e⟩ := bnd_eq hf
  obtain ⟨l, s2, e2, e⟩ := bnd_eq e
  obtain ⟨u, s3, e3, e⟩ := bnd_eq e
  obtain ⟨tl, pl, kl⟩ := hl
  obtain ⟨th, ph, kh⟩ := hh
  refine SE.of (pe_slice sl_tupA (pe_se X a) pl ph) ?_
  refine ha B env ds σ Hf H _ _ S e1 _ fun x Hf1 H1 g1 S1 r1 => kl B env s1 σ Hf1 H1 _ _ S1 e2 _ fun Hf2 H2 g2 S2 => kh B env s2 σ Hf2 H2 _ _ S2 e3 _ fun Hf3 H3 g3 S3 => ?_
  cases v1 with
  | tuple xs =>
    cases e
    obtain ⟨p, vs, rfl, h1, t⟩ := ((r1.up g2).up g3).tup
    have g := (g1.trans g2).trans g3
    refine ⟨p, vs, rfl, .inl (.inl (S3.sub _ _ h1)), fun ⟨w1, w2⟩ => ?_, fun _ => ?_⟩
    · have e : cutD xs l u = xs := by
        rw [t.length] at w1 w2
        unfold cutD
        rw [w1, w2]
        simp
      rw [e] at q
      exact q _ _ _ g S3 (.tup h1 t)
    · exact (q.step g).tup S3 (t.cut l u)
  | ptup xs =>
    cases e
    obtain ⟨p, vs, o, rfl, h1, hd, t⟩ := ((r1.up g2).up g3).ptup
    have g := (g1.trans g2).trans g3
    refine ⟨p, vs, rfl, .inl (.inr ⟨o, S3.sub _ _ h1⟩), fun w => ?_, fun w => ?_⟩
    · rw [t.length] at w
      rw [if_pos w] at q
      exact q _ _ _ g S3 (.ptup h1 hd t)
    · rw [t.length] at w
      rw [if_neg w] at q
      exact (q.step g).tup S3 (t.cut l u)
  | _ => cases e
theorem evn_slice {lo hi : Option Expr} {fl fh : Option Den} {p2 : Pos} (ha : EvR X a f) (hl : EvP X lo fl) (hh : EvP X hi fh) : EvN X (.Subscript a (.Slice lo hi none p2) pos) (dSlL f fl fh) := fun B env ds σ Hf H d ds' S hf Q q => by
  obtain ⟨v1, s1, e1, e⟩ := bnd_eq hf
  obtain ⟨l, s2, e2, e⟩ := bnd_eq e
  obtain ⟨u, s3, e3, e⟩ := bnd_eq e
  obtain ⟨tl, pl, kl⟩ := hl
  obtain ⟨th, ph, kh⟩ := hh
  refine SE.of (pe_slice sl_list (pe_se X a) pl ph) ?_
  refine ha B env ds σ Hf H _ _ S e1 _ fun x Hf1 H1 g1 S1 r1 => kl B env s1 σ Hf1 H1 _ _ S1 e2 _ fun Hf2 H2 g2 S2 => kh B env s2 σ Hf2 H2 _ _ S2 e3 _ fun Hf3 H3 g3 S3 => ?_
  cases v1 with
  | list xs =>
    cases e
    obtain ⟨p, vs, rfl, h1, t⟩ := ((r1.up g2).up g3).lst S3.sub
    have g := (g1.trans g2).trans g3
    exact ⟨p, vs, rfl, .inl (.inl h1), (q.step g).lst S3 (t.cut l u)⟩
  | _ => cases e
def gRevT : D → Option D
  | .tuple xs => some (.tuple xs.reverse)
  | .ptup xs => some (.tuple xs.reverse)
  | _ => none
def gRevL : D → Option D
  | .list xs => some (.list xs.reverse)
  | _ => none
theorem evf_rev {j : Nat} {p1 p2 p3 : Pos} (ha : EvR X a f) : EvF X (.Subscript a (.Slice none none (some (.UnaryOp .USub (.Constant (.int 1) j p1) p2)) p3) pos) (d1 gRevT f) := fun B env ds σ Hf H d ds' S hf Q q => by
  obtain ⟨v1, s1, e1, e⟩ := bnd_eq hf
  obtain ⟨e3, rfl⟩ := op1_eq e
  refine SE.of (pe_revT (pe_se X a)) ?_
  refine ha B env ds σ Hf H _ _ S e1 _ fun x Hf1 H1 g1 S1 r1 => ?_
  unfold gRevT at e3
  split at e3
  · cases e3
    obtain ⟨p, vs, rfl, h1, t⟩ := r1.tup
    exact ⟨p, vs, rfl, .inl (.inl (S1.sub _ _ h1)), (q.step g1).tup S1 t.reverse⟩
  · cases e3
    obtain ⟨p, vs, o, rfl, h1, _, t⟩ := r1.ptup
    exact ⟨p, vs, rfl, .inl (.inr ⟨o, S1.sub _ _ h1⟩), (q.step g1).tup S1 t.reverse⟩
  · cases e3
theorem evn_rev {j : Nat} {p1 p2 p3 : Pos} (ha : EvR X a f) : EvN X (.Subscript a (.Slice none none (some (.UnaryOp .USub (.Constant (.int 1) j p1) p2)) p3) pos) (d1 gRevL f) := fun B env ds σ Hf H d ds' S hf Q q => by
  obtain ⟨v1, s1, e1, e⟩ := bnd_eq hf
  obtain ⟨e3, rfl⟩ := op1_eq e
  refine SE.of (pe_revL (pe_se X a)) ?_
  refine ha B env ds σ Hf H _ _ S e1 _ fun x Hf1 H1 g1 S1 r1 => ?_
  unfold gRevL at e3
  split at e3
  · cases e3
    obtain ⟨p, vs, rfl, h1, t⟩ := r1.lst S1.sub
    exact ⟨p, vs, rfl, .inl (.inl h1), (q.step g1).lst S1 t.reverse⟩
  · cases e3
end
/-! ### negation, conditions -/
section
variable {X : Cx} {a b c : Expr} {pos : Pos} {f h k : Den} {t u : DenT} {rest : List Expr}
def gNeg : D → Option D
  | .int i => some (.int (-i))
  | _ => none
theorem evf_neg (ha : EvR X a f) : EvF X (.UnaryOp .USub a pos) (d1 gNeg f) := fun B env ds σ Hf H d ds' S hf Q q => by
  obtain ⟨v1, s1, e1, e⟩ := bnd_eq hf
  obtain ⟨e3, rfl⟩ := op1_eq e
  refine SE.of (pe_un un_neg (pe_se X a)) ?_
  refine ha B env ds σ Hf H _ _ S e1 _ fun x Hf1 H1 g1 S1 r1 => ?_
  unfold gNeg at e3
  split at e3
  · cases e3
    cases r1.int
    exact ⟨_, rfl, q _ _ _ g1 S1 (.int _)⟩
  · cases e3
/-- a value that is a bool, as a test (a name, a call, a subscript ..) -/
theorem evt_val (ha : EvR X a f) (he : ∀ whole, isTrue a X.env whole = (do let v ← whole; standAt a.pos; holding [v] (truthy v)) := by intro _; rfl) : EvT X a (dTest f) := fun B env ds σ Hf H d ds' S hf Q q => by
  refine STt.of (pt_val (pe_se X a) he) ?_
  refine ha B env ds σ Hf H _ _ S (dTest_eq hf) _ fun x Hf1 H1 g1 S1 r1 => ?_
  cases r1.bl
  exact ⟨_, rfl, q _ _ g1 S1⟩
def tNotD (t : DenT) : DenT := fun env ds => bnd (t env ds) fun b s => some (!b, s)
def tAndD (t u : DenT) : DenT := fun env ds => bnd (t env ds) fun b s => match b with
  | true => u env s
  | false => some (false, s)
def tOrD (t u : DenT) : DenT := fun env ds => bnd (t env ds) fun b s => match b with
  | true => some (true, s)
  | false => u env s
theorem evt_not (ha : EvT X a t) : EvT X (.UnaryOp .Not a pos) (tNotD t) := fun B env ds σ Hf H d ds' S hf Q q => by
  obtain ⟨v1, s1, e1, e⟩ := bnd_eq hf
  cases e
  exact STt.of (pt_not (pt_st X a)) (ha B env ds σ Hf H _ _ S e1 _ fun Hf1 H1 g1 S1 => q _ _ g1 S1)
theorem evw_and1 (ha : EvT X a t) : EvW X (.BoolOp .And [a] pos) t := fun B env ds σ Hf H d ds' S hf Q q => SW.of (pw_and1 (pt_st X a)) (ha B env ds σ Hf H _ _ S hf _ q)
theorem evw_or1 (ha : EvT X a t) : EvW X (.BoolOp .Or [a] pos) t := fun B env ds σ Hf H d ds' S hf Q q => SW.of (pw_or1 (pt_st X a)) (ha B env ds σ Hf H _ _ S hf _ q)
theorem evw_and (ha : EvT X a t) (hb : EvW X (.BoolOp .And (b :: rest) pos) u) : EvW X (.BoolOp .And (a :: b :: rest) pos) (tAndD t u) := fun B env ds σ Hf H d ds' S hf Q q => by
  obtain ⟨v1, s1, e1, e⟩ := bnd_eq hf
  refine SW.of (pw_and (pt_st X a) (pw_sw X _)) (ha B env ds σ Hf H _ _ S e1 _ fun Hf1 H1 g1 S1 => ?_)
  cases v1 with
  | true => rw [if_pos rfl]; exact hb B env s1 σ Hf1 H1 _ _ S1 e _ (q.step g1)
  | false => rw [if_neg Bool.false_ne_true]; cases e; exact q _ _ g1 S1
theorem evw_or (ha : EvT X a t) (hb : EvW X (.BoolOp .Or (b :: rest) pos) u) : EvW X (.BoolOp .Or (a :: b :: rest) pos) (tOrD t u) := fun B env ds σ Hf H d ds' S hf Q q => by
  obtain ⟨v1, s1, e1, e⟩ := bnd_eq hf
  refine SW.of (pw_or (pt_st X a) (pw_sw X _)) (ha B env ds σ Hf H _ _ S e1 _ fun Hf1 H1 g1 S1 => ?_)
  cases v1 with
  | true => rw [if_pos rfl]; cases e; exact q _ _ g1 S1
  | false => rw [if_neg Bool.false_ne_true]; exact hb B env s1 σ Hf1 H1 _ _ S1 e _ (q.step g1)
theorem EvW.toT (h : EvW X a t) : EvT X a t := fun B env ds σ Hf H d ds' S hf Q q pins s I => h B env ds σ Hf H d ds' S hf Q q (eval a X.env) pins s I
/-- .. as values, bools all -/
def dNot (f : Den) : Den := d1 (fun x => match x with | .bool b => some (.bool (!b)) | _ => none) f
def dAnd (f h : Den) : Den := fun env ds => bnd (f env ds) fun x s => match x with
  | .bool true => h env s
  | .bool false => some (.bool false, s)
  | _ => none
def dOr (f h : Den) : Den := fun env ds => bnd (f env ds) fun x s => match x with
  | .bool true => some (.bool true, s)
  | .bool false => h env s
  | _ => none
theorem evf_not (ha : EvR X a f) : EvF X (.UnaryOp .Not a pos) (dNot f) := fun B env ds σ Hf H d ds' S hf Q q => by
  obtain ⟨v1, s1, e1, e⟩ := bnd_eq hf
  obtain ⟨e3, rfl⟩ := op1_eq e
  refine SE.of (pe_not (pe_se X a)) (ha B env ds σ Hf H _ _ S e1 _ fun x Hf1 H1 g1 S1 r1 => ?_)
  cases v1 with
  | bool b => cases e3; cases r1.bl; exact ⟨_, rfl, q _ _ _ g1 S1 (.bl _)⟩
  | _ => cases e3
theorem evf_one {op : BoolOp} (ha : EvF X a f) : EvF X (.BoolOp op [a] pos) f := fun B env ds σ Hf H d ds' S hf Q q => SE.of (pe_one (pe_se X a)) (ha B env ds σ Hf H _ _ S hf _ q)
theorem evf_and (ha : EvR X a f) (hb : EvF X (.BoolOp .And (b :: rest) pos) h) : EvF X (.BoolOp .And (a :: b :: rest) pos) (dAnd f h) := fun B env ds σ Hf H d ds' S hf Q q => by
  obtain ⟨v1, s1, e1, e⟩ := bnd_eq hf
  refine SE.of (pe_and (pe_se X a) (pe_se X _)) (ha B env ds σ Hf H _ _ S e1 _ fun x Hf1 H1 g1 S1 r1 => ?_)
  cases v1 with
  | bool b =>
    cases r1.bl
    refine ⟨b, rfl, ?_⟩
    cases b with
    | true => rw [if_pos rfl]; exact hb B env s1 σ Hf1 H1 _ _ S1 e _ (q.step g1)
    | false => rw [if_neg Bool.false_ne_true]; cases e; exact q _ _ _ g1 S1 (.bl _)
  | _ => cases e
theorem evf_or (ha : EvR X a f) (hb : EvF X (.BoolOp .Or (b :: rest) pos) h) : EvF X (.BoolOp .Or (a :: b :: rest) pos) (dOr f h) := fun B env ds σ Hf H d ds' S hf Q q => by
  obtain ⟨v1, s1, e1, e⟩ := bnd_eq hf
  refine SE.of (pe_or (pe_se X a) (pe_se X _)) (ha B env ds σ Hf H _ _ S e1 _ fun x Hf1 H1 g1 S1 r1 => ?_)
  cases v1 with
  | bool b =>
    cases r1.bl
    refine ⟨b, rfl, ?_⟩
    cases b with
    | true => rw [if_pos rfl]; cases e; exact q _ _ _ g1 S1 (.bl _)
    | false => rw [if_neg Bool.false_ne_true]; exact hb B env s1 σ Hf1 H1 _ _ S1 e _ (q.step g1)
  | _ => cases e
def dIf (t : DenT) (f h : Den) : Den := fun env ds => bnd (t env ds) fun b s => match b with
  | true => f env s
  | false => h env s
theorem evf_if (hc : EvT X c t) (ha : EvF X a f) (hb : EvF X b h) : EvF X (.IfExp c a b pos) (dIf t f h) := fun B env ds σ Hf H d ds' S hf Q q => by
  obtain ⟨v1, s1, e1, e⟩ := bnd_eq hf
  refine SE.of (pe_ifExp (pt_st X c) (pe_se X a) (pe_se X b)) (hc B env ds σ Hf H _ _ S e1 _ fun Hf1 H1 g1 S1 => ?_)
  cases v1 with
  | true => rw [if_pos rfl]; exact ha B env s1 σ Hf1 H1 _ _ S1 e _ (q.step g1)
  | false => rw [if_neg Bool.false_ne_true]; exact hb B env s1 σ Hf1 H1 _ _ S1 e _ (q.step g1)
end
/-! ### lists of arguments, displays -/
section
variable {X : Cx} {a b c e : Expr} {es : List Expr} {pos : Pos} {f h k : Den} {g : DenA}
def aNil : DenA := fun _ ds => some ([], ds)
def aCons (f : Den) (g : DenA) : DenA := fun env ds => bnd (f env ds) fun a s => bnd (g env s) fun r s' => some (a :: r, s')
theorem eva_nil : EvA X [] aNil := fun B env ds σ Hf H d ds' S hf Q q => by
  cases hf
  exact SA.of pa_nil (q _ _ _ Gr.refl S .nil)
theorem eva_cons (ha : EvF X e f) (hr : EvA X es g) (hs : starEach (e :: es) X.env = (false, eval e X.env) :: starEach es X.env := by rfl) : EvA X (e :: es) (aCons f g) := fun B env ds σ Hf H d ds' S hf Q q => by
  obtain ⟨v1, s1, e1, e⟩ := bnd_eq hf
  obtain ⟨v2, s2, e2, e⟩ := bnd_eq e
  cases e
  refine SA.of (pa_cons (pe_se X _) (pa_sa X es) hs) ?_
  exact ha B env ds σ Hf H _ _ S e1 _ fun x Hf1 H1 g1 S1 r1 => hr B env s1 σ Hf1 H1 _ _ S1 e2 _ fun xs Hf2 H2 g2 S2 r2 => q _ _ _ (g1.trans g2) S2 (.cons (r1.up g2.ff) r2)
/-- *e at the head -/
def aStar (f : Den) (g : DenA) : DenA := fun env ds => bnd (f env ds) fun a s => bnd (g env s) fun r s' => match a with
  | .tuple xs => some (xs ++ r, s')
  | .ptup xs => some (xs ++ r, s')
  | .list xs => some (xs ++ r, s')
  | _ => none
theorem eva_star {p : Pos} (ha : EvR X e f) (hr : EvA X es g) (hs : starEach (.Starred e p :: es) X.env = (true, eval e X.env) :: starEach es X.env := by rfl) : EvA X (.Starred e p :: es) (aStar f g) := fun B env ds σ Hf H d ds' S hf Q q => by
  obtain ⟨v1, s1, e1, e⟩ := bnd_eq hf
  obtain ⟨v2, s2, e2, e⟩ := bnd_eq e
  refine SA.of (StX.pa_star (pe_se X _) (pa_sa X es) hs) ?_
  refine ha B env ds σ Hf H _ _ S e1 _ fun x Hf1 H1 g1 S1 r1 => ?_
  cases v1 with
  | tuple xs =>
    cases e
    obtain ⟨p, vs, rfl, h1, t⟩ := r1.tup
    exact ⟨p, vs, rfl, .inl (.inl (.inl (S1.sub _ _ h1))), hr B env s1 σ Hf1 H1 _ _ S1 e2 _ fun ws Hf2 H2 g2 S2 r2 => q _ _ _ (g1.trans g2) S2 ((t.up g2.ff).append r2)⟩
  | ptup xs =>
    cases e
    obtain ⟨p, vs, o, rfl, h1, _, t⟩ := r1.ptup
    exact ⟨p, vs, rfl, .inl (.inl (.inr ⟨o, S1.sub _ _ h1⟩)), hr B env s1 σ Hf1 H1 _ _ S1 e2 _ fun ws Hf2 H2 g2 S2 r2 => q _ _ _ (g1.trans g2) S2 ((t.up g2.ff).append r2)⟩
  | list xs =>
    cases e
    obtain ⟨p, vs, rfl, h1, t⟩ := r1.lst S1.sub
    exact ⟨p, vs, rfl, .inr (.inl (.inl h1)), hr B env s1 σ Hf1 H1 _ _ S1 e2 _ fun ws Hf2 H2 g2 S2 r2 => q _ _ _ (g1.trans g2) S2 ((t.up g2.ff).append r2)⟩
  | _ => cases e
def dTup (g : DenA) : Den := fun env ds => bnd (g env ds) fun r s => if r.length ≤ 100000 then some (.tuple r, s) else none
def dLst (g : DenA) : Den := fun env ds => bnd (g env ds) fun r s => if r.length ≤ 100000 then some (.list r, s) else none
theorem evf_tup {x1} (h : EvA X es g) : EvF X (.Tuple es x1 pos) (dTup g) := fun B env ds σ Hf H d ds' S hf Q q => by
  obtain ⟨v1, s1, e1, e⟩ := bnd_eq hf
  split at e
  · rename_i hz
    cases e
    refine SE.of (pe_tup (pa_sa X es)) (h B env ds σ Hf H _ _ S e1 _ fun xs Hf1 H1 g1 S1 r1 => ⟨by rw [r1.length]; exact sz_ok hz, (q.step g1).tup S1 r1⟩)
  · cases e
theorem evn_lst (h : EvA X es g) : EvN X (.List es pos) (dLst g) := fun B env ds σ Hf H d ds' S hf Q q => by
  obtain ⟨v1, s1, e1, e⟩ := bnd_eq hf
  split at e
  · rename_i hz
    cases e
    refine SE.of (pe_lst (pa_sa X es)) (h B env ds σ Hf H _ _ S e1 _ fun xs Hf1 H1 g1 S1 r1 => ⟨by rw [r1.length]; exact sz_ok hz, (q.step g1).lst S1 r1⟩)
  · cases e
theorem evn_dT : EvN X (.Dict [] [] pos) (dC (.dT [])) := fun B env ds σ Hf H d ds' S hf Q q => by
  cases hf
  exact SE.of pe_dnewT (q.dT S .nil)
theorem evn_dK : EvN X (.Dict [] [] pos) (dC (.dK [])) := fun B env ds σ Hf H d ds' S hf Q q => by
  cases hf
  exact SE.of pe_dnewK (q.dK S .nil)
/-! ### readable arguments, built-ins by name -/
abbrev RdL (B : Bs) (Hf H : Hp) : List V → List D → Prop := Paired (Rd1 B Hf H)
def CB (B : Bs) (K : PySem.W.Frag) (env : En) (ds : DS) (σ : St) (Hf H : Hp) (d : List D) (Q : List V → Hp → Prop) : Prop := ∀ vs Hf' H', Gr B Hf H Hf' H' → SR B K env ds σ Hf' H' → RdL B Hf' H' vs d → Q vs H'
def EvB (X : Cx) (es : List Expr) (f : DenA) : Prop := ∀ B env ds σ Hf H d ds', SR B X.K env ds σ Hf H → f env ds = some (d, ds') → ∀ Q : List V → Hp → Prop, CB B X.K env ds' σ Hf H d Q → SA X es σ H Q
theorem RdL.up {B : Bs} {Hf H Hf' H' : Hp} (g : Gr B Hf H Hf' H') : ∀ {vs : List V} {ds : List D}, RdL B Hf H vs ds → RdL B Hf' H' vs ds
  | _, _, .nil => .nil
  | _, _, .cons r t => .cons (r.up g) (RdL.up g t)
theorem evb_nil : EvB X [] aNil := fun B env ds σ Hf H d ds' S hf Q q => by
  cases hf
  exact SA.of pa_nil (q _ _ _ Gr.refl S .nil)
theorem evb_cons (ha : EvR X e f) (hr : EvB X es g) (hs : starEach (e :: es) X.env = (false, eval e X.env) :: starEach es X.env := by rfl) : EvB X (e :: es) (aCons f g) := fun B env ds σ Hf H d ds' S hf Q q => by
  obtain ⟨v1, s1, e1, e⟩ := bnd_eq hf
  obtain ⟨v2, s2, e2, e⟩ := bnd_eq e
  cases e
  refine SA.of (pa_cons (pe_se X _) (pa_sa X es) hs) ?_
  exact ha B env ds σ Hf H _ _ S e1 _ fun x Hf1 H1 g1 S1 r1 => hr B env s1 σ Hf1 H1 _ _ S1 e2 _ fun xs Hf2 H2 g2 S2 r2 => q _ _ _ (g1.trans g2) S2 (.cons (r1.up g2) r2)
/-- a built-in function by what it does to data -/
def RCF (X : Cx) (r : List V → Hp → VK → Prop) (p : List D → Option D) : Prop := ∀ B env ds σ Hf H args d vs Q, SR B X.K env ds σ Hf H → RdL B Hf H vs args → p args = some d → CF B X.K env ds σ Hf H d Q → r vs H Q
def RCN (X : Cx) (r : List V → Hp → VK → Prop) (p : List D → Option D) : Prop := ∀ B env ds σ Hf H args d vs Q, SR B X.K env ds σ Hf H → RdL B Hf H vs args → p args = some d → CN B X.K env ds σ Hf H d Q → r vs H Q
def dB (p : List D → Option D) (g : DenA) : Den := fun env ds => bnd (g env ds) fun r s => op1 (p r) s
theorem evf_callB {id : String} {x : Str} {r : List V → Hp → VK → Prop} {p0 : List D → Option D} {p : Pos} (hc : CallR X (.builtin id) r) (hr : RCF X r p0) (hm : X.mg x = none) (hv : bootBuiltins x = some (.builtin id)) (ha : EvB X (e :: es) g) (hg : Gl X x := by rfl)
    (hn : x ≠ "__name__" := by decide) (hdb : (x == ("__debug__" : Str)) = false := by decide) (hs : starEach (e :: es) X.env = (false, eval e X.env) :: starEach es X.env := by rfl) (hpl : (backTo pos (starEach es X.env)).any (·.1) = false := by rfl) : EvF X (.Call (.Name x p) (e :: es) [] pos) (dB p0 g) := fun B env ds σ Hf H d ds' S hf Q q => by
  obtain ⟨v1, s1, e1, e⟩ := bnd_eq hf
  obtain ⟨e3, rfl⟩ := op1_eq e
  exact SE.of (pe_callB hc hg hm hv (pa_sa X _) hn hdb hs hpl) (ha B env ds σ Hf H _ _ S e1 _ fun vs Hf1 H1 g1 S1 r1 => hr _ _ _ _ _ _ _ _ _ _ S1 r1 e3 (q.step g1))
theorem evf_callTy {T : String} {x : Str} {r : List V → Hp → VK → Prop} {p0 : List D → Option D} {p : Pos} (hc : CallR X (.type T) r) (hr : RCF X r p0) (hm : X.mg x = none) (hv : bootBuiltins x = some (.type T)) (ha : EvB X (e :: es) g) (hg : Gl X x := by rfl)
    (hn : x ≠ "__name__" := by decide) (hdb : (x == ("__debug__" : Str)) = false := by decide) (hs : starEach (e :: es) X.env = (false, eval e X.env) :: starEach es X.env := by rfl) (hpl : (backTo pos (starEach es X.env)).any (·.1) = false := by rfl) : EvF X (.Call (.Name x p) (e :: es) [] pos) (dB p0 g) := fun B env ds σ Hf H d ds' S hf Q q => by
  obtain ⟨v1, s1, e1, e⟩ := bnd_eq hf
  obtain ⟨e3, rfl⟩ := op1_eq e
  exact SE.of (pe_callTy hc hg hm hv (pa_sa X _) hn hdb hs hpl) (ha B env ds σ Hf H _ _ S e1 _ fun vs Hf1 H1 g1 S1 r1 => hr _ _ _ _ _ _ _ _ _ _ S1 r1 e3 (q.step g1))
theorem evn_callB {id : String} {x : Str} {r : List V → Hp → VK → Prop} {p0 : List D → Option D} {p : Pos} (hc : CallR X (.builtin id) r) (hr : RCN X r p0) (hm : X.mg x = none) (hv : bootBuiltins x = some (.builtin id)) (ha : EvB X (e :: es) g) (hg : Gl X x := by rfl)
    (hn : x ≠ "__name__" := by decide) (hdb : (x == ("__debug__" : Str)) = false := by decide) (hs : starEach (e :: es) X.env = (false, eval e X.env) :: starEach es X.env := by rfl) (hpl : (backTo pos (starEach es X.env)).any (·.1) = false := by rfl) : EvN X (.Call (.Name x p) (e :: es) [] pos) (dB p0 g) := fun B env ds σ Hf H d ds' S hf Q q => by
  obtain ⟨v1, s1, e1, e⟩ := bnd_eq hf
  obtain ⟨e3, rfl⟩ := op1_eq e
  exact SE.of (pe_callB hc hg hm hv (pa_sa X _) hn hdb hs hpl) (ha B env ds σ Hf H _ _ S e1 _ fun vs Hf1 H1 g1 S1 r1 => hr _ _ _ _ _ _ _ _ _ _ S1 r1 e3 (q.step g1))
theorem evn_callTy {T : String} {x : Str} {r : List V → Hp → VK → Prop} {p0 : List D → Option D} {p : Pos} (hc : CallR X (.type T) r) (hr : RCN X r p0) (hm : X.mg x = none) (hv : bootBuiltins x = some (.type T)) (ha : EvB X (e :: es) g) (hg : Gl X x := by rfl)
    (hn : x ≠ "__name__" := by decide) (hdb : (x == ("__debug__" : Str)) = false := by decide) (hs : starEach (e :: es) X.env = (false, eval e X.env) :: starEach es X.env := by rfl) (hpl : (backTo pos (starEach es X.env)).any (·.1) = false := by rfl) : EvN X (.Call (.Name x p) (e :: es) [] pos) (dB p0 g) := fun B env ds σ Hf H d ds' S hf Q q => by
  obtain ⟨v1, s1, e1, e⟩ := bnd_eq hf
  obtain ⟨e3, rfl⟩ := op1_eq e
  exact SE.of (pe_callTy hc hg hm hv (pa_sa X _) hn hdb hs hpl) (ha B env ds σ Hf H _ _ S e1 _ fun vs Hf1 H1 g1 S1 r1 => hr _ _ _ _ _ _ _ _ _ _ S1 r1 e3 (q.step g1))
end
end L2.Dn
set_option Elab.async false
set_option linter.all false
set_option maxRecDepth 100000
set_option maxHeartbeats 4000000
namespace L2.Dn
open PySem PySem.Spec PyProof.Rows PySem.W
/-! ### sorted(t), t a tuple of ints -/
section
variable {prog : Program} {w : World} {A : Around} {E : Value → Shared → Prop} {s : Shared}
theorem collect_tup {l : Addr} {vs : List Value} {Q : List Value → Shared → Prop} (hl : IsTup s.heap l vs.toArray)
    (h : Q vs { s with heap := (s.heap.push (seqObj "list" #[] 0)).update s.heap.objs.size (Obj.mapSeq (· ++ vs.toArray)) }) (hsz : vs.length ≤ sizeLine) :
    wpAny (model prog w) A (collect (.ref l)) Q E s := by
  obtain ⟨o, ho, hc, n, hd⟩ := id hl
  unfold collect
  refine wpAny_bind (wpAny_runValue (codeAny_builtin entry_proto_collect' ?_))
  show wpAny _ _ (do again (.builtin "list.__iadd__" ⟨[← newList [], .ref l], []⟩)) _ _ s
  refine wpAny_bind (wpAny_newList (wpAny_pure ⟨Code.quiet_builtin _ (by decide +kernel), codeAny_builtin entry_list_iadd' ?_⟩))
  show wpAny _ _ (Builtin.List.listExtendWith (.ref s.heap.objs.size) (.ref l) (.ref s.heap.objs.size)) _ _ { s with heap := s.heap.push (seqObj "list" #[] 0) }
  unfold Builtin.List.listExtendWith
  have ho' : (s.heap.push (seqObj "list" #[] 0)).get? l = some o := Heap.get?_push_of_some _ ho
  refine wpAny_bind (wpAny_typeOf (T := "tuple") ⟨o, ho', hc⟩ ?_)
  have ht : (Value.type "tuple" == Value.type "tuple") = true := by rfl
  rw [if_pos (by rw [ht]; simp)]
  refine wpAny_bind (listItems_at ho' hd ?_)
  refine wpAny_bind (listItems_at (xs := #[]) (n := 0) (Heap.get?_push_size _ rfl) rfl ?_)
  rw [if_neg (by simp)]
  refine wpAny_bind (listUpdate_at (xs := #[]) (n := 0) (Heap.get?_push_size _ rfl) rfl ?_ (Nat.zero_le _) (by show (#[] ++ vs.toArray).size ≤ sizeLine + 1; simp only [Array.size_append, List.size_toArray, List.length_nil]; omega))
  refine wpAny_pure ?_
  show wpAny (model prog w) A (do
      let o ← load s.heap.objs.size
      match o.data with
      | .seq xs _ => pure xs.toList
      | _ => unsupported "internal:collect") Q E { s with heap := (s.heap.push (seqObj "list" #[] 0)).update s.heap.objs.size (Obj.mapSeq (· ++ vs.toArray)) }
  refine wpAny_bind (wpAny_load (get?_update_seq (Heap.get?_push_size _ rfl) _) ?_)
  show wpAny _ _ (pure ((#[] : Array Value) ++ vs.toArray).toList) Q E _
  rw [show ((#[] : Array Value) ++ vs.toArray).toList = vs by simp]
  exact wpAny_pure h
theorem sorted_ordT {l : Addr} {vs : List Value} {ltv : Value → Value → Bool} {Q : Value → Shared → Prop} (O : SrtO.Swo ltv) (hl : IsTup s.heap l vs.toArray) (hz : vs.length ≤ sizeLine)
    (hS : 2 ≤ vs.length → ∀ (h₁ : Heap) (a : Addr), h₁.get? a = some (seqObj "list" vs.toArray 0) → (∀ b o, s.heap.get? b = some o → b ≠ a ∧ h₁.get? b = some o) → SrtO.SortableO prog w A.in1.in1 { s with heap := h₁ } a vs ltv)
    (h : ∀ out : List Value, SrtO.Srtd ltv out → SrtO.Stb ltv out vs → Q (.ref (s.heap.objs.size + 1)) { s with heap := sortedAll s.heap vs out.toArray }) :
    wpAny (model prog w) A (call (.builtin "sorted") [.ref l]) Q E s := by
  refine Calls.call_function_entry kind_sorted plain_sorted entry_sorted (args_sorted1 _) ?_
  unfold Builtin.«sorted»
  refine wpAny_bind (m := checkCount "sorted" 1 1 _) (wpAny_pure ?_)
  refine wpAny_bind (collect_tup hl ?_ hz)
  refine wpAny_bind (wpAny_newList ?_ hz)
  have hsz : ((s.heap.push (seqObj "list" #[] 0)).update s.heap.objs.size (Obj.mapSeq (· ++ vs.toArray))).objs.size = s.heap.objs.size + 1 := by
    rw [Heap.size_update, size_push']
  have hoL : (((s.heap.push (seqObj "list" #[] 0)).update s.heap.objs.size (Obj.mapSeq (· ++ vs.toArray))).push (seqObj "list" vs.toArray 0)).get? (s.heap.objs.size + 1) = some (seqObj "list" vs.toArray 0) := by
    rw [← hsz]; exact Heap.get?_push_size _ rfl
  have keep : ∀ b o, s.heap.get? b = some o → b ≠ s.heap.objs.size + 1 ∧ (((s.heap.push (seqObj "list" #[] 0)).update s.heap.objs.size (Obj.mapSeq (· ++ vs.toArray))).push (seqObj "list" vs.toArray 0)).get? b = some o := fun b o q => by
    have hlt : b < s.heap.objs.size := Heap.lt_size q
    refine ⟨Nat.ne_of_lt (Nat.lt_succ_of_lt hlt), Heap.get?_push_of_some _ ?_⟩
    rw [Heap.get?_update_ne _ _ _ _ (Nat.ne_of_lt hlt)]
    exact Heap.get?_push_of_some _ q
  show wpAny _ _ _ _ _ { s with heap := ((s.heap.push (seqObj "list" #[] 0)).update s.heap.objs.size (Obj.mapSeq (· ++ vs.toArray))).push (seqObj "list" vs.toArray 0) }
  rw [hsz]
  refine wpAny_bind (wpAny_holding (wpAny_call_entry slot_list_sort ⟨_, hoL, rfl⟩ entry_list_sort (SrtO.list_sort_ord O hoL hz (fun h2 => hS h2 _ _ hoL keep) fun out hs hb => ⟨_, rfl, ?_⟩) (args_list_sort _)))
  exact wpAny_pure ⟨_, rfl, h out hs hb⟩
end
section
variable {X : Cx}
def rSortedA (K : PySem.W.Frag) : List V → Hp → VK → Prop := fun vs H Q => ∃ (a : Addr) (ns : List Int), vs = [V.ref a] ∧ SqT K H a (ns.map V.int) ∧
  ∀ (ns' : List Int) (p : Addr), ns'.Perm ns → ns'.Pairwise (· ≤ ·) → H p = none → Q (.ref p) (upd H p (.lst (ns'.map V.int)))
theorem cr_sortedA : CallR X (.builtin "sorted") (rSortedA X.K) := by
  intro pins s σ H vs us Q I r h
  obtain ⟨a, ns, rfl, hs, q⟩ := h
  obtain ⟨its, rv, hl, hz⟩ := I.tuple hs
  rw [Vals.ref1 r]
  have hi := rv.ints
  refine sorted_ordT SrtO.swo_int hl (by rw [← rv.length]; exact hz) (fun h2 h₁ a' _ _ => SrtO.ints_sortable hi h2) fun out h1 h2 => ?_
  obtain ⟨k1, k2, k3⟩ := SrtO.ints_out hi h1 h2
  obtain ⟨ep, he'⟩ := PyProof.Rows.sortedAll_at s.heap its out.toArray
  have hlen : ((out.map SrtO.iv).map V.int).length ≤ sizeLine := by
    rw [List.length_map, k2.length_eq]
    rw [List.length_map] at hz
    exact hz
  exact ⟨.ref _, upd H (s.heap.objs.size + 1) (.lst ((out.map SrtO.iv).map V.int)), I.laid (t' := s.toks) (fun _ _ => PyProof.Rows.sortedAll_old) (Nat.le_succ _) ⟨hlen, out, ep, vals_of_ints k1, he'⟩, rfl, q _ _ k2 k3 (I.hok.fresh (Nat.le_succ _))⟩
/-! ### len of a dict, read -/
def rLenTR : List V → Hp → VK → Prop := fun xs H Q => ∃ (p : Addr) (kvs : List (List Key × V)), xs = [.ref p] ∧ Rd H p (.dT kvs) ∧ Q (.int ((kvs.length : Nat) : Int)) H
theorem call_len_dTR : CallR X (.builtin "len") rLenTR := by
  intro pins s σ H xs us Q I r h
  obtain ⟨p, kvs, rfl, hp, q⟩ := h
  obtain ⟨u, rfl, rx⟩ := vals1 r
  obtain rfl : u = .ref p := rx
  obtain ⟨z, hd, ys, rel, dd⟩ := dt_rd I.hok hp
  have hl : kvs.length = ys.length := Paired.length rel
  refine call_len_dictH hd dd (by rw [← hl]; rw [sizeLine_eq] at z; omega) ?_
  rw [← hl]
  exact ⟨.int ((kvs.length : Nat) : Int), H, I.tok _, ⟨_, rfl⟩, q⟩
def rLenKR : List V → Hp → VK → Prop := fun xs H Q => ∃ (p : Addr) (kvs : List (Key × V)), xs = [.ref p] ∧ Rd H p (.dK kvs) ∧ Q (.int ((kvs.length : Nat) : Int)) H
theorem call_len_dKR : CallR X (.builtin "len") rLenKR := by
  intro pins s σ H xs us Q I r h
  obtain ⟨p, kvs, rfl, hp, q⟩ := h
  obtain ⟨u, rfl, rx⟩ := vals1 r
  obtain rfl : u = .ref p := rx
  exact d_len I hp fun t s' I' => ⟨.int ((kvs.length : Nat) : Int), H, I', ⟨_, rfl⟩, q⟩
/-! ### isinstance of a dict -/
def rIsiD (K : PySem.W.Frag) : List V → Hp → VK → Prop := fun xs H Q => ∃ (a : Addr) (c : V) (u : Value) (b : Bool), xs = [.ref a, c] ∧ ClsV c u ∧ ((∃ kvs, Rd H a (.dT kvs)) ∨ ∃ kvs, Rd H a (.dK kvs)) ∧ PySem.W.kitOne K (.type "dict") u = some b ∧ Q (.bl b) H
theorem call_isiD : CallR X (.builtin "isinstance") (rIsiD X.K) := by
  intro pins s σ H xs us Q I r h
  obtain ⟨a, c, u, b, rfl, k, hd, e, q⟩ := h
  obtain ⟨u1, u2, rfl, r1, r2⟩ := vals2 r
  have e2 := k.eq r2
  subst e2
  cases r1
  have hx : ∃ o, s.heap.get? a = some o ∧ o.cls = .type "dict" := by
    rcases hd with ⟨kvs, h⟩ | ⟨kvs, h⟩
    · obtain ⟨_, _, xs, _, o, es, ep, h1, h2, _⟩ := dt_rd I.hok h
      exact ⟨o, h1, h2.1⟩
    · obtain ⟨_, _, xs, _, o, es, ep, h1, h2, _⟩ := dk_rd I.hok h
      exact ⟨o, h1, h2.1⟩
  exact PySem.W.kia_one PySem.W.kitx_dict I.kIn hx e (fun z => nomatch z) fun tk => ⟨.bl b, H, I.tok tk, rfl, q⟩
end
end L2.Dn
set_option Elab.async false
set_option linter.all false
set_option maxRecDepth 100000
namespace L2.Dn
open PySem PySem.Spec PyProof.Rows
/-! ### moving on -/
section
variable {B : Bs} {K : PySem.W.Frag} {env env' : En} {ds ds' : DS} {σ σ' : St} {Hf H Hf' H' : Hp}
theorem SR.move (S : SR B K env ds σ Hf H) (g : Gr B Hf H Hf' H') (sub : Same Hf' H') (dr : DrawR B.dr ds' Hf' H') : SR B K env ds' σ Hf' H' where
  sub := sub
  base := fun a o e => by
    obtain ⟨o1, e1, n1⟩ := S.base a o e
    obtain ⟨o2, e2, n2⟩ := g.hh a o1 e1
    exact ⟨o2, e2, fun n => (n2 n).trans (n1 n)⟩
  fbase := S.fbase.trans g.ff
  fnew := fun a h => by
    rcases g.nw a h with h1 | h1 | ⟨nd, xs, h1⟩
    · exact S.fnew a h1
    · refine .inr (.inl ?_)
      cases q : B.H0 a with
      | none => rfl
      | some o =>
        obtain ⟨o1, e1, _⟩ := S.base a o q
        rw [h1] at e1; cases e1
    · cases q : B.H0 a with
      | none => exact .inr (.inl rfl)
      | some o =>
        obtain ⟨o1, e1, n1⟩ := S.base a o q
        rw [h1] at e1; cases e1
        exact .inr (.inr ⟨nd, xs, by rw [← n1 nd]⟩)
  slots := fun i s e => by
    have h := S.slots i s e
    cases s with
    | val d =>
      obtain ⟨v, e1, r⟩ := h
      exact ⟨v, e1, r.up g.ff⟩
    | own d =>
      obtain ⟨a, e1, n1, n2, n3, t⟩ := h
      exact ⟨a, e1, g.noF n1 t.ne t.nt, n2, n3, t.up g n3⟩
    | draw => exact h
    | scr ns => exact h
  apart := S.apart
  draw := dr
  len := S.len
theorem SR.moveTo (S : SR B K env ds σ Hf H) (g : Gr B Hf H Hf' H') (S' : SR B K env' ds' σ' Hf' H') : SR B K env ds' σ Hf' H' := S.move g S'.sub S'.draw
def wipeE (env : En) : List Nat → En
  | [] => env
  | v :: vs => (wipeE env vs).set v none
theorem SR.unset (S : SR B K env ds σ Hf H) (i : Nat) : SR B K (env.set i none) ds (σ.set i none) Hf H where
  sub := S.sub
  base := S.base
  fbase := S.fbase
  fnew := S.fnew
  slots := fun j s e => by
    by_cases h : i = j
    · subst h
      rw [List.getElem?_set_self'] at e
      cases q : env[i]? with
      | none => rw [q] at e; cases e
      | some x => rw [q] at e; cases e
    · rw [List.getElem?_set_ne h] at e
      have := S.slots j s e
      cases s <;> (simp only [SlotR] at this ⊢; rw [List.getElem?_set_ne h]; exact this)
  apart := fun j l d e a hne h1 h2 h3 h4 => by
    by_cases hj : i = j
    · subst hj
      rw [List.getElem?_set_self'] at h1
      cases q : env[i]? with
      | none => rw [q] at h1; cases h1
      | some x => rw [q] at h1; cases h1
    · by_cases hl : i = l
      · subst hl
        rw [List.getElem?_set_self'] at h2
        cases q : env[i]? with
        | none => rw [q] at h2; cases h2
        | some x => rw [q] at h2; cases h2
      · rw [List.getElem?_set_ne hj] at h1 h3
        rw [List.getElem?_set_ne hl] at h2 h4
        exact S.apart j l d e a hne h1 h2 h3 h4
  draw := S.draw
  len := by rw [List.length_set, List.length_set]; exact S.len
theorem SR.wipe (S : SR B K env ds σ Hf H) : ∀ vs : List Nat, SR B K (wipeE env vs) ds (L2.wipe σ vs) Hf H
  | [] => S
  | v :: vs => (SR.wipe S vs).unset v
theorem SR.set (S : SR B K env ds σ Hf H) {i : Nat} {v : V} {d : D} (r : Rp Hf v d) : SR B K (env.set i (some (.val d))) ds (σ.set i (some v)) Hf H where
  sub := S.sub
  base := S.base
  fbase := S.fbase
  fnew := S.fnew
  slots := fun j s e => by
    by_cases h : i = j
    · subst h
      rw [List.getElem?_set_self'] at e
      cases q : env[i]? with
      | none => rw [q] at e; cases e
      | some x =>
        rw [q] at e
        cases e
        have hl : i < σ.length := by
          rw [← S.len]
          exact (List.getElem?_eq_some_iff.mp q).1
        exact ⟨v, by rw [List.getElem?_set_self hl], r⟩
    · rw [List.getElem?_set_ne h] at e
      have := S.slots j s e
      cases s <;> (simp only [SlotR] at this ⊢; rw [List.getElem?_set_ne h]; exact this)
  apart := fun j l d e a hne h1 h2 h3 h4 => by
    by_cases hj : i = j
    · subst hj
      rw [List.getElem?_set_self'] at h1
      cases q : env[i]? with
      | none => rw [q] at h1; cases h1
      | some x => rw [q] at h1; cases h1
    · by_cases hl : i = l
      · subst hl
        rw [List.getElem?_set_self'] at h2
        cases q : env[i]? with
        | none => rw [q] at h2; cases h2
        | some x => rw [q] at h2; cases h2
      · rw [List.getElem?_set_ne hj] at h1 h3
        rw [List.getElem?_set_ne hl] at h2 h4
        exact S.apart j l d e a hne h1 h2 h3 h4
  draw := S.draw
  len := by rw [List.length_set, List.length_set]; exact S.len
/-- a new object is a slot's own -/
theorem SR.setOwn (S : SR B K env ds σ Hf H) {i : Nat} {a : Addr} {d : D} (F : Fre B env σ a) (nf : Hf a = none) (t : Tp Hf H a d) : SR B K (env.set i (some (.own d))) ds (σ.set i (some (.ref a))) Hf H where
  sub := S.sub
  base := S.base
  fbase := S.fbase
  fnew := S.fnew
  slots := fun j s e => by
    by_cases h : i = j
    · subst h
      rw [List.getElem?_set_self'] at e
      cases q : env[i]? with
      | none => rw [q] at e; cases e
      | some x =>
        rw [q] at e
        cases e
        have hl : i < σ.length := by
          rw [← S.len]
          exact (List.getElem?_eq_some_iff.mp q).1
        exact ⟨a, by rw [List.getElem?_set_self hl], nf, F.h0, F.nd, t⟩
    · rw [List.getElem?_set_ne h] at e
      have := S.slots j s e
      cases s <;> (simp only [SlotR] at this ⊢; rw [List.getElem?_set_ne h]; exact this)
  apart := fun j l d e b hne h1 h2 h3 h4 => by
    by_cases hj : i = j
    · subst hj
      rw [List.getElem?_set_ne hne] at h2 h4
      rw [List.getElem?_set_self'] at h3
      cases q : σ[i]? with
      | none => rw [q] at h3; cases h3
      | some x =>
        rw [q] at h3
        cases h3
        exact F.no l e h2 h4
    · by_cases hl : i = l
      · subst hl
        rw [List.getElem?_set_ne hj] at h1 h3
        rw [List.getElem?_set_self'] at h4
        cases q : σ[i]? with
        | none => rw [q] at h4; cases h4
        | some x =>
          rw [q] at h4
          cases h4
          exact F.no j d h1 h3
      · rw [List.getElem?_set_ne hj] at h1 h3
        rw [List.getElem?_set_ne hl] at h2 h4
        exact S.apart j l d e b hne h1 h2 h3 h4
  draw := S.draw
  len := by rw [List.length_set, List.length_set]; exact S.len
/-- a slot's own object is changed -/
theorem SR.chg (S : SR B K env ds σ Hf H) {i : Nat} {a : Addr} {d0 d : D} {o : HO} (e0 : env[i]? = some (some (.own d0))) (ea : σ[i]? = some (some (.ref a))) (t : Tp Hf (upd H a o) a d) : SR B K (env.set i (some (.own d))) ds σ Hf (upd H a o) where
  sub := fun b x e => by
    obtain ⟨a', e1, n1, _, _, _⟩ := S.slots i _ e0
    rw [ea] at e1; cases e1
    rw [upd_ne (ne_of_none e n1)]; exact S.sub b x e
  base := fun b x e => by
    obtain ⟨a', e1, _, n2, _, _⟩ := S.slots i _ e0
    rw [ea] at e1; cases e1
    rw [upd_ne (ne_of_none e n2)]; exact S.base b x e
  fbase := S.fbase
  fnew := S.fnew
  slots := fun j s e => by
    by_cases h : i = j
    · subst h
      rw [List.getElem?_set_self', e0] at e
      cases e
      obtain ⟨a', e1, n1, n2, n3, _⟩ := S.slots i _ e0
      rw [ea] at e1; cases e1
      exact ⟨a, ea, n1, n2, n3, t⟩
    · rw [List.getElem?_set_ne h] at e
      exact (S.slots j s e).hp fun d' q => by
        subst q
        exact fun z => S.apart i j d0 d' a h e0 e ea z
  apart := fun j l d' e b hne h1 h2 h3 h4 => by
    have f : ∀ {m : Nat} {x : D}, (env.set i (some (.own d)))[m]? = some (some (.own x)) → ∃ y, env[m]? = some (some (.own y)) := fun {m x} h => by
      by_cases hm : i = m
      · subst hm; exact ⟨d0, e0⟩
      · rw [List.getElem?_set_ne hm] at h; exact ⟨x, h⟩
    obtain ⟨y1, k1⟩ := f h1
    obtain ⟨y2, k2⟩ := f h2
    exact S.apart j l y1 y2 b hne k1 k2 h3 h4
  draw := fun x l c e => by
    obtain ⟨a', e1, _, _, n3, _⟩ := S.slots i _ e0
    rw [ea] at e1; cases e1
    obtain ⟨h1, h2, h3, h4, h5⟩ := S.draw x l c e
    refine ⟨?_, ?_, h3, h4, h5⟩
    · rw [upd_ne]
      · exact h1
      · intro z; subst z; exact n3 ⟨_, _, _, e, .inl rfl⟩
    · rw [upd_ne]
      · exact h2
      · intro z; subst z; exact n3 ⟨_, _, _, e, .inr rfl⟩
  len := by rw [List.length_set]; exact S.len
end
/-! ### targets -/
def SG (X : Cx) (tg : Expr) (v : V) (σ : St) (H : Hp) (Q : St → Hp → Prop) : Prop := ∀ pins s u, Inv X pins σ H s → RelV v u → wpAny (model X.prog X.w) X.A (assign tg X.env u) (fun _ s' => ∃ σ' H', Inv X pins σ' H' s' ∧ Q σ' H') X.xe s
theorem pg_sg (X : Cx) (tg : Expr) : PG X tg (SG X tg) := ⟨fun pins s σ H v u Q I r h => h pins s u I r⟩
theorem SG.of {X : Cx} {tg : Expr} {t : TG} (p : PG X tg t) {v : V} {σ : St} {H : Hp} {Q : St → Hp → Prop} (h : t v σ H Q) : SG X tg v σ H Q := fun pins s u I r => p.run pins s σ H v u Q I r h
abbrev DenG := D → En → Option En
/-- a target: the slots ts alone -/
def EvG (X : Cx) (tg : Expr) (ts : List Nat) (g : DenG) : Prop := ∀ B env env' ds σ Hf H d v, SR B X.K env ds σ Hf H → Rp Hf v d → g d env = some env' → ∀ Q : St → Hp → Prop,
  (∀ σ', SR B X.K env' ds σ' Hf H → σ'.length = σ.length → (∀ j, j ∉ ts → σ'[j]? = σ[j]?) → Q σ' H) → SG X tg v σ H Q
def EvGs (X : Cx) (tgs : List Expr) (ts : List Nat) (g : List D → En → Option En) : Prop := ∃ t : TGs, PGs X tgs t ∧ ∀ B env env' ds σ Hf H d vs, SR B X.K env ds σ Hf H → RpL Hf vs d → g d env = some env' → ∀ Q : St → Hp → Prop,
  (∀ σ', SR B X.K env' ds σ' Hf H → σ'.length = σ.length → (∀ j, j ∉ ts → σ'[j]? = σ[j]?) → Q σ' H) → t vs σ H Q
def gNm (i : Nat) : DenG := fun d env => some (env.set i (some (.val d)))
def gsNil : List D → En → Option En
  | [], env => some env
  | _, _ => none
def gsCons (g : DenG) (gs : List D → En → Option En) : List D → En → Option En
  | d :: r, env => match g d env with
    | none => none
    | some env' => gs r env'
  | _, _ => none
def gTp (gs : List D → En → Option En) : DenG := fun d env => match d with
  | .tuple ds => gs ds env
  | _ => none
section
variable {X : Cx} {pos : Pos}
theorem evg_nm (i : Nat) {x : Str} (hN : X.N.Nodup) (hi : X.N[i]? = some x := by rfl) (hx : Loc X.env.scope x := by first | exact Or.inl rfl | exact Or.inr rfl) (hf : X.fn x = true ∨ X.env.scope.names.lookup x = some .local := by first | exact .inl rfl | exact .inr rfl) : EvG X (.Name x pos) [i] (gNm i) := fun B env env' ds σ Hf H d v S r e Q q => by
  cases e
  refine SG.of (pg_name hN hi hx hf) (q _ (S.set r) (List.length_set ..) fun j hj => ?_)
  rw [List.getElem?_set_ne]
  simp at hj
  omega
theorem evgs_nil : EvGs X [] [] gsNil := ⟨_, pgs_nil, fun B env env' ds σ Hf H d vs S r e Q q => by
  cases r with
  | nil => cases e; exact ⟨rfl, q σ S rfl fun _ _ => rfl⟩
  | cons _ _ => cases e⟩
theorem evgs_cons {tg : Expr} {tgs : List Expr} {ts us : List Nat} {g : DenG} {gs : List D → En → Option En} (h : EvG X tg ts g) (hs : EvGs X tgs us gs)
    (he : (assignEach (tg :: tgs) X.env).map (·.2) = assign tg X.env :: (assignEach tgs X.env).map (·.2) := by rfl) : EvGs X (tg :: tgs) (ts ++ us) (gsCons g gs) := by
  obtain ⟨t, pt, k⟩ := hs
  refine ⟨_, pgs_cons (pg_sg X tg) pt he, fun B env env' ds σ Hf H d vs S r e Q q => ?_⟩
  cases r with
  | nil => cases e
  | cons r rr =>
    rename_i v vs d ds
    have e : (match g d env with | none => none | some env' => gs ds env') = some env' := e
    cases e1 : g d env with
    | none => rw [e1] at e; cases e
    | some env1 =>
      rw [e1] at e
      refine ⟨v, vs, rfl, h B env env1 _ σ Hf H d v S r e1 _ fun σ1 S1 l1 o1 => ?_⟩
      refine k B env1 env' _ σ1 Hf H ds vs S1 rr e Q fun σ2 S2 l2 o2 => ?_
      refine q σ2 S2 (l2.trans l1) fun j hj => ?_
      rw [o2 j fun z => hj (List.mem_append_right _ z), o1 j fun z => hj (List.mem_append_left _ z)]
theorem evg_tp {es : List Expr} {k : Nat} {ts : List Nat} {gs : List D → En → Option En} {n : Nat} (hc : X.calm = true) (h : EvGs X es ts gs) (hn : (assignEach es X.env).length = n) (hgn : ∀ d env env', gs d env = some env' → d.length = n)
    (hst : (assignEach es X.env).findIdx? (·.1) = none := by rfl) : EvG X (.Tuple es k pos) ts (gTp gs) := fun B env env' ds σ Hf H d v S r e Q q => by
  obtain ⟨t, pt, kk⟩ := h
  refine SG.of (pg_tup hc pt hn hst) ?_
  unfold gTp at e
  cases r with
  | tup h1 r =>
    exact ⟨_, _, rfl, .inl (.inl (S.sub _ _ h1)), by rw [r.length]; exact hgn _ _ _ e, kk B env env' _ σ Hf H _ _ S r e Q q⟩
  | _ => cases e
theorem gs2 {g h : DenG} : ∀ d env env', gsCons g (gsCons h gsNil) d env = some env' → d.length = 2 := by
  intro d env env' e
  match d, e with
  | [], e => cases e
  | [a], e =>
    have e : (match g a env with | none => none | some env' => gsCons h gsNil [] env') = some env' := e
    cases q : g a env <;> (rw [q] at e; cases e)
  | [a, b], _ => rfl
  | a :: b :: c :: r, e =>
    have e : (match g a env with | none => none | some env' => gsCons h gsNil (b :: c :: r) env') = some env' := e
    cases q : g a env with
    | none => rw [q] at e; cases e
    | some x =>
      rw [q] at e
      have e : (match h b x with | none => none | some env' => gsNil (c :: r) env') = some env' := e
      cases q2 : h b x <;> (rw [q2] at e; cases e)
theorem gs3 {g h l : DenG} : ∀ d env env', gsCons g (gsCons h (gsCons l gsNil)) d env = some env' → d.length = 3 := by
  intro d env env' e
  cases d with
  | nil => cases e
  | cons a r =>
    have e : (match g a env with | none => none | some env' => gsCons h (gsCons l gsNil) r env') = some env' := e
    cases q : g a env with
    | none => rw [q] at e; cases e
    | some x =>
      rw [q] at e
      have := gs2 _ _ _ e
      rw [List.length_cons, this]
end
theorem wipe_eq {σ σ' : St} {ts : List Nat} : ∀ {vs : List Nat}, σ'.length = σ.length → (∀ j, j ∉ ts → σ'[j]? = σ[j]?) → (∀ j ∈ ts, j ∈ vs) → L2.wipe σ' vs = L2.wipe σ vs := by
  intro vs hl ho hv
  apply List.ext_getElem?
  intro j
  by_cases hj : j ∈ vs
  · have f : ∀ (τ : St) (us : List Nat), j ∈ us → (L2.wipe τ us)[j]? = if j < τ.length then some none else none := by
      intro τ us
      induction us with
      | nil => intro h; cases h
      | cons u us ih =>
        intro h
        show ((L2.wipe τ us).set u none)[j]? = _
        by_cases e : u = j
        · subst e
          rw [List.getElem?_set_self', ← wipe_length τ us]
          by_cases hlt : u < (L2.wipe τ us).length
          · rw [if_pos hlt, List.getElem?_eq_getElem hlt]; rfl
          · rw [if_neg hlt, List.getElem?_eq_none (by omega)]; rfl
        · rw [List.getElem?_set_ne e]
          exact ih ((List.mem_cons.mp h).elim (fun z => absurd z.symm e) id)
    rw [f σ' vs hj, f σ vs hj, hl]
  · rw [wipe_out hj, wipe_out hj]
    exact ho j fun z => hj (hv j z)
/-! ### what is walked -/
def SI (X : Cx) (tg iter : Expr) (σ : St) (H : Hp) (R : It → Hp → Prop) : Prop := ∀ pins s, Inv X pins σ H s →
  wpAny (model X.prog X.w) X.A (eval iter X.env) (fun v s1 => wpAny (model X.prog X.w) X.A (pyIter v) (PIE X pins σ tg R) X.xe s1) X.xe s
theorem pi_si (X : Cx) (tg iter : Expr) : PI X tg iter (SI X tg iter) := ⟨fun pins s σ H R I h => h pins s I⟩
theorem SI.of {X : Cx} {tg iter : Expr} {wi : TI} (p : PI X tg iter wi) {σ : St} {H : Hp} {R : It → Hp → Prop} (h : wi σ H R) : SI X tg iter σ H R := fun pins s I => p.run pins s σ H R I h
/-- the items, in their order -/
def Yl (B : Bs) (K : PySem.W.Frag) (J : It) (items : List D) (Hf0 : Hp) : Prop := ∀ i env ds σ Hf H, Same Hf0 Hf → SR B K env ds σ Hf H →
  (i < items.length → J.go i H ∧ ∀ x H', J.yld i H x H' → ∀ d, items[i]? = some d → ∃ Hf', Gr B Hf H Hf' H' ∧ SR B K env ds σ Hf' H' ∧ Rp Hf' x d) ∧ (items.length ≤ i → J.stop i H)
def EvI (X : Cx) (tg iter : Expr) (g : DenA) : Prop := ∀ B env ds σ Hf H items ds', SR B X.K env ds σ Hf H → g env ds = some (items, ds') → ∀ R : It → Hp → Prop,
  (∀ J Hf' H', Gr B Hf H Hf' H' → SR B X.K env ds' σ Hf' H' → Yl B X.K J items Hf' → R J H') → SI X tg iter σ H R
section
variable {X : Cx} {tg e : Expr} {f : Den}
theorem yl_list {B : Bs} {K : PySem.W.Frag} {a : Addr} {vs : List V} {items : List D} {Hf0 : Hp} (h : Hf0 a = some (.lst vs)) (r : RpL Hf0 vs items) : Yl B K (Itl K a) items Hf0 := fun i env ds σ Hf H s S => by
  have hq : SqL K H a vs := .inl (.inl (S.sub _ _ (s _ _ h)))
  refine ⟨fun hi => ?_, fun hi => ⟨vs, hq, by rw [r.length]; exact hi⟩⟩
  obtain ⟨v, e1, r1⟩ := r.get (List.getElem?_eq_getElem hi)
  refine ⟨⟨vs, v, hq, e1⟩, fun x H' y d hd => ?_⟩
  obtain ⟨rfl, y⟩ := y
  have := y vs hq
  rw [e1] at this
  cases this
  rw [List.getElem?_eq_getElem hi] at hd
  cases hd
  exact ⟨Hf, Gr.refl, S, r1.up s⟩
theorem yl_tup {B : Bs} {K : PySem.W.Frag} {a : Addr} {vs : List V} {items : List D} {Hf0 : Hp} (h : Hf0 a = some (.tup vs)) (r : RpL Hf0 vs items) : Yl B K (Itt K a) items Hf0 := fun i env ds σ Hf H s S => by
  have hq : SqT K H a vs := .inl (.inl (S.sub _ _ (s _ _ h)))
  refine ⟨fun hi => ?_, fun hi => ⟨vs, hq, by rw [r.length]; exact hi⟩⟩
  obtain ⟨v, e1, r1⟩ := r.get (List.getElem?_eq_getElem hi)
  refine ⟨⟨vs, v, hq, e1⟩, fun x H' y d hd => ?_⟩
  obtain ⟨rfl, y⟩ := y
  have := y vs hq
  rw [e1] at this
  cases this
  rw [List.getElem?_eq_getElem hi] at hd
  cases hd
  exact ⟨Hf, Gr.refl, S, r1.up s⟩
theorem yl_ptup {B : Bs} {K : PySem.W.Frag} {a : Addr} {vs : List V} {items : List D} {Hf0 : Hp} {o : Obj} (h : Hf0 a = some (.frz o (.tup vs))) (r : RpL Hf0 vs items) : Yl B K (Itt K a) items Hf0 := fun i env ds σ Hf H s S => by
  have hq : SqT K H a vs := .inl (.inr ⟨o, S.sub _ _ (s _ _ h)⟩)
  refine ⟨fun hi => ?_, fun hi => ⟨vs, hq, by rw [r.length]; exact hi⟩⟩
  obtain ⟨v, e1, r1⟩ := r.get (List.getElem?_eq_getElem hi)
  refine ⟨⟨vs, v, hq, e1⟩, fun x H' y d hd => ?_⟩
  obtain ⟨rfl, y⟩ := y
  have := y vs hq
  rw [e1] at this
  cases this
  rw [List.getElem?_eq_getElem hi] at hd
  cases hd
  exact ⟨Hf, Gr.refl, S, r1.up s⟩
def rgD (a : Int) : Nat → List D
  | 0 => []
  | n + 1 => .int a :: rgD (a + 1) n
theorem rgD_len : ∀ (a : Int) (n : Nat), (rgD a n).length = n
  | _, 0 => rfl
  | a, n + 1 => congrArg Nat.succ (rgD_len (a + 1) n)
theorem rgD_get : ∀ (a : Int) (n i : Nat), i < n → (rgD a n)[i]? = some (.int (a + i))
  | _, 0, _, h => absurd h (Nat.not_lt_zero _)
  | a, n + 1, 0, _ => by simp [rgD]
  | a, n + 1, i + 1, h => by
    show (rgD (a + 1) n)[i]? = _
    rw [rgD_get (a + 1) n i (by omega)]
    congr 2
    omega
theorem yl_rng {B : Bs} {K : PySem.W.Frag} {lo : Int} {n : Nat} {Hf0 : Hp} : Yl B K (Itr lo n) (rgD lo n) Hf0 := fun i env ds σ Hf H s S => by
  rw [rgD_len]
  refine ⟨fun hi => ⟨hi, fun x H' y d hd => ?_⟩, fun hi => hi⟩
  obtain ⟨rfl, rfl⟩ := y
  rw [rgD_get lo n i hi] at hd
  cases hd
  exact ⟨Hf, Gr.refl, S, .int _⟩
theorem yl_keysT {B : Bs} {K : PySem.W.Frag} {a : Addr} {o : Obj} {kvs : List (List Key × V)} {items : List (List Key × D)} {Hf0 : Hp} (h : Hf0 a = some (.frz o (.dT kvs))) (r : RpT Hf0 kvs items) : Yl B K (Itkt a o kvs) (items.map fun p => keyT p.1) Hf0 := fun i env ds σ Hf H s S => by
  have hq : H a = some (.frz o (.dT kvs)) := S.sub _ _ (s _ _ h)
  have keys : ∀ {kvs : List (List Key × V)} {items : List (List Key × D)}, RpT Hf0 kvs items → kvs.map (·.1) = items.map (·.1) := by
    intro kvs items r
    induction items generalizing kvs with
    | nil => cases r; rfl
    | cons p ps ih => cases r with
      | cons h t => rw [List.map_cons, List.map_cons, ih t]
  have hk := keys r
  have hl := r.length
  rw [List.length_map]
  refine ⟨fun hi => ⟨⟨hq, by omega⟩, fun x H' y d hd => ?_⟩, fun hi => ⟨hq, by omega⟩⟩
  obtain ⟨rfl, k, v, q, e1, rfl, e2⟩ := y
  rw [List.getElem?_map, List.getElem?_eq_getElem hi] at hd
  cases hd
  have e3 : (kvs.map (·.1))[i]? = some k := by rw [List.getElem?_map, e1]; rfl
  rw [hk, List.getElem?_map, List.getElem?_eq_getElem hi] at e3
  have e4 : (items[i]).1 = k := Option.some.inj e3
  show ∃ Hf', Gr B Hf H' Hf' H' ∧ SR B K env ds σ Hf' H' ∧ Rp Hf' (V.ref q) (keyT (items[i]).1)
  rw [e4]
  cases hq2 : Hf q with
  | none => exact ⟨upd Hf q (.tup (k.map kV)), ⟨fun a o e => ⟨o, e, fun _ => rfl⟩, same_fz hq2, fun b hb => by
      by_cases h : b = q
      · subst h; exact .inr (.inr ⟨S.noDrT e2, _, e2⟩)
      · rw [upd_ne h] at hb; exact .inl hb⟩, S.fzT hq2 e2, .tup upd_same key_rp⟩
  | some o2 =>
    have := S.sub _ _ hq2
    rw [e2] at this
    cases this
    exact ⟨Hf, Gr.refl, S, .tup hq2 key_rp⟩
end
end L2.Dn
set_option Elab.async false
set_option linter.all false
set_option maxRecDepth 100000
namespace L2.Dn
open PySem PySem.Spec PyProof.Rows
/-! ### iteration sources -/
/-- what a value that stays gives, walked -/
def itemsOf : D → Option (List D)
  | .list xs => some xs
  | .tuple xs => some xs
  | .ptup xs => some xs
  | .dT kvs => some (kvs.map fun p => keyT p.1)
  | _ => none
def dItems (f : Den) : DenA := fun env ds => bnd (f env ds) fun a s => op1 (itemsOf a) s
/-- range(a) | range(a, b) -/
def dRg1 (f : Den) : DenA := fun env ds => bnd (f env ds) fun a s => match a with
  | .int n => if n < 100000 ∧ -100000 < n then some (rgD 0 n.toNat, s) else none
  | _ => none
def dRg2 (f h : Den) : DenA := fun env ds => bnd (f env ds) fun a s => bnd (h env s) fun b s1 => match a, b with
  | .int i, .int j => if -100000 < i ∧ i < 100000 ∧ -100000 < j ∧ j < 100000 then some (rgD i (j - i).toNat, s1) else none
  | _, _ => none
section
variable {X : Cx} {tg e a b : Expr} {f h : Den}
theorem evi_val (hf : EvF X e f) (hs : ∀ x, foldedSetIterable e X.env x = pure x := by intro _; rfl) (hk : ∀ elts kk tpos, tg = .Tuple elts kk tpos → True := fun _ _ _ _ => trivial) : EvI X tg e (dItems f) := fun B env ds σ Hf H items ds' S he R q => by
  obtain ⟨v1, s1, e1, e⟩ := bnd_eq he
  obtain ⟨e3, rfl⟩ := op1_eq e
  unfold itemsOf at e3
  split at e3
  · cases e3
    refine SI.of (pi_list (pe_se X _)) (hf B env ds σ Hf H _ _ S e1 _ fun v Hf1 H1 g1 S1 r1 => ?_)
    cases r1 with
    | lst h1 r => exact ⟨_, rfl, ⟨_, .inl (.inl (S1.sub _ _ h1))⟩, q _ _ _ g1 S1 (yl_list h1 r)⟩
  · cases e3
    refine SI.of (pi_tup (pe_se X _)) (hf B env ds σ Hf H _ _ S e1 _ fun v Hf1 H1 g1 S1 r1 => ?_)
    cases r1 with
    | tup h1 r => exact ⟨_, rfl, ⟨_, .inl (.inl (S1.sub _ _ h1))⟩, q _ _ _ g1 S1 (yl_tup h1 r)⟩
  · cases e3
    refine SI.of (pi_tup (pe_se X _)) (hf B env ds σ Hf H _ _ S e1 _ fun v Hf1 H1 g1 S1 r1 => ?_)
    cases r1 with
    | ptup h1 hd r => exact ⟨_, rfl, ⟨_, .inl (.inr ⟨_, S1.sub _ _ h1⟩)⟩, q _ _ _ g1 S1 (yl_ptup h1 r)⟩
  · cases e3
    refine SI.of (pi_keys (pe_se X _)) (hf B env ds σ Hf H _ _ S e1 _ fun v Hf1 H1 g1 S1 r1 => ?_)
    cases r1 with
    | dT h1 r => exact ⟨_, _, rfl, .inr ⟨_, S1.sub _ _ h1, q _ _ _ g1 S1 (yl_keysT h1 r)⟩⟩
  · cases e3
theorem evi_rg1 {p pos : Pos} (hm : X.mg "range" = none) (ha : EvR X a f) (hg : Gl X "range" := by rfl) (hs : starEach [a] X.env = [(false, eval a X.env)] := by rfl) : EvI X tg (.Call (.Name "range" p) [a] [] pos) (dRg1 f) := fun B env ds σ Hf H items ds' S he R q => by
  obtain ⟨v1, s1, e1, e⟩ := bnd_eq he
  cases v1 with
  | int n =>
    have e : (if n < 100000 ∧ -100000 < n then some (rgD 0 n.toNat, s1) else none) = some (items, ds') := e
    split at e
    · rename_i hn
      cases e
      refine SI.of (pi_range1 hg hm (pa_cons (pe_se X _) pa_nil hs) hs) ?_
      refine ha B env ds σ Hf H _ _ S e1 _ fun v Hf1 H1 g1 S1 r1 => ?_
      cases r1.int
      exact ⟨n, rfl, by omega, by omega, q _ _ _ g1 S1 yl_rng⟩
    · cases e
  | _ => cases e
theorem evi_rg2 {p pos : Pos} (hm : X.mg "range" = none) (ha : EvR X a f) (hb : EvR X b h) (hg : Gl X "range" := by rfl) (hs : starEach [a, b] X.env = [(false, eval a X.env), (false, eval b X.env)] := by rfl) (hs2 : starEach [b] X.env = [(false, eval b X.env)] := by rfl) :
    EvI X tg (.Call (.Name "range" p) [a, b] [] pos) (dRg2 f h) := fun B env ds σ Hf H items ds' S he R q => by
  obtain ⟨v1, s1, e1, e⟩ := bnd_eq he
  obtain ⟨v2, s2, e2, e⟩ := bnd_eq e
  cases v1 with
  | int i =>
    cases v2 with
    | int j =>
      have e : (if -100000 < i ∧ i < 100000 ∧ -100000 < j ∧ j < 100000 then some (rgD i (j - i).toNat, s2) else none) = some (items, ds') := e
      split at e
      · rename_i hn
        cases e
        refine SI.of (pi_range2 hg hm (pa_cons (pe_se X _) (pa_cons (pe_se X _) pa_nil hs2) (by rw [hs, hs2])) hs hs2) ?_
        refine ha B env ds σ Hf H _ _ S e1 _ fun v Hf1 H1 g1 S1 r1 => hb B env s1 σ Hf1 H1 _ _ S1 e2 _ fun v2 Hf2 H2 g2 S2 r2 => ?_
        cases r1.int
        cases r2.int
        exact ⟨i, j, rfl, by omega, q _ _ _ (g1.trans g2) S2 yl_rng⟩
      · cases e
    | _ => cases e
  | _ => cases e
end
/-! ### list comprehensions -/
def tYesD : DenT := fun _ ds => some (true, ds)
/-- the tests of a comprehension's clause -/
def EvTs (X : Cx) (ifs : List Expr) (t : DenT) : Prop := ∃ tt : TT, PTs X ifs tt ∧ ∀ B env ds σ Hf H d ds', SR B X.K env ds σ Hf H → t env ds = some (d, ds') → ∀ Q : Bool → Hp → Prop, CT B X.K env ds' σ Hf H d Q → tt σ H Q
theorem evts_nil {X : Cx} : EvTs X [] tYesD := ⟨_, pts_nil, fun B env ds σ Hf H d ds' S e Q q => by
  cases e
  exact q _ _ Gr.refl S⟩
theorem evts_one {X : Cx} {c : Expr} {t : DenT} (h : EvT X c t) : EvTs X [c] t := ⟨_, pts_one (pt_st X c), fun B env ds σ Hf H d ds' S e Q q => h B env ds σ Hf H d ds' S e Q q⟩
def lcLoop (gg : DenG) (t : DenT) (fe : Den) (env0 : En) : List D → DS → Option (List D × DS)
  | [], s => some ([], s)
  | d :: r, s => match gg d env0 with
    | none => none
    | some env' => bnd (t env' s) fun b s1 => match b with
      | false => lcLoop gg t fe env0 r s1
      | true => bnd (fe env' s1) fun y s2 => bnd (lcLoop gg t fe env0 r s2) fun ys s3 => some (y :: ys, s3)
def dLc (gi : DenA) (own : List Nat) (gg : DenG) (t : DenT) (fe : Den) : Den := fun env ds => bnd (gi env ds) fun items s => bnd (lcLoop gg t fe (wipeE env own) items s) fun r s' => if r.length ≤ 100000 then some (.list r, s') else none
theorem lcLoop_cons {gg : DenG} {t : DenT} {fe : Den} {env0 : En} {d : D} {r : List D} {s s' : DS} {ys : List D} (h : lcLoop gg t fe env0 (d :: r) s = some (ys, s')) :
    ∃ env' b s1, gg d env0 = some env' ∧ t env' s = some (b, s1) ∧ ((b = false ∧ lcLoop gg t fe env0 r s1 = some (ys, s')) ∨ (b = true ∧ ∃ y s2 zs, fe env' s1 = some (y, s2) ∧ lcLoop gg t fe env0 r s2 = some (zs, s') ∧ ys = y :: zs)) := by
  unfold lcLoop at h
  split at h
  · cases h
  · rename_i env' e1
    obtain ⟨b, s1, e2, h⟩ := bnd_eq h
    refine ⟨env', b, s1, e1, e2, ?_⟩
    cases b with
    | false => exact .inl ⟨rfl, h⟩
    | true =>
      obtain ⟨y, s2, e3, h⟩ := bnd_eq h
      obtain ⟨zs, s3, e4, h⟩ := bnd_eq h
      cases h
      exact .inr ⟨rfl, y, s2, zs, e3, e4, rfl⟩
theorem drop_at {items : List D} {i : Nat} {d : D} {r : List D} (h : items.drop i = d :: r) : i < items.length ∧ items[i]? = some d ∧ items.drop (i + 1) = r := by
  have h1 : i < items.length := by
    rcases Nat.lt_or_ge i items.length with q | q
    · exact q
    · rw [List.drop_eq_nil_of_le q] at h; cases h
  rw [List.drop_eq_getElem_cons h1] at h
  cases h
  exact ⟨h1, List.getElem?_eq_getElem h1, rfl⟩
/-- the readings that a block's parts have in every block of that kind -/
def SGb (X : Cx) (scope : Scope) (tg : Expr) (v : V) (σ : St) (H : Hp) (Q : St → Hp → Prop) : Prop := ∀ (s : Shared) (H0 : Hp) (C : Addr) (cl : List (Str × Addr)) (fp : List Addr), SG (X.blk s H0 scope (compEnvC scope cl C X.env) fp) tg v σ H Q
def SEb (X : Cx) (scope : Scope) (e : Expr) (σ : St) (H : Hp) (Q : VK) : Prop := ∀ (s : Shared) (H0 : Hp) (C : Addr) (cl : List (Str × Addr)) (fp : List Addr), SE (X.blk s H0 scope (compEnvC scope cl C X.env) fp) e σ H Q
def STb (X : Cx) (scope : Scope) (e : Expr) (σ : St) (H : Hp) (Q : Bool → Hp → Prop) : Prop := ∀ (s : Shared) (H0 : Hp) (C : Addr) (cl : List (Str × Addr)) (fp : List Addr), STt (X.blk s H0 scope (compEnvC scope cl C X.env) fp) e σ H Q
/-- all blocks of a comprehension -/
abbrev Blks (X : Cx) (scope : Scope) (p : Cx → Prop) : Prop := ∀ (s : Shared) (H : Hp) (C : Addr) (cl : List (Str × Addr)) (fp : List Addr), p (X.blk s H scope (compEnvC scope cl C X.env) fp)
/-- a clause's tests, in all blocks -/
def EvTb (X : Cx) (scope : Scope) (ifs : List Expr) (t : DenT) : Prop := ∃ tt : TT, Blks X scope (fun Y => PTs Y ifs tt) ∧
  ∀ B env ds σ Hf H d ds', SR B X.K env ds σ Hf H → t env ds = some (d, ds') → ∀ Q : Bool → Hp → Prop, CT B X.K env ds' σ Hf H d Q → tt σ H Q
theorem evtb_nil {X : Cx} {scope : Scope} : EvTb X scope [] tYesD := ⟨_, fun _ _ _ _ _ => pts_nil, fun B env ds σ Hf H d ds' S e Q q => by
  cases e
  exact q _ _ Gr.refl S⟩
theorem evtb_one {X : Cx} {scope : Scope} {c : Expr} {t : DenT} (h : Blks X scope fun Y => EvT Y c t) : EvTb X scope [c] t := ⟨STb X scope c, fun s H C cl fp => pts_one ⟨fun pins s' σ H' Q I hh => hh s H C cl fp pins s' I⟩, fun B env ds σ Hf H d ds' S e Q q s H0 C cl fp => h s H0 C cl fp B env ds σ Hf H d ds' S e Q q⟩
section
variable {X : Cx} {tg iter elt : Expr} {ifs : List Expr} {scope : Scope} {own : List (Str × Nat)} {pos : Pos} {gi : DenA} {ts : List Nat} {gg : DenG} {t : DenT} {fe : Den}
theorem lc_reading {tt : TT} (hi : EvI X tg iter gi) (hg : Blks X scope fun Y => EvG Y tg ts gg)
    (ht : ∀ B env ds σ Hf H d ds', SR B X.K env ds σ Hf H → t env ds = some (d, ds') → ∀ Q : Bool → Hp → Prop, CT B X.K env ds' σ Hf H d Q → tt σ H Q)
    (he : Blks X scope fun Y => EvF Y elt fe) (hts : ∀ j ∈ ts, j ∈ own.map (·.2)) {B : Bs} {env : En} {ds ds' : DS} {σ : St} {Hf H : Hp} {d : D} (S : SR B X.K env ds σ Hf H) (hf : dLc gi (own.map (·.2)) gg t fe env ds = some (d, ds')) {Q : VK} (q : CN B X.K env ds' σ Hf H d Q) :
    tLc (SI X tg iter) (SGb X scope tg) tt (SEb X scope elt) (own.map (·.2)) σ H Q := by
  obtain ⟨items, s1, e1, e⟩ := bnd_eq hf
  obtain ⟨r, s2, e2, e⟩ := bnd_eq e
  have e : (if r.length ≤ 100000 then some (D.list r, s2) else none) = some (d, ds') := e
  split at e
  · rename_i hz
    cases e
    refine hi B env ds σ Hf H _ _ S e1 _ fun J Hf1 H1 g1 S1 y1 => ?_
    intro Dd nD
    have nD0 : H Dd = none := g1.fresh nD
    have nfD1 : Hf1 Dd = none := sub_none S1 nD
    have ndD : ¬ B.isDr Dd := S1.noDr nD
    refine ⟨fun i m H' => m = items.length - i ∧ i ≤ items.length ∧ ∃ Hf' si accV acc ys, Gr B Hf1 H1 Hf' H' ∧ Hf' Dd = none ∧ SR B X.K env si σ Hf' H' ∧ H' Dd = some (.lst accV) ∧ RpL Hf' accV acc ∧ lcLoop gg t fe (wipeE env (own.map (·.2))) (items.drop i) si = some (ys, ds') ∧ acc ++ ys = r,
      ⟨items.length, by simp, Nat.zero_le _, Hf1, s1, [], [], r, Gr.refl.hp nD, nfD1, S1.hp nfD1 (S1.fre nD), upd_same, .nil, by rw [List.drop_zero]; exact e2, by simp⟩, ?_⟩
    rintro i m H' ⟨rfl, hi', Hf', si, accV, acc, ys, g2, nfD, S2, hD, rD, el, ea⟩
    obtain ⟨yg, ys0⟩ := y1 i env si σ Hf' H' g2.ff S2
    cases hd : items.drop i with
    | nil =>
      have hl : items.length ≤ i := by
        rcases Nat.lt_or_ge i items.length with z | z
        · rw [List.drop_eq_getElem_cons z] at hd; cases hd
        · exact z
      rw [hd] at el
      cases el
      rw [List.append_nil] at ea
      subst ea
      exact .inl ⟨ys0 hl, q Dd Hf' H' (g1.trans g2) S2 nD0 nfD (.lst hD rD)⟩
    | cons it rest =>
      obtain ⟨hlt, hit, hrest⟩ := drop_at hd
      rw [hd] at el
      obtain ⟨env', b, s3, k1, k2, k3⟩ := lcLoop_cons el
      obtain ⟨yg1, yg2⟩ := yg hlt
      refine .inr ⟨yg1, fun H2 => ∃ m', m' < items.length - i ∧ (m' = items.length - (i + 1) ∧ i + 1 ≤ items.length ∧ ∃ Hf' si accV acc ys, Gr B Hf1 H1 Hf' H2 ∧ Hf' Dd = none ∧ SR B X.K env si σ Hf' H2 ∧ H2 Dd = some (.lst accV) ∧ RpL Hf' accV acc ∧ lcLoop gg t fe (wipeE env (own.map (·.2))) (items.drop (i + 1)) si = some (ys, ds') ∧ acc ++ ys = r), fun H2 h2 => h2, fun x H3 yx => ?_⟩
      obtain ⟨Hf3, g3, S3, r3⟩ := yg2 x H3 yx it hit
      intro bs bH bC bcl bfp
      refine hg bs bH bC bcl bfp B _ env' si _ Hf3 H3 it x (S3.wipe _) r3 k1 _ fun σ4 S4 l4 o4 => ?_
      refine ⟨wipe_eq (ts := ts) l4 o4 hts |>.trans ?_, ?_⟩
      · -- wiping twice
        have idem : ∀ (vs : List Nat) (τ : St), (∀ j ∈ vs, j ∈ own.map (·.2)) → L2.wipe (L2.wipe τ (own.map (·.2))) vs = L2.wipe τ (own.map (·.2)) := by
          intro vs τ hv
          apply List.ext_getElem?
          intro j
          by_cases hj : j ∈ vs
          · have f : ∀ (τ : St) (us : List Nat), j ∈ us → (L2.wipe τ us)[j]? = if j < τ.length then some none else none := by
              intro τ us
              induction us with
              | nil => intro h; cases h
              | cons u us ih =>
                intro h
                show ((L2.wipe τ us).set u none)[j]? = _
                by_cases e : u = j
                · subst e
                  rw [List.getElem?_set_self', ← wipe_length τ us]
                  by_cases hlt : u < (L2.wipe τ us).length
                  · rw [if_pos hlt, List.getElem?_eq_getElem hlt]; rfl
                  · rw [if_neg hlt, List.getElem?_eq_none (by omega)]; rfl
                · rw [List.getElem?_set_ne e]
                  exact ih ((List.mem_cons.mp h).elim (fun z => absurd z.symm e) id)
            rw [f _ vs hj, f τ _ (hv j hj), wipe_length]
          · rw [wipe_out hj]
        exact idem _ σ fun j h => h
      · refine ht B env' si σ4 Hf3 H3 b s3 S4 k2 _ fun Hf5 H5 g5 S5 => ?_
        have gA := (g2.trans g3).trans g5
        have hD5 : H5 Dd = some (.lst accV) := g5.at (g3.at hD ndD) ndD
        have rD5 : RpL Hf5 accV acc := (rD.up g3.ff).up g5.ff
        have So := (S2.moveTo g3 S3).moveTo g5 S5
        have nfD3 : Hf3 Dd = none := g3.noF nfD (by rw [hD]; simp) (by intro xs z; rw [hD] at z; cases z)
        have nfD5 : Hf5 Dd = none := g5.noF nfD3 (by rw [g3.at hD ndD]; simp) (by intro xs z; rw [g3.at hD ndD] at z; cases z)
        rcases k3 with ⟨rfl, k3⟩ | ⟨rfl, y, s6, zs, k4, k5, rfl⟩
        · rw [if_neg Bool.false_ne_true]
          exact ⟨items.length - (i + 1), by omega, rfl, hlt, Hf5, s3, accV, acc, ys, gA, nfD5, So, hD5, rD5, by rw [hrest]; exact k3, ea⟩
        · rw [if_pos rfl]
          intro cs cH cC ccl cfp
          refine he cs cH cC ccl cfp B env' s3 σ4 Hf5 H5 y s6 S5 k4 _ fun v Hf7 H7 g7 S7 r7 => ?_
          have hD7 : H7 Dd = some (.lst accV) := g7.at hD5 ndD
          have rD7 : RpL Hf7 accV acc := rD5.up g7.ff
          have nfD7 : Hf7 Dd = none := g7.noF nfD5 (by rw [hD5]; simp) (by intro xs z; rw [hD5] at z; cases z)
          have la : accV.length < sizeLine := by
            have h1 := rD.length
            have h2 : (acc ++ y :: zs).length ≤ 100000 := by rw [ea]; exact hz
            rw [List.length_append, List.length_cons] at h2
            rw [sizeLine_eq]; omega
          have F : Fre B env σ Dd := S1.fre nD
          have S8 := (So.moveTo g7 S7).hp (o := .lst (accV ++ [v])) nfD7 F
          exact ⟨accV, hD7, la, items.length - (i + 1), by omega, rfl, hlt, Hf7, s6, accV ++ [v], acc ++ [y], zs, (gA.trans g7).hp nD, nfD7, S8, upd_same, rD7.append (.cons r7 .nil), by rw [hrest]; exact k5, by rw [List.append_assoc]; exact ea⟩
  · cases e
/-- [elt for tg in iter if ..] -/
theorem evn_lc (hc : X.calm = true) (hN : X.N.Nodup) (ok : BlkOk X.N X.env.scope scope own) (hi : EvI X tg iter gi) (hg : Blks X scope fun Y => EvG Y tg ts gg) (ht : EvTb X scope ifs t) (he : Blks X scope fun Y => EvF Y elt fe)
    (hts : ∀ j ∈ ts, j ∈ own.map (·.2)) (hs : ∀ x, foldedSetIterable iter X.env x = pure x := by intro _; rfl) : EvN X (.ListComp elt [⟨tg, iter, ifs, 0⟩] scope pos) (dLc gi (own.map (·.2)) gg t fe) := fun B env ds σ Hf H d ds' S hf Q q => by
  obtain ⟨tt, pt, kt⟩ := ht
  exact SE.of (pe_lc (wi := SI X tg iter) (g := SGb X scope tg) (tt := tt) (te := SEb X scope elt) hc hN (pi_si X tg iter) ok (fun s H C cl fp => ⟨fun pins s' σ' H' v u Q' I r h => h s H C cl fp pins s' u I r⟩) pt (fun s H C cl fp => ⟨fun pins s' σ' H' Q' I h => h s H C cl fp pins s' I⟩) hs)
    (lc_reading hi hg kt he hts S hf q)
end
end L2.Dn
set_option Elab.async false
set_option linter.all false
set_option maxRecDepth 100000
namespace L2.Dn
open PySem PySem.Spec PyProof.Rows
/-! ### statements -/
inductive Out where
  | nx (env : En) | rt (d : D) | bk (env : En) | ct (env : En)
abbrev DenS := En → DS → Option (Out × DS)
/-- what follows a statement -/
def CS (B : Bs) (K : PySem.W.Frag) (Hf : Hp) (o : Out) (ds' : DS) (Dd : Ends) : Prop := match o with
  | .nx env' => ∀ σ' Hf' H', Same Hf Hf' → SR B K env' ds' σ' Hf' H' → Dd.nx σ' H'
  | .bk env' => ∀ σ' Hf' H', Same Hf Hf' → SR B K env' ds' σ' Hf' H' → Dd.bk σ' H'
  | .ct env' => ∀ σ' Hf' H', Same Hf Hf' → SR B K env' ds' σ' Hf' H' → Dd.ct σ' H'
  | .rt d => ∀ v env' σ' Hf' H', Same Hf Hf' → SR B K env' ds' σ' Hf' H' → Rp Hf' v d → Dd.rt v H'
theorem CS.step {B : Bs} {K : PySem.W.Frag} {Hf Hf1 : Hp} {o : Out} {ds' : DS} {Dd : Ends} (c : CS B K Hf o ds' Dd) (s : Same Hf Hf1) : CS B K Hf1 o ds' Dd := by
  cases o with
  | nx e => exact fun σ' Hf' H' s' S => c σ' Hf' H' (s.trans s') S
  | bk e => exact fun σ' Hf' H' s' S => c σ' Hf' H' (s.trans s') S
  | ct e => exact fun σ' Hf' H' s' S => c σ' Hf' H' (s.trans s') S
  | rt d => exact fun v e σ' Hf' H' s' S r => c v e σ' Hf' H' (s.trans s') S r
def EvS (X : Cx) (st : Stmt) (f : DenS) : Prop := ∀ B env ds σ Hf H o ds', SR B X.K env ds σ Hf H → f env ds = some (o, ds') → ∀ Dd : Ends, CS B X.K Hf o ds' Dd → SS X st Dd σ H
def EvSs (X : Cx) (st : List Stmt) (f : DenS) : Prop := ∀ B env ds σ Hf H o ds', SR B X.K env ds σ Hf H → f env ds = some (o, ds') → ∀ Dd : Ends, CS B X.K Hf o ds' Dd → SSs X st Dd σ H
def dNx : DenS := fun env ds => some (.nx env, ds)
def dDead : DenS := fun _ _ => none
def dSeq (f g : DenS) : DenS := fun env ds => match f env ds with
  | none => none
  | some (.nx e, s) => g e s
  | some r => some r
def mkSl (k : Bool) (d : D) : Sl := match k with
  | false => .val d
  | true => .own d
/-- a value that stays, or a new object -/
def Nw (B : Bs) (env : En) (σ : St) (H0 Hf H : Hp) (v : V) (d : D) (k : Bool) : Prop := match k with
  | false => Rp Hf v d
  | true => ∃ a, v = .ref a ∧ H0 a = none ∧ Fre B env σ a ∧ Hf a = none ∧ Tp Hf H a d
def EvU (X : Cx) (e : Expr) (k : Bool) (f : Den) : Prop := ∀ B env ds σ Hf H d ds', SR B X.K env ds σ Hf H → f env ds = some (d, ds') → ∀ Q : VK,
  (∀ v Hf' H', Gr B Hf H Hf' H' → SR B X.K env ds' σ Hf' H' → Nw B env σ H Hf' H' v d k → Q v H') → SE X e σ H Q
section
variable {X : Cx} {e : Expr} {f : Den}
theorem EvF.u (h : EvF X e f) : EvU X e false f := fun B env ds σ Hf H d ds' S hf Q q => h B env ds σ Hf H d ds' S hf Q fun v Hf' H' g S' r => q v Hf' H' g S' r
theorem EvN.u (h : EvN X e f) : EvU X e true f := fun B env ds σ Hf H d ds' S hf Q q => h B env ds σ Hf H d ds' S hf Q fun a Hf' H' g S' n nf t => q _ Hf' H' g S' ⟨a, rfl, n, S.fre n, nf, t⟩
end
section
variable {B : Bs} {K : PySem.W.Frag} {env : En} {ds ds' : DS} {σ : St} {H0 Hf H Hf' H' : Hp} {v w : V} {d c : D} {k l : Bool} {i j : Nat}
theorem Nw.up (n : Nw B env σ H0 Hf H v d k) (g : Gr B Hf H Hf' H') : Nw B env σ H0 Hf' H' v d k := by
  cases k with
  | false => exact Rp.up n g.ff
  | true =>
    obtain ⟨a, e, h0, F, nf, t⟩ := n
    exact ⟨a, e, h0, F, g.noF nf t.ne t.nt, t.up g F.nd⟩
theorem SR.setU (S : SR B K env ds σ Hf H) (n : Nw B env σ H0 Hf H v d k) (i : Nat) : SR B K (env.set i (some (mkSl k d))) ds (σ.set i (some v)) Hf H := by
  cases k with
  | false => exact S.set n
  | true =>
    obtain ⟨a, rfl, _, F, nf, t⟩ := n
    exact S.setOwn F nf t
/-- another new object stands apart -/
theorem Nw.over {H1 Hf1 : Hp} (n : Nw B env σ H0 Hf1 H1 v d k) (m : Nw B env σ H1 Hf H w c l) (i : Nat) : Nw B (env.set i (some (mkSl k d))) (σ.set i (some v)) H1 Hf H w c l := by
  cases l with
  | false => exact m
  | true =>
    obtain ⟨b, e, h0, F, nf, t⟩ := m
    refine ⟨b, e, h0, ⟨F.h0, F.nd, fun j x h1 h2 => ?_⟩, nf, t⟩
    by_cases h : i = j
    · subst h
      rw [List.getElem?_set_self'] at h2
      cases q : σ[i]? with
      | none => rw [q] at h2; cases h2
      | some y =>
        rw [q] at h2
        cases h2
        cases k with
        | false =>
          rw [List.getElem?_set_self'] at h1
          cases q2 : env[i]? with
          | none => rw [q2] at h1; cases h1
          | some z => rw [q2] at h1; cases h1
        | true =>
          obtain ⟨a, e2, _, _, _, t2⟩ := n
          cases e2
          exact t2.ne h0
    · rw [List.getElem?_set_ne h] at h1 h2
      exact F.no j x h1 h2
theorem SR.own (S : SR B K env ds σ Hf H) (e : env[i]? = some (some (.own d))) : ∃ a, σ[i]? = some (some (.ref a)) ∧ Hf a = none ∧ ¬ B.isDr a ∧ Tp Hf H a d := by
  obtain ⟨a, h1, h2, _, h4, h5⟩ := S.slots i _ e
  exact ⟨a, h1, h2, h4, h5⟩
/-- an own list stays from now on -/
theorem SR.frzL {a : Addr} {o : HO} (S : SR B K env ds σ Hf H) (e : env[i]? = some (some (.own d))) (ea : σ[i]? = some (some (.ref a))) (ho : H a = some o) (r : Rp (upd Hf a o) (.ref a) d) : SR B K (env.set i (some (.val d))) ds σ (upd Hf a o) H := by
  obtain ⟨a', h1, nf, h0, nd, t⟩ := S.slots i _ e
  rw [ea] at h1; cases h1
  have F : Fre B (env.set i none) σ a := ⟨h0, nd, fun j x h1 h2 => by
    by_cases h : i = j
    · subst h
      rw [List.getElem?_set_self', e] at h1
      cases h1
    · rw [List.getElem?_set_ne h] at h1
      exact S.apart i j d x a h e h1 ea h2⟩
  have S1 : SR B K (env.set i none) ds (σ.set i none) Hf H := S.unset i
  have F1 : Fre B (env.set i none) (σ.set i none) a := ⟨h0, nd, fun j x h1 h2 => by
    by_cases h : i = j
    · subst h
      rw [List.getElem?_set_self', e] at h1
      cases h1
    · rw [List.getElem?_set_ne h] at h2
      exact F.no j x h1 h2⟩
  have S2 := (S1.fz nf ho F1).set (i := i) (v := .ref a) r
  rw [List.set_set, List.set_set] at S2
  have e3 : σ.set i (some (.ref a)) = σ := by
    apply List.ext_getElem?
    intro j
    by_cases h : i = j
    · subst h
      rw [List.getElem?_set_self', ea]; rfl
    · rw [List.getElem?_set_ne h]
  rw [e3] at S2
  exact S2
/-- an own dict is locked and stays -/
theorem SR.chgLock {a : Addr} {o : HO} (S : SR B K env ds σ Hf H) (e : env[i]? = some (some (.own d))) (ea : σ[i]? = some (some (.ref a))) (r : Rp (upd Hf a o) (.ref a) d) : SR B K (env.set i (some (.val d))) ds σ (upd Hf a o) (upd H a o) := by
  obtain ⟨a', h1, nf, h0, nd, t⟩ := S.slots i _ e
  rw [ea] at h1; cases h1
  have S1 : SR B K (env.set i none) ds (σ.set i none) Hf H := S.unset i
  have F1 : Fre B (env.set i none) (σ.set i none) a := ⟨h0, nd, fun j x h1 h2 => by
    by_cases h : i = j
    · subst h
      rw [List.getElem?_set_self', e] at h1
      cases h1
    · rw [List.getElem?_set_ne h] at h1 h2
      exact S.apart i j d x a h e h1 ea h2⟩
  have S2 := ((S1.hp (o := o) nf F1).fz nf upd_same F1).set (i := i) (v := .ref a) r
  rw [List.set_set, List.set_set] at S2
  have e3 : σ.set i (some (.ref a)) = σ := by
    apply List.ext_getElem?
    intro j
    by_cases h : i = j
    · subst h
      rw [List.getElem?_set_self', ea]; rfl
    · rw [List.getElem?_set_ne h]
  rw [e3] at S2
  exact S2
end
section
variable {X : Cx} {st : Stmt} {rest : List Stmt} {f g : DenS}
theorem evss_nil : EvSs X [] dNx := fun B env ds σ Hf H o ds' S hf Dd c => by
  cases hf
  exact SSs.of pss_nil (c σ Hf H (fun _ _ e => e) S)
theorem evss_cons (h1 : EvS X st f) (h2 : EvSs X rest g) : EvSs X (st :: rest) (dSeq f g) := fun B env ds σ Hf H o ds' S hf Dd c => by
  refine SSs.of (pss_cons (ps_ss X st) (pss_ss X rest)) ?_
  unfold dSeq at hf
  cases e : f env ds with
  | none => rw [e] at hf; cases hf
  | some p =>
    obtain ⟨o1, s1⟩ := p
    rw [e] at hf
    cases o1 with
    | nx env1 => exact h1 B env ds σ Hf H _ _ S e _ fun σ' Hf' H' s S' => h2 B env1 s1 σ' Hf' H' o ds' S' hf Dd (c.step s)
    | bk env1 => cases hf; exact h1 B env ds σ Hf H _ _ S e _ c
    | ct env1 => cases hf; exact h1 B env ds σ Hf H _ _ S e _ c
    | rt d => cases hf; exact h1 B env ds σ Hf H _ _ S e _ c
theorem evs_dead : EvS X st dDead := fun B env ds σ Hf H o ds' S hf Dd c => by cases hf
theorem evss_dead {sts : List Stmt} : EvSs X sts dDead := fun B env ds σ Hf H o ds' S hf Dd c => by cases hf
theorem evs_pass {pos : Pos} : EvS X (.Pass pos) dNx := fun B env ds σ Hf H o ds' S hf Dd c => by
  cases hf
  exact SS.of ps_pass (c σ Hf H (fun _ _ e => e) S)
def dBk : DenS := fun env ds => some (.bk env, ds)
def dCt : DenS := fun env ds => some (.ct env, ds)
theorem evs_bk {pos : Pos} : EvS X (.Break pos) dBk := fun B env ds σ Hf H o ds' S hf Dd c => by
  cases hf
  exact SS.of ps_break (c σ Hf H (fun _ _ e => e) S)
theorem evs_ct {pos : Pos} : EvS X (.Continue pos) dCt := fun B env ds σ Hf H o ds' S hf Dd c => by
  cases hf
  exact SS.of ps_continue (c σ Hf H (fun _ _ e => e) S)
/-! ### an own object stays from now on (no step) -/
def dFrz (i : Nat) (f : DenS) : DenS := fun env ds => match env[i]? with
  | some (some (.own d)) => f (env.set i (some (.val d))) ds
  | _ => f env ds
theorem frz_core {C : St → Hp → Prop} {i : Nat} {B env ds σ Hf H d} (S : SR B X.K env ds σ Hf H) (e : env[i]? = some (some (.own d)))
    (lock : ∀ a u, H a = some u → Mut (some u) → (∀ o, C σ (upd H a (.frz o u))) → C σ H)
    (k : ∀ Hf' H', Same Hf Hf' → SR B X.K (env.set i (some (.val d))) ds σ Hf' H' → C σ H') : C σ H := by
  obtain ⟨a, ea, nf, nd, t⟩ := S.own e
  cases t with
  | lst h1 r => exact k _ _ (same_fz nf) (S.frzL e ea h1 (.lst upd_same (r.up (same_fz nf))))
  | dT h1 r => exact lock a _ h1 True.intro fun o => k _ _ (same_fz nf) (S.chgLock e ea (.dT upd_same (r.up (same_fz nf))))
  | dK h1 r => exact lock a _ h1 True.intro fun o => k _ _ (same_fz nf) (S.chgLock e ea (.dK upd_same (r.up (same_fz nf))))
theorem evs_frz (i : Nat) (h : EvS X st f) : EvS X st (dFrz i f) := fun B env ds σ Hf H o ds' S hf Dd c => by
  unfold dFrz at hf
  split at hf
  · rename_i d e
    refine frz_core (C := fun σ H => SS X st Dd σ H) S e (fun a u h1 m k pins s I => ?_) fun Hf' H' s S' => h B _ ds σ Hf' H' o ds' S' hf Dd (c.step s)
    obtain ⟨o2, I2⟩ := I.lock h1 m
    exact k o2 pins s I2
  · exact h B env ds σ Hf H o ds' S hf Dd c
theorem evss_frz (i : Nat) {sts : List Stmt} (h : EvSs X sts f) : EvSs X sts (dFrz i f) := fun B env ds σ Hf H o ds' S hf Dd c => by
  unfold dFrz at hf
  split at hf
  · rename_i d e
    refine frz_core (C := fun σ H => SSs X sts Dd σ H) S e (fun a u h1 m k pins s I => ?_) fun Hf' H' s S' => h B _ ds σ Hf' H' o ds' S' hf Dd (c.step s)
    obtain ⟨o2, I2⟩ := I.lock h1 m
    exact k o2 pins s I2
  · exact h B env ds σ Hf H o ds' S hf Dd c
end
/-! ### assignments -/
def dSet (i : Nat) (k : Bool) (f : Den) : DenS := fun env ds => bnd (f env ds) fun d s => some (.nx (env.set i (some (mkSl k d))), s)
def dPar (i j : Nat) (k l : Bool) (f h : Den) : DenS := fun env ds => bnd (f env ds) fun a s => bnd (h env s) fun b s1 => some (.nx ((env.set i (some (mkSl k a))).set j (some (mkSl l b))), s1)
def dPar3 (i j p : Nat) (k l m : Bool) (f h u : Den) : DenS := fun env ds => bnd (f env ds) fun a s => bnd (h env s) fun b s1 => bnd (u env s1) fun c s2 => some (.nx (((env.set i (some (mkSl k a))).set j (some (mkSl l b))).set p (some (mkSl m c))), s2)
def dAsg (f : Den) (g : DenG) : DenS := fun env ds => bnd (f env ds) fun d s => match g d env with
  | none => none
  | some env' => some (.nx env', s)
section
variable {X : Cx} {e a b c : Expr} {f h u : Den} {k l m : Bool} {pos : Pos}
theorem evs_set (i : Nat) {x : Str} {p : Pos} (hN : X.N.Nodup) (he : EvU X e k f) (hi : X.N[i]? = some x := by rfl) (hx : Loc X.env.scope x := by first | exact Or.inl rfl | exact Or.inr rfl) (hs : swapsWith e (some (.Name x p)) pos.line X.env = pure false := by rfl)
    (hf : X.fn x = true ∨ X.env.scope.names.lookup x = some .local := by first | exact .inl rfl | exact .inr rfl) : EvS X (.Assign [.Name x p] e pos) (dSet i k f) := fun B env ds σ Hf H o ds' S hd Dd cc => by
  obtain ⟨d, s1, e1, e2⟩ := bnd_eq hd
  cases e2
  exact SS.of (ps_set hN hi hx (pe_se X e) hs hf) (he B env ds σ Hf H _ _ S e1 _ fun v Hf' H' g S' n => cc _ _ _ g.ff (S'.setU n i))
theorem evs_par (i j : Nat) {x y : Str} {px py pt : Pos} {kt k2 pt2} (hc : X.calm = true) (hN : X.N.Nodup) (ha : EvU X a k f) (hb : EvU X b l h) (hij : i ≠ j) (hi : X.N[i]? = some x := by rfl) (hj : X.N[j]? = some y := by rfl)
    (hx : X.env.scope.names.lookup x = some .local := by rfl) (hy : X.env.scope.names.lookup y = some .local := by rfl)
    (hw : swappedStores [.Tuple [.Name x px, .Name y py] kt pt] (.Tuple [a, b] k2 pt2) X.env = pure (some [x, y]) := by rfl)
    (hs : swapsWithSole [.Tuple [.Name x px, .Name y py] kt pt] (.Tuple [a, b] k2 pt2) pos.line X.env = pure false := by rfl) (h1 : starEach [a, b] X.env = (false, eval a X.env) :: starEach [b] X.env := by rfl) (h2 : starEach [b] X.env = (false, eval b X.env) :: starEach [] X.env := by rfl) :
    EvS X (.Assign [.Tuple [.Name x px, .Name y py] kt pt] (.Tuple [a, b] k2 pt2) pos) (dPar i j k l f h) := fun B env ds σ Hf H o ds' S hd Dd cc => by
  obtain ⟨d1, s1, e1, hd⟩ := bnd_eq hd
  obtain ⟨d2, s2, e2, e3⟩ := bnd_eq hd
  cases e3
  refine SS.of (ps_par hc hN hi hj hij hx hy (pa_cons (pe_se X a) (pa_cons (pe_se X b) pa_nil h2) h1) hw hs) ?_
  refine ha B env ds σ Hf H _ _ S e1 _ fun v Hf1 H1 g1 S1 n1 => hb B env s1 σ Hf1 H1 _ _ S1 e2 _ fun w Hf2 H2 g2 S2 n2 => ?_
  exact ⟨v, w, rfl, cc _ _ _ (g1.ff.trans g2.ff) ((S2.setU (n1.up g2) i).setU (n1.over n2 i) j)⟩
theorem evs_par3 (i j p : Nat) {x y z : Str} {px py pz pt : Pos} {kt k2 pt2} (hc : X.calm = true) (hN : X.N.Nodup) (ha : EvU X a k f) (hb : EvU X b l h) (hcc : EvU X c m u) (hij : i ≠ j) (hil : i ≠ p) (hjl : j ≠ p) (hi : X.N[i]? = some x := by rfl) (hj : X.N[j]? = some y := by rfl) (hl : X.N[p]? = some z := by rfl)
    (hx : X.env.scope.names.lookup x = some .local := by rfl) (hy : X.env.scope.names.lookup y = some .local := by rfl) (hz : X.env.scope.names.lookup z = some .local := by rfl)
    (hw : swappedStores [.Tuple [.Name x px, .Name y py, .Name z pz] kt pt] (.Tuple [a, b, c] k2 pt2) X.env = pure (some [x, y, z]) := by rfl)
    (hs : swapsWithSole [.Tuple [.Name x px, .Name y py, .Name z pz] kt pt] (.Tuple [a, b, c] k2 pt2) pos.line X.env = pure false := by rfl) (h1 : starEach [a, b, c] X.env = (false, eval a X.env) :: starEach [b, c] X.env := by rfl) (h2 : starEach [b, c] X.env = (false, eval b X.env) :: starEach [c] X.env := by rfl) (h3 : starEach [c] X.env = (false, eval c X.env) :: starEach [] X.env := by rfl) :
    EvS X (.Assign [.Tuple [.Name x px, .Name y py, .Name z pz] kt pt] (.Tuple [a, b, c] k2 pt2) pos) (dPar3 i j p k l m f h u) := fun B env ds σ Hf H o ds' S hd Dd cc => by
  obtain ⟨d1, s1, e1, hd⟩ := bnd_eq hd
  obtain ⟨d2, s2, e2, hd⟩ := bnd_eq hd
  obtain ⟨d3, s3, e3, e4⟩ := bnd_eq hd
  cases e4
  refine SS.of (ps_par3 hc hN hi hj hl hij hil hjl hx hy hz (pa_cons (pe_se X a) (pa_cons (pe_se X b) (pa_cons (pe_se X c) pa_nil h3) h2) h1) hw hs) ?_
  refine ha B env ds σ Hf H _ _ S e1 _ fun v Hf1 H1 g1 S1 n1 => hb B env s1 σ Hf1 H1 _ _ S1 e2 _ fun w Hf2 H2 g2 S2 n2 => hcc B env s2 σ Hf2 H2 _ _ S2 e3 _ fun t Hf3 H3 g3 S3 n3 => ?_
  have n1' := n1.up g2
  exact ⟨v, w, t, rfl, cc _ _ _ ((g1.ff.trans g2.ff).trans g3.ff) (((S3.setU (n1'.up g3) i).setU ((n1.over n2 i).up g3) j).setU ((n1.over n2 i).over (n1'.over n3 i) j) p)⟩
theorem evs_asg {tg : Expr} {ts : List Nat} {g : DenG} (he : EvF X e f) (hg : EvG X tg ts g) (hs : swapsWithSole [tg] e pos.line X.env = pure false := by rfl) (hw : swappedStores [tg] e X.env = pure none := by rfl)
    (h1 : (assignEach [tg] X.env).map (·.2) = [assign tg X.env] := by rfl) : EvS X (.Assign [tg] e pos) (dAsg f g) := fun B env ds σ Hf H o ds' S hd Dd cc => by
  obtain ⟨d, s1, e1, e2⟩ := bnd_eq hd
  cases e3 : g d env with
  | none => rw [e3] at e2; cases e2
  | some env' =>
    rw [e3] at e2
    cases e2
    exact SS.of (ps_asg (pe_se X e) (pg_sg X tg) hs hw h1) (he B env ds σ Hf H _ _ S e1 _ fun v Hf' H' g' S' r => hg B env env' _ σ Hf' H' d v S' r e3 _ fun σ' S2 _ _ => cc _ _ _ g'.ff S2)
end
section
variable {X : Cx} {tg iter elt : Expr} {ifs : List Expr} {scope : Scope} {own : List (Str × Nat)} {pos spos : Pos} {gi : DenA} {ts : List Nat} {gg : DenG} {t : DenT} {fe : Den}
/-- name = [..] on one line -/
theorem evs_setLc (i : Nat) (k : Bool) {y : Str} {py : Pos} (hc : X.calm = true) (hN : X.N.Nodup) (ok : BlkOk X.N X.env.scope scope own) (hi : EvI X tg iter gi) (hg : Blks X scope fun Y => EvG Y tg ts gg) (ht : EvTb X scope ifs t) (he : Blks X scope fun Y => EvF Y elt fe)
    (hts : ∀ j ∈ ts, j ∈ own.map (·.2)) (hsw : swapsWith (.ListComp elt [⟨tg, iter, ifs, 0⟩] scope pos) (some (.Name y py)) spos.line X.env = pure true) (hy : X.N[i]? = some y := by rfl) (hyl : X.env.scope.names.lookup y = some .local := by rfl) (hs : ∀ x, foldedSetIterable iter X.env x = pure x := by intro _; rfl) :
    EvS X (.Assign [.Name y py] (.ListComp elt [⟨tg, iter, ifs, 0⟩] scope pos) spos) (dSet i k (dLc gi (own.map (·.2)) gg t fe)) := fun B env ds σ Hf H o ds' S hd Dd cc => by
  obtain ⟨d, s1, e1, e2⟩ := bnd_eq hd
  cases e2
  obtain ⟨tt, pt, kt⟩ := ht
  refine SS.of (ps_setLc (wi := SI X tg iter) (g := SGb X scope tg) (tt := tt) (te := SEb X scope elt) hc hN hy hyl hsw (pi_si X tg iter) ok (fun s H C cl fp => ⟨fun pins s' σ' H' v u Q' I r h => h s H C cl fp pins s' u I r⟩) pt (fun s H C cl fp => ⟨fun pins s' σ' H' Q' I h => h s H C cl fp pins s' I⟩) hs) ?_
  refine lc_reading hi hg kt he hts S e1 fun a Hf' H' g S' n nf tp => ?_
  cases k with
  | true => exact cc _ _ _ g.ff (S'.setOwn (S.fre n) nf tp)
  | false =>
    cases tp with
    | lst h1 r => exact cc _ _ _ (g.ff.trans (same_fz nf)) ((S'.fz nf h1 (S.fre n)).set (.lst upd_same (r.up (same_fz nf))))
    | _ => 
      obtain ⟨items, s1, _, e⟩ := bnd_eq e1
      obtain ⟨r, s2, _, e⟩ := bnd_eq e
      have e : (if r.length ≤ 100000 then some (D.list r, s2) else none) = some (_, _) := e
      split at e <;> cases e
end
/-! ### branches and loops -/
def dIfS (t : DenT) (f g : DenS) : DenS := fun env ds => bnd (t env ds) fun b s => match b with
  | true => f env s
  | false => g env s
def forLoop (g : DenG) (f : DenS) : List D → DenS
  | [], env, s => some (.nx env, s)
  | d :: r, env, s => match g d env with
    | none => none
    | some env' => match f env' s with
      | none => none
      | some (.nx e, s') => forLoop g f r e s'
      | some (.ct e, s') => forLoop g f r e s'
      | some (.bk e, s') => some (.nx e, s')
      | some (.rt d, s') => some (.rt d, s')
def dFor (gi : DenA) (g : DenG) (f : DenS) : DenS := fun env ds => bnd (gi env ds) fun items s => forLoop g f items env s
def whLoop (c : DenT) (f : DenS) : Nat → DenS
  | 0, _, _ => none
  | n + 1, env, s => bnd (c env s) fun b s1 => match b with
    | false => some (.nx env, s1)
    | true => match f env s1 with
      | none => none
      | some (.nx e, s') => whLoop c f n e s'
      | some (.ct e, s') => whLoop c f n e s'
      | some (.bk e, s') => some (.nx e, s')
      | some (.rt d, s') => some (.rt d, s')
section
variable {X : Cx} {pos : Pos}
theorem evs_if {c : Expr} {a b : List Stmt} {t : DenT} {f g : DenS} (hc : EvT X c t) (ha : EvSs X a f) (hb : EvSs X b g) : EvS X (.If c a b pos) (dIfS t f g) := fun B env ds σ Hf H o ds' S hd Dd cc => by
  obtain ⟨v, s1, e1, e2⟩ := bnd_eq hd
  refine SS.of (ps_if (pt_st X c) (pss_ss X a) (pss_ss X b)) (hc B env ds σ Hf H _ _ S e1 _ fun Hf' H' gr S' => ?_)
  cases v with
  | true =>
    rw [if_pos rfl]
    exact ha B env s1 σ Hf' H' o ds' S' e2 Dd (cc.step gr.ff)
  | false =>
    rw [if_neg Bool.false_ne_true]
    exact hb B env s1 σ Hf' H' o ds' S' e2 Dd (cc.step gr.ff)
theorem evs_for {tg iter : Expr} {body : List Stmt} {gi : DenA} {ts : List Nat} {g : DenG} {f : DenS} (hp : PassesOwn (model X.prog X.w) X.A X.env X.xe) (hc : X.calm = true) (hi : EvI X tg iter gi) (hg : EvG X tg ts g) (hb : EvSs X body f)
    (hs : ∀ x, foldedSetIterable iter X.env x = pure x := by intro _; rfl) : EvS X (.For tg iter body [] pos) (dFor gi g f) := fun B env ds σ Hf H o ds' S hd Dd cc => by
  obtain ⟨items, s1, e1, e2⟩ := bnd_eq hd
  refine SS.of (ps_for hp hc (pi_si X tg iter) (pg_sg X tg) (pss_ss X body) hs) (hi B env ds σ Hf H _ _ S e1 _ fun J Hf1 H1 g1 S1 y1 => ?_)
  refine ⟨fun i m σ' H' => m = items.length - i ∧ i ≤ items.length ∧ ∃ env' s' Hf', Same Hf1 Hf' ∧ SR B X.K env' s' σ' Hf' H' ∧ forLoop g f (items.drop i) env' s' = some (o, ds'),
    ⟨items.length, by simp, Nat.zero_le _, env, s1, Hf1, fun _ _ q => q, S1, by rw [List.drop_zero]; exact e2⟩, ?_⟩
  rintro i m σ' H' ⟨rfl, hi', env', s', Hf', sm, S', el⟩
  obtain ⟨yg, ys⟩ := y1 i env' s' σ' Hf' H' sm S'
  cases hd : items.drop i with
  | nil =>
    have hl : items.length ≤ i := by
      rcases Nat.lt_or_ge i items.length with z | z
      · rw [List.drop_eq_getElem_cons z] at hd; cases hd
      · exact z
    rw [hd] at el
    cases el
    exact .inl ⟨ys hl, cc _ _ _ (g1.ff.trans sm) S'⟩
  | cons it rest =>
    obtain ⟨hlt, hit, hrest⟩ := drop_at hd
    rw [hd] at el
    obtain ⟨yg1, yg2⟩ := yg hlt
    refine .inr ⟨yg1, fun σ2 H2 => (items.length - (i + 1) = items.length - (i + 1) ∧ i + 1 ≤ items.length ∧ ∃ env' s' Hf', Same Hf1 Hf' ∧ SR B X.K env' s' σ2 Hf' H2 ∧ forLoop g f (items.drop (i + 1)) env' s' = some (o, ds')), fun σ2 H2 h2 => ⟨_, by omega, h2⟩, fun x H3 yx => ?_⟩
    obtain ⟨Hf3, g3, S3, r3⟩ := yg2 x H3 yx it hit
    unfold forLoop at el
    cases eg : g it env' with
    | none => rw [eg] at el; cases el
    | some env2 =>
      rw [eg] at el
      refine hg B env' env2 s' σ' Hf3 H3 it x S3 r3 eg _ fun σ4 S4 _ _ => ?_
      cases eb : f env2 s' with
      | none => simp only [eb] at el; cases el
      | some p =>
        obtain ⟨o5, s5⟩ := p
        simp only [eb] at el
        have st := (g1.ff.trans sm).trans g3.ff
        refine hb B env2 s' σ4 Hf3 H3 o5 s5 S4 eb _ ?_
        cases o5 with
        | nx e5 => exact fun σ6 Hf6 H6 s6 S6 => ⟨rfl, hlt, e5, s5, Hf6, (sm.trans g3.ff).trans s6, S6, by rw [hrest]; exact el⟩
        | ct e5 => exact fun σ6 Hf6 H6 s6 S6 => ⟨rfl, hlt, e5, s5, Hf6, (sm.trans g3.ff).trans s6, S6, by rw [hrest]; exact el⟩
        | bk e5 =>
          cases el
          exact fun σ6 Hf6 H6 s6 S6 => cc _ _ _ (st.trans s6) S6
        | rt d5 =>
          cases el
          exact fun v e6 σ6 Hf6 H6 s6 S6 r6 => cc v e6 _ _ _ (st.trans s6) S6 r6
theorem evs_while (n : Nat) {c : Expr} {body : List Stmt} {t : DenT} {f : DenS} (hp : PassesOwn (model X.prog X.w) X.A X.env X.xe) (hc : EvT X c t) (hb : EvSs X body f) : EvS X (.While c body [] pos) (whLoop t f n) := fun B env ds σ Hf H o ds' S hd Dd cc => by
  refine SS.of (ps_while hp (pt_st X c) (pss_ss X body)) ?_
  refine ⟨fun m σ' H' => ∃ env' s' Hf', Same Hf Hf' ∧ SR B X.K env' s' σ' Hf' H' ∧ whLoop t f m env' s' = some (o, ds'), ⟨n, env, ds, Hf, fun _ _ q => q, S, hd⟩, ?_⟩
  rintro m σ' H' ⟨env', s', Hf', sm, S', el⟩
  cases m with
  | zero => cases el
  | succ m =>
    obtain ⟨b, s1, e1, e2⟩ := bnd_eq (show bnd (t env' s') _ = _ from el)
    refine hc B env' s' σ' Hf' H' _ _ S' e1 _ fun Hf2 H2 g2 S2 => ?_
    cases b with
    | false =>
      rw [if_neg Bool.false_ne_true]
      cases e2
      exact cc _ _ _ (sm.trans g2.ff) S2
    | true =>
      rw [if_pos rfl]
      refine ⟨fun σ3 H3 => ∃ env' s' Hf', Same Hf Hf' ∧ SR B X.K env' s' σ3 Hf' H3 ∧ whLoop t f m env' s' = some (o, ds'), fun σ3 H3 h3 => ⟨m, Nat.lt_succ_self m, h3⟩, ?_⟩
      cases eb : f env' s1 with
      | none => simp only [eb] at e2; cases e2
      | some p =>
        obtain ⟨o5, s5⟩ := p
        simp only [eb] at e2
        have st := sm.trans g2.ff
        refine hb B env' s1 σ' Hf2 H2 o5 s5 S2 eb _ ?_
        cases o5 with
        | nx e5 => exact fun σ6 Hf6 H6 s6 S6 => ⟨e5, s5, Hf6, st.trans s6, S6, e2⟩
        | ct e5 => exact fun σ6 Hf6 H6 s6 S6 => ⟨e5, s5, Hf6, st.trans s6, S6, e2⟩
        | bk e5 =>
          cases e2
          exact fun σ6 Hf6 H6 s6 S6 => cc _ _ _ (st.trans s6) S6
        | rt d5 =>
          cases e2
          exact fun v e6 σ6 Hf6 H6 s6 S6 r6 => cc v e6 _ _ _ (st.trans s6) S6 r6
end
/-! ### returns -/
def dRet (f : Den) : DenS := fun env ds => bnd (f env ds) fun d s => some (.rt d, s)
def dRetN : DenS := fun _ ds => some (.rt .none, ds)
section
variable {X : Cx} {e : Expr} {f : Den} {pos : Pos}
theorem evs_ret (he : EvF X e f) : EvS X (.Return (some e) pos) (dRet f) := fun B env ds σ Hf H o ds' S hd Dd cc => by
  obtain ⟨d, s1, e1, e2⟩ := bnd_eq hd
  cases e2
  exact SS.of (ps_ret (pe_se X e)) (he B env ds σ Hf H _ _ S e1 _ fun v Hf' H' g S' r => cc v _ _ _ _ g.ff S' r)
theorem evs_retN : EvS X (.Return none pos) dRetN := fun B env ds σ Hf H o ds' S hd Dd cc => by
  cases hd
  exact SS.of ps_retN (cc .non _ _ _ _ (fun _ _ q => q) S .non)
end
/-! ### changes of own objects -/
def dApp (i : Nat) (f : Den) : DenS := fun env ds => bnd (f env ds) fun d s => match env[i]? with
  | some (some (.own (.list xs))) => if xs.length < 100000 then some (.nx (env.set i (some (.own (.list (xs ++ [d]))))), s) else none
  | _ => none
def dExt (i : Nat) (f : Den) : DenS := fun env ds => bnd (f env ds) fun d s => match env[i]?, d with
  | some (some (.own (.list xs))), .list ys => if xs.length + ys.length < 100000 then some (.nx (env.set i (some (.own (.list (xs ++ ys))))), s) else none
  | _, _ => none
/-- xs.append(ys.pop(e)) -/
def dAppPop (i j : Nat) (f : Den) : DenS := fun env ds => bnd (f env ds) fun d s => match env[i]?, env[j]?, d with
  | some (some (.own (.list xs))), some (some (.own (.list ys))), .int n => if (xs.length < 100000 ∧ ys.length < 100000) ∧ 0 ≤ n ∧ n < ys.length then (match ys[n.toNat]? with
    | some y => some (.nx ((env.set j (some (.own (.list (ys.eraseIdx n.toNat))))).set i (some (.own (.list (xs ++ [y]))))), s)
    | none => none) else none
  | _, _, _ => none
/-- d[k] = v -/
def dPut (i : Nat) (fv fk : Den) : DenS := fun env ds => bnd (fv env ds) fun v s => bnd (fk env s) fun k s1 => match env[i]? with
  | some (some (.own (.dT kvs))) => (match keyOf? k with
    | some ks => if kvs.length < 100000 then some (.nx (env.set i (some (.own (.dT (putT kvs ks v))))), s1) else none
    | none => none)
  | some (some (.own (.dK kvs))) => (match key1? k with
    | some ks => if kvs.length < 100000 then some (.nx (env.set i (some (.own (.dK (putKD kvs ks v))))), s1) else none
    | none => none)
  | _ => none
/-- xs[k] = v -/
def dSetI (i : Nat) (fv fk : Den) : DenS := fun env ds => bnd (fv env ds) fun v s => bnd (fk env s) fun k s1 => match env[i]?, k with
  | some (some (.own (.list xs))), .int n => (match ixN xs.length n with
    | some j => some (.nx (env.set i (some (.own (.list (xs.set j v))))), s1)
    | none => none)
  | _, _ => none
section
variable {X : Cx} {e c : Expr} {f h : Den} {pos : Pos} {st : Expr} {ss : Stmt}
theorem evs_app (i : Nat) (pm : PE X st (tBM X.K "list" rAppend (tVar i) (tCons (SE X e) tNil))) (he : EvF X e f) (hs : swapsWith st none pos.line X.env = pure false := by rfl) : EvS X (.Expr st pos) (dApp i f) := fun B env ds σ Hf H o ds' S hD Dd cc => by
  obtain ⟨d, s1, e1, e2⟩ := bnd_eq hD
  split at e2
  · rename_i xs ei
    split at e2
    · rename_i hz
      cases e2
      obtain ⟨a, ea, nf, nd, t⟩ := S.own ei
      refine SS.of (ps_expr pm hs) ?_
      refine ⟨_, ea, ?_⟩
      cases t with
      | lst h1 r =>
        refine ⟨Or.inl ⟨rfl, _, Or.inl (Or.inl h1)⟩, ?_⟩
        refine he B env ds σ Hf H _ _ S e1 _ fun v Hf' H' g S' rv => ?_
        refine ⟨a, _, v, rfl, rfl, g.at h1 nd, by rw [sizeLine_eq, r.length]; omega, ?_⟩
        exact cc _ _ _ g.ff (S'.chg ei ea (.lst upd_same ((r.up g.ff).append (.cons rv .nil))))
    · cases e2
  · cases e2
theorem evs_ext (i : Nat) (pm : PE X st (tBM X.K "list" rExtend (tVar i) (tCons (SE X e) tNil))) (he : EvR X e f) (hs : swapsWith st none pos.line X.env = pure false := by rfl) : EvS X (.Expr st pos) (dExt i f) := fun B env ds σ Hf H o ds' S hD Dd cc => by
  obtain ⟨d, s1, e1, e2⟩ := bnd_eq hD
  split at e2
  · rename_i xs ys ei
    split at e2
    · rename_i hz
      cases e2
      obtain ⟨a, ea, nf, nd, t⟩ := S.own ei
      refine SS.of (ps_expr pm hs) ?_
      refine ⟨_, ea, ?_⟩
      cases t with
      | lst h1 r =>
        refine ⟨Or.inl ⟨rfl, _, Or.inl (Or.inl h1)⟩, ?_⟩
        refine he B env ds σ Hf H _ _ S e1 _ fun v Hf' H' g S' rv => ?_
        obtain ⟨b, zs, rfl, hb, rb⟩ := rv.lst S'.sub
        refine ⟨a, b, _, zs, rfl, rfl, g.at h1 nd, hb, by rw [sizeLine_eq, r.length, rb.length]; omega, ?_⟩
        exact cc _ _ _ g.ff (S'.chg ei ea (.lst upd_same ((r.up g.ff).append rb)))
    · cases e2
  · cases e2
theorem seqIx {n : Int} {l : Nat} (h1 : 0 ≤ n) (h2 : n < l) : seqIndex? n l = some n.toNat := by
  unfold seqIndex?
  first
    | (simp only []; split <;> simp <;> omega)
    | (simp [h1]; omega)
theorem evs_appPop (i j : Nat) (hij : i ≠ j) (pm : PE X st (tBM X.K "list" rAppend (tVar i) (tCons (tBM X.K "list" rPopAt (tVar j) (tCons (SE X e) tNil)) tNil))) (he : EvR X e f) (hs : swapsWith st none pos.line X.env = pure false := by rfl) : EvS X (.Expr st pos) (dAppPop i j f) := fun B env ds σ Hf H o ds' S hD Dd cc => by
  obtain ⟨d, s1, e1, e2⟩ := bnd_eq hD
  split at e2
  · rename_i xs ys n ei ej
    split at e2
    · rename_i hz
      split at e2
      · rename_i y ey
        cases e2
        obtain ⟨a, ea, nf, nd, t⟩ := S.own ei
        obtain ⟨b, eb, nfb, ndb, tb⟩ := S.own ej
        have hab : b ≠ a := fun z => S.apart i j _ _ a hij ei ej ea (z ▸ eb)
        refine SS.of (ps_expr pm hs) ?_
        refine ⟨_, ea, ?_⟩
        cases t with
        | lst h1 r =>
          cases tb with
          | lst h2 rb =>
            refine ⟨Or.inl ⟨rfl, _, Or.inl (Or.inl h1)⟩, ?_⟩
            refine ⟨_, eb, Or.inl ⟨rfl, _, Or.inl (Or.inl h2)⟩, ?_⟩
            refine he B env ds σ Hf H _ _ S e1 _ fun v Hf' H' g S' rv => ?_
            cases rv.int
            obtain ⟨w, ew, rw'⟩ := rb.get ey
            refine ⟨b, _, n, n.toNat, w, rfl, rfl, g.at h2 ndb, by omega, ?_, ?_, ew, ?_⟩
            · have := hz.2.2
              have := hz.1.2
              omega
            · rw [rb.length]; exact seqIx hz.2.1 hz.2.2
            have S2 := S'.chg ej eb (.lst upd_same ((rb.up g.ff).erase n.toNat))
            have ei2 : (env.set j (some (.own (.list (ys.eraseIdx n.toNat)))))[i]? = some (some (.own (.list xs))) := by
              rw [List.getElem?_set_ne (Ne.symm hij)]; exact ei
            have h1' : ∀ o : HO, (upd H' b o) a = some (.lst _) := fun o => (upd_ne (Ne.symm hab)).trans (g.at h1 nd)
            refine ⟨a, _, w, rfl, rfl, h1' _, by rw [sizeLine_eq, r.length]; omega, ?_⟩
            exact cc _ _ _ g.ff (S2.chg ei2 ea (.lst upd_same ((r.up g.ff).append (.cons (rw'.up g.ff) .nil))))
      · cases e2
    · cases e2
  · cases e2
theorem evs_put (i : Nat) (pm : PS X ss (sDPut (tVar i) (SE X c) (SE X e))) (he : EvF X e f) (hk : EvR X c h) : EvS X ss (dPut i f h) := fun B env ds σ Hf H o ds' S hD Dd cc => by
  obtain ⟨d, s1, e1, e2⟩ := bnd_eq hD
  obtain ⟨k, s2, e3, e4⟩ := bnd_eq e2
  refine SS.of pm ?_
  refine he B env ds σ Hf H _ _ S e1 _ fun v Hf1 H1 g1 S1 rv => ?_
  split at e4
  · rename_i kvs ei
    obtain ⟨a, ea, nf, nd, t⟩ := S.own ei
    refine ⟨_, ea, hk B env s1 σ Hf1 H1 _ _ S1 e3 _ fun w Hf2 H2 g2 S2 rw' => ?_⟩
    split at e4
    · rename_i ks ek
      split at e4
      · rename_i hz
        cases e4
        cases t with
        | dT h1 r =>
          obtain ⟨b, rfl, hb⟩ := keyOf_rd rw' ek
          have gg := g1.trans g2
          refine ⟨a, _, rfl, DPut.t (gg.at h1 nd) (S2.sub _ _ hb) (by rw [sizeLine_eq, r.length]; omega), ?_⟩
          exact cc _ _ _ gg.ff (S2.chg ei ea (.dT upd_same ((r.up gg.ff).put (rv.up g2.ff))))
      · cases e4
    · cases e4
  · rename_i kvs ei
    obtain ⟨a, ea, nf, nd, t⟩ := S.own ei
    refine ⟨_, ea, hk B env s1 σ Hf1 H1 _ _ S1 e3 _ fun w Hf2 H2 g2 S2 rw' => ?_⟩
    split at e4
    · rename_i ks ek
      split at e4
      · rename_i hz
        cases e4
        cases t with
        | dK h1 r =>
          cases key1_rd rw' ek
          have gg := g1.trans g2
          refine ⟨a, _, rfl, DPut.k (gg.at h1 nd) (by rw [sizeLine_eq, r.length]; omega), ?_⟩
          exact cc _ _ _ gg.ff (S2.chg ei ea (.dK upd_same ((r.up gg.ff).put (rv.up g2.ff))))
      · cases e4
    · cases e4
  · cases e4
theorem evs_seti (i : Nat) (pm : PS X ss (tAsg (SE X e) (L2.gSub (tVar i) (SE X c) rSetL))) (he : EvF X e f) (hk : EvR X c h) : EvS X ss (dSetI i f h) := fun B env ds σ Hf H o ds' S hD Dd cc => by
  obtain ⟨d, s1, e1, e2⟩ := bnd_eq hD
  obtain ⟨k, s2, e3, e4⟩ := bnd_eq e2
  refine SS.of pm ?_
  refine he B env ds σ Hf H _ _ S e1 _ fun v Hf1 H1 g1 S1 rv => ?_
  split at e4
  · rename_i xs n ei
    obtain ⟨a, ea, nf, nd, t⟩ := S.own ei
    refine ⟨_, ea, hk B env s1 σ Hf1 H1 _ _ S1 e3 _ fun w Hf2 H2 g2 S2 rw' => ?_⟩
    cases rw'.int
    split at e4
    · rename_i j ej
      cases e4
      cases t with
      | lst h1 r =>
        have gg := g1.trans g2
        refine ⟨a, _, n, j, rfl, rfl, gg.at h1 nd, by rw [r.length]; exact ej, ?_⟩
        exact cc _ _ _ gg.ff (S2.chg ei ea (.lst upd_same (RpL.set (rv.up g2.ff) j (r.up gg.ff))))
    · cases e4
  · cases e4
end
end L2.Dn
set_option Elab.async false
set_option linter.all false
set_option maxRecDepth 100000
namespace L2.Dn
open PySem PySem.Spec PyProof.Rows C8
/-! ### defs -/
/-- a def that computes f of its arguments -/
def spP (n : Nat) (f : List D → Option D) : Sp := fun vs H Q _ => vs.length = n ∧ ∃ Hf args r, Same Hf H ∧ RpL Hf vs args ∧ f args = some r ∧
  ∀ v Hf' H', Gr ⟨H, Hf, none⟩ Hf H Hf' H' → Same Hf' H' → Rp Hf' v r → Q v H'
/-- a def that draws: the draws' dict is its first argument -/
def spD (n : Nat) (f : List D → DS → Option (D × DS)) : Sp := fun vs H Q _ => vs.length = n + 1 ∧ ∃ Hf x l c vs' args ds r ds', vs = .ref x :: vs' ∧ Same Hf H ∧ DrawR (some (x, l, c)) ds Hf H ∧ RpL Hf vs' args ∧ f args ds = some (r, ds') ∧
  ∀ v Hf' H', Gr ⟨H, Hf, some (x, l, c)⟩ Hf H Hf' H' → Same Hf' H' → DrawR (some (x, l, c)) ds' Hf' H' → Rp Hf' v r → Q v H'
def envP (n : Nat) (args : List D) : En := args.map (fun d => some (Sl.val d)) ++ List.replicate (n - args.length) none
def envD (n : Nat) (args : List D) : En := some Sl.draw :: (args.map (fun d => some (Sl.val d)) ++ List.replicate (n - (args.length + 1)) none)
def outD : Option (Out × DS) → Option (D × DS)
  | some (.rt d, s) => some (d, s)
  | some (.nx _, s) => some (.none, s)
  | _ => none
def ds0 : DS := ⟨[], 0, [], 0⟩
/-- n: the names of the body -/
def fnP (n : Nat) (b : DenS) : List D → Option D := fun args => (outD (b (envP n args) ds0)).map (·.1)
def fnD (n : Nat) (b : DenS) : List D → DS → Option (D × DS) := fun args ds => outD (b (envD n args) ds)
theorem nodr {H0 Hf0 : Hp} {a : Addr} : ¬ (Bs.mk H0 Hf0 none).isDr a := fun ⟨_, _, _, e, _⟩ => by cases e
theorem Gr.of0 {B : Bs} {H0 Hf0 Hf H Hf' H' : Hp} (g : Gr ⟨H0, Hf0, none⟩ Hf H Hf' H') (nd : ∀ a xs, H a = some (.tup xs) → ¬ B.isDr a) : Gr B Hf H Hf' H' where
  hh := fun a o e => by
    obtain ⟨o', e', n⟩ := g.hh a o e
    exact ⟨o', e', fun _ => n nodr⟩
  ff := g.ff
  nw := fun a h => by
    rcases g.nw a h with h1 | h1 | ⟨_, xs, h1⟩
    · exact .inl h1
    · exact .inr (.inl h1)
    · exact .inr (.inr ⟨nd a xs h1, xs, h1⟩)
theorem Gr.same0 {H0 Hf0 Hf H Hf' H' : Hp} (g : Gr ⟨H0, Hf0, none⟩ Hf H Hf' H') : Same H H' := fun a o e => g.at e nodr
theorem get_append_some {α : Type} {xs : List α} {n i : Nat} {s : α} (h : (xs.map some ++ List.replicate n none)[i]? = some (some s)) : xs[i]? = some s := by
  rcases Nat.lt_or_ge i xs.length with q | q
  · rw [List.getElem?_append_left (by rw [List.length_map]; exact q), List.getElem?_map] at h
    cases e : xs[i]? with
    | none => rw [e] at h; cases h
    | some y => rw [e] at h; cases h; rfl
  · rw [List.getElem?_append_right (by rw [List.length_map]; exact q), List.length_map] at h
    rw [List.getElem?_replicate] at h
    split at h <;> cases h
theorem slots_vals {B : Bs} {K : PySem.W.Frag} {Hf H : Hp} {vs : List V} {args : List D} {n m i : Nat} {s : Sl} (r : RpL Hf vs args) (h : (args.map (fun d => some (Sl.val d)) ++ List.replicate n none)[i]? = some (some s)) : SlotR B K Hf H (vs.map some ++ List.replicate m none) i s := by
  have h2 : ((args.map Sl.val).map some ++ List.replicate n none)[i]? = some (some s) := by rw [List.map_map]; exact h
  have h3 := get_append_some h2
  rw [List.getElem?_map] at h3
  cases e : args[i]? with
  | none => rw [e] at h3; cases h3
  | some d =>
    rw [e] at h3
    cases h3
    obtain ⟨v, e2, rv⟩ := r.get e
    refine ⟨v, ?_, rv⟩
    have hl : i < (vs.map some).length := by
      rw [List.length_map]
      exact (List.getElem?_eq_some_iff.mp e2).1
    rw [List.getElem?_append_left hl, List.getElem?_map, e2]
    rfl
theorem sr_start {K : PySem.W.Frag} {Hf H : Hp} {vs : List V} {args : List D} {ds : DS} (N : List Str) (s : Same Hf H) (r : RpL Hf vs args) : SR ⟨H, Hf, none⟩ K (envP N.length args) ds (start N vs) Hf H where
  sub := s
  base := fun a o e => ⟨o, e, fun _ => rfl⟩
  fbase := fun _ _ e => e
  fnew := fun a h => .inl h
  slots := fun i sl e => by
    have hl := r.length
    unfold envP at e
    unfold start
    exact slots_vals r e
  apart := fun i j d e a _ h1 => by
    have h2 : ((args.map Sl.val).map some ++ List.replicate (N.length - args.length) none)[i]? = some (some (.own d)) := by rw [List.map_map]; exact h1
    have h3 := get_append_some h2
    rw [List.getElem?_map] at h3
    cases e : args[i]? <;> (rw [e] at h3; cases h3)
  draw := fun x l c e => by cases e
  len := by
    unfold envP start
    simp [r.length]
theorem sr_startD {K : PySem.W.Frag} {Hf H : Hp} {vs : List V} {args : List D} {ds : DS} {x l c : Addr} (N : List Str) (s : Same Hf H) (r : RpL Hf vs args) (dr : DrawR (some (x, l, c)) ds Hf H) : SR ⟨H, Hf, some (x, l, c)⟩ K (envD N.length args) ds (start N (.ref x :: vs)) Hf H where
  sub := s
  base := fun a o e => ⟨o, e, fun _ => rfl⟩
  fbase := fun _ _ e => e
  fnew := fun a h => .inl h
  slots := fun i sl e => by
    unfold envD at e
    cases i with
    | zero => cases e; exact ⟨x, l, c, rfl, rfl⟩
    | succ i =>
      have e : (args.map (fun d => some (Sl.val d)) ++ List.replicate (N.length - (args.length + 1)) none)[i]? = some (some sl) := e
      have := slots_vals (B := ⟨H, Hf, some (x, l, c)⟩) (K := K) (H := H) (m := N.length - (V.ref x :: vs).length) r e
      cases sl with
      | val d => exact this
      | own d => exact this
      | draw => exact this
      | scr ns => exact this
  apart := fun i j d e a _ h1 => by
    unfold envD at h1
    cases i with
    | zero => cases h1
    | succ i =>
      have h2 : ((args.map Sl.val).map some ++ List.replicate (N.length - (args.length + 1)) none)[i]? = some (some (.own d)) := by rw [List.map_map]; exact h1
      have h3 := get_append_some h2
      rw [List.getElem?_map] at h3
      cases e : args[i]? <;> (rw [e] at h3; cases h3)
  draw := dr
  len := by
    unfold envD start
    simp [r.length]
theorem SR.gr {B : Bs} {K : PySem.W.Frag} {env env' : En} {ds ds' : DS} {σ σ' : St} {Hf H : Hp} (S : SR B K env ds σ Hf H) (e0 : B.H0 = H → True) : Gr B B.Hf0 B.H0 Hf H where
  hh := S.base
  ff := S.fbase
  nw := S.fnew
section
variable {P : Program} {w : World} {K : PySem.W.Frag} {mg : Str → Option Value} {base : Heap} {x : Str} {params : Arguments} {body : List Stmt} {scope : Scope} {f : Addr} {fd : FuncData} {N ps : List Str} {k : Nat}
abbrev cxB (P : Program) (w : World) (K : PySem.W.Frag) (mg : Str → Option Value) (base : Heap) (N : List Str) (x : Str) (scope : Scope) (f : Addr) (cdv : Value) (A : Around) (outer : List Env) (s : Shared) (H : Hp) (E : XK) : Cx := (cxOf CX0 P w K mg base N x scope f cdv A outer s H E).nox
/-- a def that computes -/
theorem calP {b : DenS} (n : Nat) (F : FunD K x x params body scope [] [] f fd) (hm : mg x = some (.ref f)) (S : FnScope N ps scope) (hn : ps.length = n) (hb : Binds K fd ps [])
    (h : ∀ (cdv : Value) (A : Around) (outer : List Env) (s : Shared) (H : Hp) (E : XK), Room k (A.deeper (envOfC x scope s.heap.objs.size f cdv)) → EvSs (cxB P w K mg base N x scope f cdv A outer s H E) body b) : Cal P w K mg base (k + 1) x (spP n (fnP N.length b)) [] :=
  ⟨f, fd, ps, [], F.ok S (fun vs H Q E h => h.1.trans hn.symm) (fun cdv A outer s H vs Q E hr hsp => ⟨SSs (cxB P w K mg base N x scope f cdv A outer s H E) body, PSs.nox (pss_ss _ body), by
    obtain ⟨_, Hf, args, r, sm, ra, e, q⟩ := hsp
    unfold fnP at e
    cases eb : b (envP N.length args) ds0 with
    | none => rw [eb] at e; cases e
    | some p =>
      obtain ⟨o, ds'⟩ := p
      rw [eb] at e
      refine h cdv A outer s H E hr ⟨H, Hf, none⟩ (envP N.length args) ds0 (start N vs) Hf H o ds' (sr_start N sm ra) eb _ ?_
      cases o with
      | nx env' =>
        cases e
        exact fun σ' Hf' H' s' S' => q _ Hf' H' ⟨S'.base, S'.fbase, S'.fnew⟩ S'.sub .non
      | rt d =>
        cases e
        exact fun v env' σ' Hf' H' s' S' rv => q v Hf' H' ⟨S'.base, S'.fbase, S'.fnew⟩ S'.sub rv
      | bk env' => cases e
      | ct env' => cases e⟩), hm, F.kp, hb, .nil⟩
/-- a def that draws -/
theorem calD {b : DenS} (n : Nat) (F : FunD K x x params body scope [] [] f fd) (hm : mg x = some (.ref f)) (S : FnScope N ps scope) (hn : ps.length = n + 1) (hb : Binds K fd ps [])
    (h : ∀ (cdv : Value) (A : Around) (outer : List Env) (s : Shared) (H : Hp) (E : XK), Room k (A.deeper (envOfC x scope s.heap.objs.size f cdv)) → EvSs (cxB P w K mg base N x scope f cdv A outer s H E) body b) : Cal P w K mg base (k + 1) x (spD n (fnD N.length b)) [] :=
  ⟨f, fd, ps, [], F.ok S (fun vs H Q E h => h.1.trans hn.symm) (fun cdv A outer s H vs Q E hr hsp => ⟨SSs (cxB P w K mg base N x scope f cdv A outer s H E) body, PSs.nox (pss_ss _ body), by
    obtain ⟨_, Hf, y, l, c, vs', args, ds, r, ds', rfl, sm, dr, ra, e, q⟩ := hsp
    unfold fnD at e
    cases eb : b (envD N.length args) ds with
    | none => rw [eb] at e; cases e
    | some p =>
      obtain ⟨o, ds2⟩ := p
      rw [eb] at e
      refine h cdv A outer s H E hr ⟨H, Hf, some (y, l, c)⟩ (envD N.length args) ds (start N (.ref y :: vs')) Hf H o ds2 (sr_startD N sm ra dr) eb _ ?_
      cases o with
      | nx env' =>
        cases e
        exact fun σ' Hf' H' s' S' => q _ Hf' H' ⟨S'.base, S'.fbase, S'.fnew⟩ S'.sub S'.draw .non
      | rt d =>
        cases e
        exact fun v env' σ' Hf' H' s' S' rv => q v Hf' H' ⟨S'.base, S'.fbase, S'.fnew⟩ S'.sub S'.draw rv
      | bk env' => cases e
      | ct env' => cases e⟩), hm, F.kp, hb, .nil⟩
end
/-! ### calls -/
def dCallP (n : Nat) (f : List D → Option D) (g : DenA) : Den := fun env ds => bnd (g env ds) fun as s => if as.length = n then op1 (f as) s else none
def dCallD (i : Nat) (n : Nat) (f : List D → DS → Option (D × DS)) (g : DenA) : Den := fun env ds => match env[i]? with
  | some (some .draw) => bnd (g env ds) fun as s => if as.length = n then f as s else none
  | _ => none
section
variable {X : Cx} {k j n : Nat} {x : Str} {f : List D → Option D} {p pos : Pos} {e : Expr} {es : List Expr} {g : DenA}
theorem evf_callP (c : Cal X.prog X.w X.K X.mg X.base k x (spP n f) []) (hr : Room j X.A) (hk : k ≤ j) (ha : EvA X (e :: es) g) (hg : Gl X x := by rfl)
    (hdb : (x == ("__debug__" : Str)) = false := by decide) (he : starEach (e :: es) X.env = (false, eval e X.env) :: starEach es X.env := by rfl) (hpl : (backTo pos (starEach es X.env)).any (·.1) = false := by rfl) :
    EvF X (.Call (.Name x p) (e :: es) [] pos) (dCallP n f g) := fun B env ds σ Hf H d ds' S hf Q q => by
  obtain ⟨as, s1, e1, e2⟩ := bnd_eq hf
  split at e2
  · rename_i hn
    obtain ⟨e3, rfl⟩ := op1_eq e2
    refine SE.of (pe_c c hr hk hg (pa_sa X _) hdb he hpl) (ha B env ds σ Hf H _ _ S e1 _ fun vs Hf1 H1 g1 S1 rv => ?_)
    rw [List.append_nil]
    refine ⟨rv.length.trans hn, Hf1, as, d, S1.sub, rv, e3, fun v Hf' H' g' sm r => ?_⟩
    have gB : Gr B Hf1 H1 Hf' H' := g'.of0 fun a xs h => S1.noDrT h
    refine q v Hf' H' (g1.trans gB) (S1.move gB sm fun y l c ed => ?_) r
    obtain ⟨h1, h2, h3, h4, h5⟩ := S1.draw y l c ed
    have sH := g'.same0
    exact ⟨sH _ _ h1, sH _ _ h2, g'.noF h3 (by rw [h1]; simp) (by intro xs z; rw [h1] at z; cases z), g'.noF h4 (by rw [h2]; simp) (by intro xs z; rw [h2] at z; cases z), g'.ff _ _ h5⟩
  · cases e2
theorem evf_callD (i : Nat) {fD : List D → DS → Option (D × DS)} {y : Str} {py : Pos} (c : Cal X.prog X.w X.K X.mg X.base k x (spD n fD) []) (hr : Room j X.A) (hk : k ≤ j) (hv : PE X (.Name y py) (tVar i)) (ha : EvA X es g) (hg : Gl X x := by rfl)
    (hdb : (x == ("__debug__" : Str)) = false := by decide) (he : starEach (.Name y py :: es) X.env = (false, eval (.Name y py) X.env) :: starEach es X.env := by rfl) (hpl : (backTo pos (starEach es X.env)).any (·.1) = false := by rfl) :
    EvF X (.Call (.Name x p) (.Name y py :: es) [] pos) (dCallD i n fD g) := fun B env ds σ Hf H d ds' S hf Q q => by
  unfold dCallD at hf
  split at hf
  · rename_i ei
    obtain ⟨as, s1, e1, e2⟩ := bnd_eq hf
    split at e2
    · rename_i hn
      obtain ⟨xa, l, c', edr, ea⟩ := S.slots i _ ei
      refine SE.of (pe_c c hr hk hg (pa_cons hv (pa_sa X es) he) hdb he hpl) ⟨_, ea, ?_⟩
      refine ha B env ds σ Hf H _ _ S e1 _ fun vs Hf1 H1 g1 S1 rv => ?_
      show spD n fD (V.ref xa :: vs ++ []) H1 Q C8.E0
      rw [List.append_nil]
      have dr1 := S1.draw
      rw [edr] at dr1
      refine ⟨by rw [List.length_cons, rv.length, hn], Hf1, xa, l, c', vs, as, s1, d, ds', rfl, S1.sub, dr1, rv, e2, fun v Hf' H' g' sm dr' r => ?_⟩
      have gB : Gr B Hf1 H1 Hf' H' := by
        have hi : ∀ a, B.isDr a ↔ (Bs.mk H1 Hf1 (some (xa, l, c'))).isDr a := fun a => by
          constructor
          · rintro ⟨y1, y2, y3, e4, h4⟩; rw [edr] at e4; cases e4; exact ⟨_, _, _, rfl, h4⟩
          · rintro ⟨y1, y2, y3, e4, h4⟩; cases e4; exact ⟨_, _, _, edr, h4⟩
        exact ⟨fun a o e => by
          obtain ⟨o', e', n'⟩ := g'.hh a o e
          exact ⟨o', e', fun nd => n' fun z => nd ((hi a).2 z)⟩, g'.ff, fun a h => by
          rcases g'.nw a h with h1 | h1 | ⟨nd, xs, h1⟩
          · exact .inl h1
          · exact .inr (.inl h1)
          · exact .inr (.inr ⟨fun z => nd ((hi a).1 z), xs, h1⟩)⟩
      exact q v Hf' H' (g1.trans gB) (S1.move gB sm (by rw [edr]; exact dr')) r
    · cases e2
  · cases hf
end
end L2.Dn
set_option Elab.async false
set_option linter.all false
set_option maxRecDepth 100000
/-! walks over the pairs and the values of dicts with tuple keys -/
namespace L2.Dn
open PySem PySem.Spec PyProof.Rows
section
variable {X : Cx} {pins : List (Addr × Obj)} {σ : St} {H : Hp} {s : Shared} {d : Addr} {o : Obj}
theorem frzTV {kvs : List (List Key × V)} (I : Inv X pins σ H s) (h : H d = some (.frz o (.dT kvs))) :
    (d == sysModules) = false ∧ s.heap.get? d = some o ∧ o.ExactDict ∧ ∃ (es : Array DictEntry) (ep : Nat), o.data = .dict es ep ∧ es.size = kvs.length ∧
      ∀ (i : Nat) (k : List Key) (v : V), kvs[i]? = some (k, v) → ∃ (hi : i < es.size) (q : Addr), es[i].key = .ref q ∧ H q = some (.tup (k.map kV)) ∧ RelV v es[i].val := by
  obtain ⟨hd, z, hs, xs, pr, o', es, ep, ho, hx, hdt, he, _⟩ := I.hok d _ h
  rw [hd] at ho
  cases ho
  have l1 : es.size = xs.length := size_of_entries he
  have l2 : kvs.length = xs.length := Paired.length pr
  refine ⟨hs, hd, hx, es, ep, hdt, l1.trans l2.symm, fun i k v e => ?_⟩
  obtain ⟨b, hb, e1, e2, e3⟩ := paired_get pr e
  have q := entry_at he i
  rw [hb] at q
  have hi : i < es.size := by
    rw [l1]
    exact (List.getElem?_eq_some_iff.mp hb).1
  rw [Array.getElem?_eq_getElem hi] at q
  have q := Option.some.inj q
  exact ⟨hi, b.2.1, by rw [q]; rfl, e2, by rw [q]; exact e3⟩
end
/-- the pairs of the locked dict at d, each a new tuple -/
def Itit (d : Addr) (o : Obj) (kvs : List (List Key × V)) : It :=
  ⟨fun i H => H d = some (.frz o (.dT kvs)) ∧ i < kvs.length, fun i H x H' => ∃ (T : Addr) (k : List Key) (v : V) (q : Addr), kvs[i]? = some (k, v) ∧ x = .ref T ∧ H q = some (.tup (k.map kV)) ∧ H T = none ∧ H' = upd H T (.tup [.ref q, v]), fun i H => H d = some (.frz o (.dT kvs)) ∧ kvs.length ≤ i⟩
/-- its values -/
def Itdt (d : Addr) (o : Obj) (kvs : List (List Key × V)) : It :=
  ⟨fun i H => H d = some (.frz o (.dT kvs)) ∧ i < kvs.length, fun i H x H' => H' = H ∧ ∃ k, kvs[i]? = some (k, x), fun i H => H d = some (.frz o (.dT kvs)) ∧ kvs.length ≤ i⟩
section
variable {P : Program} {w : World} {K : PySem.W.Frag} {tg : Expr} {d : Addr} {o : Obj} {es : Array DictEntry} {ep : Nat}
theorem turn_itemsT {kvs : List (List Key × V)} {elts : List Expr} {kk : Nat} {tpos : Pos} (it : Addr) (hod : o.data = .dict es ep) :
    Turn P w K (.Tuple elts kk tpos) (Itit d o kvs) [it] it (fun i h => ∃ ok ov, IsItemIter h it d i es.size ep ok ov) where
  mem := by simp
  obj := fun i h st b hb => by
    obtain rfl : b = it := by simpa using hb
    obtain ⟨ok, ov, e⟩ := st
    exact ⟨_, e, fun v z => nomatch z⟩
  keep := fun i h h' st k => let ⟨ok, ov, e⟩ := st; ⟨ok, ov, k it (by simp) _ e⟩
  item := by
    intro X hP hw hK hc i pins s σ H E I hf st ⟨hd, hi⟩
    subst hP hw hK
    obtain ⟨hs, hgd, hx, es', ep', hdt, hsz, ent⟩ := frzTV I hd
    obtain ⟨rfl, rfl⟩ := dict_ep hod hdt
    obtain ⟨⟨k, v⟩, hkv⟩ : ∃ p, kvs[i]? = some p := ⟨kvs[i], List.getElem?_eq_getElem hi⟩
    obtain ⟨hi', q, hkey, hq, ru⟩ := ent i k v hkv
    obtain ⟨ok, ov, he⟩ := st
    have hlt : it < s.heap.objs.size := Heap.lt_size he
    refine wpAny_pyNext_items_item_raw he ⟨o, hgd, hx, hdt⟩ hi' fun h' ho hT hz hk => ?_
    refine ⟨_, rfl, wpAny_letOwnedTupleGo_items (s := { s with heap := h' }) ho fun h'' he' sb => ?_⟩
    have hT2 : h''.get? s.heap.objs.size = some { cls := .type "tuple", data := .seq #[es'[i].key, es'[i].val] } := (sb.2 _ (Nat.ne_of_gt hlt)).trans hT
    have new : ObjOk X.prog X.w (upd H s.heap.objs.size (.tup [.ref q, v])) h'' s.heap.objs.size (.tup [.ref q, v]) :=
      ⟨by show 2 ≤ sizeLine; decide, [es'[i].key, es'[i].val], .cons hkey (.cons ru .nil), ⟨_, hT2, rfl, _, rfl⟩⟩
    have I1 : Inv X pins σ (upd H s.heap.objs.size (.tup [.ref q, v])) { s with heap := h'' } :=
      I.turnedNew (t' := s.toks) (ch := [it]) (fun b ob hb e => (sb.2 b (by simpa using hb)).trans (hk b ob (by simpa using hb) e)) hf (Nat.le_refl _) new
    refine ⟨.ref s.heap.objs.size, _, I1, rfl, ⟨_, k, v, q, hkv, rfl, hq, I.hok.fresh (Nat.le_refl _), rfl⟩, ⟨_, _, he'⟩, fun b hb => ?_⟩
    obtain rfl : b = it := by simpa using hb
    rw [upd_ne (Nat.ne_of_lt hlt)]
    exact (hf b (by simp)).1
  done := by
    intro X hP hw hK hc i pins s σ H E I hf st ⟨hd, hi⟩
    subst hP hw hK
    obtain ⟨f0, f1, f2, f3, f4, f5⟩ := hf it (by simp)
    obtain ⟨hs, hgd, hx, es', ep', hdt, hsz, ent⟩ := frzTV I hd
    obtain ⟨rfl, rfl⟩ := dict_ep hod hdt
    obtain ⟨ok, ov, he⟩ := st
    exact wpAny_pyNext_items_end_raw (I.ok.hd hc) he ⟨o, hgd, hx, hdt⟩ (by omega) fun h' eb => ⟨rfl, I.turned (t' := s.toks) (fun b ob hb e => eb b ob hb e) f0 f1 f3 f4 f5⟩
  self := fun A i s Q E st h => let ⟨_, _, e⟩ := st; PySem.W.kcp_self e h
theorem turn_valsT {kvs : List (List Key × V)} (it : Addr) (hod : o.data = .dict es ep) : Turn P w K tg (Itdt d o kvs) [it] it (fun i h => h.IsValIter it d i es.size ep) where
  mem := by simp
  obj := fun i h st b hb => by
    obtain rfl : b = it := by simpa using hb
    obtain ⟨oi, e, c, dd⟩ := st
    exact ⟨oi, e, fun v z => by rw [dd] at z; cases z⟩
  keep := fun i h h' st k => st.at fun oi e => k it (by simp) oi e
  item := by
    intro X hP hw hK hc i pins s σ H E I hf st ⟨hd, hi⟩
    subst hP hw hK
    obtain ⟨f0, f1, f2, f3, f4, f5⟩ := hf it (by simp)
    obtain ⟨hs, hgd, hx, es', ep', hdt, hsz, ent⟩ := frzTV I hd
    obtain ⟨rfl, rfl⟩ := dict_ep hod hdt
    obtain ⟨⟨k, v⟩, hkv⟩ : ∃ p, kvs[i]? = some p := ⟨kvs[i], List.getElem?_eq_getElem hi⟩
    obtain ⟨hi', q, hkey, hq, ru⟩ := ent i k v hkv
    refine wpAny_pyNext_values_item_raw st ⟨o, hgd, hx, hdt⟩ hi' fun h' st' sb => ?_
    have I1 : Inv X pins σ H { s with heap := h' } := I.turned (t' := s.toks) (fun b ob hb e => (sb.2 b hb).trans e) f0 f1 f3 f4 f5
    obtain ⟨oi, e, c, dd⟩ := id st'
    exact ⟨_, rfl, go_of (s := { s with heap := h' }) e c dd (by decide) ⟨v, H, I1, ru, ⟨rfl, k, hkv⟩, st', fun b hb => (hf b hb).1⟩⟩
  done := by
    intro X hP hw hK hc i pins s σ H E I hf st ⟨hd, hi⟩
    subst hP hw hK
    obtain ⟨f0, f1, f2, f3, f4, f5⟩ := hf it (by simp)
    obtain ⟨hs, hgd, hx, es', ep', hdt, hsz, ent⟩ := frzTV I hd
    obtain ⟨rfl, rfl⟩ := dict_ep hod hdt
    exact wpAny_pyNext_values_end_raw (I.ok.hd hc) st ⟨o, hgd, hx, hdt⟩ (by omega) fun h' eb => ⟨rfl, I.turned (t' := s.toks) (fun b ob hb e => eb b ob hb e) f0 f1 f3 f4 f5⟩
  self := fun A i s Q E st h => wpAny_pyIter_valiter st h
end
def iItemsT (td : TE) : TI := fun σ H R => td σ H fun x H1 => ∃ d o kvs, x = .ref d ∧ H1 d = some (.frz o (.dT kvs)) ∧ R (Itit d o kvs) H1
def iValsT (td : TE) : TI := fun σ H R => td σ H fun x H1 => ∃ d o kvs, x = .ref d ∧ H1 d = some (.frz o (.dT kvs)) ∧ R (Itdt d o kvs) H1
section
variable {X : Cx} {tg e : Expr} {td : TE} {apos cpos : Pos}
theorem noDictD {s : Shared} {d : Addr} {o : Obj} (h : s.heap.get? d = some o) (hx : o.ExactDict) : ∀ a, Value.ref d = .ref a → ∃ ob, s.heap.get? a = some ob ∧ ob.dict = none := fun a e => by
  cases e
  exact ⟨o, h, hx.2.1⟩
theorem pi_itemsT {elts : List Expr} {kk : Nat} {tpos : Pos} (he : PE X e td) (hbase : attributeBase e "items" X.env (eval e X.env) = eval e X.env := by rfl) (hline : (apos.endLine == cpos.line) = true := by rfl) :
    PI X (.Tuple elts kk tpos) (.Call (.Attribute e "items" apos) [] [] cpos) (iItemsT td) := by
  refine ⟨fun pins s σ H R I h => ?_⟩
  refine wpAny_Call_method (T := "dict") (id := "dict.items") hbase rfl hline F.plainAttrs_dict F.slot_dict_items F.type_dict_items (thn (he.run pins s σ H _ I h) fun u s1 ⟨x, H1, I1, rx, d, o, kvs, ex, hd, q⟩ => ?_)
  subst ex
  obtain rfl : u = Value.ref d := rx
  obtain ⟨hs, hgd, hx, es, ep, hdt, hsz, ent⟩ := frzTV I1 hd
  have hr : s1.heap.DictRaw d es ep := ⟨o, hgd, hx, hdt⟩
  refine ⟨hr.typeIs, noDictD hgd hx, ?_⟩
  have I2 : Inv X pins σ H1 { s1 with heap := s1.heap.push { cls := .type "dict_items", data := .fields #[.ref d] } } := I1.kept (t' := s1.toks) fun b ob q => Heap.get?_push_of_some _ q
  have fin : wpAny (model X.prog X.w) X.A (pyIter (.ref s1.heap.objs.size)) (PIE X pins σ (.Tuple elts kk tpos) R) X.xe { s1 with heap := s1.heap.push { cls := .type "dict_items", data := .fields #[.ref d] } } := by
    refine wpAny_pyIter_items_raw (d := d) ⟨_, Heap.get?_push_size _ rfl, rfl, rfl⟩ (hr.at fun ob q => Heap.get?_push_of_some _ q) (pi_one (tk := s1.toks) I2 _ (turn_itemsT _ hdt) ⟨.none, .none, ?_⟩ q)
    exact Heap.get?_push_size _ rfl
  show wpAny _ _ (callWith cpos (.builtin "dict.items") [.ref d] [] []) _ X.xe s1
  exact method_meetsIn F.slot_dict_items F.entry_dict_items rfl (PySem.evalArgs_none ⟨rfl, hr.typeIs, F.args_dict_items_1 _, _, meets_dict_items_raw d hs, ⟨_, _, hr⟩, fin⟩)
theorem pi_valuesT (he : PE X e td) (hbase : attributeBase e "values" X.env (eval e X.env) = eval e X.env := by rfl) (hline : (apos.endLine == cpos.line) = true := by rfl) : PI X tg (.Call (.Attribute e "values" apos) [] [] cpos) (iValsT td) := by
  refine ⟨fun pins s σ H R I h => ?_⟩
  refine wpAny_Call_method (T := "dict") (id := "dict.values") hbase rfl hline F.plainAttrs_dict F.slot_dict_values F.type_dict_values (thn (he.run pins s σ H _ I h) fun u s1 ⟨x, H1, I1, rx, d, o, kvs, ex, hd, q⟩ => ?_)
  subst ex
  obtain rfl : u = Value.ref d := rx
  obtain ⟨hs, hgd, hx, es, ep, hdt, hsz, ent⟩ := frzTV I1 hd
  have hr : s1.heap.DictRaw d es ep := ⟨o, hgd, hx, hdt⟩
  refine ⟨hr.typeIs, noDictD hgd hx, ?_⟩
  have I2 : Inv X pins σ H1 { s1 with heap := s1.heap.push { cls := .type "dict_values", data := .fields #[.ref d] } } := I1.kept (t' := s1.toks) fun b ob q => Heap.get?_push_of_some _ q
  have fin : wpAny (model X.prog X.w) X.A (pyIter (.ref s1.heap.objs.size)) (PIE X pins σ tg R) X.xe { s1 with heap := s1.heap.push { cls := .type "dict_values", data := .fields #[.ref d] } } := by
    refine wpAny_pyIter_values_raw (d := d) ⟨_, Heap.get?_push_size _ rfl, rfl, rfl⟩ (hr.at fun ob q => Heap.get?_push_of_some _ q) (pi_one (tk := s1.toks) I2 _ (turn_valsT _ hdt) ?_ q)
    exact ⟨_, Heap.get?_push_size _ rfl, rfl, rfl⟩
  show wpAny _ _ (callWith cpos (.builtin "dict.values") [.ref d] [] []) _ X.xe s1
  exact method_meetsIn F.slot_dict_values F.entry_dict_values rfl (PySem.evalArgs_none ⟨rfl, hr.typeIs, F.args_dict_values_1 _, _, meets_dict_values_raw d hs, ⟨_, _, hr⟩, fin⟩)
end
/-! ### as walks over data -/
theorem RpT.keys {Hf : Hp} : ∀ {kvs : List (List Key × V)} {items : List (List Key × D)}, RpT Hf kvs items → kvs.map (·.1) = items.map (·.1) := by
  intro kvs items r
  induction items generalizing kvs with
  | nil => cases r; rfl
  | cons p ps ih => cases r with
    | cons h t => rw [List.map_cons, List.map_cons, ih t]
theorem RpT.at {Hf : Hp} : ∀ {kvs : List (List Key × V)} {items : List (List Key × D)} {i : Nat} {k : List Key} {v : V} {p : List Key × D}, RpT Hf kvs items → kvs[i]? = some (k, v) → items[i]? = some p → p.1 = k ∧ Rp Hf v p.2 := by
  intro kvs items i k v p r h1 h2
  induction items generalizing kvs i with
  | nil => cases h2
  | cons q qs ih => cases r with
    | cons h t =>
      cases i with
      | zero => cases h1; cases h2; exact ⟨rfl, h⟩
      | succ i => exact ih t (by simpa using h1) (by simpa using h2)
theorem yl_valsT {B : Bs} {K : PySem.W.Frag} {a : Addr} {o : Obj} {kvs : List (List Key × V)} {items : List (List Key × D)} {Hf0 : Hp} (h : Hf0 a = some (.frz o (.dT kvs))) (r : RpT Hf0 kvs items) : Yl B K (Itdt a o kvs) (items.map (·.2)) Hf0 := fun i env ds σ Hf H s S => by
  have hq : H a = some (.frz o (.dT kvs)) := S.sub _ _ (s _ _ h)
  have hl := r.length
  rw [List.length_map]
  refine ⟨fun hi => ⟨⟨hq, by omega⟩, fun x H' y d hd => ?_⟩, fun hi => ⟨hq, by omega⟩⟩
  obtain ⟨rfl, k, e1⟩ := y
  rw [List.getElem?_map, List.getElem?_eq_getElem hi] at hd
  cases hd
  exact ⟨Hf, Gr.refl, S, (r.at e1 (List.getElem?_eq_getElem hi)).2.up s⟩
/-- a tuple of keys may stay -/
theorem fz_key {B : Bs} {K : PySem.W.Frag} {env : En} {ds : DS} {σ : St} {Hf H : Hp} {q : Addr} {k : List Key} (S : SR B K env ds σ Hf H) (e : H q = some (.tup (k.map kV))) : ∃ Hf', Gr B Hf H Hf' H ∧ SR B K env ds σ Hf' H ∧ Rp Hf' (.ref q) (keyT k) := by
  cases hq2 : Hf q with
  | none => exact ⟨upd Hf q (.tup (k.map kV)), ⟨fun a o e => ⟨o, e, fun _ => rfl⟩, same_fz hq2, fun b hb => by
      by_cases h : b = q
      · subst h; exact .inr (.inr ⟨S.noDrT e, _, e⟩)
      · rw [upd_ne h] at hb; exact .inl hb⟩, S.fzT hq2 e, .tup upd_same key_rp⟩
  | some o2 =>
    have := S.sub _ _ hq2
    rw [e] at this
    cases this
    exact ⟨Hf, Gr.refl, S, .tup hq2 key_rp⟩
theorem yl_itemsT {B : Bs} {K : PySem.W.Frag} {a : Addr} {o : Obj} {kvs : List (List Key × V)} {items : List (List Key × D)} {Hf0 : Hp} (h : Hf0 a = some (.frz o (.dT kvs))) (r : RpT Hf0 kvs items) : Yl B K (Itit a o kvs) (items.map fun p => .tuple [keyT p.1, p.2]) Hf0 := fun i env ds σ Hf H s S => by
  have hq : H a = some (.frz o (.dT kvs)) := S.sub _ _ (s _ _ h)
  have hl := r.length
  rw [List.length_map]
  refine ⟨fun hi => ⟨⟨hq, by omega⟩, fun x H' y d hd => ?_⟩, fun hi => ⟨hq, by omega⟩⟩
  obtain ⟨T, k, v, q, e1, rfl, e2, nT, rfl⟩ := y
  rw [List.getElem?_map, List.getElem?_eq_getElem hi] at hd
  cases hd
  obtain ⟨ek, rv⟩ := r.at e1 (List.getElem?_eq_getElem hi)
  show ∃ Hf', Gr B Hf H Hf' (upd H T (HO.tup [V.ref q, v])) ∧ SR B K env ds σ Hf' (upd H T (HO.tup [V.ref q, v])) ∧ Rp Hf' (V.ref T) (D.tuple [keyT items[i].1, items[i].2])
  rw [ek]
  obtain ⟨Hf1, g1, S1, r1⟩ := fz_key S e2
  have nf := sub_none S1 nT
  have F := S1.fre nT
  exact ⟨_, (g1.hp nT).fz nT nf, (S1.hp nf F).fz nf upd_same F, .tup upd_same ((RpL.cons r1 (.cons (rv.up (s.trans g1.ff)) .nil)).up (same_fz nf))⟩
def itemsD : D → Option (List D)
  | .dT kvs => some (kvs.map fun p => .tuple [keyT p.1, p.2])
  | _ => none
def valsD : D → Option (List D)
  | .dT kvs => some (kvs.map (·.2))
  | _ => none
def dIt (g : D → Option (List D)) (f : Den) : DenA := fun env ds => bnd (f env ds) fun a s => op1 (g a) s
section
variable {X : Cx} {tg e : Expr} {f : Den} {apos cpos : Pos}
theorem evi_items {elts : List Expr} {kk : Nat} {tpos : Pos} (hf : EvF X e f) (hbase : attributeBase e "items" X.env (eval e X.env) = eval e X.env := by rfl) (hline : (apos.endLine == cpos.line) = true := by rfl) :
    EvI X (.Tuple elts kk tpos) (.Call (.Attribute e "items" apos) [] [] cpos) (dIt itemsD f) := fun B env ds σ Hf H items ds' S he R q => by
  obtain ⟨v1, s1, e1, e⟩ := bnd_eq he
  obtain ⟨e3, rfl⟩ := op1_eq e
  unfold itemsD at e3
  split at e3
  · cases e3
    refine SI.of (pi_itemsT (pe_se X _) hbase hline) (hf B env ds σ Hf H _ _ S e1 _ fun v Hf1 H1 g1 S1 r1 => ?_)
    cases r1 with
    | dT h1 r => exact ⟨_, _, _, rfl, S1.sub _ _ h1, q _ _ _ g1 S1 (yl_itemsT h1 r)⟩
  · cases e3
theorem evi_vals (hf : EvF X e f) (hbase : attributeBase e "values" X.env (eval e X.env) = eval e X.env := by rfl) (hline : (apos.endLine == cpos.line) = true := by rfl) :
    EvI X tg (.Call (.Attribute e "values" apos) [] [] cpos) (dIt valsD f) := fun B env ds σ Hf H items ds' S he R q => by
  obtain ⟨v1, s1, e1, e⟩ := bnd_eq he
  obtain ⟨e3, rfl⟩ := op1_eq e
  unfold valsD at e3
  split at e3
  · cases e3
    refine SI.of (pi_valuesT (pe_se X _) hbase hline) (hf B env ds σ Hf H _ _ S e1 _ fun v Hf1 H1 g1 S1 r1 => ?_)
    cases r1 with
    | dT h1 r => exact ⟨_, _, _, rfl, S1.sub _ _ h1, q _ _ _ g1 S1 (yl_valsT h1 r)⟩
  · cases e3
end
end L2.Dn
set_option Elab.async false
set_option linter.all false
set_option maxRecDepth 100000
/-! dict comprehensions whose keys are tuples (after HandS.DictComp) -/
namespace L2.Dn
open PySem PySem.Spec PyProof.Rows
/-- d[k] = v by a comprehension, the key a tuple -/
theorem d_dictSetT {X : Cx} {pins : List (Addr × Obj)} {σ : St} {H : Hp} {s : Shared} {E : Value → Shared → Prop} {D b : Addr} {kvs : List (List Key × V)} {k : List Key} {v : V} {r : Value} {Q : Unit → Shared → Prop} (hu : X.A.units + 8 < cLine) (I : Inv X pins σ H s) (hD : H D = some (.dT kvs)) (hz : kvs.length < sizeLine)
    (eb : H b = some (.tup (k.map kV))) (rv : RelV v r) (h : ∀ s', Inv X pins σ (upd H D (.dT (putK kvs k v))) s' → Q () s') : wpAny (model X.prog X.w) X.A (dictSet D (.ref b) r) Q E s := by
  obtain ⟨z, hd, xs, rel, dd⟩ := dt_of I.hok hD
  have hzx : xs.length ≤ sizeLine := by rw [← Paired.length rel]; exact z
  have hl : (putK kvs k v).length ≤ sizeLine := by have := length_putK kvs k v; omega
  refine wpAny_dictSet_heap (hsz := hzx) (knd := tupleKind (mixKind X.prog X.w)) (show X.A.units < cLine by omega) (key_of I.hok eb) dd fun h' dd' hs => h _ ?_
  obtain ⟨q, es, ep, hq, h2, h3, h4, _, h5⟩ := dd'
  refine d_write I (by rw [hD]; exact True.intro) hs ⟨q, hq⟩ ⟨hl, hd, _, (rel.put k eb rv).keeps fun c ys ec => ?_, q, es, ep, hq, h2, h3, h4, h5⟩
  rw [upd_ne (ne_of ec hD (fun z => nomatch z))]
  exact ec
section
variable {X : Cx}
def tDcT (wi : TI) (g : TG) (tt : TT) (tk tv : TE) (vs : List Nat) : TE := fun σ H Q => wi σ H fun J H1 => ∀ D, H1 D = none → ∃ W : Nat → Nat → Hp → Prop, (∃ m, W 0 m (upd H1 D (.dT []))) ∧ ∀ i m H, W i m H →
  (J.stop i H ∧ Q (.ref D) H) ∨ (J.go i H ∧ ∃ Nx : Hp → Prop, (∀ H', Nx H' → ∃ m', m' < m ∧ W (i + 1) m' H') ∧ ∀ x H', J.yld i H x H' → g x (wipe σ vs) H' fun σ2 H2 => wipe σ2 vs = wipe σ vs ∧ tt σ2 H2 fun b H3 =>
    if b = true then tk σ2 H3 fun y H4 => tv σ2 H4 fun z H5 => ∃ (kvs : List (List Key × V)) (k : List Key) (b : Addr), (y = V.ref b ∧ H5 b = some (.tup (k.map kV))) ∧ H5 D = some (.dT kvs) ∧ kvs.length < sizeLine ∧ Nx (upd H5 D (.dT (putK kvs k z))) else Nx H3)
theorem dcT_core {pins : List (Addr × Obj)} {s : Shared} {σ : St} {H : Hp} {Q : VK} {kx vx tg iter : Expr} {ifs : List Expr} {scope : Scope} {own : List (Str × Nat)} {pos pos' : Pos} {wi : TI} {g : TG} {tt : TT} {tk tv : TE} {use : Option (Value → Sem Unit)} {Qf : Value → Shared → Prop}
    (hu : X.A.units + 8 < cLine) (hc : X.calm = true) (hN : X.N.Nodup) (I : Inv X pins σ H s) (hi : PI X tg iter wi) (ok : BlkOk X.N X.env.scope scope own)
    (hg : ∀ (s : Shared) (H : Hp) (C : Addr) (cl : List (Str × Addr)) (fp : List Addr), PG (X.blk s H scope (compEnvC scope cl C X.env) fp) tg g) (ht : ∀ (s : Shared) (H : Hp) (C : Addr) (cl : List (Str × Addr)) (fp : List Addr), PTs (X.blk s H scope (compEnvC scope cl C X.env) fp) ifs tt)
    (hk : ∀ (s : Shared) (H : Hp) (C : Addr) (cl : List (Str × Addr)) (fp : List Addr), PE (X.blk s H scope (compEnvC scope cl C X.env) fp) kx tk)
    (he : ∀ (s : Shared) (H : Hp) (C : Addr) (cl : List (Str × Addr)) (fp : List Addr), PE (X.blk s H scope (compEnvC scope cl C X.env) fp) vx tv) (hs : ∀ x, foldedSetIterable iter X.env x = pure x)
    (h : tDcT wi g tt tk tv (own.map (·.2)) σ H Q)
    (hRR : ∀ D C s' m H', Inv X pins σ H' s' → Q (.ref D) H' → s'.heap.Ns C m → FpOk X pins H' C → compPost (model X.prog X.w) X.A X.xe use Qf (.ref D) C (.ok .next) s') :
    wpAny (model X.prog X.w) X.A (comprehension (.DictComp kx vx [⟨tg, iter, ifs, 0⟩] scope pos) scope X.env pos' newDict false (eval iter X.env) use) Qf X.xe s := by
  have hfree : ∀ y ∈ scope.names, y.2 = .free → ∃ c, X.env.cells.lookup y.1 = some c := fun y hy e => by
    rcases ok.free y hy e with k | k
    · exact I.ok.has _ (.inl k)
    · exact I.ok.has _ (.inr k)
  refine wpAny_comprehension_free (use := use) rfl hs (closure_ok hfree) ok.kind (fun y hy e => by rw [ok.uniq y hy, e])
    (thn (hi.run pins s σ H _ I h) fun xv s1 hx => thn hx fun itv s2 h2 => ?_)
  obtain ⟨it, fp, tn, J, H2, e, I2, T, st2, f2, q⟩ := h2
  subst e
  refine wpAny_newObj_type (newEnv_comp ?_)
  generalize hD : s2.heap.objs.size = D
  have hDn : H2 D = none := I2.hok.fresh (Nat.le_of_eq hD)
  obtain ⟨W, ⟨m0, w0⟩, turn⟩ := q D hDn
  -- the new list
  generalize hs3 : ({ s2 with heap := s2.heap.push { cls := .type "dict", data := .dict #[] } } : Shared) = s3
  have I3 : Inv X pins σ (upd H2 D (.dT [])) s3 := by
    rw [← hs3]
    refine I2.laid (t' := s2.toks) (fun b o e => Heap.get?_push_of_some _ e) (Nat.le_of_eq hD) ?_
    rw [← hD]
    exact dt_empty s2.heap I2.big
  have h3 : s3.heap = s2.heap.push { cls := .type "dict", data := .dict #[] } := by rw [← hs3]
  have sz : ∀ b ∈ fp, b < s2.heap.objs.size := fun b hb => by
    obtain ⟨o, e, _⟩ := T.obj _ _ st2 b hb
    exact Heap.lt_size e
  have f3 : ∀ b ∈ fp, FpOk X pins (upd H2 D (.dT [])) b ∧ b < s3.heap.objs.size := fun b hb => by
    have hlt := sz b hb
    refine ⟨⟨?_, (f2 b hb).2⟩, by rw [h3, Heap.size_push]; exact Nat.lt_succ_of_lt hlt⟩
    rw [upd_ne (by rw [← hD]; exact Nat.ne_of_lt hlt)]
    exact (f2 b hb).1
  have st3 : tn 0 s3.heap := T.keep _ _ _ st2 fun b _ o e => by rw [h3]; exact Heap.get?_push_of_some _ e
  have I4 := block_start I3 ok hN f3
  have pg := hg s3 (upd H2 D (.dT [])) s3.heap.objs.size (cellsFrom (s3.heap.objs.size + 1) scope.names (cloFrom X.env.cells scope.names [])) fp
  have pt := ht s3 (upd H2 D (.dT [])) s3.heap.objs.size (cellsFrom (s3.heap.objs.size + 1) scope.names (cloFrom X.env.cells scope.names [])) fp
  have pk := hk s3 (upd H2 D (.dT [])) s3.heap.objs.size (cellsFrom (s3.heap.objs.size + 1) scope.names (cloFrom X.env.cells scope.names [])) fp
  have pe := he s3 (upd H2 D (.dT [])) s3.heap.objs.size (cellsFrom (s3.heap.objs.size + 1) scope.names (cloFrom X.env.cells scope.names [])) fp
  show codeAny _ _ (.compStart (.DictComp kx vx [⟨tg, iter, ifs, 0⟩] scope pos) 0 (.ref it) (.ref D) (compEnvC scope (cellsFrom (s3.heap.objs.size + 1) scope.names (cloFrom X.env.cells scope.names [])) s3.heap.objs.size X.env)) (compPost (model X.prog X.w) X.A X.xe use Qf (.ref D) s3.heap.objs.size) { s3 with heap := pushCells (s3.heap.push { cls := .type "dict", data := .dict #[] }) scope.names }
  have nfp : ∀ b ∈ fp, (upd H2 D (.dT [])) b = none := fun b hb => (f3 b hb).1.1
  generalize hce : compEnvC scope (cellsFrom (s3.heap.objs.size + 1) scope.names (cloFrom X.env.cells scope.names [])) s3.heap.objs.size X.env = ce at I4 pg pt pk pe ⊢
  have cL : ce.locals = s3.heap.objs.size := by subst hce; rfl
  generalize hH3 : upd H2 D (.dT []) = H3 at I3 I4 pg pt pk pe w0 nfp f3
  generalize hs4 : ({ s3 with heap := pushCells (s3.heap.push { cls := .type "dict", data := .dict #[] }) scope.names } : Shared) = s4 at I4 ⊢
  have st4 : tn 0 s4.heap := T.keep _ _ _ st3 fun b _ o e => by rw [← hs4]; exact pushCells_keeps _ _ _ _ (Heap.get?_push_of_some _ e)
  have stat : ∀ {σ' : St} {H' : Hp} {s' : Shared}, Inv (X.blk s3 H3 scope ce fp) [] σ' H' s' → (∀ b ∈ fp, H' b = none) → ∀ b ∈ fp, FpOk (X.blk s3 H3 scope ce fp) [] H' b := fun {σ' H' s'} I' hn b hb =>
    ⟨hn b hb, (I'.ok.exf b hb).1, I'.ok.exfs b hb, .inl hb, fun x c e => (I'.ok.exf b hb).2 x c e, fun p hp => absurd (show p ∈ ([] : List (Addr × Obj)) ++ [] from hp) (by simp)⟩
  have loop : codeAny (model X.prog X.w) X.A (.compLoop (.DictComp kx vx [⟨tg, iter, ifs, 0⟩] scope pos) 0 (.ref it) (.ref D) ce) (compPost (model X.prog X.w) X.A X.xe use Qf (.ref D) s3.heap.objs.size) s4 := by
    refine compLoop_anyD (fun n s' => ∃ i H', Inv (X.blk s3 H3 scope ce fp) [] (wipe σ (own.map (·.2))) H' s' ∧ tn i s'.heap ∧ (∀ b ∈ fp, H' b = none) ∧ W i n H') ?_ m0 ⟨0, H3, I4, st4, nfp, w0⟩
    rintro n s5 ⟨i, H5, I5, st5, n5, w5⟩
    rcases turn i n H5 w5 with ⟨stop, qq⟩ | ⟨go, Nx, hNx, step⟩
    · have td := T.done (X.blk s3 H3 scope ce fp) rfl rfl rfl hc i [] s5 _ H5 (fun _ _ => False) I5 (stat I5 n5) st5 stop
      refine thnF td fun r s6 ⟨hr, I6⟩ => ?_
      subst hr
      -- back in the def's context
      have I7 : Inv X pins σ H5 s6 := I3.call' (ch := fp) I6.os I6.base I6.hok I6.bare fun b hb => ⟨(f3 b hb).1.2.2.2.1, (f3 b hb).1.2.1, (f3 b hb).1.2.2.2.2.1, (f3 b hb).1.2.2.2.2.2⟩
      have nC : H5 s3.heap.objs.size = none := by
        have z : H5 ce.locals = none := I6.free
        rw [cL] at z
        exact z
      obtain ⟨m, hn, _⟩ := I6.loc
      have hn : s6.heap.Ns ce.locals m := hn
      rw [cL] at hn
      exact hRR D s3.heap.objs.size s6 m H5 I7 qq hn (I3.fpOk (Nat.le_refl _) nC)
    · have ti := T.item (X.blk s3 H3 scope ce fp) rfl rfl rfl hc i [] s5 _ H5 (fun _ _ => False) I5 (stat I5 n5) st5 go
      refine thnF ti fun r s6 ⟨u, hr, h6⟩ => ?_
      subst hr
      refine thnF h6 fun _ s7 ⟨x, H7, I7, r7, y7, st7, n7⟩ => ?_
      have I7' := I7.pinned (stat I7 n7) (T.obj _ _ st7)
      refine thnF (pg.run _ s7 _ H7 x u _ I7' r7 (step x H7 y7)) fun _ s8 ⟨σ8, H8, I8, hw8, q8⟩ => ?_
      refine thnF (pt.run _ s8 σ8 H8 _ I8 q8) fun b s9 ⟨H9, I9, q9⟩ => ?_
      -- the turn's end
      have fin : ∀ {s' : Shared} {H' : Hp}, Inv (X.blk s3 H3 scope ce fp) ([] ++ pinsAt fp s7.heap) σ8 H' s' → Nx H' → ∃ m, m < n ∧ ∃ i H', Inv (X.blk s3 H3 scope ce fp) [] (wipe σ (own.map (·.2))) H' s' ∧ tn i s'.heap ∧ (∀ b ∈ fp, H' b = none) ∧ W i m H' := fun {s' H'} I' nx => by
        obtain ⟨m', hm, w'⟩ := hNx H' nx
        have pin' : ∀ b ∈ fp, ∀ o, s7.heap.get? b = some o → s'.heap.get? b = some o ∧ H' b = none := fun b hb o e =>
          let z := I'.pin (b, o) (List.mem_append_right _ (List.mem_append_right _ (mem_pinsAt hb e)))
          ⟨z.1, z.2.1⟩
        have hl : (wipe σ (own.map (·.2))).length = σ8.length := by rw [← hw8, wipe_length]
        refine ⟨m', hm, i + 1, H', (I'.unpinned (pins := [])).weak hl (fun j v e => ?_), T.keep _ _ _ st7 fun b hb o e => (pin' b hb o e).1, fun b hb => ?_, w'⟩
        · rw [← hw8] at e
          exact (wipe_some e).1
        · obtain ⟨o, e, _⟩ := T.obj _ _ st7 b hb
          exact (pin' b hb o e).2
      cases b with
      | false =>
        simp only [Bool.false_eq_true, if_false] at q9 ⊢
        exact fin I9 q9
      | true =>
        simp only [if_true] at q9 ⊢
        refine thnF (pk.run _ s9 σ8 H9 _ I9 q9) fun z s10 ⟨yk, H10, I10, r10, q10⟩ => ?_
        refine thnF (pe.run _ s10 σ8 H10 _ I10 q10) fun z2 s11 ⟨yv, H11, I11, r11, kvs, k, b11, ek, hD11, hz11, nx⟩ => ?_
        obtain ⟨ek, hb11⟩ := ek
        subst ek
        cases (show z = Value.ref _ from r10)
        exact d_dictSetT (X := X.blk s3 H3 scope ce fp) hu I11 hD11 hz11 hb11 r11 fun s12 I12 => fin I12 nx
  exact codeAny_compStart_dict loop (T.self X.A 0 _ _ _ st4 loop)
theorem pe_dcT {kx vx tg iter : Expr} {ifs : List Expr} {scope : Scope} {own : List (Str × Nat)} {pos : Pos} {wi : TI} {g : TG} {tt : TT} {tk tv : TE} (hu : X.A.units + 8 < cLine) (hc : X.calm = true) (hN : X.N.Nodup) (hi : PI X tg iter wi) (ok : BlkOk X.N X.env.scope scope own)
    (hg : Blks X scope fun Y => PG Y tg g) (ht : Blks X scope fun Y => PTs Y ifs tt) (hk : Blks X scope fun Y => PE Y kx tk) (he : Blks X scope fun Y => PE Y vx tv) (hs : ∀ x, foldedSetIterable iter X.env x = pure x := by intro _; rfl) :
    PE X (.DictComp kx vx [⟨tg, iter, ifs, 0⟩] scope pos) (tDcT wi g tt tk tv (own.map (·.2))) := by
  refine ⟨fun pins s σ H Q I h => ?_⟩
  rw [arm_eval_DictComp]
  refine dcT_core hu hc hN I hi ok hg ht hk he hs h fun D C s' m H' I' q hn f => ⟨m, hn, fun h'' sb => ?_⟩
  obtain ⟨f0, f1, f2, f3, f4, f5⟩ := f
  exact ⟨.ref D, H', I'.turned (t' := s'.toks) (fun b o hb e => (sb.2 b hb).trans e) f0 f1 f3 f4 f5, rfl, q⟩
end
end L2.Dn
set_option Elab.async false
set_option linter.all false
set_option maxRecDepth 100000
namespace L2.Dn
open PySem PySem.Spec PyProof.Rows
def dcLoop (gg : DenG) (t : DenT) (fk fv : Den) (env0 : En) : List D → DS → List (List Key × D) → Option (List (List Key × D) × DS)
  | [], s, acc => some (acc, s)
  | d :: r, s, acc => match gg d env0 with
    | none => none
    | some env' => bnd (t env' s) fun b s1 => match b with
      | false => dcLoop gg t fk fv env0 r s1 acc
      | true => bnd (fk env' s1) fun k s2 => bnd (fv env' s2) fun v s3 => match keyOf? k with
        | none => none
        | some ks => if acc.length < 100000 then dcLoop gg t fk fv env0 r s3 (putT acc ks v) else none
def dDc (gi : DenA) (own : List Nat) (gg : DenG) (t : DenT) (fk fv : Den) : Den := fun env ds => bnd (gi env ds) fun items s => bnd (dcLoop gg t fk fv (wipeE env own) items s []) fun r s' => some (.dT r, s')
theorem dcLoop_cons {gg : DenG} {t : DenT} {fk fv : Den} {env0 : En} {d : D} {r : List D} {s s' : DS} {acc ys : List (List Key × D)} (h : dcLoop gg t fk fv env0 (d :: r) s acc = some (ys, s')) :
    ∃ env' b s1, gg d env0 = some env' ∧ t env' s = some (b, s1) ∧ ((b = false ∧ dcLoop gg t fk fv env0 r s1 acc = some (ys, s')) ∨ (b = true ∧ ∃ k s2 v s3 ks, fk env' s1 = some (k, s2) ∧ fv env' s2 = some (v, s3) ∧ keyOf? k = some ks ∧ acc.length < 100000 ∧ dcLoop gg t fk fv env0 r s3 (putT acc ks v) = some (ys, s'))) := by
  unfold dcLoop at h
  split at h
  · cases h
  · rename_i env' e1
    obtain ⟨b, s1, e2, h⟩ := bnd_eq h
    refine ⟨env', b, s1, e1, e2, ?_⟩
    cases b with
    | false => exact .inl ⟨rfl, h⟩
    | true =>
      obtain ⟨k, s2, e3, h⟩ := bnd_eq h
      obtain ⟨v, s3, e4, h⟩ := bnd_eq h
      cases e5 : keyOf? k with
      | none => simp only [e5] at h; cases h
      | some ks =>
        simp only [e5] at h
        split at h
        · rename_i hz
          exact .inr ⟨rfl, k, s2, v, s3, ks, e3, e4, e5, hz, h⟩
        · cases h
theorem wipe_idem (own : List Nat) (σ : St) : L2.wipe (L2.wipe σ own) own = L2.wipe σ own := by
  have idem : ∀ (vs : List Nat) (τ : St), (∀ j ∈ vs, j ∈ own) → L2.wipe (L2.wipe τ own) vs = L2.wipe τ own := by
    intro vs τ hv
    apply List.ext_getElem?
    intro j
    by_cases hj : j ∈ vs
    · have f : ∀ (τ : St) (us : List Nat), j ∈ us → (L2.wipe τ us)[j]? = if j < τ.length then some none else none := by
        intro τ us
        induction us with
        | nil => intro h; cases h
        | cons u us ih =>
          intro h
          show ((L2.wipe τ us).set u none)[j]? = _
          by_cases e : u = j
          · subst e
            rw [List.getElem?_set_self', ← wipe_length τ us]
            by_cases hlt : u < (L2.wipe τ us).length
            · rw [if_pos hlt, List.getElem?_eq_getElem hlt]; rfl
            · rw [if_neg hlt, List.getElem?_eq_none (by omega)]; rfl
          · rw [List.getElem?_set_ne e]
            exact ih ((List.mem_cons.mp h).elim (fun z => absurd z.symm e) id)
      rw [f _ vs hj, f τ _ (hv j hj), wipe_length]
    · rw [wipe_out hj]
  exact idem own σ fun j h => h
section
variable {X : Cx} {tg iter kx vx : Expr} {ifs : List Expr} {scope : Scope} {own : List (Str × Nat)} {pos : Pos} {gi : DenA} {ts : List Nat} {gg : DenG} {t : DenT} {fk fv : Den}
theorem dc_reading {tt : TT} (hi : EvI X tg iter gi) (hg : Blks X scope fun Y => EvG Y tg ts gg)
    (ht : ∀ B env ds σ Hf H d ds', SR B X.K env ds σ Hf H → t env ds = some (d, ds') → ∀ Q : Bool → Hp → Prop, CT B X.K env ds' σ Hf H d Q → tt σ H Q)
    (hk : Blks X scope fun Y => EvF Y kx fk) (hv : Blks X scope fun Y => EvF Y vx fv) (hts : ∀ j ∈ ts, j ∈ own.map (·.2)) {B : Bs} {env : En} {ds ds' : DS} {σ : St} {Hf H : Hp} {d : D} (S : SR B X.K env ds σ Hf H) (hf : dDc gi (own.map (·.2)) gg t fk fv env ds = some (d, ds')) {Q : VK} (q : CN B X.K env ds' σ Hf H d Q) :
    tDcT (SI X tg iter) (SGb X scope tg) tt (SEb X scope kx) (SEb X scope vx) (own.map (·.2)) σ H Q := by
  obtain ⟨items, s1, e1, e⟩ := bnd_eq hf
  obtain ⟨r, s2, e2, e⟩ := bnd_eq e
  cases e
  refine hi B env ds σ Hf H _ _ S e1 _ fun J Hf1 H1 g1 S1 y1 => ?_
  intro Dd nD
  have nD0 : H Dd = none := g1.fresh nD
  have nfD1 : Hf1 Dd = none := sub_none S1 nD
  have ndD : ¬ B.isDr Dd := S1.noDr nD
  refine ⟨fun i m H' => m = items.length - i ∧ i ≤ items.length ∧ ∃ Hf' si accV acc, Gr B Hf1 H1 Hf' H' ∧ Hf' Dd = none ∧ SR B X.K env si σ Hf' H' ∧ H' Dd = some (.dT accV) ∧ RpT Hf' accV acc ∧ dcLoop gg t fk fv (wipeE env (own.map (·.2))) (items.drop i) si acc = some (r, ds'),
    ⟨items.length, by simp, Nat.zero_le _, Hf1, s1, [], [], Gr.refl.hp nD, nfD1, S1.hp nfD1 (S1.fre nD), upd_same, .nil, by rw [List.drop_zero]; exact e2⟩, ?_⟩
  rintro i m H' ⟨rfl, hi', Hf', si, accV, acc, g2, nfD, S2, hD, rD, el⟩
  obtain ⟨yg, ys0⟩ := y1 i env si σ Hf' H' g2.ff S2
  cases hd : items.drop i with
  | nil =>
    have hl : items.length ≤ i := by
      rcases Nat.lt_or_ge i items.length with z | z
      · rw [List.drop_eq_getElem_cons z] at hd; cases hd
      · exact z
    rw [hd] at el
    cases el
    exact .inl ⟨ys0 hl, q Dd Hf' H' (g1.trans g2) S2 nD0 nfD (.dT hD rD)⟩
  | cons it rest =>
    obtain ⟨hlt, hit, hrest⟩ := drop_at hd
    rw [hd] at el
    obtain ⟨env', b, s3, k1, k2, k3⟩ := dcLoop_cons el
    obtain ⟨yg1, yg2⟩ := yg hlt
    refine .inr ⟨yg1, fun H2 => (items.length - (i + 1) = items.length - (i + 1) ∧ i + 1 ≤ items.length ∧ ∃ Hf' si accV acc, Gr B Hf1 H1 Hf' H2 ∧ Hf' Dd = none ∧ SR B X.K env si σ Hf' H2 ∧ H2 Dd = some (.dT accV) ∧ RpT Hf' accV acc ∧ dcLoop gg t fk fv (wipeE env (own.map (·.2))) (items.drop (i + 1)) si acc = some (r, ds')), fun H2 h2 => ⟨_, by omega, h2⟩, fun x H3 yx => ?_⟩
    obtain ⟨Hf3, g3, S3, r3⟩ := yg2 x H3 yx it hit
    intro bs bH bC bcl bfp
    refine hg bs bH bC bcl bfp B _ env' si _ Hf3 H3 it x (S3.wipe _) r3 k1 _ fun σ4 S4 l4 o4 => ?_
    refine ⟨(wipe_eq (ts := ts) l4 o4 hts).trans (wipe_idem _ _), ?_⟩
    refine ht B env' si σ4 Hf3 H3 b s3 S4 k2 _ fun Hf5 H5 g5 S5 => ?_
    have gA := (g2.trans g3).trans g5
    have ne3 : ∀ {Hx : Hp}, Hx Dd = some (.dT accV) → Hx Dd ≠ none := fun h => by rw [h]; simp
    have nt3 : ∀ {Hx : Hp}, Hx Dd = some (.dT accV) → ∀ xs, Hx Dd ≠ some (.tup xs) := fun h xs z => by rw [h] at z; cases z
    have hD3 : H3 Dd = some (.dT accV) := g3.at hD ndD
    have hD5 : H5 Dd = some (.dT accV) := g5.at hD3 ndD
    have rD5 : RpT Hf5 accV acc := (rD.up g3.ff).up g5.ff
    have So := (S2.moveTo g3 S3).moveTo g5 S5
    have nfD3 : Hf3 Dd = none := g3.noF nfD (ne3 hD) (nt3 hD)
    have nfD5 : Hf5 Dd = none := g5.noF nfD3 (ne3 hD3) (nt3 hD3)
    rcases k3 with ⟨rfl, k3⟩ | ⟨rfl, k, s6, v, s7, ks, k4, k5, k6, hz, k7⟩
    · rw [if_neg Bool.false_ne_true]
      exact ⟨rfl, hlt, Hf5, s3, accV, acc, gA, nfD5, So, hD5, rD5, by rw [hrest]; exact k3⟩
    · rw [if_pos rfl]
      intro cs cH cC ccl cfp
      refine hk cs cH cC ccl cfp B env' s3 σ4 Hf5 H5 k s6 S5 k4 _ fun kv Hf7 H7 g7 S7 r7 => ?_
      intro es eH eC ecl efp
      refine hv es eH eC ecl efp B env' s6 σ4 Hf7 H7 v s7 S7 k5 _ fun vv Hf8 H8 g8 S8 r8 => ?_
      obtain ⟨kb, rfl, hkb⟩ := keyOf_rd (B := B) (H := H7) (.fz r7) k6
      have hD7 : H7 Dd = some (.dT accV) := g7.at hD5 ndD
      have hD8 : H8 Dd = some (.dT accV) := g8.at hD7 ndD
      have rD8 : RpT Hf8 accV acc := (rD5.up g7.ff).up g8.ff
      have nfD7 : Hf7 Dd = none := g7.noF nfD5 (ne3 hD5) (nt3 hD5)
      have nfD8 : Hf8 Dd = none := g8.noF nfD7 (ne3 hD7) (nt3 hD7)
      have F : Fre B env σ Dd := S1.fre nD
      have S9 := ((So.moveTo g7 S7).moveTo g8 S8).hp (o := .dT (putK accV ks vv)) nfD8 F
      exact ⟨accV, ks, kb, ⟨rfl, S8.sub _ _ (g8.ff _ _ hkb)⟩, hD8, by rw [sizeLine_eq, rD.length]; omega, rfl, hlt, Hf8, s7, putK accV ks vv, putT acc ks v, ((gA.trans g7).trans g8).hp nD, nfD8, S9, upd_same, rD8.put r8, by rw [hrest]; exact k7⟩
/-- {k: v for tg in iter if ..}, the keys tuples -/
theorem evn_dc (hu : X.A.units + 8 < cLine) (hc : X.calm = true) (hN : X.N.Nodup) (ok : BlkOk X.N X.env.scope scope own) (hi : EvI X tg iter gi) (hg : Blks X scope fun Y => EvG Y tg ts gg) (ht : EvTb X scope ifs t) (hk : Blks X scope fun Y => EvF Y kx fk) (hv : Blks X scope fun Y => EvF Y vx fv)
    (hts : ∀ j ∈ ts, j ∈ own.map (·.2)) (hs : ∀ x, foldedSetIterable iter X.env x = pure x := by intro _; rfl) : EvN X (.DictComp kx vx [⟨tg, iter, ifs, 0⟩] scope pos) (dDc gi (own.map (·.2)) gg t fk fv) := fun B env ds σ Hf H d ds' S hf Q q => by
  obtain ⟨tt, pt, kt⟩ := ht
  exact SE.of (pe_dcT (wi := SI X tg iter) (g := SGb X scope tg) (tt := tt) (tk := SEb X scope kx) (tv := SEb X scope vx) hu hc hN (pi_si X tg iter) ok (fun s H C cl fp => ⟨fun pins s' σ' H' v u Q' I r h => h s H C cl fp pins s' u I r⟩) pt (fun s H C cl fp => ⟨fun pins s' σ' H' Q' I h => h s H C cl fp pins s' I⟩) (fun s H C cl fp => ⟨fun pins s' σ' H' Q' I h => h s H C cl fp pins s' I⟩) hs)
    (dc_reading hi hg kt hk hv hts S hf q)
end
end L2.Dn
set_option Elab.async false
set_option linter.all false
set_option maxRecDepth 100000
/-! dict(d) of a dict with tuple keys -/
namespace L2.Dn
open PySem PySem.Spec PyProof.Rows
section
variable {prog : Program} {w : World} {A : Around} {E : Value → Shared → Prop} {s : Shared} {K : Type} [DecidableEq K] {knd : HeapKind prog w K}
theorem call_dictH {o : Addr} {more : List (K × Addr × Value)} {Q : Value → Shared → Prop} (hu : knd.room A.in1.in1) (hoS : (o == sysModules) = false) (ho : s.heap.DictOfH knd o more) (hsz : more.length ≤ sizeLine) (his : ∀ x ∈ more, knd.is (s.heap.push { cls := .type "dict", data := .dict #[] }) x.1 x.2.1)
    (hty : ∀ x ∈ more, s.TypeIs (.ref x.2.1) "tuple") (hh : (more.map fun x => knd.hash x.1).Nodup)
    (h : ∀ h', h'.DictOfH knd s.heap.objs.size more → Heap.SameBut s.heap.objs.size (s.heap.push { cls := .type "dict", data := .dict #[] }) h' → Q (.ref s.heap.objs.size) { s with heap := h' }) :
    wpAny (model prog w) A (call (.type "dict") [.ref o]) Q E s := by
  refine callType_codes (Q₁ := fun obj s₁ => obj = .ref s.heap.objs.size ∧ s₁ = { s with heap := s.heap.push { cls := .type "dict", data := .dict #[] } }) F.kt_called_dict (F.kt_typeCall_dict_1 _) F.entry_dict_init (kt_code_dict_new _ ⟨rfl, rfl⟩) ?_
  rintro obj s₁ ⟨rfl, rfl⟩
  have hnew : (s.heap.push { cls := .type "dict", data := .dict #[] }).DictOfH knd s.heap.objs.size [] := Heap.DictOfH.new s.heap
  have ho' : (s.heap.push { cls := .type "dict", data := .dict #[] }).DictOfH knd o more := ho.at' (fun _ e => Heap.get?_push_of_some _ e) his
  have hn := ho.nodup
  have hdo : s.heap.objs.size ≠ o := fun e => absurd ho.lt_size (by rw [e]; exact Nat.lt_irrefl _)
  refine ⟨hnew.typeIs, F.args_dict_init_2 _ _, ?_⟩
  unfold Builtin.«dict.__init__»
  refine wpAny_bind ?_
  unfold Builtin.Dict.selfAndRest
  refine wpAny_bind (wpAny_notOrdered_dict hnew.typeIs ?_)
  show wpAny _ _ (pure (s.heap.objs.size, [Value.ref o])) _ _ _
  refine wpAny_pure ?_
  show wpAny _ _ (Builtin.Dict.updateFrom "dict.__init__" s.heap.objs.size (.ref o) [] .none) _ _ _
  refine updateFrom_dictH .none hu hdo hoS hnew ho' (.inr ⟨fun x hx => ?_, hh⟩) (by simpa using hsz) fun h' hd' _ hs' => ?_
  · obtain ⟨ob, e, c⟩ := hty x hx
    exact ⟨ob, Heap.get?_push_of_some _ e, c⟩
  · rw [storedAllH_nil_of_nodup more hn] at hd'
    exact ⟨rfl, h h' hd' hs'⟩
end
/-! the hash of a tuple of ints -/
def hT (ks : List Int) : Int := reduceHash (Builtin.Tuple.tupleHashOf (ks.map hashInt))
def kInts : List Key → Option (List Int)
  | [] => some []
  | .inl i :: r => (match kInts r with
    | some l => some (i :: l)
    | none => none)
  | .inr _ :: _ => none
theorem kInts_eq : ∀ {k : List Key} {ns : List Int}, kInts k = some ns → k = ns.map Sum.inl
  | [], _, h => by cases h; rfl
  | .inl i :: r, ns, h => by
    unfold kInts at h
    cases e : kInts r with
    | none => rw [e] at h; cases h
    | some l => rw [e] at h; cases h; rw [kInts_eq e]; rfl
  | .inr _ :: _, _, h => by cases h
theorem hash_ints {P : Program} {w : World} : ∀ {ns : List Int}, (tupleKind (mixKind P w)).hash (ns.map Sum.inl) = hT ns := fun {ns} => by
  show reduceHash (Builtin.Tuple.tupleHashOf ((ns.map Sum.inl).map (keyH w))) = _
  rw [List.map_map]
  rfl
def hashes? : List (List Key × D) → Option (List Int)
  | [] => some []
  | (k, _) :: r => (match kInts k with
    | some ns => (match hashes? r with
      | some l => some (hT ns :: l)
      | none => none)
    | none => none)
def memI (x : Int) : List Int → Bool
  | [] => false
  | y :: r => (match decide (x = y) with
    | true => true
    | false => memI x r)
def nodupI : List Int → Bool
  | [] => true
  | x :: r => (match memI x r with
    | true => false
    | false => nodupI r)
theorem memI_not {x : Int} : ∀ {l : List Int}, memI x l = false → x ∉ l
  | [], _ => by simp
  | y :: r, h => by
    unfold memI at h
    split at h
    · cases h
    · rename_i e
      intro m
      rcases List.mem_cons.mp m with q | q
      · exact of_decide_eq_false e q
      · exact memI_not h q
theorem nodupI_ok : ∀ {l : List Int}, nodupI l = true → l.Nodup
  | [], _ => List.nodup_nil
  | x :: r, h => by
    unfold nodupI at h
    split at h
    · cases h
    · rename_i e
      exact List.nodup_cons.mpr ⟨memI_not e, nodupI_ok h⟩
theorem hashes_eq {P : Program} {w : World} {Hf : Hp} : ∀ {ds : List (List Key × D)} {kvs : List (List Key × V)} {l : List Int}, RpT Hf kvs ds → hashes? ds = some l → kvs.map (fun kv => (tupleKind (mixKind P w)).hash kv.1) = l := by
  intro ds
  induction ds with
  | nil => intro kvs l r h; cases r; cases h; rfl
  | cons p ps ih =>
    intro kvs l r h
    cases r with
    | cons r t =>
      unfold hashes? at h
      split at h
      · rename_i ns e1
        split at h
        · rename_i l' e2
          cases h
          rw [List.map_cons, ih t e2]
          show (tupleKind (mixKind P w)).hash _ :: _ = _
          rw [kInts_eq e1, hash_ints]
        · cases h
      · cases h
def gDict : List D → Option D
  | [.dT kvs] => (match hashes? kvs with
    | some l => if nodupI l = true then some (.dT kvs) else none
    | none => none)
  | [.dK kvs] => some (.dK kvs)
  | _ => none
section
variable {X : Cx}
def rDictT (X : Cx) : List V → Hp → VK → Prop := fun xs H Q => ∃ (a : Addr) (kvs : List (List Key × V)), xs = [.ref a] ∧ Rd H a (.dT kvs) ∧ (kvs.map fun kv => (tupleKind (mixKind X.prog X.w)).hash kv.1).Nodup ∧ ∀ p, H p = none → Q (.ref p) (upd H p (.dT kvs))
theorem call_dictT (hu : X.A.units + 8 < cLine) : CallR X (.type "dict") (rDictT X) := by
  intro pins s σ H xs us Q I r ⟨a, kvs, ex, hd, hh, q⟩
  subst ex
  obtain ⟨u, eu, rx⟩ := vals1 r
  subst eu
  cases rx
  obtain ⟨z, lo, ws, rel, dd⟩ := dt_rd I.hok hd
  have hzw : ws.length ≤ sizeLine := by rw [← Paired.length rel]; exact z
  have hx : ∀ y ∈ ws, IsTupleKey (mixKind X.prog X.w) s.heap y.1 y.2.1 := let ⟨_, _, _, _, _, _, _, his, _⟩ := dd; his
  have push : ∀ {h' : Heap}, (∀ b o, s.heap.get? b = some o → h'.get? b = some o) → ∀ y ∈ ws, IsTupleKey (mixKind X.prog X.w) h' y.1 y.2.1 := fun k y hy => by
    obtain ⟨o, items, n, e1, e2, e3, e4⟩ := hx y hy
    exact ⟨o, items, n, k _ _ e1, e2, e3, e4⟩
  have e1 : ws.map (fun y => (tupleKind (mixKind X.prog X.w)).hash y.1) = kvs.map fun kv => (tupleKind (mixKind X.prog X.w)).hash kv.1 := by
    clear dd hx push hzw z q hh hd
    induction rel with
    | nil => rfl
    | cons h t ih => rw [List.map_cons, List.map_cons, ih, h.1]
  refine call_dictH (knd := tupleKind (mixKind X.prog X.w)) (show X.A.in1.in1.units < cLine by show X.A.units + 1 + 1 < cLine; omega) lo dd hzw (push fun b o e => Heap.get?_push_of_some _ e) (fun y hy => (hx y hy).typeIs) (by rw [e1]; exact hh) fun h' d' hs => ?_
  have hm : (s.heap.objs.size == sysModules) = false := beq_eq_false_iff_ne.mpr (Nat.ne_of_gt I.big)
  obtain ⟨ob, es, ep, hq, h2, h3, h4, _, h5⟩ := d'
  have kp : ∀ b o, s.heap.get? b = some o → h'.get? b = some o := fun b u e => (hs.2 b (Nat.ne_of_lt (Heap.lt_size e))).trans (Heap.get?_push_of_some _ e)
  refine ⟨.ref s.heap.objs.size, upd H s.heap.objs.size (.dT kvs), I.laid (t' := s.toks) kp (Nat.le_refl _) ⟨z, hm, ws, rel.keeps fun c ys ec => ?_, ob, es, ep, hq, h2, h3, h4, h5⟩, rfl, q _ I.fresh⟩
  rw [upd_ne (ne_of_none ec I.fresh)]
  exact ec
def rDict (X : Cx) : List V → Hp → VK → Prop := fun xs H Q => rDictT X xs H Q ∨ ∃ (a : Addr) (kvs : List (Key × V)), xs = [.ref a] ∧ Rd H a (.dK kvs) ∧ ∀ p, H p = none → Q (.ref p) (upd H p (.dK kvs))
theorem call_dict (hu : X.A.units + 8 < cLine) : CallR X (.type "dict") (rDict X) := CallR.or (call_dictT hu) call_dictD
theorem rc_dict : RCN X (rDict X) gDict := fun B env ds σ Hf H args d vs Q S r e q => by
  unfold gDict at e
  split at e
  · rename_i kvs
    cases r with
    | cons r t =>
      cases t
      obtain ⟨a, kv, rfl, h1, h2⟩ := r.dT S.sub
      split at e
      · rename_i l el
        split at e
        · rename_i hn
          cases e
          exact .inl ⟨a, kv, rfl, h1, by rw [hashes_eq h2 el]; exact nodupI_ok hn, q.dT S h2⟩
        · cases e
      · cases e
  · rename_i kvs
    cases r with
    | cons r t =>
      cases t
      obtain ⟨a, kv, rfl, h1, h2⟩ := r.dK S.sub
      cases e
      exact .inr ⟨a, kv, rfl, h1, q.dK S h2⟩
  · cases e
end
end L2.Dn
set_option Elab.async false
set_option linter.all false
set_option maxRecDepth 100000
/-! == of dicts with tuple keys (after HandS.DictEq) -/
namespace L2.Dn
open PySem PySem.Spec PyProof.Rows
section
variable {prog : Program} {w : World} {K : Type} [DecidableEq K] {knd : HeapKind prog w K} {A : Around} {E : Value → Shared → Prop} {s : Shared}
inductive HitsH {K : Type} [DecidableEq K] (prog : Program) (w : World) (A : Around) (s : Shared) (kb : List (K × Addr × Value)) : List (K × Addr × Value) → Bool → Prop
  | nil : HitsH prog w A s kb [] true
  | miss {k : K} {q : Addr} {v : Value} {r : List (K × Addr × Value)} : atKey kb k = none → HitsH prog w A s kb ((k, q, v) :: r) false
  | hit {k : K} {q : Addr} {v : Value} {y : Addr × Value} {r : List (K × Addr × Value)} {e b : Bool} : atKey kb k = some y → SeqAt.EqP prog w A s v y.2 e → HitsH prog w A s kb r b → HitsH prog w A s kb ((k, q, v) :: r) (e && b)
theorem HitsH.inv {kb : List (K × Addr × Value)} {k : K} {q : Addr} {v : Value} {r : List (K × Addr × Value)} {b : Bool} (h : HitsH prog w A s kb ((k, q, v) :: r) b) :
    (atKey kb k = none ∧ b = false) ∨ ∃ y e b', atKey kb k = some y ∧ SeqAt.EqP prog w A s v y.2 e ∧ HitsH prog w A s kb r b' ∧ b = (e && b') := by
  cases h with
  | miss hn => exact .inl ⟨hn, rfl⟩
  | hit hy he hr => exact .inr ⟨_, _, _, hy, he, hr, rfl⟩
theorem samePairsH {nm : String} {a b : Addr} {ka kb : List (K × Addr × Value)} {r : Bool} {Q : Bool → Shared → Prop} (ha : (a == sysModules) = false) (hb : (b == sysModules) = false)
    (hu : knd.room A) (da : s.heap.DictOfH knd a ka) (db : s.heap.DictOfH knd b kb) (hits : ka.length = kb.length → HitsH prog w A s kb ka r) (h : Q (ka.length == kb.length && r) s) :
    wpAny (model prog w) A (Builtin.Dict.samePairs nm a b) Q E s := by
  obtain ⟨oa, es, ep, hoa, _, hda, hea, hisa, hna⟩ := da
  obtain ⟨ob, es', ep', hob, _, hdb, heb, hisb, hnb⟩ := db
  have hla : ka.length = es.size := (size_of_entries hea).symm
  have hlb : kb.length = es'.size := (size_of_entries heb).symm
  rw [hla, hlb] at h
  unfold Builtin.Dict.samePairs Builtin.Dict.showsAll
  rw [if_neg (show ¬ (a == sysModules) = true by rw [ha]; exact Bool.false_ne_true), if_neg (show ¬ (b == sysModules) = true by rw [hb]; exact Bool.false_ne_true)]
  refine wpAny_bind (wpAny_pure (wpAny_bind (wpAny_pure ?_)))
  refine wpAny_bind (wpAny_dictEntries hoa hda ?_)
  dsimp only
  refine wpAny_bind (wpAny_dictEntries hob hdb ?_)
  by_cases hsz : es.size = es'.size
  case neg =>
    rw [if_pos (by simpa using hsz)]
    have hbf : (es.size == es'.size) = false := by simpa using hsz
    rw [hbf, Bool.false_and] at h
    exact wpAny_bind (wpAny_rule (wpAny_pure h))
  case pos =>
    have h' : Q r s := by simpa [hsz] using h
    have hits' := hits (by rw [hla, hlb]; exact hsz)
    rw [if_neg (by rw [hsz]; simp)]
    refine wpAny_bind (wpAny_dictEpoch hoa hda ?_)
    refine wpAny_bind ?_
    rw [Std.Legacy.Range.forIn_eq_forIn_range']
    simp only [Std.Legacy.Range.size, Nat.sub_zero, Nat.add_sub_cancel, Nat.div_one]
    refine wpAny_forIn_list _
      (fun rest q s' => s' = s ∧ q = (none, ()) ∧ ∃ i, rest = List.range' i (es.size - i) ∧ i ≤ es.size ∧ HitsH prog w A s kb (ka.drop i) r)
      _ ?_ ?_ _ _ ⟨rfl, rfl, 0, by simp, Nat.zero_le _, hits'⟩
    · rintro x rest q s' ⟨rfl, rfl, i, hr, hi, hpre⟩
      have hlt : i < es.size := by
        rcases Nat.lt_or_ge i es.size with h | h
        · exact h
        · rw [Nat.sub_eq_zero_of_le h] at hr; simp at hr
      obtain ⟨rfl, hrest⟩ : x = i ∧ rest = List.range' (i + 1) (es.size - (i + 1)) := by
        have e : es.size - i = (es.size - (i + 1)) + 1 := by omega
        rw [e, List.range'_succ] at hr
        injection hr with h1 h2
        exact ⟨h1, h2⟩
      refine wpAny_bind (wpAny_dictEntries hoa hda ?_)
      rw [Array.getElem?_eq_getElem hlt]
      have hlt' : x < ka.length := by rw [hla]; exact hlt
      obtain ⟨k, qa, v, hkv⟩ : ∃ k qa v, ka[x] = (k, qa, v) := ⟨_, _, _, rfl⟩
      have hdrop : ka.drop x = (k, qa, v) :: ka.drop (x + 1) := by rw [← hkv]; exact List.drop_eq_getElem_cons hlt'
      have een : es[x] = entryOfKey knd (k, qa, v) := by
        have e := entry_at hea x
        rw [Array.getElem?_eq_getElem hlt, List.getElem?_eq_getElem hlt', hkv] at e
        exact Option.some.inj e
      have hk : knd.is s'.heap k qa := by
        have := hisa (ka[x]) (List.getElem_mem hlt')
        rw [hkv] at this
        exact this
      rw [hdrop] at hpre
      show wpAny _ _ (holding [es[x].key, es[x].val] _ >>= _) _ _ _
      rw [een]
      show wpAny _ _ (holding [Value.ref qa, v] (dictFind b (.ref qa) (knd.hash k) >>= _) >>= _) _ _ _
      refine wpAny_bind (wpAny_holding (wpAny_bind (wpAny_dictFind_heap hu hk hob hdb heb hisb hnb (fun hno => ?_) (fun j p hj => ?_))))
      · have hn : atKey kb k = none := atKey_none_of_get hno
        rcases hpre.inv with ⟨_, er⟩ | ⟨y, _, _, hy, _⟩
        · rw [er] at h'
          refine wpAny_pure ?_
          show wpAny _ _ (if (!false) = true then _ else _) _ _ _
          rw [if_pos (by decide)]
          exact wpAny_pure (wpAny_pure h')
        · rw [hn] at hy; exact nomatch hy
      · have hv' : atKey kb k = some p := atKey_of_get hnb hj
        have ej := entry_at heb j
        rw [hj] at ej
        refine wpAny_bind (wpAny_dictEntries hob hdb ?_)
        rw [ej]
        rcases hpre.inv with ⟨hn, _⟩ | ⟨y, e, b', hy, he, hrr, er⟩
        · rw [hv'] at hn; exact nomatch hn
        · obtain rfl : p = y := Option.some.inj (hv'.symm.trans hy)
          show wpAny _ _ (holding [p.2] (eqBool v p.2)) _ _ _
          refine wpAny_holding (he _ _ ?_)
          cases e with
          | false =>
            rw [er, Bool.false_and] at h'
            show wpAny _ _ (if (!false) = true then _ else _) _ _ _
            rw [if_pos (by decide)]
            exact wpAny_pure (wpAny_pure h')
          | true =>
            rw [Bool.true_and] at er
            rw [← er] at hrr
            show wpAny _ _ (if (!true) = true then _ else _) _ _ _
            rw [if_neg (by decide)]
            refine wpAny_bind (wpAny_dictEpoch hoa hda ?_)
            rw [if_neg (by simp)]
            exact wpAny_pure ⟨rfl, rfl, x + 1, hrest, hlt, hrr⟩
    · rintro q s' ⟨rfl, rfl, i, hr, hi, hpre⟩
      have hin : i = es.size := by
        rcases Nat.lt_or_ge i es.size with h | h
        · have e : es.size - i = (es.size - (i + 1)) + 1 := by omega
          rw [e, List.range'_succ] at hr; exact nomatch hr
        · exact Nat.le_antisymm hi h
      refine wpAny_pure ?_
      rw [hin, ← hla, List.drop_length] at hpre
      cases hpre
      exact h'
theorem eqDH (ne : Bool) {a b : Addr} {ka kb : List (K × Addr × Value)} {r : Bool} (hr : knd.room A.in1) (ha : (a == sysModules) = false) (hb : (b == sysModules) = false)
    (da : s.heap.DictOfH knd a ka) (db : s.heap.DictOfH knd b kb) (hu : A.units < cLine) (hits : ka.length = kb.length → HitsH prog w A.in1 s kb ka r) {Q : Value → Shared → Prop} (h : Q (.bool (xor ne (ka.length == kb.length && r))) s) :
    wpAny (model prog w) A (compareOp (if ne then .NotEq else .Eq) (.ref a) (.ref b)) Q E s := by
  cases ne with
  | false =>
    refine wpAny_richCompare_same_room (op := .Eq) da.typeIs db.typeIs PySem.F.slot_dict_eq (wpAny_call_entry PySem.F.slot_dict_eq da.typeIs PySem.F.entry_dict_eq ?_ (PySem.F.args_dict_eq_2 _ _)) hu
    show wpAny _ _ (Builtin.Dict.dictSlotArgs "__eq__" ⟨[.ref a, .ref b], []⟩ >>= _) _ _ s
    refine wpAny_bind ?_
    unfold Builtin.Dict.dictSlotArgs
    refine wpAny_bind (wpAny_notOrdered_dict da.typeIs ?_)
    show wpAny _ _ (pure (Value.ref a, Value.ref b)) _ _ s
    refine wpAny_pure ?_
    refine wpAny_bind (wpAny_isInstance (T := "dict") db.typeIs PySem.F.sub_dict_dict ?_)
    simp only [Bool.not_true, Bool.false_eq_true, if_false]
    refine wpAny_bind (wpAny_pure (wpAny_bind (wpAny_pure ?_)))
    refine wpAny_bind (samePairsH ha hb hr da db hits ?_)
    refine wpAny_pure ⟨_, rfl, ?_, ?_⟩
    · exact fun x => nomatch x
    · simpa using h
  | true =>
    refine wpAny_richCompare_same_room (op := .NotEq) da.typeIs db.typeIs PySem.F.slot_dict_ne (wpAny_call_entry PySem.F.slot_dict_ne da.typeIs PySem.F.entry_dict_ne ?_ (PySem.F.args_dict_ne_2 _ _)) hu
    show wpAny _ _ (Builtin.Dict.dictSlotArgs "__ne__" ⟨[.ref a, .ref b], []⟩ >>= _) _ _ s
    refine wpAny_bind ?_
    unfold Builtin.Dict.dictSlotArgs
    refine wpAny_bind (wpAny_notOrdered_dict da.typeIs ?_)
    show wpAny _ _ (pure (Value.ref a, Value.ref b)) _ _ s
    refine wpAny_pure ?_
    refine wpAny_bind (wpAny_isInstance (T := "dict") db.typeIs PySem.F.sub_dict_dict ?_)
    simp only [Bool.not_true, Bool.false_eq_true, if_false]
    refine wpAny_bind (wpAny_pure (wpAny_bind (wpAny_pure ?_)))
    refine wpAny_bind (samePairsH ha hb hr da db hits ?_)
    refine wpAny_pure ⟨_, rfl, ?_, ?_⟩
    · exact fun x => nomatch x
    · simpa using h
end
/-! ### on data -/
def eqEnt (ls : List (List Key × D)) : List (List Key × D) → Option Bool
  | [] => some true
  | (k, .int i) :: r => (match lookT ls k with
    | none => some false
    | some (.int j) => (match eqEnt ls r with
      | some b => some ((i == j) && b)
      | none => none)
    | some _ => none)
  | _ => none
def eqDT (ks ls : List (List Key × D)) : Option Bool := match Nat.beq ks.length ls.length with
  | false => some false
  | true => eqEnt ls ks
def gEqM (ne : Bool) : D → D → Option D
  | .dT ks, .dT ls => (match eqDT ks ls with
    | some b => some (.bool (xor ne b))
    | none => none)
  | _, _ => none
theorem eqEnt_hits {prog : Program} {w : World} {A : Around} {s : Shared} {Hf Hl H H2 : Hp} {ls : List (List Key × D)} {lvs : List (List Key × V)} {lxs : List (List Key × Addr × Value)} (rl : RpT Hl lvs ls) (kl : KT H2 lvs lxs) : ∀ {ks : List (List Key × D)} {kvs : List (List Key × V)} {kxs : List (List Key × Addr × Value)} {b : Bool},
    RpT Hf kvs ks → KT H kvs kxs → eqEnt ls ks = some b → HitsH prog w A s lxs kxs b := by
  intro ks
  induction ks with
  | nil => intro kvs kxs b r k e; cases r; cases k; cases e; exact .nil
  | cons p ps ih =>
    intro kvs kxs b r k e
    obtain ⟨kk, pd⟩ := p
    cases r with
    | cons rv rt =>
      cases k with
      | @cons _ kx _ kxr kh kt =>
      obtain ⟨k1, k2, k3⟩ := kh
      obtain ⟨k9, qa, vv⟩ := kx
      obtain rfl : kk = k9 := k1
      unfold eqEnt at e
      split at e
      · rename_i e0; cases e0
      · rename_i k' i' r' e0
        obtain ⟨⟨rfl, rfl⟩, rfl⟩ : (kk = k' ∧ pd = .int i') ∧ ps = r' := by cases e0; exact ⟨⟨rfl, rfl⟩, rfl⟩
        cases rv
        obtain ⟨t, rfl⟩ := k3
        split at e
        · rename_i hl
          cases e
          refine .miss ?_
          have h1 := (rl.look (k := kk)).2 hl
          have h2 := kl.val kk
          rw [h1] at h2
          cases q : atKey lxs kk with
          | none => rfl
          | some z => rw [q] at h2; exact h2.elim
        · rename_i j hl
          split at e
          · rename_i b' eb
            cases e
            obtain ⟨v2, h1, h3⟩ := (rl.look (k := kk)).1 _ hl
            cases h3
            have h2 := kl.val kk
            rw [h1] at h2
            cases q : atKey lxs kk with
            | none => rw [q] at h2; exact h2.elim
            | some z =>
              rw [q] at h2
              obtain ⟨t2, h4⟩ := (show RelV (.int j) z.2 from h2)
              refine .hit q ?_ (ih rt kt eb)
              rw [h4]
              exact (SeqAt.EqAt.int_int _ _ _ _).eqP
          · cases e
        · cases e
      · cases e
section
variable {X : Cx}
def rEqM (X : Cx) (ne : Bool) : R2 := fun x y H Q => ∃ a b ks ls Hf k' l' r, x = .ref a ∧ y = .ref b ∧ Rd H a (.dT ks) ∧ Rd H b (.dT ls) ∧ RpT Hf ks k' ∧ RpT Hf ls l' ∧ eqDT k' l' = some r ∧ Q (.bl (xor ne r)) H
theorem op_eqM (ne : Bool) (hu : X.A.units + 8 < cLine) : OpR X (compareOp (if ne then .NotEq else .Eq)) (rEqM X ne) := by
  intro pins s σ H x y v u Q I rx ry ⟨a, b, ks, ls, Hf, k', l', r, ex, ey, ha, hb, hk, hl, er, q⟩
  subst ex ey
  obtain rfl : v = Value.ref a := rx
  obtain rfl : u = Value.ref b := ry
  obtain ⟨_, ya, xa, ra, da⟩ := dt_rd I.hok ha
  obtain ⟨_, yb, xb, rb, db⟩ := dt_rd I.hok hb
  have e1 : xa.length = k'.length := (Paired.length ra).symm.trans hk.length
  have e2 : xb.length = l'.length := (Paired.length rb).symm.trans hl.length
  unfold eqDT at er
  cases hq : Nat.beq k'.length l'.length with
  | false =>
    rw [hq] at er
    cases er
    have hne : xa.length ≠ xb.length := fun z => by
      rw [e1, e2] at z
      rw [z, Nat.beq_refl] at hq
      cases hq
    refine eqDH (knd := tupleKind (mixKind X.prog X.w)) (r := false) ne (show X.A.in1.units < cLine by show X.A.units + 1 < cLine; omega) ya yb da db (by omega) (fun z => absurd z hne) ⟨.bl _, H, I.tok _, rfl, ?_⟩
    have : (xa.length == xb.length && false) = false := by simp
    rw [this]
    exact q
  | true =>
    rw [hq] at er
    have heq : xa.length = xb.length := by rw [e1, e2]; exact Nat.eq_of_beq_eq_true hq
    refine eqDH (knd := tupleKind (mixKind X.prog X.w)) (r := r) ne (show X.A.in1.units < cLine by show X.A.units + 1 < cLine; omega) ya yb da db (by omega) (fun _ => eqEnt_hits hl rb hk ra er) ⟨.bl _, H, I.tok _, rfl, ?_⟩
    have : (xa.length == xb.length && r) = r := by rw [heq]; simp
    rw [this]
    exact q
theorem op_eqT (hu : X.A.units + 8 < cLine) : OpR X (compareOp .Eq) (rEqM X false) := op_eqM false hu
theorem op_neT (hu : X.A.units + 8 < cLine) : OpR X (compareOp .NotEq) (rEqM X true) := op_eqM true hu
theorem r2_eqM (ne : Bool) : R2F X (rEqM X ne) (gEqM ne) := fun B env ds σ Hf H d1 d2 d x y Q S r1 r2 e q => by
  unfold gEqM at e
  split at e
  · rename_i ks ls
    split at e
    · rename_i b eb
      cases e
      obtain ⟨a, kv, rfl, h1, h2⟩ := r1.dT S.sub
      obtain ⟨c, lv, rfl, h3, h4⟩ := r2.dT S.sub
      exact ⟨a, c, kv, lv, Hf, ks, ls, b, rfl, rfl, h1, h3, h2, h4, eb, q.now S (.bl _)⟩
    · cases e
  · cases e
end
end L2.Dn
set_option Elab.async false
set_option linter.all false
set_option maxRecDepth 100000
/-! dict displays: one pair, the key a tuple; pairs with ints or texts as keys -/
namespace L2.Dn
open PySem PySem.Spec PyProof.Rows
section
variable {X : Cx} {pos : Pos} {k v : Expr} {tk tv : TE}
def tDisp1T (tk tv : TE) : TE := fun σ H Q => ∀ p, H p = none → tk σ (upd H p (.dT [])) fun x H1 => tv σ H1 fun y H2 => ∃ (ks : List Key) (b : Addr), x = .ref b ∧ H2 b = some (.tup (ks.map kV)) ∧ H2 p = some (.dT []) ∧ Q (.ref p) (upd H2 p (.dT [(ks, y)]))
theorem pe_disp1T (hu : X.A.units + 8 < cLine) (hk : PE X k tk) (hv : PE X v tv) : PE X (.Dict [some k] [v] pos) (tDisp1T tk tv) := by
  refine ⟨fun pins s σ H Q I q => ?_⟩
  have hn := I.hok.fresh (Nat.le_refl s.heap.objs.size)
  have I1 := I.laid (a := s.heap.objs.size) (o := .dT []) (h' := s.heap.push { cls := .type "dict", data := .dict #[] }) (t' := s.toks) (fun _ _ q => Heap.get?_push_of_some _ q) (Nat.le_refl _) (dt_empty s.heap I.big)
  rw [arm_eval_Dict, zip_pairTrees [some k] [v] X.env pos rfl rfl, dictDisplay_pairs (pairTrees [some k] [v] X.env pos) (by simp [pairTrees]) (by simp [pairTrees])]
  refine wpAny_bind (wpAny_standAt (wpAny_bind (wpAny_subDictH (knd := tupleKind (mixKind X.prog X.w)) (show X.A.units < cLine by omega) (by simp [pairTrees]) ?_)))
  refine pairTrees_cons_walk (thn (hk.run pins _ σ _ _ I1 (q _ hn)) fun u s1 ⟨x, H1, I2, rx, q1⟩ => thn (hv.run pins s1 σ H1 _ I2 q1) fun u2 s2 ⟨y, H2, I3, ry, ks, b, ex, hb, hp, q2⟩ => pairTrees_nil_walk ?_)
  subst ex
  cases (show u = Value.ref b from rx)
  obtain ⟨z, hd, vs0, r0, dd⟩ := dt_of I3.hok hp
  cases r0
  refine ⟨[(ks, b, u2)], ⟨rfl, rfl, key_of I3.hok hb, True.intro⟩, dd, fun h' tk' dd' hs => wpAny_pure ⟨.ref s.heap.objs.size, _, ?_, rfl, q2⟩⟩
  have e1 : storedAllH ([] : List (List Key × Addr × Value)) [(ks, b, u2)] = [(ks, b, u2)] := by simp [storedAllH, storedH, atKey]
  rw [e1] at dd'
  obtain ⟨ob, es, ep, hq, h2, h3, h4, _, h5⟩ := dd'
  refine d_write I3 (by rw [hp]; exact True.intro) hs ⟨ob, hq⟩ ⟨by show 1 ≤ sizeLine; decide, hd, [(ks, b, u2)], .cons ⟨rfl, ?_, ry⟩ .nil, ob, es, ep, hq, h2, h3, h4, h5⟩
  show (upd H2 _ _) b = _
  rw [upd_ne (ne_of hb hp (fun z => nomatch z))]
  exact hb
def dDisp1 (fk fv : Den) : Den := fun env ds => bnd (fk env ds) fun k s => bnd (fv env s) fun v s1 => match keyOf? k with
  | some ks => some (.dT [(ks, v)], s1)
  | none => none
theorem evn_disp1 {fk fv : Den} (hu : X.A.units + 8 < cLine) (hk : EvF X k fk) (hv : EvF X v fv) : EvN X (.Dict [some k] [v] pos) (dDisp1 fk fv) := fun B env ds σ Hf H d ds' S hf Q q => by
  obtain ⟨a, s1, e1, hf⟩ := bnd_eq hf
  obtain ⟨b, s2, e2, hf⟩ := bnd_eq hf
  split at hf
  · rename_i ks ek
    cases hf
    refine SE.of (pe_disp1T hu (pe_se X k) (pe_se X v)) fun p np => ?_
    have nf := sub_none S np
    have F := S.fre np
    refine hk B env ds σ Hf (upd H p (.dT [])) _ _ (S.hp nf F) e1 _ fun x Hf1 H1 g1 S1 r1 => hv B env s1 σ Hf1 H1 _ _ S1 e2 _ fun y Hf2 H2 g2 S2 r2 => ?_
    obtain ⟨b2, rfl, hb⟩ := keyOf_rd (B := B) (H := H1) (.fz r1) ek
    have gg := g1.trans g2
    have hp2 : H2 p = some (.dT []) := gg.at upd_same F.nd
    have nf2 : Hf2 p = none := gg.noF nf (by rw [upd_same]; simp) (by intro xs z; rw [upd_same] at z; cases z)
    refine ⟨ks, b2, rfl, S2.sub _ _ (g2.ff _ _ hb), hp2, q p Hf2 _ ?_ (S2.hp nf2 F) np nf2 (.dT upd_same (.cons r2 .nil))⟩
    exact ((Gr.refl.hp np).trans gg).hp np
  · cases hf
end
/-! ints or texts -/
def dPairs : List (Den × Den) → En → DS → Option (List (Key × D) × DS)
  | [], _, s => some ([], s)
  | (fk, fv) :: r, env, s => bnd (fk env s) fun k s1 => bnd (fv env s1) fun v s2 => bnd (dPairs r env s2) fun l s3 => match key1? k with
    | some kk => some ((kk, v) :: l, s3)
    | none => none
def mergeD (kvs more : List (Key × D)) : List (Key × D) := match more with
  | [] => kvs
  | p :: r => mergeD (putKD kvs p.1 p.2) r
def dDispK (ps : List (Den × Den)) : Den := fun env ds => bnd (dPairs ps env ds) fun l s => some (.dK (mergeD [] l), s)
theorem merge_rp {Hf : Hp} : ∀ {l : List (Key × D)} {lv : List (Key × V)} {acc : List (Key × D)} {av : List (Key × V)}, RpK Hf lv l → RpK Hf av acc → RpK Hf (mergeK av lv) (mergeD acc l) := by
  intro l
  induction l with
  | nil => intro lv acc av r a; cases r; exact a
  | cons p ps ih =>
    obtain ⟨pk, pd⟩ := p
    intro lv acc av r a
    cases r with
    | cons r t =>
      have z := ih t (a.put (k := pk) r)
      exact z
/-- pairs of a display: the readings -/
inductive EvPs (X : Cx) : List (Option Expr) → List Expr → List (Den × Den) → Prop
  | nil : EvPs X [] [] []
  | cons {k v : Expr} {ks : List (Option Expr)} {vs : List Expr} {fk fv : Den} {ps : List (Den × Den)} : EvF X k fk → EvF X v fv → EvPs X ks vs ps → EvPs X (some k :: ks) (v :: vs) ((fk, fv) :: ps)
def trsOf (X : Cx) : List (Option Expr) → List Expr → List (TE × TE)
  | some k :: ks, v :: vs => (SE X k, SE X v) :: trsOf X ks vs
  | _, _ => []
theorem EvPs.pps {X : Cx} {pos : Pos} {ks : List (Option Expr)} {vs : List Expr} {ps : List (Den × Den)} (h : EvPs X ks vs ps) : PPs X pos ks vs (trsOf X ks vs) := by
  induction h with
  | nil => exact pps_nil
  | cons _ _ _ ih => exact pps_cons (pe_se X _) (pe_se X _) ih
theorem EvPs.len {X : Cx} {ks : List (Option Expr)} {vs : List Expr} {ps : List (Den × Den)} (h : EvPs X ks vs ps) : ks.length = vs.length ∧ ks.length = ps.length ∧ ks.all (·.isSome) = true := by
  induction h with
  | nil => exact ⟨rfl, rfl, rfl⟩
  | cons _ _ _ ih => exact ⟨by simp [ih.1], by simp [ih.2.1], by simpa using ih.2.2⟩
theorem dPairs_len : ∀ {ps : List (Den × Den)} {env : En} {s s' : DS} {l : List (Key × D)}, dPairs ps env s = some (l, s') → l.length = ps.length
  | [], _, _, _, _, h => by cases h; rfl
  | (fk, fv) :: r, env, s, s', l, h => by
    obtain ⟨a, s1, e1, h⟩ := bnd_eq h
    obtain ⟨b, s2, e2, h⟩ := bnd_eq h
    obtain ⟨c, s3, e3, h⟩ := bnd_eq h
    split at h
    · cases h
      rw [List.length_cons, List.length_cons, dPairs_len e3]
    · cases h
theorem evPs_run {X : Cx} {ks : List (Option Expr)} {vs : List Expr} {ps : List (Den × Den)} (h : EvPs X ks vs ps) : ∀ {B : Bs} {env : En} {ds ds' : DS} {σ : St} {Hf H : Hp} {l : List (Key × D)}, SR B X.K env ds σ Hf H → dPairs ps env ds = some (l, ds') → ∀ Q : List (V × V) → Hp → Prop,
    (∀ lv Hf' H', Gr B Hf H Hf' H' → SR B X.K env ds' σ Hf' H' → RpK Hf' lv l → Q (lv.map fun kv => (kV kv.1, kv.2)) H') → tPairs (trsOf X ks vs) σ H Q := by
  induction h with
  | nil => intro B env ds ds' σ Hf H l S e Q q; cases e; exact q [] _ _ Gr.refl S .nil
  | cons hk hv _ ih =>
    intro B env ds ds' σ Hf H l S e Q q
    obtain ⟨a, s1, e1, e⟩ := bnd_eq e
    obtain ⟨b, s2, e2, e⟩ := bnd_eq e
    obtain ⟨c, s3, e3, e⟩ := bnd_eq e
    split at e
    · rename_i kk ek
      cases e
      refine hk B env ds σ Hf H _ _ S e1 _ fun x Hf1 H1 g1 S1 r1 => hv B env s1 σ Hf1 H1 _ _ S1 e2 _ fun y Hf2 H2 g2 S2 r2 => ?_
      refine ih S2 e3 _ fun lv Hf3 H3 g3 S3 r3 => ?_
      cases key1_rp r1 ek
      exact q ((kk, y) :: lv) _ _ ((g1.trans g2).trans g3) S3 (.cons (r2.up g3.ff) r3)
    · cases e
section
variable {X : Cx} {pos : Pos}
theorem evn_dispK {ks : List (Option Expr)} {vs : List Expr} {ps : List (Den × Den)} (h : EvPs X ks vs ps) (h0 : ks ≠ []) (h15 : ks.length ≤ 15) : EvN X (.Dict ks vs pos) (dDispK ps) := fun B env ds σ Hf H d ds' S hf Q q => by
  obtain ⟨l, s1, e1, e2⟩ := bnd_eq hf
  cases e2
  obtain ⟨l1, l2, l3⟩ := h.len
  refine SE.of (pe_disp h.pps l3 l1 h0 h15) fun p np => ?_
  have nf := sub_none S np
  have F := S.fre np
  refine evPs_run h (S.hp nf F) e1 _ fun lv Hf1 H1 g1 S1 r1 => ?_
  have hp2 : H1 p = some (.dK []) := g1.at upd_same F.nd
  have nf2 : Hf1 p = none := g1.noF nf (by rw [upd_same]; simp) (by intro xs z; rw [upd_same] at z; cases z)
  refine ⟨hp2, lv, rfl, ?_, q p Hf1 _ (((Gr.refl.hp np).trans g1).hp np) (S1.hp nf2 F) np nf2 (.dK upd_same (merge_rp r1 .nil))⟩
  have := dPairs_len e1
  have e3 := r1.length
  omega
end
end L2.Dn
set_option Elab.async false
set_option linter.all false
set_option maxRecDepth 100000
/-! max(d, key=f) over the keys of a dict with tuple keys, f a def of the text that gives tuples of ints (after KE.DataMinKey) -/
namespace L2.Dn
open PySem PySem.Spec PyProof.Rows C8
section
variable {prog : Program} {w : World} {A : Around} {R : Result → Shared → Prop} {E : Value → Shared → Prop} {I S q : Addr} {fp wr : List Addr} {G : Array GenState → Array GenState → Prop} {n : Nat} {P : Nat → Value → Prop} {St : Nat → Shared → Prop} {bt : Nat → Nat → Bool}
abbrev lstO (xs : Array Value) (c : Nat) : Obj := { cls := .type "list", dict := none, data := .seq xs c, slots := #[] }
/-- what the keys' def does: T0 holds at the start, T b kb with kb the key of the best one, T2 i k b kb with the i-th's key k beside -/
structure KeyT (prog : Program) (w : World) (A : Around) (q S : Addr) (wr : List Addr) (G : Array GenState → Array GenState → Prop) (n : Nat) (P : Nat → Value → Prop) (St : Nat → Shared → Prop) (bt : Nat → Nat → Bool)
    (T0 : Shared → Prop) (T : Nat → Value → Shared → Prop) (T2 : Nat → Value → Nat → Value → Shared → Prop) : Prop where
  k0 : ∀ s s', T0 s → Moved (S :: wr) G s s' → T0 s'
  k1 : ∀ b kb s s', T b kb s → Moved (S :: wr) G s s' → T b kb s'
  t0 : ∀ v (s : Shared) (xs : Array Value) (c : Nat) (Q : Value → Shared → Prop) (E : Value → Shared → Prop), 0 < n → P 0 v → T0 s → St 1 s → s.heap.get? S = some (lstO xs c) →
    (∀ k s', T 0 k s' → St 1 s' → s'.heap.get? S = some (lstO xs c) → Q k s') → wpAny (model prog w) A (call (.ref q) [v]) Q E s
  t1 : ∀ i b kb v (s : Shared) (xs : Array Value) (c : Nat) (Q : Value → Shared → Prop) (E : Value → Shared → Prop), i < n → P i v → T b kb s → St (i + 1) s → s.heap.get? S = some (lstO xs c) →
    (∀ k s', T2 i k b kb s' → St (i + 1) s' → s'.heap.get? S = some (lstO xs c) → Q k s') → wpAny (model prog w) A (call (.ref q) [v]) Q E s
  cmp : ∀ i k b kb (s : Shared) (Q : Value → Shared → Prop) (E : Value → Shared → Prop), T2 i k b kb s → Q (.bool (bt i b)) s → wpAny (model prog w) A (richCompare .Gt k kb) Q E s
  l : ∀ i k b kb s, T2 i k b kb s → T i k s
  r : ∀ i k b kb s, T2 i k b kb s → T b kb s
variable {T0 : Shared → Prop} {T : Nat → Value → Shared → Prop} {T2 : Nat → Value → Nat → Value → Shared → Prop}
theorem maxT_loop (W : WalksS prog w A.in1 I fp wr G n P St) (hSf : S ∉ fp) (Y : KeyT prog w A.in1 q S wr G n P St bt T0 T T2) (kw : List (Str × Value)) :
    ∀ (k j : Nat) (s : Shared) (vb kb : Value) (c : Nat), n - (j + 1) = k → j + 1 ≤ n → St (j + 1) s → P (argBest bt j) vb → T (argBest bt j) kb s →
    s.heap.get? S = some (lstO #[vb, kb] c) →
    (∀ v b kb s', P (argBest bt (n - 1)) v → T b kb s' → R (.ok (.ret v)) s') → codeAny (model prog w) A (.builtin "max.loop" ⟨[.ref I, (.ref q), .ref S], kw⟩) R s := by
  have hSw : S ∉ wr := fun h => hSf (W.sub _ h)
  have hsub : ∀ b ∈ wr, b ∈ S :: wr := fun b hb => List.mem_cons_of_mem _ hb
  have hname : (toString "max" ++ toString ".loop" : String) = "max.loop" := by decide
  have notS : ∀ {b : Addr}, b ∉ S :: wr → S ≠ b := fun hb h => hb (by rw [h]; exact List.mem_cons_self)
  intro k
  induction k with
  | zero =>
    intro j s vb kb c hk hj hst hPb hT hS hR
    have hin : j + 1 = n := by omega
    refine codeAny_builtin F.entry_max_loop ?_
    rw [Around.under_plainId F.plain_max_loop _]
    show wpAny _ A.in1 (seqItems? (.ref S) >>= _) _ _ s
    refine wpAny_bind (wpAny_seqItems hS rfl ?_)
    show wpAny _ A.in1 (tryCatch (pyNext (.ref I)) _ >>= _) _ _ s
    refine wpAny_bind (wpAny_tryCatch (W.done s _ _ (hin ▸ hst) fun s' hm => ?_))
    have hS' := hm.heap S _ hSw hS
    show wpAny _ A.in1 (updateSeq S (fun _ => #[]) >>= _) _ _ _
    refine wpAny_bind ?_
    refine wpAny_updateSeq hS' rfl (wpAny_bind (wpAny_letGo (wpAny_pure ?_)))
    exact hR vb _ kb _ (by rw [← hin]; exact hPb) (Y.k1 _ _ _ _ hT ((hm.mono hsub).then_heap (tk := s'.toks) (Nat.le_refl _) fun b o hb e => (Heap.get?_update_other _ _ (notS hb)).trans e))
  | succ k ih =>
    intro j s vb kb c hk hj hst hPb hT hS hR
    have hlt : j + 1 < n := by omega
    refine codeAny_builtin F.entry_max_loop ?_
    rw [Around.under_plainId F.plain_max_loop _]
    show wpAny _ A.in1 (seqItems? (.ref S) >>= _) _ _ s
    refine wpAny_bind (wpAny_seqItems hS rfl ?_)
    show wpAny _ A.in1 (tryCatch (pyNext (.ref I)) _ >>= _) _ _ s
    refine wpAny_bind (wpAny_tryCatch (W.item (j + 1) s _ _ hlt hst fun v s' hP hst' hm => ?_))
    have hS' := hm.heap S _ hSw hS
    have hT' := Y.k1 _ _ _ _ hT (hm.mono hsub)
    show wpAny _ A.in1 (tryCatch (holding [v] (call (.ref q) [v])) _ >>= _) _ _ _
    refine wpAny_bind (wpAny_tryCatch (wpAny_holding (Y.t1 (j + 1) _ _ v s' _ _ _ _ hlt hP hT' hst' hS' fun kx s'' hT2 hst2 hS2 => ?_)))
    show wpAny _ A.in1 (tryCatch (holding [v, kx] (richCompare .Gt kx kb >>= _)) _ >>= _) _ _ _
    refine wpAny_bind (wpAny_tryCatch (wpAny_holding (wpAny_bind (Y.cmp (j + 1) kx (argBest bt j) kb s'' _ _ hT2 ?_))))
    refine wpAny_bind (wpAny_holding (wpAny_truthy_bool ?_))
    refine wpAny_bind (wpAny_letGo (wpAny_pure ?_))
    cases hb : bt (j + 1) (argBest bt j) with
    | true =>
      simp only [if_true]
      refine wpAny_bind ?_
      refine wpAny_updateSeq hS2 rfl (wpAny_bind (wpAny_letGo ?_))
      rw [hname]
      have hm2 : Moved (S :: wr) G s'' { s'' with heap := s''.heap.update S (Obj.mapSeq fun _ => #[v, kx]), toks := s''.toks } := (Moved.refl W.grefl).then_heap (tk := s''.toks) (Nat.le_refl _) fun b o hb e => (Heap.get?_update_other _ _ (notS hb)).trans e
      refine wpAny_pure ⟨plainId_quiet F.plain_max_loop _, ih (j + 1) _ v kx _ (by omega) hlt (W.frame _ s'' _ s''.toks hst2 (Nat.le_refl _) fun b hbf o e => ?_) (by simp only [argBest, hb, if_true]; exact hP) (by simp only [argBest, hb, if_true]; exact Y.k1 _ _ _ _ (Y.l _ _ _ _ _ hT2) hm2) (Heap.get?_update_self _ hS2 rfl) hR⟩
      exact (Heap.get?_update_other _ _ (fun h : S = b => hSf (by rw [h]; exact hbf))).trans e
    | false =>
      simp only [Bool.false_eq_true, if_false]
      refine wpAny_bind (wpAny_letGo ?_)
      rw [hname]
      exact wpAny_pure ⟨plainId_quiet F.plain_max_loop _, ih (j + 1) _ vb kb c (by omega) hlt hst2 (by simp only [argBest, hb, Bool.false_eq_true, if_false]; exact hPb) (by simp only [argBest, hb, Bool.false_eq_true, if_false]; exact Y.r _ _ _ _ _ hT2) hS2 hR⟩
theorem maxT_first (W : WalksS prog w A.in1 I fp wr G n P St) (hSf : S ∉ fp) (Y : KeyT prog w A.in1 q S wr G n P St bt T0 T T2) (kw : List (Str × Value)) (hn : 0 < n) {s : Shared} {c : Nat} (h0 : T0 s) (hst : St 0 s)
    (hS : s.heap.get? S = some (lstO #[] c)) (hR : ∀ v b kb s', P (argBest bt (n - 1)) v → T b kb s' → R (.ok (.ret v)) s') : codeAny (model prog w) A (.builtin "max.loop" ⟨[.ref I, (.ref q), .ref S], kw⟩) R s := by
  have hSw : S ∉ wr := fun h => hSf (W.sub _ h)
  have hsub : ∀ b ∈ wr, b ∈ S :: wr := fun b hb => List.mem_cons_of_mem _ hb
  have hname : (toString "max" ++ toString ".loop" : String) = "max.loop" := by decide
  have notS : ∀ {b : Addr}, b ∉ S :: wr → S ≠ b := fun hb h => hb (by rw [h]; exact List.mem_cons_self)
  refine codeAny_builtin F.entry_max_loop ?_
  rw [Around.under_plainId F.plain_max_loop _]
  show wpAny _ A.in1 (seqItems? (.ref S) >>= _) _ _ s
  refine wpAny_bind (wpAny_seqItems hS rfl ?_)
  show wpAny _ A.in1 (tryCatch (pyNext (.ref I)) _ >>= _) _ _ s
  refine wpAny_bind (wpAny_tryCatch (W.item 0 s _ _ hn hst fun v s' hP hst' hm => ?_))
  have hS' := hm.heap S _ hSw hS
  have h0' := Y.k0 _ _ h0 (hm.mono hsub)
  show wpAny _ A.in1 (tryCatch (holding [v] (call (.ref q) [v])) _ >>= _) _ _ _
  refine wpAny_bind (wpAny_tryCatch (wpAny_holding (Y.t0 v s' _ _ _ _ hn hP h0' hst' hS' fun kx s'' hT hst2 hS2 => ?_)))
  show wpAny _ A.in1 (updateSeq S (fun _ => #[v, kx]) >>= _) _ _ _
  refine wpAny_bind ?_
  refine wpAny_updateSeq hS2 rfl ?_
  rw [hname]
  have hm2 : Moved (S :: wr) G s'' { s'' with heap := s''.heap.update S (Obj.mapSeq fun _ => #[v, kx]), toks := s''.toks } := (Moved.refl W.grefl).then_heap (tk := s''.toks) (Nat.le_refl _) fun b o hb e => (Heap.get?_update_other _ _ (notS hb)).trans e
  refine wpAny_pure ⟨plainId_quiet F.plain_max_loop _, maxT_loop W hSf Y kw _ 0 _ v kx _ rfl hn (W.frame _ s'' _ s''.toks hst2 (Nat.le_refl _) fun b hbf o e => ?_) hP (Y.k1 _ _ _ _ hT hm2) (Heap.get?_update_self _ hS2 rfl) hR⟩
  exact (Heap.get?_update_other _ _ (fun h : S = b => hSf (by rw [h]; exact hbf))).trans e
theorem call_maxT {x : Value} {s : Shared} {Q : Value → Shared → Prop}
    (h : wpAny (model prog w) A.in1 (pyIter x) (fun it s₂ => ∃ I fp wr G n P St bt T0 T T2, it = .ref I ∧ WalksS prog w A.in1 I fp wr G n P St ∧ St 0 s₂ ∧ (∀ b ∈ fp, b < s₂.heap.objs.size) ∧ 0 < n ∧ (∀ a, G a a) ∧
      KeyT prog w A.in1 q s₂.heap.objs.size wr G n P St bt T0 T T2 ∧ T0 s₂ ∧ ∀ v b kb s', P (argBest bt (n - 1)) v → T b kb s' → Q v s') E s) :
    wpAny (model prog w) A (call (.builtin "max") [x] [(Str.ofString "key", .ref q)]) Q E s := by
  have hname : (toString "max" ++ toString ".loop" : String) = "max.loop" := by decide
  refine PyProof.Rows.kmk_tree F.kind_max F.plain_max F.entry_max (PyProof.Rows.kmk_max_key _ _) ?_
  show wpAny _ A.in1 (Builtin.Builtins.bindParams "max" ["key", "default"] 0 ⟨[], [(Str.ofString "key", .ref q)]⟩ >>= _) _ _ s
  refine wpAny_bind (wpAny_of_eq (show Builtin.Builtins.bindParams "max" ["key", "default"] 0 ⟨[], [(Str.ofString "key", .ref q)]⟩ = pure [some (.ref q), none] from rfl) ?_)
  refine wpAny_bind (wpAny_pure ?_)
  refine wpAny_bind (wpAny_mono h (fun it s₂ h₂ => ?_) fun _ _ e => e)
  obtain ⟨I, fp, wr, G, n, P, St, bt, T0, T, T2, rfl, W, hst, hfp, hn, hg, Y, h0, hQ⟩ := h₂
  refine wpAny_bind (wpAny_newObj_type ?_)
  have hSf : s₂.heap.objs.size ∉ fp := fun hm => Nat.lt_irrefl _ (hfp _ hm)
  rw [hname]
  have hm0 : Moved (s₂.heap.objs.size :: wr) G s₂ { s₂ with heap := s₂.heap.push { cls := .type "list", data := .seq #[] 0 }, toks := s₂.toks } := (Moved.refl W.grefl).then_heap (tk := s₂.toks) (Nat.le_refl _) fun b o _ e => Heap.get?_push_of_some _ e
  have hst' := W.frame 0 s₂ (s₂.heap.push { cls := .type "list", data := .seq #[] 0 }) s₂.toks hst (Nat.le_refl _) fun b _ o e => Heap.get?_push_of_some _ e
  exact wpAny_pure ⟨plainId_quiet F.plain_max_loop _, maxT_first W hSf Y _ hn (Y.k0 _ _ h0 hm0) hst' (Heap.get?_push_size _ rfl) hQ⟩
end
/-! ### a def called from within a built-in -/
theorem run_in {X : Cx} {k : Nat} {f : Addr} {fd : FuncData} {ps : List Str} {sp : Sp} {A' : Around} {pins : List (Addr × Obj)} {σ : St} {H : Hp} {s : Shared} {Q : VK} {us : List Value} {vs : List V} {E' : Value → Shared → Prop} (F : FnOk X.prog X.w X.K X.mg X.base CX0 k f fd ps sp) (hr : Room k A')
    (e0 : Env0 X.prog X.w X.K X.mg X.base A' X.stack s H) (hb : Binds X.K fd ps []) (I : Inv X pins σ H s) (r : Vals vs us) (h : sp vs H Q E0) : wpAny (model X.prog X.w) A' (call (.ref f) us) (EP X pins σ Q) E' s := by
  have hl : (us ++ []).length = ps.length := by rw [List.append_nil, ← r.length]; exact F.len _ _ _ _ h
  have hb' := hb s us I.kIn hl
  rw [List.append_nil] at hb'
  refine wpAny_call (codeAny_mono (F.run A' X.stack s H ⟨us, []⟩ us vs Q E0 hr e0 hb' r h) fun r s' hq => ?_)
  cases r with
  | error e => exact hq.elim
  | ok fl =>
    cases fl with
    | ret u => exact I.after hq
    | next => exact False.elim hq
    | brk => exact False.elim hq
    | cont => exact False.elim hq
/-! ### on data -/
def gtI : List Int → List Int → Bool
  | [], _ => false
  | _ :: _, [] => true
  | x :: xs, y :: ys => (match decide (x = y) with
    | true => gtI xs ys
    | false => decide (y < x))
theorem gtI_lex : ∀ (ns ms : List Int) (i : Nat), Ob.lexAt (fun j => decide (ns.getD (j - i) 0 = ms.getD (j - i) 0)) (fun j => decide (ms.getD (j - i) 0 < ns.getD (j - i) 0)) (decide (ns.length > ms.length)) i (min ns.length ms.length) = gtI ns ms
  | [], ms, i => by
    simp [gtI, Ob.lexAt]
  | x :: xs, [], i => by
    simp [gtI, Ob.lexAt]
  | x :: xs, y :: ys, i => by
    have e : min (x :: xs).length (y :: ys).length = min xs.length ys.length + 1 := by simp [Nat.succ_min_succ]
    rw [e, Ob.lexAt_succ]
    have ih := gtI_lex xs ys (i + 1)
    have c : ∀ (f g f' g' : Nat → Bool) (z : Bool) (k i : Nat), (∀ j, i ≤ j → f j = f' j) → (∀ j, i ≤ j → g j = g' j) → Ob.lexAt f g z i k = Ob.lexAt f' g' z i k := by
      intro f g f' g' z k
      induction k with
      | zero => intro i _ _; rfl
      | succ k ih =>
        intro i h1 h2
        rw [Ob.lexAt_succ, Ob.lexAt_succ, h1 i (Nat.le_refl _), h2 i (Nat.le_refl _), ih (i + 1) (fun j hj => h1 j (by omega)) fun j hj => h2 j (by omega)]
    simp only [Nat.sub_self, List.getD_cons_zero, decide_eq_true_eq]
    unfold gtI
    by_cases q : x = y
    · rw [if_pos q, decide_eq_true q]
      simp only []
      rw [← ih]
      have z : decide ((x :: xs).length > (y :: ys).length) = decide (xs.length > ys.length) := by simp
      rw [z]
      refine c _ _ _ _ _ _ _ (fun j hj => ?_) fun j hj => ?_
      · have : j - i = (j - (i + 1)) + 1 := by omega
        rw [this, List.getD_cons_succ, List.getD_cons_succ]
      · have : j - i = (j - (i + 1)) + 1 := by omega
        rw [this, List.getD_cons_succ, List.getD_cons_succ]
    · rw [if_neg q, decide_eq_false q]
def tupI? : D → Option (List Int)
  | .tuple ds => ints? ds
  | _ => none
def rowsK (f : List D → Option D) : List (List Key × D) → Option (List (List Key × List Int))
  | [] => some []
  | (k, _) :: r => (match f [keyT k] with
    | some d => (match tupI? d with
      | some ns => (match rowsK f r with
        | some l => some ((k, ns) :: l)
        | none => none)
      | none => none)
    | none => none)
def maxL (k : List Key) (r : List Int) : List (List Key × List Int) → List Key
  | [] => k
  | (k', r') :: l => (match gtI r' r with
    | true => maxL k' r' l
    | false => maxL k r l)
theorem rowsK_at {f : List D → Option D} : ∀ {ds : List (List Key × D)} {l : List (List Key × List Int)} {i : Nat} {k : List Key} {d : D}, rowsK f ds = some l → ds[i]? = some (k, d) → ∃ ns, f [keyT k] = some (.tuple (ns.map D.int)) ∧ l[i]? = some (k, ns)
  | [], _, _, _, _, h, e => by cases e
  | (k0, d0) :: r, l, i, k, d, h, e => by
    unfold rowsK at h
    split at h
    · rename_i x e1
      split at h
      · rename_i ns e2
        split at h
        · rename_i l' e3
          cases h
          cases i with
          | zero =>
            cases e
            refine ⟨ns, ?_, rfl⟩
            rw [e1]
            unfold tupI? at e2
            split at e2
            · rw [ints_eq e2]
            · cases e2
          | succ i => exact rowsK_at (i := i) e3 (by simpa using e)
        · cases h
      · cases h
    · cases h
theorem rowsK_len {f : List D → Option D} : ∀ {ds : List (List Key × D)} {l : List (List Key × List Int)}, rowsK f ds = some l → l.length = ds.length
  | [], _, h => by cases h; rfl
  | (k0, d0) :: r, l, h => by
    unfold rowsK at h
    split at h
    · split at h
      · split at h
        · rename_i l' e3
          cases h
          rw [List.length_cons, List.length_cons, rowsK_len e3]
        · cases h
      · cases h
    · cases h
def btL (l : List (List Key × List Int)) (i j : Nat) : Bool := gtI (l.getD i ([], [])).2 (l.getD j ([], [])).2
theorem maxL_arg (l : List (List Key × List Int)) : ∀ (k j : Nat), l.length - (j + 1) = k → j + 1 ≤ l.length → maxL (l.getD (argBest (btL l) j) ([], [])).1 (l.getD (argBest (btL l) j) ([], [])).2 (l.drop (j + 1)) = (l.getD (argBest (btL l) (l.length - 1)) ([], [])).1 := by
  intro k
  induction k with
  | zero =>
    intro j h1 h2
    have : j + 1 = l.length := by omega
    rw [this, List.drop_length]
    have : l.length - 1 = j := by omega
    rw [this]
    rfl
  | succ k ih =>
    intro j h1 h2
    have hlt : j + 1 < l.length := by omega
    rw [List.drop_eq_getElem_cons hlt]
    have e : l.getD (j + 1) ([], []) = l[j + 1] := by rw [List.getD_eq_getElem?_getD, List.getElem?_eq_getElem hlt]; rfl
    have ih' := ih (j + 1) (by omega) (by omega)
    show (match gtI (l[j + 1]).2 _ with | true => _ | false => _) = _
    have eb : gtI (l[j + 1]).2 (l.getD (argBest (btL l) j) ([], [])).2 = btL l (j + 1) (argBest (btL l) j) := by unfold btL; rw [e]
    rw [eb]
    cases hb : btL l (j + 1) (argBest (btL l) j) with
    | true =>
      simp only [argBest, hb, if_true] at ih'
      rw [e] at ih'
      exact ih'
    | false =>
      simp only [argBest, hb, Bool.false_eq_true, if_false] at ih'
      exact ih'
end L2.Dn
set_option Elab.async false
set_option linter.all false
set_option maxRecDepth 100000
namespace L2.Dn
open PySem PySem.Spec PyProof.Rows C8
/-- a state in which the call of the key's def may happen -/
structure Js (X : Cx) (pins : List (Addr × Obj)) (σ : St) (S it : Addr) (B : Bs) (env : En) (ds : DS) (σ' : St) (Hf H : Hp) (Hf' H' : Hp) (s : Shared) : Prop where
  I : Inv X pins σ H' s
  fS : FpOk X pins H' S
  fI : FpOk X pins H' it
  g : Gr B Hf H Hf' H'
  S : SR B X.K env ds σ' Hf' H'
theorem Js.moved {X : Cx} {pins : List (Addr × Obj)} {σ : St} {S it : Addr} {B : Bs} {env : En} {ds : DS} {σ' : St} {Hf H Hf' H' : Hp} {s s' : Shared} (j : Js X pins σ S it B env ds σ' Hf H Hf' H' s) (m : Moved (S :: [it]) (fun a b => b = a) s s') : Js X pins σ S it B env ds σ' Hf H Hf' H' s' := by
  obtain ⟨h', g', d', t', o'⟩ := s'
  have e1 : g' = s.gens := m.gens
  have e2 : d' = s.drawn := m.drawn
  have e3 : o' = s.os := m.os
  subst e1 e2 e3
  refine ⟨j.I.turnedL (t' := t') (ch := S :: [it]) (fun b o hb e => m.heap b o hb e) (fun b hb => ?_), j.fS, j.fI, j.g, j.S⟩
  rcases List.mem_cons.mp hb with rfl | hb
  · exact j.fS
  · rw [List.mem_singleton.mp hb]; exact j.fI
theorem fpStill {X : Cx} {pins : List (Addr × Obj)} {H H' : Hp} {b : Addr} (f : FpOk X pins H b) (n : H' b = none) : FpOk X pins H' b := ⟨n, f.2⟩
theorem SqTok {X : Cx} {pins : List (Addr × Obj)} {σ : St} {H : Hp} {s : Shared} {a : Addr} {xs : List V} (I : Inv X pins σ H s) (h : H a = some (.tup xs)) : xs.length ≤ sizeLine ∧ ∃ its : List Value, Vals xs its ∧ IsTup s.heap a its.toArray := by
  obtain ⟨its, r, p, z⟩ := I.tuple (.inl (.inl h))
  exact ⟨z, its, r, p⟩
theorem gt_tups {A : Around} {s : Shared} {a b : Addr} {its its2 : List Value} {ns ms : List Int} (i1 : IntsAre its ns) (i2 : IntsAre its2 ms) (p1 : IsTup s.heap a its.toArray) (p2 : IsTup s.heap b its2.toArray) (hu : A.units < cLine) : Ob.RcOp .Gt A s (.ref a) (.ref b) (gtI ns ms) := by
  have e1 : its.toArray.size = ns.length := by rw [List.size_toArray]; exact i1.length
  have e2 : its2.toArray.size = ms.length := by rw [List.size_toArray]; exact i2.length
  have at1 : ∀ j (h1 : j < its.toArray.size), ∃ t, its.toArray[j] = .int (ns.getD j 0) t := fun j h1 => PyProof.Rows.IntsAre.int_at i1 _ _ (by simp at h1; simp [h1])
  have at2 : ∀ j (h1 : j < its2.toArray.size), ∃ t, its2.toArray[j] = .int (ms.getD j 0) t := fun j h1 => PyProof.Rows.IntsAre.int_at i2 _ _ (by simp at h1; simp [h1])
  have R := Ob.RcOp.tuples_gt (A := A) (s := s) (e := fun j => decide (ns.getD j 0 = ms.getD j 0)) (r := fun j => decide (ms.getD j 0 < ns.getD j 0)) p1 p2 hu (fun j h1 h2 => by
    obtain ⟨t, et⟩ := at1 j h1
    obtain ⟨t', et'⟩ := at2 j h2
    rw [et, et']
    have z : (ns.getD j 0 == ms.getD j 0) = decide (ns.getD j 0 = ms.getD j 0) := by
      by_cases q : ns.getD j 0 = ms.getD j 0
      · rw [decide_eq_true q]; exact beq_iff_eq.mpr q
      · rw [decide_eq_false q]; exact beq_eq_false_iff_ne.mpr q
    rw [← z]
    exact SeqAt.EqAt.int_int _ _ _ _) (fun j h1 h2 _ => by
    obtain ⟨t, et⟩ := at1 j h1
    obtain ⟨t', et'⟩ := at2 j h2
    rw [et, et']
    exact Ob.RcOp.gt_int _ _ _ _)
  rw [e1, e2] at R
  have := gtI_lex ns ms 0
  simp only [Nat.sub_zero] at this
  rw [this] at R
  exact R
section
variable {X : Cx} {k j : Nat} {fa : Addr} {fd : FuncData} {ps : List Str} {fk : List D → Option D}
def rMaxK (X : Cx) (fa : Addr) (fk : List D → Option D) : List V → List V → Hp → VK → Prop := fun xs zs H Q => zs = [.ref fa] ∧ ∃ (a : Addr) (o : Obj) (kvs : List (List Key × V)) (ds : List (List Key × D)) (B : Bs) (env : En) (dst : DS) (σ' : St) (Hf : Hp) (k0 : List Key) (r0 : List Int) (rest : List (List Key × List Int)),
  xs = [.ref a] ∧ SR B X.K env dst σ' Hf H ∧ Hf a = some (.frz o (.dT kvs)) ∧ RpT Hf kvs ds ∧ rowsK fk ds = some ((k0, r0) :: rest) ∧
  ∀ q Hf' H', Gr B Hf H Hf' H' → SR B X.K env dst σ' Hf' H' → Rp Hf' (.ref q) (keyT (maxL k0 r0 rest)) → Q (.ref q) H'
theorem cr_maxK (hc : X.calm = true) (hu : X.A.units + 8 < cLine) (F : FnOk X.prog X.w X.K X.mg X.base CX0 k fa fd ps (spP 1 fk)) (hb : Binds X.K fd ps []) (hr : Room (k + 1) X.A) : CallRK X (.builtin "max") ["key"] (rMaxK X fa fk) := by
  intro pins s σ H xs zs us ws Q I rx rz ⟨ez, a, o, kvs, ds, B, env, dst, σ', Hf, k0, r0, rest, ex, S, ha, hk, hl, q⟩
  subst ex ez
  obtain ⟨u, eu, rx'⟩ := vals1 rx
  subst eu
  obtain rfl : u = Value.ref a := rx'
  obtain ⟨u2, eu2, rz'⟩ := vals1 rz
  subst eu2
  obtain rfl : u2 = Value.ref fa := rz'
  obtain ⟨hs, hgd, hx, es, ep, hdt, hsz, ent⟩ := frzTV I (S.sub _ _ ha)
  have hh : X.A.handled = none := I.ok.hd hc
  have lend := hk.length
  have lenl := rowsK_len hl
  have hfr : H s.heap.objs.size = none := I.fresh
  have hane : a ≠ s.heap.objs.size := Nat.ne_of_lt (Heap.lt_size hgd)
  show wpAny (model X.prog X.w) X.A (call (.builtin "max") [.ref a] [(Str.ofString "key", .ref fa)]) _ _ _
  refine call_maxT (q := fa) (iter_keys hs hgd hx hdt ?_)
  generalize hs2 : ({ s with heap := s.heap.push { cls := .type "dict_keyiterator", data := .fields #[.ref a, .int 0 0, .int es.size 0, .int ep 0] } } : Shared) = s2
  have I2 : Inv X pins σ H s2 := by
    rw [← hs2]
    exact I.kept (t' := s.toks) fun b ob e => Heap.get?_push_of_some _ e
  have z2 : s2.heap.objs.size = s.heap.objs.size + 1 := by rw [← hs2]; exact Heap.size_push _ _
  generalize hS : s2.heap.objs.size = So at z2 ⊢
  generalize hit : s.heap.objs.size = it at hane hfr z2 hs2 ⊢
  have hSn : H So = none := by rw [← hS]; exact I2.fresh
  have fS : FpOk X pins H So := I2.fpOk (Nat.le_of_eq hS) hSn
  have fI : FpOk X pins H it := I.fpOk (Nat.le_of_eq hit) hfr
  have hSI : So ≠ it := by omega
  have itO : s2.heap.get? it = some { cls := .type "dict_keyiterator", data := .fields #[.ref a, .int 0 0, .int es.size 0, .int ep 0] } := by
    rw [← hs2, ← hit]; exact Heap.get?_push_size _ rfl
  have W := (Walks.rawKeys (prog := X.prog) (w := X.w) (A := X.A.in1) (show X.A.in1.handled = none from hh) it a hane es ep).toS
  -- the call
  have run : ∀ (i : Nat) (hi : i < es.size) {Hf' H' : Hp} {s' : Shared} {xs : Array Value} {c : Nat} {Q' : Value → Shared → Prop} {E' : Value → Shared → Prop}, Js X pins σ So it B env dst σ' Hf H Hf' H' s' → s'.heap.IsKeyIter it a (i + 1) es.size ep → s'.heap.get? So = some (lstO xs c) →
      (∀ kq Hf'' H'' s'', Js X pins σ So it B env dst σ' Hf H Hf'' H'' s'' → Same Hf' Hf'' → Rp Hf'' (.ref kq) (.tuple ((((k0, r0) :: rest).getD i ([], [])).2.map D.int)) → (s''.heap.IsKeyIter it a (i + 1) es.size ep ∧ s''.heap.DictRaw a es ep) → s''.heap.get? So = some (lstO xs c) → Q' (.ref kq) s'') →
      wpAny (model X.prog X.w) X.A.in1 (call (.ref fa) [es[i].key]) Q' E' s' := by
    intro i hi Hf' H' s' xs c Q' E' j hki hSo hq
    obtain ⟨⟨kk, vv⟩, hkv⟩ : ∃ p, kvs[i]? = some p := ⟨kvs[i]'(by omega), List.getElem?_eq_getElem (by omega)⟩
    obtain ⟨_, qa, hkey, hqa, _⟩ := ent i kk vv hkv
    obtain ⟨⟨dk, dv⟩, hd⟩ : ∃ p, ds[i]? = some p := ⟨ds[i]'(by omega), List.getElem?_eq_getElem (by omega)⟩
    have ekk : dk = kk := (hk.at hkv hd).1
    subst ekk
    obtain ⟨ns, ef, el⟩ := rowsK_at hl hd
    have hq1 : H' qa = some (.tup (dk.map kV)) := j.g.at hqa (S.noDrT hqa)
    obtain ⟨Hf1, g1, S1, r1⟩ := fz_key j.S hq1
    obtain ⟨oi, e1, e2, e3⟩ := id hki
    have Ip : Inv X (pins ++ [(So, lstO xs c), (it, oi)]) σ H' s' := j.I.pins_of fun p hp => by
      rcases List.mem_append.mp hp with hp | hp
      · exact j.I.pin p (List.mem_append_right _ hp)
      · rcases List.mem_cons.mp hp with rfl | hp
        · exact ⟨hSo, j.fS.1, j.fS.2.1, j.fS.2.2.1, fun v z => nomatch z⟩
        · rw [List.mem_singleton.mp hp]
          exact ⟨e1, j.fI.1, j.fI.2.1, j.fI.2.2.1, fun v z => by rw [e3] at z; cases z⟩
    rw [hkey]
    refine thnF (run_in (vs := [V.ref qa]) F (hr.in1) Ip.env0.in1 hb Ip (.cons rfl .nil) ⟨rfl, Hf1, [keyT dk], .tuple (ns.map D.int), S1.sub, .cons r1 .nil, ef, fun v Hf2 H2 g2 sm2 r2 => (⟨Hf2, g2, sm2, r2⟩ : ∃ Hf2, Gr ⟨H', Hf1, none⟩ Hf1 H' Hf2 H2 ∧ Same Hf2 H2 ∧ Rp Hf2 v (.tuple (ns.map D.int)))⟩) fun u3 s3 ⟨v, H3, I3, rv, Hf3, g3, sm3, r3⟩ => ?_
    have gB : Gr B Hf1 H' Hf3 H3 := g3.of0 fun b xs h => S1.noDrT h
    have p1 := I3.pin (So, lstO xs c) (List.mem_append_right _ (List.mem_append_right _ (List.mem_cons_self ..)))
    have p2 := I3.pin (it, oi) (List.mem_append_right _ (List.mem_append_right _ (List.mem_cons_of_mem _ (List.mem_cons_self ..))))
    have S3 : SR B X.K env dst σ' Hf3 H3 := S1.move gB sm3 fun y l c' ed => by
      obtain ⟨h1, h2, h3, h4, h5⟩ := S1.draw y l c' ed
      have sH := g3.same0
      exact ⟨sH _ _ h1, sH _ _ h2, g3.noF h3 (by rw [h1]; simp) (by intro xs z; rw [h1] at z; cases z), g3.noF h4 (by rw [h2]; simp) (by intro xs z; rw [h2] at z; cases z), g3.ff _ _ h5⟩
    have I4 : Inv X pins σ H3 s3 := I3.pins_of fun p hp => I3.pin p (List.mem_append_right _ (List.mem_append_left _ hp))
    have ed : s3.heap.DictRaw a es ep := by
      obtain ⟨_, hgd3, _⟩ := frzTV I4 (S3.sub _ _ ((j.g.ff.trans (g1.ff.trans gB.ff)) _ _ ha))
      exact ⟨o, hgd3, hx, hdt⟩
    cases r3 with
    | @tup kq vs0 ds0 h3 h3' =>
      cases rv
      have el2 : (((k0, r0) :: rest).getD i ([], [])).2 = ns := by rw [List.getD_eq_getElem?_getD, el]; rfl
      exact hq kq Hf3 H3 s3 ⟨I4, fpStill j.fS p1.2.1, fpStill j.fI p2.2.1, (j.g.trans g1).trans gB, S3⟩ (g1.ff.trans gB.ff) (by rw [el2]; exact .tup h3 h3') ⟨⟨oi, p2.1, e2, e3⟩, ed⟩ p1.1
  let Rw : Nat → D := fun b => .tuple ((((k0, r0) :: rest).getD b ([], [])).2.map D.int)
  refine ⟨it, [it, a], [it], _, es.size, _, _, btL ((k0, r0) :: rest), fun s' => ∃ Hf' H', Js X pins σ So it B env dst σ' Hf H Hf' H' s',
    fun b kb s' => ∃ kq Hf' H', kb = .ref kq ∧ Js X pins σ So it B env dst σ' Hf H Hf' H' s' ∧ Rp Hf' (.ref kq) (Rw b),
    fun i kx b kb s' => ∃ q1 q2 Hf' H', kx = .ref q1 ∧ kb = .ref q2 ∧ Js X pins σ So it B env dst σ' Hf H Hf' H' s' ∧ Rp Hf' (.ref q1) (Rw i) ∧ Rp Hf' (.ref q2) (Rw b), rfl, W, ?_, ?_, ?_, fun _ => rfl, ?_, ⟨Hf, H, I2, fS, fI, Gr.refl, S⟩, ?_⟩
  · refine ⟨⟨_, itO, rfl, rfl⟩, ⟨o, ?_, hx, hdt⟩⟩
    rw [← hs2]; exact Heap.get?_push_of_some _ hgd
  · intro b hb
    have la := Heap.lt_size hgd
    rw [z2]
    rcases List.mem_cons.mp hb with eb | hb
    · rw [eb]; exact Nat.lt_succ_self _
    · rw [List.mem_singleton.mp hb]
      rw [hit] at la
      exact Nat.lt_succ_of_lt la
  · rw [hsz, lend, ← lenl]; simp
  · refine ⟨?_, ?_, ?_, ?_, ?_, ?_, ?_⟩
    · rintro s' s'' ⟨Hf', H', j⟩ m
      exact ⟨Hf', H', j.moved m⟩
    · rintro b kb s' s'' ⟨kq, Hf', H', e, j, r⟩ m
      exact ⟨kq, Hf', H', e, j.moved m, r⟩
    · rintro v s' xs c Q' E' hn ⟨hi, rfl⟩ ⟨Hf', H', j⟩ st hSo hq
      exact run 0 hi j st.1 hSo fun kq Hf2 H2 s2 j2 _ r2 st2 hS2 => hq _ _ ⟨kq, Hf2, H2, rfl, j2, r2⟩ st2 hS2
    · rintro i b kb v s' xs c Q' E' hn ⟨hi, rfl⟩ ⟨kq, Hf', H', rfl, j, r⟩ st hSo hq
      exact run i hi j st.1 hSo fun kq2 Hf2 H2 s2 j2 ff r2 st2 hS2 => hq _ _ ⟨kq2, kq, Hf2, H2, rfl, rfl, j2, r2, r.up ff⟩ st2 hS2
    · rintro i kx b kb s' Q' E' ⟨q1, q2, Hf', H', rfl, rfl, j, r1, r2⟩ hq
      cases r1 with
      | tup h1 h1' =>
        cases r2 with
        | tup h2 h2' =>
          obtain ⟨_, its1, v1, t1⟩ := SqTok (X := X) j.I (j.S.sub _ _ h1)
          obtain ⟨_, its2, v2, t2⟩ := SqTok (X := X) j.I (j.S.sub _ _ h2)
          rw [rpl_ints h1'] at v1
          rw [rpl_ints h2'] at v2
          have R := gt_tups (A := X.A.in1) (s := s') (Vals.ints v1) (Vals.ints v2) t1 t2 (by show X.A.units + 1 < cLine; omega)
          exact R X.prog X.w E' Q' hq
    · rintro i kx b kb s' ⟨q1, q2, Hf', H', rfl, rfl, j, r1, r2⟩
      exact ⟨q1, Hf', H', rfl, j, r1⟩
    · rintro i kx b kb s' ⟨q1, q2, Hf', H', rfl, rfl, j, r1, r2⟩
      exact ⟨q2, Hf', H', rfl, j, r2⟩
  · rintro v b kb s' ⟨hi, rfl⟩ ⟨kq, Hf', H', _, j, _⟩
    generalize hbi : argBest (btL ((k0, r0) :: rest)) (es.size - 1) = bi at hi ⊢
    obtain ⟨⟨kk, vv⟩, hkv⟩ : ∃ p, kvs[bi]? = some p := ⟨kvs[bi]'(by omega), List.getElem?_eq_getElem (by omega)⟩
    obtain ⟨_, qa, hkey, hqa, _⟩ := ent bi kk vv hkv
    obtain ⟨⟨dk, dv⟩, hd⟩ : ∃ p, ds[bi]? = some p := ⟨ds[bi]'(by omega), List.getElem?_eq_getElem (by omega)⟩
    have ekk : dk = kk := (hk.at hkv hd).1
    subst ekk
    obtain ⟨ns, ef, el⟩ := rowsK_at hl hd
    have hq1 : H' qa = some (.tup (dk.map kV)) := j.g.at hqa (S.noDrT hqa)
    obtain ⟨Hf1, g1, S1, r1⟩ := fz_key j.S hq1
    have em : maxL k0 r0 rest = dk := by
      have h1 := maxL_arg ((k0, r0) :: rest) _ 0 rfl (by simp)
      have h2 : ((k0, r0) :: rest).length - 1 = es.size - 1 := by rw [lenl, ← lend, hsz]
      rw [h2, hbi] at h1
      have h3 : (((k0, r0) :: rest).getD bi ([], [])).1 = dk := by rw [List.getD_eq_getElem?_getD, el]; rfl
      rw [h3] at h1
      exact h1
    rw [hkey]
    exact ⟨.ref qa, H', j.I, rfl, q qa Hf1 H' (j.g.trans g1) S1 (by rw [em]; exact r1)⟩
def dMaxK (fk : List D → Option D) (f : Den) : Den := fun env ds => bnd (f env ds) fun a s => match a with
  | .dT kvs => (match rowsK fk kvs with
    | some ((k0, r0) :: rest) => some (keyT (maxL k0 r0 rest), s)
    | _ => none)
  | _ => none
theorem evf_maxK {x : Str} {e : Expr} {f : Den} {p p2 kpos pos : Pos} (hm : X.mg "max" = none) (hc : X.calm = true) (c : Cal X.prog X.w X.K X.mg X.base k x (spP 1 fk) []) (hr : Room j X.A) (hk : k + 1 ≤ j) (he : EvF X e f) (hgx : Gl X x := by rfl) (hg : Gl X "max" := by rfl)
    (hdb : (x == ("__debug__" : Str)) = false := by decide) (hs : starEach [e] X.env = [(false, eval e X.env)] := by rfl) (h1 : backTo pos (starEach (e :: []) X.env) = (false, eval e X.env) :: backTo pos (starEach [] X.env) := by rfl)
    (h3 : (backToKw pos (keywordEach [⟨some "key", .Name x p2, kpos⟩] X.env)).all (·.1.isSome) = true := by rfl) (h4 : (backToKw pos (keywordEach [⟨some "key", .Name x p2, kpos⟩] X.env)).any (·.1.isNone) = false := by rfl) (h5 : (backToKw pos (keywordEach [⟨some "key", .Name x p2, kpos⟩] X.env)).filterMap (·.1) = [("key" : Str)] := by rfl) :
    EvF X (.Call (.Name "max" p) [e] [⟨some "key", .Name x p2, kpos⟩] pos) (dMaxK fk f) := fun B env ds σ Hf H d ds' S hf Q q => by
  obtain ⟨fa, fd, ps, dd, F, hmx, kp, hb, hd⟩ := c.ex
  cases hd
  obtain ⟨a, s1, e1, e2⟩ := bnd_eq hf
  split at e2
  · rename_i kvs
    split at e2
    · rename_i k0 r0 rest hl
      cases e2
      have hr' : Room (k + 1) X.A := hr.mono hk
      refine SE.of (pe_callBK (cr_maxK (fk := fk) hc (by have := hr'.units; omega) F hb hr') hg hm boot_max (pa_cons (pe_se X e) pa_nil hs) (pk_cons (pe_glob (v := .ref fa) hgx hmx rfl hdb) pk_nil) (by decide) (by decide) h1 (by rw [h1]; rfl) h3 h4 h5) ?_
      refine he B env ds σ Hf H _ _ S e1 _ fun v Hf1 H1 g1 S1 r1 => ?_
      cases r1 with
      | @dT a o kv _ h1 h2 =>
        exact ⟨rfl, a, o, kv, kvs, B, env, _, σ, Hf1, k0, r0, rest, rfl, S1, h1, h2, hl, fun q' Hf' H' g' S' r' => q _ _ _ (g1.trans g') S' r'⟩
    · cases e2
  · cases e2
end
end L2.Dn
set_option Elab.async false
set_option linter.all false
set_option maxRecDepth 100000
/-! enumerate(v), enumerate(v, k) over lists and tuples (after HandS.Iter, KE.GoesEnum) -/
namespace L2.Dn
open PySem PySem.Spec PyProof.Rows
set_option maxHeartbeats 1000000 in
theorem meets_enumB1 {v : Value} {o : Obj} {H : Heap → Prop} (B : Begins v o H) :
    Meets (Builtin.«enumerate.__new__» ⟨[.type "enumerate", v], []⟩) (fun _ R s => H s.heap ∧
      R (.ok (.ret (.ref (s.heap.push o).objs.size))) { s with heap := (s.heap.push o).push { cls := .type "enumerate", data := .fields #[.none, .bool false, .ref s.heap.objs.size, rawInt 0, .none, .none] } }) :=
  .of_wp fun prog w A R s h => by
    obtain ⟨hp, g, d, tk, os⟩ := s; obtain ⟨h1, h⟩ := h
    have hsub := sub_enumerate
    have q1 : ∀ {A' : Around} {E : Value → Shared → Prop} {Q : Value → Shared → Prop}, Q (.ref hp.objs.size) ⟨hp.push o, g, d, tk, os⟩ → wpAny (model prog w) A' (pyIter v) Q E ⟨hp, g, d, tk, os⟩ :=
      fun q => B.iter prog w _ _ ⟨hp, g, d, tk, os⟩ _ h1 q
    wp_walk using q1
    refine wpAny_stack_any fun st => wpAny_pure ?_
    split
    · rename_i c _ _ _ _ _
      cases (c == Value.type "enumerate")
      · wp_walk using q1
        exact ⟨_, rfl, h⟩
      · wp_walk using q1
        exact ⟨_, rfl, h⟩
    · wp_walk using q1
      exact ⟨_, rfl, h⟩
section
variable {prog : Program} {w : World} {A : Around} {E : Value → Shared → Prop} {s : Shared}
theorem enum_begins1 {v : Value} {o : Obj} {H : Heap → Prop} {Q : Value → Shared → Prop} (B : Begins v o H) (h1 : H s.heap)
    (h : ∀ h', IsEnum h' (s.heap.objs.size + 1) s.heap.objs.size 0 .none → h'.get? s.heap.objs.size = some o → h'.objs.size = s.heap.objs.size + 2 →
      (∀ b o, s.heap.get? b = some o → h'.get? b = some o) → Q (.ref (s.heap.objs.size + 1)) { s with heap := h' }) :
    wpAny (model prog w) A (call (.type "enumerate") [v]) Q E s := by
  refine callType_new F.called_enumerate (by decide) (F.typeCall_enumerate_1 _) (F.newCall_enumerate_1 _) (fun obj => F.args_object_init_2 obj _) F.entry_enumerate_new
    (meets_enumB1 B) ⟨h1, ?_⟩
  have hz : (s.heap.push o).objs.size = s.heap.objs.size + 1 := Heap.size_push ..
  show _ ∧ _
  rw [hz]
  have he : IsEnum ((s.heap.push o).push { cls := .type "enumerate", data := .fields #[.none, .bool false, .ref s.heap.objs.size, rawInt 0, .none, .none] }) (s.heap.objs.size + 1) s.heap.objs.size 0 .none := by
    have := Heap.get?_push_size (s.heap.push o) (o := { cls := .type "enumerate", data := .fields #[.none, .bool false, .ref s.heap.objs.size, rawInt 0, .none, .none] }) rfl
    rw [hz] at this; exact this
  exact ⟨⟨_, he, rfl⟩, h _ he (Heap.get?_push_of_some _ (Heap.get?_push_size _ B.free)) (by rw [Heap.size_push, hz]) fun b o x => Heap.get?_push_of_some _ (Heap.get?_push_of_some _ x)⟩
end
/-- a list (false) or a tuple (true) -/
def SqX (t : Bool) (K : PySem.W.Frag) (H : Hp) (a : Addr) (xs : List V) : Prop := match t with
  | false => SqL K H a xs
  | true => SqT K H a xs
def ItX (t : Bool) (h : Heap) (it a : Addr) (i : Nat) : Prop := match t with
  | false => h.IsListIter it a i
  | true => h.IsTupleIter it a i
def IsX (t : Bool) (h : Heap) (a : Addr) (items : Array Value) : Prop := match t with
  | false => h.IsList a items
  | true => h.IsTuple a items
theorem ItX.at {t : Bool} {h h' : Heap} {it a : Addr} {i : Nat} (x : ItX t h it a i) (k : ∀ o, h.get? it = some o → h'.get? it = some o) : ItX t h' it a i := by
  cases t with
  | false => exact Heap.IsListIter.at x k
  | true => exact Heap.IsTupleIter.at x k
theorem ItX.lt {t : Bool} {h : Heap} {it a : Addr} {i : Nat} (x : ItX t h it a i) : it < h.objs.size := by
  cases t with
  | false => obtain ⟨_, q, _⟩ := x; exact Heap.lt_size q
  | true => obtain ⟨_, q, _⟩ := x; exact Heap.lt_size q
theorem drawsX (t : Bool) {prog : Program} {w : World} {A : Around} (hh : A.handled = none) (it a : Addr) (hne : a ≠ it) (items : Array Value) :
    Draws prog w A it [it, a] items.size (fun i v => items[i]? = some v) (fun i h => ItX t h it a i ∧ IsX t h a items) := by
  cases t with
  | false => exact Draws.list hh it a hne items
  | true => exact Draws.tuple hh it a hne items
theorem beginsX (t : Bool) (a : Addr) (items : Array Value) : ∃ o, Begins (.ref a) o (fun h => IsX t h a items) ∧ ∀ (h : Heap) (it : Addr), h.get? it = some o → ItX t h it a 0 := by
  cases t with
  | false => exact ⟨_, begins_list a items, fun h it e => ⟨_, e, rfl, rfl⟩⟩
  | true => exact ⟨_, begins_tuple a items, fun h it e => ⟨_, e, rfl, rfl⟩⟩
theorem seqX {t : Bool} {X : Cx} {pins : List (Addr × Obj)} {σ : St} {H : Hp} {s : Shared} {a : Addr} {xs : List V} (I : Inv X pins σ H s) (h : SqX t X.K H a xs) : ∃ its : List Value, Vals xs its ∧ IsX t s.heap a its.toArray := by
  cases t with
  | false => obtain ⟨its, r, p, _⟩ := I.list h; exact ⟨its, r, p.isList⟩
  | true => obtain ⟨its, r, p, _⟩ := I.tuple h; exact ⟨its, r, p⟩
theorem IsX.ne {t : Bool} {h : Heap} {a e : Addr} {items : Array Value} {it : Addr} {c : Int} {old : Value} (x : IsX t h a items) (he : IsEnum h e it c old) : e ≠ a := fun z => by
  subst z
  unfold IsEnum at he
  cases t with
  | false => obtain ⟨o, ho, hc, _⟩ := x; rw [he] at ho; cases ho; exact absurd (show Value.type "enumerate" = .type "list" from hc) (fun z => absurd (Value.type.inj z) (by decide))
  | true => obtain ⟨o, ho, hc, _⟩ := x; rw [he] at ho; cases ho; exact absurd (show Value.type "enumerate" = .type "tuple" from hc) (fun z => absurd (Value.type.inj z) (by decide))
theorem IsX.neIt {t : Bool} {h : Heap} {a it : Addr} {items : Array Value} {i : Nat} (x : IsX t h a items) (y : ItX t h it a i) : a ≠ it := fun z => by
  subst z
  cases t with
  | false => obtain ⟨o, ho, hc, _⟩ := x; obtain ⟨o', ho', hc', _⟩ := y; rw [ho] at ho'; cases ho'; rw [hc] at hc'; exact absurd (Value.type.inj hc') (by decide)
  | true => obtain ⟨o, ho, hc, _⟩ := x; obtain ⟨o', ho', hc', _⟩ := y; rw [ho] at ho'; cases ho'; rw [hc] at hc'; exact absurd (Value.type.inj hc') (by decide)
theorem enumX_end (t : Bool) {prog : Program} {w : World} {A : Around} {E : Value → Shared → Prop} {s : Shared} {e it a : Addr} {c : Int} {old : Value} {i : Nat} {items : Array Value} {Q : Option Value → Shared → Prop}
    (hh : A.handled = none) (he : IsEnum s.heap e it c old) (hit : ItX t s.heap it a i) (p : IsX t s.heap a items) (hge : items.size ≤ i)
    (hQ : ∀ h', Heap.ExtBut it s.heap h' → Q none { s with heap := h' }) : wpAny (model prog w) A (pyNext (.ref e)) Q E s := by
  have hT : s.TypeIs (.ref e) "enumerate" := ⟨_, he, rfl⟩
  have hx : items[i]? = none := Array.getElem?_eq_none hge
  unfold pyNext
  refine wpAny_bind (wpAny_attempt (wpAny_callSpecial?_slot (name := Str.ofString "__next__") hT F.slot_enumerate_next
    (wpAny_call_entry F.slot_enumerate_next hT F.entry_enumerate_next ?_ (F.args_enumerate_next_1 _))))
  show wpAny _ _ (field (.ref e) 2 >>= _) _ _ _
  refine wpAny_bind (wpAny_field he rfl (x := .ref it) rfl ?_)
  cases t with
  | false => exact wpAny_bind (wpAny_nextOf_list_end (show A.in1.handled = none from hh) hit p hx fun h' x he' hx' => by
      obtain ⟨o, ho, hc⟩ := hx'
      refine wpAny_bind (wpAny_isInstance (T := "StopIteration") (b := true) ⟨o, ho, hc⟩ isSubtype_stop ?_)
      exact wpAny_pure (hQ _ he'))
  | true => exact wpAny_bind (wpAny_nextOf_tuple_end (show A.in1.handled = none from hh) hit p hx fun h' x he' hx' => by
      obtain ⟨o, ho, hc⟩ := hx'
      refine wpAny_bind (wpAny_isInstance (T := "StopIteration") (b := true) ⟨o, ho, hc⟩ isSubtype_stop ?_)
      exact wpAny_pure (hQ _ he'))
/-- the items of the list or tuple at a, counted from k, each in a new pair -/
def IteX (t : Bool) (K : PySem.W.Frag) (a : Addr) (xs : List V) (k : Int) : It :=
  ⟨fun i H => i < xs.length ∧ SqX t K H a xs, fun i H v H' => ∃ T x, v = .ref T ∧ H T = none ∧ xs[i]? = some x ∧ H' = upd H T (.tup [.int (k + (i : Nat)), x]), fun i H => xs.length ≤ i ∧ SqX t K H a xs⟩
theorem turn_enumX (t : Bool) {P : Program} {w : World} {K : PySem.W.Frag} {elts : List Expr} {kk : Nat} {tpos : Pos} (a e it : Addr) (xs : List V) (k : Int) :
    Turn P w K (.Tuple elts kk tpos) (IteX t K a xs k) [e, it] e (fun i h => (∃ old, IsEnum h e it (k + ((i : Nat) : Int)) old) ∧ ItX t h it a i ∧ e ≠ it) where
  mem := by simp
  obj := fun i h st b hb => by
    obtain ⟨⟨old, he⟩, hi, _⟩ := st
    have e' : b = e ∨ b = it := by simpa using hb
    rcases e' with z | z
    · rw [z]; exact ⟨_, he, fun v q => nomatch q⟩
    · rw [z]
      cases t with
      | false => obtain ⟨o, ho, hc, hd⟩ := hi; exact ⟨o, ho, fun v q => by rw [hd] at q; cases q⟩
      | true => obtain ⟨o, ho, hc, hd⟩ := hi; exact ⟨o, ho, fun v q => by rw [hd] at q; cases q⟩
  keep := fun i h h' st kp => let ⟨⟨old, he⟩, hi, hne⟩ := st; ⟨⟨old, kp e (by simp) _ he⟩, hi.at fun o q => kp it (by simp) o q, hne⟩
  item := by
    intro X hP hw hK hc i pins s σ H E I hf st ⟨hi, hq⟩
    subst hP hw hK
    obtain ⟨⟨old, he⟩, hit, hne⟩ := st
    obtain ⟨its, rv, p⟩ := seqX I hq
    obtain ⟨u, hu, ru⟩ := rv.get (List.getElem?_eq_getElem hi)
    have hel : e < s.heap.objs.size := Heap.lt_size he
    have hil := hit.lt
    have hli := rv.length
    refine wpAny_pyNext_enum_itemC (drawsX t (A := X.A.in1) (show X.A.in1.handled = none from I.ok.hd hc) it a (p.neIt hit) its.toArray) he ⟨hit, p⟩ (by rw [List.size_toArray]; omega) hne (by simp [hne, p.ne he]) fun x h' tk hx ho hst hT hsz hk => ?_
    have ex : x = u := by
      have h1 : its.toArray[i]? = some x := hx
      have h2 : its.toArray[i]? = some u := by simpa using hu
      rw [h2] at h1
      exact (Option.some.inj h1).symm
    subst ex
    refine ⟨_, rfl, wpAny_letOwnedTupleGo_enum (s := { s with heap := h', toks := tk + 1 }) ho fun h'' he' sb => ?_⟩
    have hT2 : h''.get? s.heap.objs.size = some { cls := .type "tuple", data := .seq #[.int (k + ((i : Nat) : Int)) tk, x] } := (sb.2 _ (Nat.ne_of_gt hel)).trans hT
    have new : ObjOk X.prog X.w (upd H s.heap.objs.size (.tup [.int (k + ((i : Nat) : Int)), xs[i]])) h'' s.heap.objs.size (.tup [.int (k + ((i : Nat) : Int)), xs[i]]) :=
      ⟨by show 2 ≤ sizeLine; decide, [.int (k + ((i : Nat) : Int)) tk, x], .cons ⟨_, rfl⟩ (.cons ru .nil), ⟨_, hT2, rfl, _, rfl⟩⟩
    have I1 : Inv X pins σ (upd H s.heap.objs.size (.tup [.int (k + ((i : Nat) : Int)), xs[i]])) { s with heap := h'', toks := tk + 1 } :=
      I.turnedNew (ch := [e, it]) (fun b ob hb q => (sb.2 b (fun z => hb (by simp [z]))).trans (hk b ob (fun z => hb (by simp [z])) (fun z => hb (by simp [z])) q)) hf (Nat.le_refl _) new
    refine ⟨.ref s.heap.objs.size, _, I1, rfl, ⟨_, xs[i], rfl, I.fresh, List.getElem?_eq_getElem hi, rfl⟩, ⟨⟨x, ?_⟩, hst.1.at fun o q => (sb.2 it (Ne.symm hne)).trans q, hne⟩, fun b hb => ?_⟩
    · have e1 : k + ((i + 1 : Nat) : Int) = k + ((i : Nat) : Int) + 1 := by omega
      rw [e1]; exact he'
    · have hb' : b < s.heap.objs.size := by
        have e' : b = e ∨ b = it := by simpa using hb
        rcases e' with z | z
        · rw [z]; exact hel
        · rw [z]; exact hil
      rw [upd_ne (Nat.ne_of_lt hb')]
      exact (hf b hb).1
  done := by
    intro X hP hw hK hc i pins s σ H E I hf st ⟨hi, hq⟩
    subst hP hw hK
    obtain ⟨⟨old, he⟩, hit, hne⟩ := st
    obtain ⟨its, rv, p⟩ := seqX I hq
    obtain ⟨f0, f1, f2, f3, f4, f5⟩ := hf it (by simp)
    have hl := rv.length
    exact enumX_end t (I.ok.hd hc) he hit p (by rw [List.size_toArray]; omega) fun h' eb => ⟨rfl, I.turned (t' := s.toks) (fun b o hb q => eb b o hb q) f0 f1 f3 f4 f5⟩
  self := fun A i s Q E st h => let ⟨⟨_, he⟩, _⟩ := st; wpAny_pyIter_enum he h
def iEnX (t : Bool) (K : PySem.W.Frag) (ta : TA) : TI := fun σ H R => ta σ H fun vs H1 => ∃ a xs, (vs = [.ref a] ∧ SqX t K H1 a xs ∧ R (IteX t K a xs 0) H1) ∨ ∃ k : Int, vs = [.ref a, .int k] ∧ (-(2 ^ 62) ≤ k ∧ k < 2 ^ 62) ∧ SqX t K H1 a xs ∧ R (IteX t K a xs k) H1
section
variable {X : Cx} {tg e b : Expr} {es : List Expr} {f h : Den}
theorem pi_enX (t : Bool) {ta : TA} {p pos tpos : Pos} {elts : List Expr} {kk : Nat} (hg : Gl X "enumerate") (hm : X.mg "enumerate" = none) (ha : PA X (e :: es) ta) (hs : starEach (e :: es) X.env = (false, eval e X.env) :: starEach es X.env) (hpl : (backTo pos (starEach es X.env)).any (·.1) = false) :
    PI X (.Tuple elts kk tpos) (.Call (.Name "enumerate" p) (e :: es) [] pos) (iEnX t X.K ta) := by
  refine ⟨fun pins s σ H R I h => ?_⟩
  refine Call_ (ld_blt I hg hm boot_enumerate (PyProof.Rows.callWith_type1 (thn (ha.run pos pins s σ H _ I h) fun us s1 ⟨vs, H1, I1, r1, a, xs, q1⟩ => ?_) hs hpl))
  have go : ∀ (k : Int) (h' : Heap) (o : Obj) (its : Array Value), (∀ (h : Heap) (it : Addr), h.get? it = some o → ItX t h it a 0) → IsEnum h' (s1.heap.objs.size + 1) s1.heap.objs.size k .none → h'.get? s1.heap.objs.size = some o → h'.objs.size = s1.heap.objs.size + 2 → (∀ b o, s1.heap.get? b = some o → h'.get? b = some o) → SqX t X.K H1 a xs → R (IteX t X.K a xs k) H1 →
      wpAny (model X.prog X.w) X.A (pyIter (.ref (s1.heap.objs.size + 1))) (PIE X pins σ (.Tuple elts kk tpos) R) X.xe { s1 with heap := h' } := fun k h' o its B2 he hit hsz hk hq q => by
    refine wpAny_pyIter_enum he ?_
    have I2 : Inv X pins σ H1 { s1 with heap := h' } := I1.kept (t' := s1.toks) hk
    refine ⟨s1.heap.objs.size + 1, [s1.heap.objs.size + 1, s1.heap.objs.size], _, _, H1, rfl, I2, turn_enumX t a (s1.heap.objs.size + 1) s1.heap.objs.size xs k, ⟨⟨.none, ?_⟩, B2 _ _ hit, Nat.succ_ne_self _⟩, fun b hb => ?_, q⟩
    · have e1 : k + ((0 : Nat) : Int) = k := by simp
      rw [e1]; exact he
    have e' : b = s1.heap.objs.size + 1 ∨ b = s1.heap.objs.size := by simpa using hb
    have hle : s1.heap.objs.size ≤ b := by
      rcases e' with z | z
      · rw [z]; exact Nat.le_add_right _ _
      · rw [z]; exact Nat.le_refl _
    exact I1.fpOk hle (I1.hok.fresh hle)
  rcases q1 with ⟨ev, hq, q⟩ | ⟨k, ev, hk, hq, q⟩
  · subst ev
    cases r1 with
    | cons r rr =>
      cases rr
      cases r
      obtain ⟨its, rv, p'⟩ := seqX I1 hq
      obtain ⟨o, B, B2⟩ := beginsX t a its.toArray
      exact enum_begins1 B p' fun h' he hit hsz hk => go 0 h' o its.toArray B2 he hit hsz hk hq q
  · subst ev
    cases r1 with
    | cons r rr =>
      cases rr with
      | cons r2 rr =>
        cases rr
        cases r
        obtain ⟨tk, rfl⟩ := r2
        obtain ⟨its, rv, p'⟩ := seqX I1 hq
        obtain ⟨o, B, B2⟩ := beginsX t a its.toArray
        exact enum_begins B p' (by omega) (by omega) fun h' he hit hsz hkk => go k h' o its.toArray B2 he hit hsz hkk hq q
def enumD (k : Int) : List D → List D
  | [] => []
  | d :: r => .tuple [.int k, d] :: enumD (k + 1) r
theorem enumD_len : ∀ (k : Int) (xs : List D), (enumD k xs).length = xs.length
  | _, [] => rfl
  | k, _ :: r => congrArg Nat.succ (enumD_len (k + 1) r)
theorem enumD_get : ∀ (k : Int) (xs : List D) (i : Nat), (enumD k xs)[i]? = (xs[i]?).map fun d => .tuple [.int (k + i), d]
  | _, [], _ => rfl
  | k, d :: r, 0 => by simp [enumD]
  | k, d :: r, i + 1 => by
    show (enumD (k + 1) r)[i]? = _
    rw [enumD_get (k + 1) r i]
    have : k + 1 + (i : Int) = k + ((i + 1 : Nat) : Int) := by omega
    rw [this]
    rfl
theorem yl_enX (t : Bool) {B : Bs} {K : PySem.W.Frag} {a : Addr} {vs : List V} {items : List D} {Hf0 : Hp} {k : Int} (h : Hf0 a = some (match t with | false => .lst vs | true => .tup vs)) (r : RpL Hf0 vs items) : Yl B K (IteX t K a vs k) (enumD k items) Hf0 := fun i env ds σ Hf H s S => by
  have hl := r.length
  have hq : SqX t K H a vs := by
    have := S.sub _ _ (s _ _ h)
    cases t with
    | false => exact .inl (.inl this)
    | true => exact .inl (.inl this)
  rw [enumD_len]
  refine ⟨fun hi => ⟨⟨by omega, hq⟩, fun x H' y d hd => ?_⟩, fun hi => ⟨by omega, hq⟩⟩
  obtain ⟨T, v, rfl, nT, ev, rfl⟩ := y
  rw [enumD_get, List.getElem?_eq_getElem hi] at hd
  cases hd
  obtain ⟨d', h1, h2⟩ := r.get' ev
  rw [List.getElem?_eq_getElem hi] at h1
  cases h1
  have nf := sub_none S nT
  have F := S.fre nT
  exact ⟨_, (Gr.refl.hp nT).fz nT nf, (S.hp nf F).fz nf upd_same F, .tup upd_same ((RpL.cons (.int _) (.cons (h2.up s) .nil)).up (same_fz nf))⟩
theorem yl_enP {B : Bs} {K : PySem.W.Frag} {a : Addr} {vs : List V} {items : List D} {Hf0 : Hp} {k : Int} {o : Obj} (h : Hf0 a = some (.frz o (.tup vs))) (r : RpL Hf0 vs items) : Yl B K (IteX true K a vs k) (enumD k items) Hf0 := fun i env ds σ Hf H s S => by
  have hl := r.length
  have hq : SqX true K H a vs := by
    have := S.sub _ _ (s _ _ h)
    exact .inl (.inr ⟨o, this⟩)
  rw [enumD_len]
  refine ⟨fun hi => ⟨⟨by omega, hq⟩, fun x H' y d hd => ?_⟩, fun hi => ⟨by omega, hq⟩⟩
  obtain ⟨T, v, rfl, nT, ev, rfl⟩ := y
  rw [enumD_get, List.getElem?_eq_getElem hi] at hd
  cases hd
  obtain ⟨d', h1, h2⟩ := r.get' ev
  rw [List.getElem?_eq_getElem hi] at h1
  cases h1
  have nf := sub_none S nT
  have F := S.fre nT
  exact ⟨_, (Gr.refl.hp nT).fz nT nf, (S.hp nf F).fz nf upd_same F, .tup upd_same ((RpL.cons (.int _) (.cons (h2.up s) .nil)).up (same_fz nf))⟩
def seqI : D → Option (List D)
  | .list xs => some xs
  | .tuple xs => some xs
  | .ptup xs => some xs
  | _ => none
def dEn1 (f : Den) : DenA := fun env ds => bnd (f env ds) fun a s => match seqI a with
  | some xs => some (enumD 0 xs, s)
  | none => none
def dEn2 (f h : Den) : DenA := fun env ds => bnd (f env ds) fun a s => bnd (h env s) fun b s1 => match b with
  | .int k => if -100000 < k ∧ k < 100000 then (match seqI a with
    | some xs => some (enumD k xs, s1)
    | none => none) else none
  | _ => none
theorem evi_en1 {p pos tpos : Pos} {elts : List Expr} {kk : Nat} (hm : X.mg "enumerate" = none) (hf : EvF X e f) (hg : Gl X "enumerate" := by rfl) (hs : starEach [e] X.env = (false, eval e X.env) :: starEach [] X.env := by rfl) :
    EvI X (.Tuple elts kk tpos) (.Call (.Name "enumerate" p) [e] [] pos) (dEn1 f) := fun B env ds σ Hf H items ds' S he R q => by
  obtain ⟨v1, s1, e1, e2⟩ := bnd_eq he
  cases v1 with
  | list xs =>
    cases e2
    refine SI.of (pi_enX false hg hm (pa_cons (pe_se X _) pa_nil hs) hs rfl) (hf B env ds σ Hf H _ _ S e1 _ fun v Hf1 H1 g1 S1 r1 => ?_)
    cases r1 with
    | lst h1 r => exact ⟨_, _, .inl ⟨rfl, .inl (.inl (S1.sub _ _ h1)), q _ _ _ g1 S1 (yl_enX false h1 r)⟩⟩
  | tuple xs =>
    cases e2
    refine SI.of (pi_enX true hg hm (pa_cons (pe_se X _) pa_nil hs) hs rfl) (hf B env ds σ Hf H _ _ S e1 _ fun v Hf1 H1 g1 S1 r1 => ?_)
    cases r1 with
    | tup h1 r => exact ⟨_, _, .inl ⟨rfl, .inl (.inl (S1.sub _ _ h1)), q _ _ _ g1 S1 (yl_enX true h1 r)⟩⟩
  | ptup xs =>
    cases e2
    refine SI.of (pi_enX true hg hm (pa_cons (pe_se X _) pa_nil hs) hs rfl) (hf B env ds σ Hf H _ _ S e1 _ fun v Hf1 H1 g1 S1 r1 => ?_)
    cases r1 with
    | ptup h1 hd r => exact ⟨_, _, .inl ⟨rfl, .inl (.inr ⟨_, S1.sub _ _ h1⟩), q _ _ _ g1 S1 (yl_enP h1 r)⟩⟩
  | _ => cases e2
theorem evi_en2 {p pos tpos : Pos} {elts : List Expr} {kk : Nat} (hm : X.mg "enumerate" = none) (hf : EvF X e f) (hb : EvR X b h) (hg : Gl X "enumerate" := by rfl) (hs : starEach [e, b] X.env = (false, eval e X.env) :: starEach [b] X.env := by rfl) (hs2 : starEach [b] X.env = (false, eval b X.env) :: starEach [] X.env := by rfl)
    (hpl : (backTo pos (starEach [b] X.env)).any (·.1) = false := by rfl) : EvI X (.Tuple elts kk tpos) (.Call (.Name "enumerate" p) [e, b] [] pos) (dEn2 f h) := fun B env ds σ Hf H items ds' S he R q => by
  obtain ⟨v1, s1, e1, e2⟩ := bnd_eq he
  obtain ⟨v2, s2, e3, e4⟩ := bnd_eq e2
  cases v2 with
  | int k =>
    have e4 : (if -100000 < k ∧ k < 100000 then (match seqI v1 with | some xs => some (enumD k xs, s2) | none => none) else none) = some (items, ds') := e4
    split at e4
    · rename_i hk
      cases v1 with
      | list xs =>
        cases e4
        refine SI.of (pi_enX false hg hm (pa_cons (pe_se X _) (pa_cons (pe_se X _) pa_nil hs2) hs) hs hpl) (hf B env ds σ Hf H _ _ S e1 _ fun v Hf1 H1 g1 S1 r1 => hb B env s1 σ Hf1 H1 _ _ S1 e3 _ fun v2 Hf2 H2 g2 S2 r2 => ?_)
        cases r2.int
        cases r1.up g2.ff with
        | lst h1 r => exact ⟨_, _, .inr ⟨k, rfl, by omega, .inl (.inl (S2.sub _ _ h1)), q _ _ _ (g1.trans g2) S2 (yl_enX false h1 r)⟩⟩
      | tuple xs =>
        cases e4
        refine SI.of (pi_enX true hg hm (pa_cons (pe_se X _) (pa_cons (pe_se X _) pa_nil hs2) hs) hs hpl) (hf B env ds σ Hf H _ _ S e1 _ fun v Hf1 H1 g1 S1 r1 => hb B env s1 σ Hf1 H1 _ _ S1 e3 _ fun v2 Hf2 H2 g2 S2 r2 => ?_)
        cases r2.int
        cases r1.up g2.ff with
        | tup h1 r => exact ⟨_, _, .inr ⟨k, rfl, by omega, .inl (.inl (S2.sub _ _ h1)), q _ _ _ (g1.trans g2) S2 (yl_enX true h1 r)⟩⟩
      | ptup xs =>
        cases e4
        refine SI.of (pi_enX true hg hm (pa_cons (pe_se X _) (pa_cons (pe_se X _) pa_nil hs2) hs) hs hpl) (hf B env ds σ Hf H _ _ S e1 _ fun v Hf1 H1 g1 S1 r1 => hb B env s1 σ Hf1 H1 _ _ S1 e3 _ fun v2 Hf2 H2 g2 S2 r2 => ?_)
        cases r2.int
        cases r1.up g2.ff with
        | ptup h1 hd r => exact ⟨_, _, .inr ⟨k, rfl, by omega, .inl (.inr ⟨_, S2.sub _ _ h1⟩), q _ _ _ (g1.trans g2) S2 (yl_enP h1 r)⟩⟩
      | _ => cases e4
    · cases e4
  | _ => cases e4
end
end L2.Dn
set_option Elab.async false
set_option linter.all false
set_option maxRecDepth 100000
/-! built-in functions and methods on data -/
namespace L2.Dn
open PySem PySem.Spec PyProof.Rows
section
variable {X : Cx}
/-! len -/
def rLen1 (X : Cx) : List V → Hp → VK → Prop := fun xs H Q => ((∃ x n, xs = [x] ∧ LenV X.K x H n ∧ Q (.int n) H) ∨ rLenTR xs H Q) ∨ rLenKR xs H Q
theorem cr_len : CallR X (.builtin "len") (rLen1 X) := CallR.or (CallR.or call_len call_len_dTR) call_len_dKR
def gLen : List D → Option D
  | [.list xs] => some (.int (xs.length : Nat))
  | [.tuple xs] => some (.int (xs.length : Nat))
  | [.ptup xs] => some (.int (xs.length : Nat))
  | [.dT xs] => some (.int (xs.length : Nat))
  | [.dK xs] => some (.int (xs.length : Nat))
  | _ => none
theorem rc_len : RCF X (rLen1 X) gLen := fun B env ds σ Hf H args d vs Q S r e q => by
  unfold gLen at e
  split at e
  · cases e
    cases r with
    | cons r t =>
      cases t
      obtain ⟨a, ws, rfl, h1, h2⟩ := r.lst S.sub
      exact .inl (.inl ⟨_, _, rfl, .inl ⟨ws, .inl (.inl h1), h2.length.symm⟩, q.now S (.int _)⟩)
  · cases e
    cases r with
    | cons r t =>
      cases t
      obtain ⟨a, ws, rfl, h1, h2⟩ := r.tup
      exact .inl (.inl ⟨_, _, rfl, .inr ⟨ws, .inl (.inl (S.sub _ _ h1)), h2.length.symm⟩, q.now S (.int _)⟩)
  · cases e
    cases r with
    | cons r t =>
      cases t
      obtain ⟨a, ws, o, rfl, h1, _, h2⟩ := r.ptup
      exact .inl (.inl ⟨_, _, rfl, .inr ⟨ws, .inl (.inr ⟨o, S.sub _ _ h1⟩), h2.length.symm⟩, q.now S (.int _)⟩)
  · cases e
    cases r with
    | cons r t =>
      cases t
      obtain ⟨a, ws, rfl, h1, h2⟩ := r.dT S.sub
      refine .inl (.inr ⟨_, _, rfl, h1, ?_⟩)
      rw [h2.length]
      exact q.now S (.int _)
  · cases e
    cases r with
    | cons r t =>
      cases t
      obtain ⟨a, ws, rfl, h1, h2⟩ := r.dK S.sub
      refine .inr ⟨_, _, rfl, h1, ?_⟩
      rw [h2.length]
      exact q.now S (.int _)
  · cases e
/-! list(x), tuple(x) -/
def gListS : List D → Option D
  | [.list xs] => some (.list xs)
  | [.tuple xs] => some (.list xs)
  | [.ptup xs] => some (.list xs)
  | _ => none
theorem rc_list : RCN X (fun xs H Q => ∃ p ys, xs = [.ref p] ∧ (SqL X.K H p ys ∨ SqT X.K H p ys) ∧ ∀ l, H l = none → Q (.ref l) (upd H l (.lst ys))) gListS := fun B env ds σ Hf H args d vs Q S r e q => by
  unfold gListS at e
  split at e
  · cases e
    cases r with
    | cons r t =>
      cases t
      obtain ⟨a, ws, rfl, h1, h2⟩ := r.lst S.sub
      exact ⟨_, ws, rfl, .inl (.inl (.inl h1)), q.lst S h2⟩
  · cases e
    cases r with
    | cons r t =>
      cases t
      obtain ⟨a, ws, rfl, h1, h2⟩ := r.tup
      exact ⟨_, ws, rfl, .inr (.inl (.inl (S.sub _ _ h1))), q.lst S h2⟩
  · cases e
    cases r with
    | cons r t =>
      cases t
      obtain ⟨a, ws, o, rfl, h1, _, h2⟩ := r.ptup
      exact ⟨_, ws, rfl, .inr (.inl (.inr ⟨o, S.sub _ _ h1⟩)), q.lst S h2⟩
  · cases e
def gTupS : List D → Option D
  | [.list xs] => some (.tuple xs)
  | [.tuple xs] => some (.tuple xs)
  | [.ptup xs] => some (.ptup xs)
  | _ => none
theorem rc_tuple : RCF X (fun xs H Q => ∃ p ys, xs = [.ref p] ∧ ((SqL X.K H p ys ∧ ∀ l, H l = none → Q (.ref l) (upd H l (.tup ys))) ∨ (SqT X.K H p ys ∧ Q (.ref p) H))) gTupS := fun B env ds σ Hf H args d vs Q S r e q => by
  unfold gTupS at e
  split at e
  · cases e
    cases r with
    | cons r t =>
      cases t
      obtain ⟨a, ws, rfl, h1, h2⟩ := r.lst S.sub
      exact ⟨_, ws, rfl, .inl ⟨.inl (.inl h1), q.tup S h2⟩⟩
  · cases e
    cases r with
    | cons r t =>
      cases t
      obtain ⟨a, ws, rfl, h1, h2⟩ := r.tup
      exact ⟨_, ws, rfl, .inr ⟨.inl (.inl (S.sub _ _ h1)), q.now S (.tup h1 h2)⟩⟩
  · cases e
    cases r with
    | cons r t =>
      cases t
      obtain ⟨a, ws, o, rfl, h1, hd, h2⟩ := r.ptup
      exact ⟨_, ws, rfl, .inr ⟨.inl (.inr ⟨o, S.sub _ _ h1⟩), q.now S (.ptup h1 hd h2)⟩⟩
  · cases e
/-! all, sum, max, min -/
def gAll : List D → Option D
  | [.list xs] => (match bools? xs with
    | some bs => some (.bool (bs.all id))
    | none => none)
  | _ => none
theorem rc_all : RCF X (rAll X.K) gAll := fun B env ds σ Hf H args d vs Q S r e q => by
  unfold gAll at e
  split at e
  · split at e
    · rename_i bs hb
      cases e
      cases r with
      | cons r t =>
        cases t
        obtain ⟨a, ws, rfl, h1, h2⟩ := r.lst S.sub
        rw [bools_eq hb] at h2
        rw [rpl_bools h2] at h1
        exact ⟨a, bs, rfl, .inl (.inl h1), q.now S (.bl _)⟩
    · cases e
  · cases e
def gSum : List D → Option D
  | [.list xs] => (match ints? xs with
    | some ns => some (.int ns.sum)
    | none => none)
  | _ => none
theorem rc_sum : RCF X (rSum X.K) gSum := fun B env ds σ Hf H args d vs Q S r e q => by
  unfold gSum at e
  split at e
  · split at e
    · rename_i bs hb
      cases e
      cases r with
      | cons r t =>
        cases t
        obtain ⟨a, ws, rfl, h1, h2⟩ := r.lst S.sub
        rw [ints_eq hb] at h2
        rw [rpl_ints h2] at h1
        exact ⟨a, bs, rfl, .inl (.inl h1), q.now S (.int _)⟩
    · cases e
  · cases e
def maxI (m : Int) : List Int → Int
  | [] => m
  | x :: r => (match decide (m < x) with
    | true => maxI x r
    | false => maxI m r)
theorem maxI_ge : ∀ (l : List Int) (m : Int), m ≤ maxI m l ∧ (∀ y ∈ l, y ≤ maxI m l) ∧ (maxI m l = m ∨ maxI m l ∈ l)
  | [], m => ⟨Int.le_refl _, fun y h => absurd h (by simp), .inl rfl⟩
  | x :: r, m => by
    unfold maxI
    cases q : decide (m < x) with
    | true =>
      have q := of_decide_eq_true q
      obtain ⟨h1, h2, h3⟩ := maxI_ge r x
      simp only []
      refine ⟨by omega, fun y hy => ?_, ?_⟩
      · rcases List.mem_cons.mp hy with rfl | hy
        · exact h1
        · exact h2 y hy
      · rcases h3 with h3 | h3
        · exact .inr (by rw [h3]; exact List.mem_cons_self ..)
        · exact .inr (List.mem_cons_of_mem _ h3)
    | false =>
      have q := of_decide_eq_false q
      obtain ⟨h1, h2, h3⟩ := maxI_ge r m
      simp only []
      refine ⟨h1, fun y hy => ?_, ?_⟩
      · rcases List.mem_cons.mp hy with rfl | hy
        · omega
        · exact h2 y hy
      · rcases h3 with h3 | h3
        · exact .inl h3
        · exact .inr (List.mem_cons_of_mem _ h3)
def gMaxL : List D → Option D
  | [.list xs] => (match ints? xs with
    | some (n :: ns) => some (.int (maxI n ns))
    | _ => none)
  | _ => none
theorem rc_maxL : RCF X (rMax X.K) gMaxL := fun B env ds σ Hf H args d vs Q S r e q => by
  unfold gMaxL at e
  split at e
  · split at e
    · rename_i n ns hb
      cases e
      cases r with
      | cons r t =>
        cases t
        obtain ⟨a, ws, rfl, h1, h2⟩ := r.lst S.sub
        rw [ints_eq hb] at h2
        rw [rpl_ints h2] at h1
        refine ⟨a, n :: ns, rfl, .inl (.inl h1), by simp, fun m hm hle => ?_⟩
        obtain ⟨g1, g2, g3⟩ := maxI_ge ns n
        have : m = maxI n ns := by
          apply Int.le_antisymm
          · rcases List.mem_cons.mp hm with rfl | hm
            · exact g1
            · exact g2 m hm
          · rcases g3 with g3 | g3
            · rw [g3]; exact hle n (List.mem_cons_self ..)
            · exact hle _ (List.mem_cons_of_mem _ g3)
        subst this
        exact q.now S (.int _)
    · cases e
  · cases e
def gMax2 : List D → Option D
  | [.int i, .int j] => some (.int (if j > i then j else i))
  | _ => none
def gMin2 : List D → Option D
  | [.int i, .int j] => some (.int (if j < i then j else i))
  | _ => none
theorem rc_max2 : RCF X (fun xs H Q => ∃ i j, xs = [.int i, .int j] ∧ Q (.int (if j > i then j else i)) H) gMax2 := fun B env ds σ Hf H args d vs Q S r e q => by
  unfold gMax2 at e
  split at e
  · cases e
    cases r with
    | cons r t =>
      cases t with
      | cons r2 t =>
        cases t
        cases r.int
        cases r2.int
        exact ⟨_, _, rfl, q.now S (.int _)⟩
  · cases e
theorem rc_min2 : RCF X (fun xs H Q => ∃ i j, xs = [.int i, .int j] ∧ Q (.int (if j < i then j else i)) H) gMin2 := fun B env ds σ Hf H args d vs Q S r e q => by
  unfold gMin2 at e
  split at e
  · cases e
    cases r with
    | cons r t =>
      cases t with
      | cons r2 t =>
        cases t
        cases r.int
        cases r2.int
        exact ⟨_, _, rfl, q.now S (.int _)⟩
  · cases e
/-! sorted, of ints -/
def insI (x : Int) : List Int → List Int
  | [] => [x]
  | y :: r => (match decide (x ≤ y) with
    | true => x :: y :: r
    | false => y :: insI x r)
def isort : List Int → List Int
  | [] => []
  | x :: r => insI x (isort r)
theorem insI_perm (x : Int) : ∀ l : List Int, (insI x l).Perm (x :: l)
  | [] => .refl _
  | y :: r => by
    unfold insI
    split
    · exact .refl _
    · exact ((insI_perm x r).cons y).trans (.swap x y r)
theorem insI_mem {x z : Int} {l : List Int} : z ∈ insI x l → z = x ∨ z ∈ l := fun h => List.mem_cons.mp ((insI_perm x l).mem_iff.mp h)
theorem insI_sorted (x : Int) : ∀ {l : List Int}, l.Pairwise (· ≤ ·) → (insI x l).Pairwise (· ≤ ·)
  | [], _ => by simp [insI]
  | y :: r, h => by
    unfold insI
    obtain ⟨h1, h2⟩ := List.pairwise_cons.mp h
    split
    · rename_i e
      have e := of_decide_eq_true e
      exact List.pairwise_cons.mpr ⟨fun z hz => by
        rcases List.mem_cons.mp hz with rfl | hz
        · exact e
        · exact Int.le_trans e (h1 z hz), h⟩
    · rename_i e
      have e := of_decide_eq_false e
      exact List.pairwise_cons.mpr ⟨fun z hz => by
        rcases insI_mem hz with rfl | hz
        · omega
        · exact h1 z hz, insI_sorted x h2⟩
theorem isort_perm : ∀ l : List Int, (isort l).Perm l
  | [] => .refl _
  | x :: r => (insI_perm x (isort r)).trans ((isort_perm r).cons x)
theorem isort_sorted : ∀ l : List Int, (isort l).Pairwise (· ≤ ·)
  | [] => .nil
  | x :: r => insI_sorted x (isort_sorted r)
theorem isort_only {l l' : List Int} (h : l'.Perm l) (s : l'.Pairwise (· ≤ ·)) : l' = isort l :=
  List.Perm.eq_of_pairwise (fun a b _ _ h1 h2 => Int.le_antisymm h1 h2) s (isort_sorted l) (h.trans (isort_perm l).symm)
def rSorted2 (X : Cx) : List V → Hp → VK → Prop := fun vs H Q => rSortedI X.K vs H Q ∨ rSortedA X.K vs H Q
theorem cr_sorted2 : CallR X (.builtin "sorted") (rSorted2 X) := CallR.or cr_sortedI cr_sortedA
def gSorted : List D → Option D
  | [.list xs] => (match ints? xs with
    | some ns => some (.list ((isort ns).map D.int))
    | none => none)
  | [.tuple xs] => (match ints? xs with
    | some ns => some (.list ((isort ns).map D.int))
    | none => none)
  | [.ptup xs] => (match ints? xs with
    | some ns => some (.list ((isort ns).map D.int))
    | none => none)
  | _ => none
theorem rc_sorted : RCN X (rSorted2 X) gSorted := fun B env ds σ Hf H args d vs Q S r e q => by
  unfold gSorted at e
  split at e
  · split at e
    · rename_i ns hb
      cases e
      cases r with
      | cons r t =>
        cases t
        obtain ⟨a, ws, rfl, h1, h2⟩ := r.lst S.sub
        rw [ints_eq hb] at h2
        rw [rpl_ints h2] at h1
        refine .inl ⟨a, ns, rfl, .inl (.inl h1), fun ns' p hp hs hn => ?_⟩
        rw [isort_only hp hs]
        exact q.lst S (ints_rpl _) p hn
    · cases e
  · split at e
    · rename_i ns hb
      cases e
      cases r with
      | cons r t =>
        cases t
        obtain ⟨a, ws, rfl, h1, h2⟩ := r.tup
        rw [ints_eq hb] at h2
        rw [rpl_ints h2] at h1
        refine .inr ⟨a, ns, rfl, .inl (.inl (S.sub _ _ h1)), fun ns' p hp hs hn => ?_⟩
        rw [isort_only hp hs]
        exact q.lst S (ints_rpl _) p hn
    · cases e
  · split at e
    · rename_i ns hb
      cases e
      cases r with
      | cons r t =>
        cases t
        obtain ⟨a, ws, o, rfl, h1, _, h2⟩ := r.ptup
        rw [ints_eq hb] at h2
        rw [rpl_ints h2] at h1
        refine .inr ⟨a, ns, rfl, .inl (.inr ⟨o, S.sub _ _ h1⟩), fun ns' p hp hs hn => ?_⟩
        rw [isort_only hp hs]
        exact q.lst S (ints_rpl _) p hn
    · cases e
  · cases e
end
/-! ### isinstance(e, T) -/
inductive Ty where
  | int | bool | str | list | tuple | dict
def Ty.nm : Ty → String
  | .int => "int"
  | .bool => "bool"
  | .str => "str"
  | .list => "list"
  | .tuple => "tuple"
  | .dict => "dict"
def tyD : D → String
  | .none => "NoneType"
  | .bool _ => "bool"
  | .int _ => "int"
  | .str _ => "str"
  | .list _ => "list"
  | .tuple _ => "tuple"
  | .ptup _ => "tuple"
  | .dT _ => "dict"
  | .dK _ => "dict"
def isi : Ty → D → Bool
  | .int, .int _ => true
  | .int, .bool _ => true
  | .bool, .bool _ => true
  | .str, .str _ => true
  | .list, .list _ => true
  | .tuple, .tuple _ => true
  | .tuple, .ptup _ => true
  | .dict, .dT _ => true
  | .dict, .dK _ => true
  | _, _ => false
theorem isi_kit (t : Ty) (d : D) : kitB (tyD d) t.nm = some (isi t d) := by
  cases t <;> cases d <;> kernel_rfl
def dIsi (t : Ty) (f : Den) : Den := fun env ds => bnd (f env ds) fun a s => some (.bool (isi t a), s)
section
variable {X : Cx} {e : Expr} {f : Den} {p p2 pos : Pos}
def rIsi2 (X : Cx) : List V → Hp → VK → Prop := fun xs H Q => rIsi X.K xs H Q ∨ rIsiD X.K xs H Q
theorem cr_isi2 : CallR X (.builtin "isinstance") (rIsi2 X) := CallR.or call_isi call_isiD
theorem evf_isi (t : Ty) {tn : Str} (hv : bootBuiltins tn = some (.type t.nm)) (hm : X.mg "isinstance" = none) (hmt : X.mg tn = none) (he : EvR X e f) (hgt : Gl X tn := by rfl) (hg : Gl X "isinstance" := by rfl) (hnt : tn ≠ "__name__" := by decide) (hdt : (tn == ("__debug__" : Str)) = false := by decide)
    (hs : starEach [e, .Name tn p2] X.env = (false, eval e X.env) :: starEach [.Name tn p2] X.env := by rfl) (hs2 : starEach [.Name tn p2] X.env = (false, eval (.Name tn p2) X.env) :: starEach [] X.env := by rfl) (hpl : (backTo pos (starEach [.Name tn p2] X.env)).any (·.1) = false := by rfl) :
    EvF X (.Call (.Name "isinstance" p) [e, .Name tn p2] [] pos) (dIsi t f) := fun B env ds σ Hf H d ds' S hf Q q => by
  obtain ⟨a, s1, e1, e2⟩ := bnd_eq hf
  cases e2
  refine SE.of (pe_callB cr_isi2 hg hm boot_isinstance (pa_cons (pe_se X e) (pa_cons (pe_bltn (v := .ty t.nm) hgt hmt hv rfl hnt hdt) pa_nil hs2) hs) (by decide) (by decide) hs hpl) ?_
  refine he B env ds σ Hf H _ _ S e1 _ fun v Hf1 H1 g1 S1 r1 => ?_
  have k := isi_kit t a
  have fin : Q (.bl (isi t a)) H1 := q _ _ _ g1 S1 (.bl _)
  have base : ∀ {tv : Value}, TyX X.K H1 v tv → tv = .type (tyD a) → rIsi2 X [v, .ty t.nm] H1 Q := fun {tv} h eq => by
    subst eq
    exact .inl ⟨v, .ty t.nm, _, .type t.nm, _, rfl, .ty _, h, kit_ty k, fin⟩
  cases a with
  | none => cases r1.non; exact base (.base .non) rfl
  | bool b => cases r1.bl; exact base (.base (.bl _)) rfl
  | int i => cases r1.int; exact base (.base (.int _)) rfl
  | str x => cases r1.str; exact base (.base (.str _)) rfl
  | list xs =>
    obtain ⟨c, ws, rfl, h1, h2⟩ := r1.lst S1.sub
    exact base (.base (.lst h1)) rfl
  | tuple xs =>
    obtain ⟨c, ws, rfl, h1, h2⟩ := r1.tup
    exact base (.base (.tup (S1.sub _ _ h1))) rfl
  | ptup xs =>
    obtain ⟨c, ws, o, rfl, h1, _, h2⟩ := r1.ptup
    exact base (.fTuple (S1.sub _ _ h1)) rfl
  | dT kvs =>
    obtain ⟨c, ws, rfl, h1, h2⟩ := r1.dT S1.sub
    exact .inr ⟨c, .ty t.nm, .type t.nm, _, rfl, .ty _, .inl ⟨_, h1⟩, kit_ty k, fin⟩
  | dK kvs =>
    obtain ⟨c, ws, rfl, h1, h2⟩ := r1.dK S1.sub
    exact .inr ⟨c, .ty t.nm, .type t.nm, _, rfl, .ty _, .inr ⟨_, h1⟩, kit_ty k, fin⟩
end
/-! ### ranges as values -/
def rgS (a c : Int) : Nat → List D
  | 0 => []
  | n + 1 => .int a :: rgS (a + c) c n
theorem rgV_rp {Hf : Hp} (a : Int) : ∀ (n : Nat) (b : Int), b = a → RpL Hf ((List.range n).map fun i => V.int (b + (i : Nat))) (rgD b n) := by
  intro n b _
  induction n generalizing b a with
  | zero => exact .nil
  | succ n ih =>
    rw [List.range_succ_eq_map, List.map_cons, List.map_map]
    have e : (fun i : Nat => V.int (b + (i : Nat))) ∘ Nat.succ = fun i : Nat => V.int (b + 1 + (i : Nat)) := by
      funext i
      show V.int (b + ((i + 1 : Nat) : Int)) = _
      congr 1
      omega
    rw [e]
    have z : (b + ((0 : Nat) : Int)) = b := by simp
    rw [z]
    exact .cons (.int b) (ih (b + 1) (b + 1) rfl)
theorem rgV_rpl {Hf : Hp} (a b : Int) : RpL Hf (rgV a b) (rgD a (b - a).toNat) := rgV_rp a _ a rfl
theorem rgS_rp {Hf : Hp} (c : Int) : ∀ (n : Nat) (b : Int), RpL Hf ((List.range n).map fun i => V.int (b + (i : Nat) * c)) (rgS b c n) := by
  intro n
  induction n with
  | zero => intro b; exact .nil
  | succ n ih =>
    intro b
    rw [List.range_succ_eq_map, List.map_cons, List.map_map]
    have e : (fun i : Nat => V.int (b + (i : Nat) * c)) ∘ Nat.succ = fun i : Nat => V.int (b + c + (i : Nat) * c) := by
      funext i
      show V.int (b + ((i + 1 : Nat) : Int) * c) = _
      congr 1
      rw [Int.natCast_succ, Int.add_mul]
      omega
    rw [e]
    have z : (b + ((0 : Nat) : Int) * c) = b := by simp
    rw [z]
    exact .cons (.int b) (ih (b + c))
def dTupI (g : DenA) : Den := fun env ds => bnd (g env ds) fun xs s => if xs.length ≤ 100000 then some (.tuple xs, s) else none
def dLstI (g : DenA) : Den := fun env ds => bnd (g env ds) fun xs s => if xs.length ≤ 100000 then some (.list xs, s) else none
/-- an expression that makes a range -/
def EvRg (X : Cx) (e : Expr) (g : DenA) : Prop := ∃ te, PRg X e te ∧ ∀ B env ds σ Hf H items ds', SR B X.K env ds σ Hf H → g env ds = some (items, ds') → ∀ Q : Int → Int → Hp → Prop,
  (∀ a b Hf' H', Gr B Hf H Hf' H' → SR B X.K env ds' σ Hf' H' → (-100000 < a ∧ a < 100000 ∧ -100000 < b ∧ b < 100000) → items = rgD a (b - a).toNat → Q a b H') → te σ H Q
section
variable {X : Cx} {a b e : Expr} {f h : Den} {g : DenA} {p pos : Pos}
theorem evrg_1 (hm : X.mg "range" = none) (ha : EvR X a f) (hg : Gl X "range" := by rfl) (hs : starEach [a] X.env = (false, eval a X.env) :: starEach [] X.env := by rfl) : EvRg X (.Call (.Name "range" p) [a] [] pos) (dRg1 f) := ⟨_, prg_1 hg hm (pe_se X a) hs, fun B env ds σ Hf H items ds' S he Q q => by
  obtain ⟨v1, s1, e1, e⟩ := bnd_eq he
  cases v1 with
  | int n =>
    have e : (if n < 100000 ∧ -100000 < n then some (rgD 0 n.toNat, s1) else none) = some (items, ds') := e
    split at e
    · rename_i hn
      cases e
      refine ha B env ds σ Hf H _ _ S e1 _ fun v Hf1 H1 g1 S1 r1 => ?_
      cases r1.int
      exact ⟨n, rfl, q 0 n _ _ g1 S1 ⟨by omega, by omega, hn.2, hn.1⟩ (by rw [Int.sub_zero])⟩
    · cases e
  | _ => cases e⟩
theorem evrg_2 (hm : X.mg "range" = none) (ha : EvR X a f) (hb : EvR X b h) (hg : Gl X "range" := by rfl) (hs : starEach [a, b] X.env = (false, eval a X.env) :: starEach [b] X.env := by rfl) (hs2 : starEach [b] X.env = (false, eval b X.env) :: starEach [] X.env := by rfl) (hpl : (backTo pos (starEach [b] X.env)).any (·.1) = false := by rfl) :
    EvRg X (.Call (.Name "range" p) [a, b] [] pos) (dRg2 f h) := ⟨_, prg_2 hg hm (pe_se X a) (pe_se X b) hs hs2 hpl, fun B env ds σ Hf H items ds' S he Q q => by
  obtain ⟨v1, s1, e1, e⟩ := bnd_eq he
  obtain ⟨v2, s2, e2, e⟩ := bnd_eq e
  cases v1 with
  | int i =>
    cases v2 with
    | int j =>
      have e : (if -100000 < i ∧ i < 100000 ∧ -100000 < j ∧ j < 100000 then some (rgD i (j - i).toNat, s2) else none) = some (items, ds') := e
      split at e
      · rename_i hn
        cases e
        refine ha B env ds σ Hf H _ _ S e1 _ fun v Hf1 H1 g1 S1 r1 => hb B env s1 σ Hf1 H1 _ _ S1 e2 _ fun v2 Hf2 H2 g2 S2 r2 => ?_
        cases r1.int
        cases r2.int
        exact ⟨i, j, rfl, rfl, q i j _ _ (g1.trans g2) S2 hn rfl⟩
      · cases e
    | _ => cases e
  | _ => cases e⟩
theorem evn_listRg (hc : X.calm = true) (hm : X.mg "list" = none) (he : EvRg X e g) (hg : Gl X "list" := by rfl) (hs : starEach [e] X.env = (false, eval e X.env) :: starEach [] X.env := by rfl) : EvN X (.Call (.Name "list" p) [e] [] pos) (dLstI g) := fun B env ds σ Hf H d ds' S hf Q q => by
  obtain ⟨te, pt, kt⟩ := he
  obtain ⟨items, s1, e1, e2⟩ := bnd_eq hf
  split at e2
  · cases e2
    refine SE.of (pe_listRg hc hg hm pt hs) (kt B env ds σ Hf H _ _ S e1 _ fun a b Hf1 H1 g1 S1 hb ei => ?_)
    refine ⟨⟨by omega, by omega, by omega, by omega, by omega⟩, ?_⟩
    rw [ei] at q
    exact (q.step g1).lst S1 (rgV_rpl a b)
  · cases e2
theorem evf_tupRg (hc : X.calm = true) (hm : X.mg "tuple" = none) (he : EvRg X e g) (hg : Gl X "tuple" := by rfl) (hs : starEach [e] X.env = (false, eval e X.env) :: starEach [] X.env := by rfl) : EvF X (.Call (.Name "tuple" p) [e] [] pos) (dTupI g) := fun B env ds σ Hf H d ds' S hf Q q => by
  obtain ⟨te, pt, kt⟩ := he
  obtain ⟨items, s1, e1, e2⟩ := bnd_eq hf
  split at e2
  · cases e2
    refine SE.of (pe_tupRg hc hg hm pt hs) (kt B env ds σ Hf H _ _ S e1 _ fun a b Hf1 H1 g1 S1 hb ei => ?_)
    refine ⟨⟨by omega, by omega, by omega, by omega, by omega⟩, ?_⟩
    rw [ei] at q
    exact (q.step g1).tup S1 (rgV_rpl a b)
  · cases e2
/-! tuple(range(a, b, -1)) -/
def dRg3 (f h : Den) : DenA := fun env ds => bnd (f env ds) fun a s => bnd (h env s) fun b s1 => match a, b with
  | .int i, .int j => if -100000 < i ∧ i < 100000 ∧ -100000 < j ∧ j < 100000 then some (rgS i (-1) (i - j).toNat, s1) else none
  | _, _ => none
theorem evf_tupRg3 {p2 pos2 p3 p4 : Pos} {k : Nat} (hc : X.calm = true) (hm : X.mg "tuple" = none) (hmr : X.mg "range" = none) (ha : EvR X a f) (hb : EvR X b h) (hg : Gl X "tuple" := by rfl) (hgr : Gl X "range" := by rfl)
    (hs0 : starEach [.Call (.Name "range" p2) [a, b, .UnaryOp .USub (.Constant (.int 1) k p3) p4] [] pos2] X.env = (false, eval (.Call (.Name "range" p2) [a, b, .UnaryOp .USub (.Constant (.int 1) k p3) p4] [] pos2) X.env) :: starEach [] X.env := by rfl)
    (hs : starEach [a, b, .UnaryOp .USub (.Constant (.int 1) k p3) p4] X.env = (false, eval a X.env) :: starEach [b, .UnaryOp .USub (.Constant (.int 1) k p3) p4] X.env := by rfl) (hs1 : starEach [b, .UnaryOp .USub (.Constant (.int 1) k p3) p4] X.env = (false, eval b X.env) :: starEach [.UnaryOp .USub (.Constant (.int 1) k p3) p4] X.env := by rfl)
    (hs2 : starEach [.UnaryOp .USub (.Constant (.int 1) k p3) p4] X.env = (false, eval (.UnaryOp .USub (.Constant (.int 1) k p3) p4) X.env) :: starEach [] X.env := by rfl) (hpl : (backTo pos2 (starEach [b, .UnaryOp .USub (.Constant (.int 1) k p3) p4] X.env)).any (·.1) = false := by rfl) :
    EvF X (.Call (.Name "tuple" p) [.Call (.Name "range" p2) [a, b, .UnaryOp .USub (.Constant (.int 1) k p3) p4] [] pos2] [] pos) (dTupI (dRg3 f h)) := fun B env ds σ Hf H d ds' S hf Q q => by
  obtain ⟨items, s3, e0, e2⟩ := bnd_eq hf
  split at e2
  · cases e2
    obtain ⟨v1, s1, e1, e⟩ := bnd_eq e0
    obtain ⟨v2, s2, e3, e⟩ := bnd_eq e
    cases v1 with
    | int i =>
      cases v2 with
      | int j =>
        have e : (if -100000 < i ∧ i < 100000 ∧ -100000 < j ∧ j < 100000 then some (rgS i (-1) (i - j).toNat, s2) else none) = some (items, ds') := e
        split at e
        · rename_i hn
          cases e
          intro pins s I
          have hneg : EvF X (.UnaryOp .USub (.Constant (.int 1) k p3) p4) (d1 gNeg (dC (.int 1))) := evf_neg (EvF.r evf_int)
          refine Call_ (ld_blt I hg hm boot_tuple (PyProof.Rows.callWith_type1 (args_cons ?_ hs0) hs0))
          refine Call_ (ld_blt I hgr hmr boot_range (PyProof.Rows.callWith_type1 (args_cons (thn (ha B env ds σ Hf H _ _ S e1 (fun x H1 => x = .int i ∧ ∃ Hf1, Gr B Hf H Hf1 H1 ∧ SR B X.K env s1 σ Hf1 H1) (fun v Hf1 H1 g1 S1 r1 => by cases r1.int; exact ⟨rfl, Hf1, g1, S1⟩) pins s I) fun v sA ⟨x, H1, I1, r1, ex, Hf1, g1, S1⟩ =>
            args_cons (thn (hb B env s1 σ Hf1 H1 _ _ S1 e3 (fun x H2 => x = .int j ∧ ∃ Hf2, Gr B Hf1 H1 Hf2 H2 ∧ SR B X.K env ds' σ Hf2 H2) (fun v Hf2 H2 g2 S2 r2 => by cases r2.int; exact ⟨rfl, Hf2, g2, S2⟩) pins sA I1) fun v2 sB ⟨x2, H2, I2, r2, ex2, Hf2, g2, S2⟩ =>
            args_cons (thn (hneg B env ds' σ Hf2 H2 (.int (-1)) ds' S2 rfl (fun x H3 => x = .int (-1) ∧ ∃ Hf3, Gr B Hf2 H2 Hf3 H3 ∧ SR B X.K env ds' σ Hf3 H3) (fun v Hf3 H3 g3 S3 r3 => by cases r3; exact ⟨rfl, Hf3, g3, S3⟩) pins sB I2) fun v3 sC ⟨x3, H3, I3, r3, ex3, Hf3, g3, S3⟩ => args_nil ?_) hs2) hs1) hs) hs hpl))
          subst ex ex2 ex3
          obtain ⟨t, rfl⟩ := r1
          obtain ⟨t', rfl⟩ := r2
          obtain ⟨t'', rfl⟩ := r3
          have hgc := RgC.neg (i := i) (j := j) (by omega) (by omega) (by omega) (by omega)
          obtain ⟨c0, c1, c2, c3⟩ := hgc
          refine call_range_3 c0 ?_ (.inl (PyProof.noPylong_small c1))
          have I4 : Inv X pins σ H3 { sC with heap := sC.heap.push { cls := .type "range", data := .fields #[.int i t, .int j t', .int (-1) t''] } } := I3.kept (t' := sC.toks) fun b o e => Heap.get?_push_of_some _ e
          refine args_nil ?_
          refine call_tuple_range (n := (i - j).toNat) (I3.ok.hd hc) (IsRange.new ..) c2 c3 (by omega) fun h' tk acc hk hi => ?_
          have I5 : Inv X pins σ H3 { sC with heap := h', toks := tk } := I4.kept hk
          have rv : Vals ((List.range (i - j).toNat).map fun m => V.int (i + (m : Nat) * (-1))) acc.toList := by
            have e : acc.toList.length = (i - j).toNat := by rw [Array.length_toList]; exact hi.1
            rw [← e]
            refine vals_of_get acc.toList _ fun m u hm => ?_
            obtain ⟨t, rfl⟩ := hi.2 m u (by rw [← hm, Array.getElem?_toList])
            exact ⟨t, rfl⟩
          have qq := (q.step ((g1.trans g2).trans g3)).tup S3 (rgS_rp (Hf := Hf3) (-1) (i - j).toNat i)
          refine ⟨.ref h'.objs.size, upd H3 h'.objs.size (.tup ((List.range (i - j).toNat).map fun m => V.int (i + (m : Nat) * (-1)))), I5.laid (t' := tk) (fun c o e => Heap.get?_push_of_some _ e) (Nat.le_refl _) ⟨?_, acc.toList, rv, ?_⟩, rfl, qq _ I5.fresh⟩
          · rw [List.length_map, List.length_range, sizeLine_eq]; omega
          · rw [Array.toArray_toList]; exact IsTup.new _ _
        · cases e
      | _ => cases e
    | _ => cases e
  · cases e2
end
end L2.Dn
set_option Elab.async false
set_option linter.all false
set_option maxRecDepth 100000
/-! two clauses; t.index(x), d.get(k, x) -/
namespace L2.Dn
open PySem PySem.Spec PyProof.Rows
/-- a target makes no own slot -/
def GOk (ts : List Nat) (g : DenG) : Prop := ∀ d env env' j x, g d env = some env' → env'[j]? = some (some (.own x)) → j ∉ ts ∧ env[j]? = some (some (.own x))
def GsOk (ts : List Nat) (g : List D → En → Option En) : Prop := ∀ d env env' j x, g d env = some env' → env'[j]? = some (some (.own x)) → j ∉ ts ∧ env[j]? = some (some (.own x))
theorem gok_nm (i : Nat) : GOk [i] (gNm i) := fun d env env' j x e h => by
  cases e
  by_cases q : i = j
  · subst q
    rw [List.getElem?_set_self'] at h
    cases z : env[i]? with
    | none => rw [z] at h; cases h
    | some y => rw [z] at h; cases h
  · rw [List.getElem?_set_ne q] at h
    exact ⟨by simp; omega, h⟩
theorem gok_nil : GsOk [] gsNil := fun d env env' j x e h => by
  cases d with
  | nil => cases e; exact ⟨by simp, h⟩
  | cons _ _ => cases e
theorem gok_cons {ts us : List Nat} {g : DenG} {gs : List D → En → Option En} (h1 : GOk ts g) (h2 : GsOk us gs) : GsOk (ts ++ us) (gsCons g gs) := fun d env env' j x e h => by
  cases d with
  | nil => cases e
  | cons d r =>
    have e : (match g d env with | none => none | some env' => gs r env') = some env' := e
    cases q : g d env with
    | none => rw [q] at e; cases e
    | some env1 =>
      rw [q] at e
      obtain ⟨a1, a2⟩ := h2 r env1 env' j x e h
      obtain ⟨b1, b2⟩ := h1 d env env1 j x q a2
      exact ⟨fun z => (List.mem_append.mp z).elim b1 a1, b2⟩
theorem gok_tp {ts : List Nat} {gs : List D → En → Option En} (h1 : GsOk ts gs) : GOk ts (gTp gs) := fun d env env' j x e h => by
  unfold gTp at e
  split at e
  · exact h1 _ _ _ _ _ e h
  · cases e
theorem wipeE_some {env : En} {j : Nat} {s : Sl} : ∀ {vs : List Nat}, (wipeE env vs)[j]? = some (some s) → j ∉ vs ∧ env[j]? = some (some s)
  | [], h => ⟨by simp, h⟩
  | v :: vs, h => by
    have h : ((wipeE env vs).set v none)[j]? = some (some s) := h
    by_cases e : v = j
    · subst e
      rw [List.getElem?_set_self'] at h
      cases z : (wipeE env vs)[v]? with
      | none => rw [z] at h; cases h
      | some y => rw [z] at h; cases h
    · rw [List.getElem?_set_ne e] at h
      obtain ⟨a, b⟩ := wipeE_some h
      exact ⟨by simp; exact ⟨fun z => e z.symm, a⟩, b⟩
/-- an inner block's state beside its outer one's -/
theorem SR.inner {B : Bs} {K : PySem.W.Frag} {env env' : En} {ds dt : DS} {σ σ' : St} {Hf H Hf0 H0 : Hp} {ts own : List Nat} {g : DenG} {d : D} (S : SR B K env ds σ Hf H) (S' : SR B K env' dt σ' Hf0 H0) (s : Same Hf0 Hf) (ok : GOk ts g) (eg : g d (wipeE env own) = some env') (o : ∀ j, j ∉ ts → σ'[j]? = (L2.wipe σ own)[j]?) : SR B K env' ds σ' Hf H := by
  have own' : ∀ j x, env'[j]? = some (some (Sl.own x)) → env[j]? = some (some (Sl.own x)) ∧ σ'[j]? = σ[j]? := fun j x e => by
    obtain ⟨h1, h2⟩ := ok _ _ _ _ _ eg e
    obtain ⟨h3, h4⟩ := wipeE_some h2
    exact ⟨h4, (o j h1).trans (wipe_out h3)⟩
  exact {
    sub := S.sub
    base := S.base
    fbase := S.fbase
    fnew := S.fnew
    slots := fun i sl e => by
      have h := S'.slots i sl e
      cases sl with
      | val d =>
        obtain ⟨v, e1, r⟩ := h
        exact ⟨v, e1, r.up s⟩
      | own d =>
        obtain ⟨e1, e2⟩ := own' i d e
        obtain ⟨a, h1, h2⟩ := S.slots i _ e1
        exact ⟨a, e2.trans h1, h2⟩
      | draw => exact h
      | scr ns => exact h
    apart := fun i j d e a hne h1 h2 h3 h4 => by
      obtain ⟨a1, a2⟩ := own' i d h1
      obtain ⟨b1, b2⟩ := own' j e h2
      exact S.apart i j d e a hne a1 b1 (a2 ▸ h3) (b2 ▸ h4)
    draw := S.draw
    len := S'.len }
def lc2Loop (gg : DenG) (t : DenT) (gi1 : DenA) (vs1 : List Nat) (gg1 : DenG) (t1 : DenT) (fe : Den) (env0 : En) : List D → DS → Option (List D × DS)
  | [], s => some ([], s)
  | d :: r, s => match gg d env0 with
    | none => none
    | some env' => bnd (t env' s) fun b s1 => match b with
      | false => lc2Loop gg t gi1 vs1 gg1 t1 fe env0 r s1
      | true => bnd (gi1 env' s1) fun items1 s2 => bnd (lcLoop gg1 t1 fe (wipeE env' vs1) items1 s2) fun ys s3 => bnd (lc2Loop gg t gi1 vs1 gg1 t1 fe env0 r s3) fun zs s4 => some (ys ++ zs, s4)
def dLc2 (gi : DenA) (own : List Nat) (gg : DenG) (t : DenT) (gi1 : DenA) (vs1 : List Nat) (gg1 : DenG) (t1 : DenT) (fe : Den) : Den := fun env ds => bnd (gi env ds) fun items s => bnd (lc2Loop gg t gi1 vs1 gg1 t1 fe (wipeE env own) items s) fun r s' => if r.length ≤ 100000 then some (.list r, s') else none
theorem lc2Loop_cons {gg gg1 : DenG} {t t1 : DenT} {gi1 : DenA} {vs1 : List Nat} {fe : Den} {env0 : En} {d : D} {r : List D} {s s' : DS} {ys : List D} (h : lc2Loop gg t gi1 vs1 gg1 t1 fe env0 (d :: r) s = some (ys, s')) :
    ∃ env' b s1, gg d env0 = some env' ∧ t env' s = some (b, s1) ∧ ((b = false ∧ lc2Loop gg t gi1 vs1 gg1 t1 fe env0 r s1 = some (ys, s')) ∨ (b = true ∧ ∃ items1 s2 y s3 zs, gi1 env' s1 = some (items1, s2) ∧ lcLoop gg1 t1 fe (wipeE env' vs1) items1 s2 = some (y, s3) ∧ lc2Loop gg t gi1 vs1 gg1 t1 fe env0 r s3 = some (zs, s') ∧ ys = y ++ zs)) := by
  unfold lc2Loop at h
  split at h
  · cases h
  · rename_i env' e1
    obtain ⟨b, s1, e2, h⟩ := bnd_eq h
    refine ⟨env', b, s1, e1, e2, ?_⟩
    cases b with
    | false => exact .inl ⟨rfl, h⟩
    | true =>
      obtain ⟨i, s2, e3, h⟩ := bnd_eq h
      obtain ⟨y, s3, e4, h⟩ := bnd_eq h
      obtain ⟨zs, s4, e5, h⟩ := bnd_eq h
      cases h
      exact .inr ⟨rfl, i, s2, y, s3, zs, e3, e4, e5, rfl⟩
/-- an iteration source, in all blocks -/
def SIb (X : Cx) (scope : Scope) (tg iter : Expr) (σ : St) (H : Hp) (R : It → Hp → Prop) : Prop := ∀ (s : Shared) (H0 : Hp) (C : Addr) (cl : List (Str × Addr)) (fp : List Addr), SI (X.blk s H0 scope (compEnvC scope cl C X.env) fp) tg iter σ H R
section
variable {X : Cx} {tg iter tg1 iter1 elt : Expr} {ifs ifs1 : List Expr} {scope : Scope} {own : List (Str × Nat)} {vs1 : List Nat} {pos : Pos} {gi gi1 : DenA} {ts ts1 : List Nat} {gg gg1 : DenG} {t t1 : DenT} {fe : Den}
theorem lc2_reading {tt tt1 : TT} (hi : EvI X tg iter gi) (hg : Blks X scope fun Y => EvG Y tg ts gg) (hok : GOk ts gg)
    (ht : ∀ B env ds σ Hf H d ds', SR B X.K env ds σ Hf H → t env ds = some (d, ds') → ∀ Q : Bool → Hp → Prop, CT B X.K env ds' σ Hf H d Q → tt σ H Q)
    (hi1 : Blks X scope fun Y => EvI Y tg1 iter1 gi1) (hg1 : Blks X scope fun Y => EvG Y tg1 ts1 gg1)
    (ht1 : ∀ B env ds σ Hf H d ds', SR B X.K env ds σ Hf H → t1 env ds = some (d, ds') → ∀ Q : Bool → Hp → Prop, CT B X.K env ds' σ Hf H d Q → tt1 σ H Q)
    (he : Blks X scope fun Y => EvF Y elt fe) (hts : ∀ j ∈ ts, j ∈ own.map (·.2)) (hts1 : ∀ j ∈ ts1, j ∈ vs1) {B : Bs} {env : En} {ds ds' : DS} {σ : St} {Hf H : Hp} {d : D} (S : SR B X.K env ds σ Hf H) (hf : dLc2 gi (own.map (·.2)) gg t gi1 vs1 gg1 t1 fe env ds = some (d, ds')) {Q : VK} (q : CN B X.K env ds' σ Hf H d Q) :
    ∀ (cs : Shared) (cH : Hp) (cC : Addr) (ccl : List (Str × Addr)) (cfp : List Addr), True → tLc2 (SI X tg iter) (SGb X scope tg) tt (SIb X scope tg1 iter1) (SGb X scope tg1) tt1 (SEb X scope elt) (own.map (·.2)) vs1 σ H Q := by
  intro cs cH cC ccl cfp _
  obtain ⟨items, s1, e1, e⟩ := bnd_eq hf
  obtain ⟨r, s2, e2, e⟩ := bnd_eq e
  have e : (if r.length ≤ 100000 then some (D.list r, s2) else none) = some (d, ds') := e
  split at e
  · rename_i hz
    cases e
    refine hi B env ds σ Hf H _ _ S e1 _ fun J Hf1 H1 g1 S1 y1 => ?_
    intro Dd nD
    have nD0 : H Dd = none := g1.fresh nD
    have nfD1 : Hf1 Dd = none := sub_none S1 nD
    have ndD : ¬ B.isDr Dd := S1.noDr nD
    have F : Fre B env σ Dd := S1.fre nD
    have ne3 : ∀ {Hx : Hp} {l : List V}, Hx Dd = some (.lst l) → Hx Dd ≠ none := fun h => by rw [h]; simp
    have nt3 : ∀ {Hx : Hp} {l : List V}, Hx Dd = some (.lst l) → ∀ xs, Hx Dd ≠ some (.tup xs) := fun h xs z => by rw [h] at z; cases z
    refine ⟨fun i m H' => m = items.length - i ∧ i ≤ items.length ∧ ∃ Hf' si accV acc ys, Gr B Hf1 H1 Hf' H' ∧ Hf' Dd = none ∧ SR B X.K env si σ Hf' H' ∧ H' Dd = some (.lst accV) ∧ RpL Hf' accV acc ∧ lc2Loop gg t gi1 vs1 gg1 t1 fe (wipeE env (own.map (·.2))) (items.drop i) si = some (ys, ds') ∧ acc ++ ys = r,
      ⟨items.length, by simp, Nat.zero_le _, Hf1, s1, [], [], r, Gr.refl.hp nD, nfD1, S1.hp nfD1 F, upd_same, .nil, by rw [List.drop_zero]; exact e2, by simp⟩, ?_⟩
    rintro i m H' ⟨rfl, hi', Hf', si, accV, acc, ys, g2, nfD, S2, hD, rD, el, ea⟩
    obtain ⟨yg, ys0⟩ := y1 i env si σ Hf' H' g2.ff S2
    cases hd : items.drop i with
    | nil =>
      have hl : items.length ≤ i := by
        rcases Nat.lt_or_ge i items.length with z | z
        · rw [List.drop_eq_getElem_cons z] at hd; cases hd
        · exact z
      rw [hd] at el
      cases el
      rw [List.append_nil] at ea
      subst ea
      exact .inl ⟨ys0 hl, q Dd Hf' H' (g1.trans g2) S2 nD0 nfD (.lst hD rD)⟩
    | cons it rest =>
      obtain ⟨hlt, hit, hrest⟩ := drop_at hd
      rw [hd] at el
      obtain ⟨env', b, s3, k1, k2, k3⟩ := lc2Loop_cons el
      obtain ⟨yg1, yg2⟩ := yg hlt
      refine .inr ⟨yg1, fun H2 => (items.length - (i + 1) = items.length - (i + 1) ∧ i + 1 ≤ items.length ∧ ∃ Hf' si accV acc ys, Gr B Hf1 H1 Hf' H2 ∧ Hf' Dd = none ∧ SR B X.K env si σ Hf' H2 ∧ H2 Dd = some (.lst accV) ∧ RpL Hf' accV acc ∧ lc2Loop gg t gi1 vs1 gg1 t1 fe (wipeE env (own.map (·.2))) (items.drop (i + 1)) si = some (ys, ds') ∧ acc ++ ys = r), fun H2 h2 => ⟨_, by omega, h2⟩, fun x H3 yx => ?_⟩
      obtain ⟨Hf3, g3, S3, r3⟩ := yg2 x H3 yx it hit
      intro bs bH bC bcl bfp
      refine hg bs bH bC bcl bfp B _ env' si _ Hf3 H3 it x (S3.wipe _) r3 k1 _ fun σ4 S4 l4 o4 => ?_
      refine ⟨(wipe_eq (ts := ts) l4 o4 hts).trans (wipe_idem _ _), ?_⟩
      refine ht B env' si σ4 Hf3 H3 b s3 S4 k2 _ fun Hf5 H5 g5 S5 => ?_
      have gA := (g2.trans g3).trans g5
      have hD3 : H3 Dd = some (.lst accV) := g3.at hD ndD
      have hD5 : H5 Dd = some (.lst accV) := g5.at hD3 ndD
      have rD5 : RpL Hf5 accV acc := (rD.up g3.ff).up g5.ff
      have So := (S2.moveTo g3 S3).moveTo g5 S5
      have nfD3 : Hf3 Dd = none := g3.noF nfD (ne3 hD) (nt3 hD)
      have nfD5 : Hf5 Dd = none := g5.noF nfD3 (ne3 hD3) (nt3 hD3)
      rcases k3 with ⟨rfl, k3⟩ | ⟨rfl, items1, s6, y, s7, zs, k4, k5, k6, rfl⟩
      · rw [if_neg Bool.false_ne_true]
        exact ⟨rfl, hlt, Hf5, s3, accV, acc, ys, gA, nfD5, So, hD5, rD5, by rw [hrest]; exact k3, ea⟩
      · rw [if_pos rfl]
        intro ds1 dH dC dcl dfp
        refine hi1 ds1 dH dC dcl dfp B env' s3 σ4 Hf5 H5 _ _ S5 k4 _ fun J1 Hf6 H6 g6 S6 y6 => ?_
        have hD6 : H6 Dd = some (.lst accV) := g6.at hD5 ndD
        refine ⟨fun j k H' => k = items1.length - j ∧ j ≤ items1.length ∧ ∃ Hf' sj accV acc ys, Gr B Hf1 H1 Hf' H' ∧ Same Hf6 Hf' ∧ Hf' Dd = none ∧ SR B X.K env sj σ Hf' H' ∧ H' Dd = some (.lst accV) ∧ RpL Hf' accV acc ∧ lcLoop gg1 t1 fe (wipeE env' vs1) (items1.drop j) sj = some (ys, s7) ∧ acc ++ (ys ++ zs) = r,
          ⟨items1.length, by simp, Nat.zero_le _, Hf6, s6, accV, acc, y, gA.trans g6, fun _ _ z => z, g6.noF nfD5 (ne3 hD5) (nt3 hD5), So.moveTo g6 S6, hD6, rD5.up g6.ff, by rw [List.drop_zero]; exact k5, ea⟩, ?_⟩
        rintro j k H7 ⟨rfl, hj', Hf7, sj, accV7, acc7, ys7, g7, sm7, nfD7, S7, hD7, rD7, el7, ea7⟩
        have S7' : SR B X.K env' sj σ4 Hf7 H7 := S7.inner S4 ((g5.ff.trans g6.ff).trans sm7) hok k1 o4
        obtain ⟨yg7, ys07⟩ := y6 j env' sj σ4 Hf7 H7 sm7 S7'
        cases hd7 : items1.drop j with
        | nil =>
          have hl : items1.length ≤ j := by
            rcases Nat.lt_or_ge j items1.length with z | z
            · rw [List.drop_eq_getElem_cons z] at hd7; cases hd7
            · exact z
          rw [hd7] at el7
          cases el7
          exact .inl ⟨ys07 hl, rfl, hlt, Hf7, s7, accV7, acc7, zs, g7, nfD7, S7, hD7, rD7, by rw [hrest]; exact k6, ea7⟩
        | cons it1 rest1 =>
          obtain ⟨hlt1, hit1, hrest1⟩ := drop_at hd7
          rw [hd7] at el7
          obtain ⟨env8, b8, s8, m1, m2, m3⟩ := lcLoop_cons el7
          obtain ⟨yg71, yg72⟩ := yg7 hlt1
          refine .inr ⟨yg71, fun H2 => (items1.length - (j + 1) = items1.length - (j + 1) ∧ j + 1 ≤ items1.length ∧ ∃ Hf' sj accV acc ys, Gr B Hf1 H1 Hf' H2 ∧ Same Hf6 Hf' ∧ Hf' Dd = none ∧ SR B X.K env sj σ Hf' H2 ∧ H2 Dd = some (.lst accV) ∧ RpL Hf' accV acc ∧ lcLoop gg1 t1 fe (wipeE env' vs1) (items1.drop (j + 1)) sj = some (ys, s7) ∧ acc ++ (ys ++ zs) = r), fun H2 h2 => ⟨_, by omega, h2⟩, fun x1 H8 yx1 => ?_⟩
          obtain ⟨Hf8, g8, S8, r8⟩ := yg72 x1 H8 yx1 it1 hit1
          intro es eH eC ecl efp
          refine hg1 es eH eC ecl efp B _ env8 sj _ Hf8 H8 it1 x1 (S8.wipe _) r8 m1 _ fun σ9 S9 l9 o9 => ?_
          refine ⟨(wipe_eq (ts := ts1) l9 o9 hts1).trans (wipe_idem _ _), ?_⟩
          refine ht1 B env8 sj σ9 Hf8 H8 b8 s8 S9 m2 _ fun Hf10 H10 g10 S10 => ?_
          have gB := g8.trans g10
          have hD8 : H8 Dd = some (.lst accV7) := g8.at hD7 ndD
          have hD10 : H10 Dd = some (.lst accV7) := g10.at hD8 ndD
          have nfD8 : Hf8 Dd = none := g8.noF nfD7 (ne3 hD7) (nt3 hD7)
          have nfD10 : Hf10 Dd = none := g10.noF nfD8 (ne3 hD8) (nt3 hD8)
          have rD10 : RpL Hf10 accV7 acc7 := (rD7.up g8.ff).up g10.ff
          have So10 := (S7.moveTo g8 S8).moveTo g10 S10
          rcases m3 with ⟨rfl, m3⟩ | ⟨rfl, y9, s9, zs9, m4, m5, rfl⟩
          · rw [if_neg Bool.false_ne_true]
            exact ⟨rfl, hlt1, Hf10, s8, accV7, acc7, ys7, g7.trans gB, sm7.trans gB.ff, nfD10, So10, hD10, rD10, by rw [hrest1]; exact m3, ea7⟩
          · rw [if_pos rfl]
            intro fs fH fC fcl ffp
            refine he fs fH fC fcl ffp B env8 s8 σ9 Hf10 H10 y9 s9 S10 m4 _ fun v Hf11 H11 g11 S11 r11 => ?_
            have hD11 : H11 Dd = some (.lst accV7) := g11.at hD10 ndD
            have nfD11 : Hf11 Dd = none := g11.noF nfD10 (ne3 hD10) (nt3 hD10)
            have la : accV7.length < sizeLine := by
              have h1 := rD7.length
              have h2 : (acc7 ++ (y9 :: zs9 ++ zs)).length ≤ 100000 := by rw [ea7]; exact hz
              rw [List.length_append, List.cons_append, List.length_cons] at h2
              rw [sizeLine_eq]; omega
            have S12 := (So10.moveTo g11 S11).hp (o := .lst (accV7 ++ [v])) nfD11 F
            exact ⟨accV7, hD11, la, rfl, hlt1, Hf11, s9, accV7 ++ [v], acc7 ++ [y9], zs9, ((g7.trans gB).trans g11).hp nD, (sm7.trans gB.ff).trans g11.ff, nfD11, S12, upd_same, (rD10.up g11.ff).append (.cons r11 .nil), by rw [hrest1]; exact m5, by rw [List.append_assoc]; exact ea7⟩
  · cases e
theorem evn_lc2 (hc : X.calm = true) (hN : X.N.Nodup) (ok : BlkOk X.N X.env.scope scope own) (hv : ∀ i ∈ vs1, i ∈ own.map (·.2)) (hi : EvI X tg iter gi) (hg : Blks X scope fun Y => EvG Y tg ts gg) (hok : GOk ts gg) (ht : EvTb X scope ifs t)
    (hi1 : Blks X scope fun Y => EvI Y tg1 iter1 gi1) (hg1 : Blks X scope fun Y => EvG Y tg1 ts1 gg1) (ht1 : EvTb X scope ifs1 t1) (he : Blks X scope fun Y => EvF Y elt fe) (hts : ∀ j ∈ ts, j ∈ own.map (·.2)) (hts1 : ∀ j ∈ ts1, j ∈ vs1)
    (hs : ∀ x, foldedSetIterable iter X.env x = pure x := by intro _; rfl) (hs1 : ∀ env x, foldedSetIterable iter1 env x = pure x := by intro _ _; rfl) : EvN X (.ListComp elt [⟨tg, iter, ifs, 0⟩, ⟨tg1, iter1, ifs1, 0⟩] scope pos) (dLc2 gi (own.map (·.2)) gg t gi1 vs1 gg1 t1 fe) := fun B env ds σ Hf H d ds' S hf Q q => by
  obtain ⟨tt, pt, kt⟩ := ht
  obtain ⟨tt1, pt1, kt1⟩ := ht1
  intro pins s I
  exact SE.of (pe_lc2 (wi := SI X tg iter) (g := SGb X scope tg) (tt := tt) (wi1 := SIb X scope tg1 iter1) (g1 := SGb X scope tg1) (tt1 := tt1) (te := SEb X scope elt) hc hN (pi_si X tg iter) ok hv (fun s H C cl fp => ⟨fun pins s' σ' H' v u Q' I r h => h s H C cl fp pins s' u I r⟩) pt
    (fun s H C cl fp => ⟨fun pins s' σ' H' R I h => h s H C cl fp pins s' I⟩) (fun s H C cl fp => ⟨fun pins s' σ' H' v u Q' I r h => h s H C cl fp pins s' u I r⟩) pt1 (fun s H C cl fp => ⟨fun pins s' σ' H' Q' I h => h s H C cl fp pins s' I⟩) hs hs1)
    (lc2_reading hi hg hok kt hi1 hg1 kt1 he hts hts1 S hf q s H 0 [] [] trivial) pins s I
end
/-! ### t.index(x), xs.index(x); d.get(k, x) -/
def idxI (x : Int) : List Int → Nat → Option Nat
  | [], _ => none
  | y :: r, n => (match decide (y = x) with
    | true => some n
    | false => idxI x r (n + 1))
theorem idxI_ok {x : Int} : ∀ {l : List Int} {n j : Nat}, idxI x l n = some j → n ≤ j ∧ l[j - n]? = some x ∧ ∀ m, m < j - n → l[m]? ≠ some x
  | [], _, _, h => by cases h
  | y :: r, n, j, h => by
    unfold idxI at h
    split at h
    · rename_i e
      cases h
      refine ⟨Nat.le_refl _, ?_, fun m hm => by omega⟩
      rw [Nat.sub_self]
      simp [of_decide_eq_true e]
    · rename_i e
      obtain ⟨h1, h2, h3⟩ := idxI_ok h
      have e2 : j - n = (j - (n + 1)) + 1 := by omega
      refine ⟨by omega, ?_, fun m hm => ?_⟩
      · rw [e2]; simpa using h2
      · cases m with
        | zero => simpa using of_decide_eq_false e
        | succ m => simpa using h3 m (by omega)
section
variable {X : Cx}
theorem flat_intsV (ys : List Int) : (ys.map V.int).all flatV = true := by
  rw [List.all_eq_true]
  intro v hv
  obtain ⟨y, _, rfl⟩ := List.mem_map.mp hv
  rfl
theorem mt_tupIndexI : MtR X "tuple.index" (fun x xs H Q => ∃ p, ∃ ys : List Int, ∃ z j, x = .ref p ∧ xs = [.int z] ∧ SqT X.K H p (ys.map V.int) ∧ ys[j]? = some z ∧ (∀ m, m < j → ys[m]? ≠ some z) ∧ Q (.int (j : Nat)) H) := by
  intro pins s σ H x xs v us Q I rx rs h
  obtain ⟨p, ys, z, j, rfl, rfl, hq, hy, hno, q⟩ := h
  cases rx
  obtain ⟨u, rfl, t, rfl⟩ := vals1 rs
  obtain ⟨its, r, pl, hz⟩ := I.tuple hq
  obtain ⟨⟨cls, dd, dt, sl⟩, ho, hc, n, hd⟩ := pl
  simp only at hc hd
  subst hc
  subst hd
  have hl : its.toArray.size = ys.length := by rw [List.size_toArray, ← r.length, List.length_map]
  have hj : j < its.toArray.size := by rw [hl]; exact (List.getElem?_eq_some_iff.mp hy).1
  have at' : ∀ (m : Nat) (hm : m < its.toArray.size), ∃ y t', ys[m]? = some y ∧ its.toArray[m] = Value.int y t' := fun m hm => by
    have hm' : m < ys.length := by rw [← hl]; exact hm
    obtain ⟨w, hw, t', hw'⟩ := r.get (i := m) (x := .int ys[m]) (by simp [hm'])
    refine ⟨ys[m], t', List.getElem?_eq_getElem hm', ?_⟩
    have e := (List.getElem?_eq_some_iff.mp hw).2
    rw [← hw', ← e]
    simp
  refine call_meets PySem.F.slot_tuple_index ⟨_, ho, rfl⟩ PySem.F.entry_tuple_index (PySem.F.args_tuple_index_2 _ _) (TI.tuple_indexAt p its.toArray n dd sl (.int z t) (eqU (.int z)) j hj ?_ ?_)
    ⟨ho, fun w hw => mem_eqAt (x := .int z) ⟨t, rfl⟩ rfl r (flat_intsV ys) w (by simpa using hw), ⟨.int (j : Nat), H, I.tok _, ⟨_, rfl⟩, q⟩⟩
  · obtain ⟨y, t', h1, h2⟩ := at' j hj
    rw [hy] at h1
    cases h1
    rw [h2]
    show (z == z) = true
    exact beq_self_eq_true z
  · intro m hm hmj
    obtain ⟨y, t', h1, h2⟩ := at' m hm
    rw [h2]
    show (y == z) = false
    exact beq_eq_false_iff_ne.mpr fun e => hno m hmj (e ▸ h1)
def gIdx : D → D → Option D
  | .ptup xs, .int z => (match ints? xs with
    | some ns => (match idxI z ns 0 with
      | some j => some (.int (j : Nat))
      | none => none)
    | none => none)
  | _, _ => none
abbrev rIdxT (X : Cx) : V → List V → Hp → VK → Prop := fun x xs H Q => ∃ p, ∃ ys : List Int, ∃ z j, x = .ref p ∧ xs = [.int z] ∧ SqT X.K H p (ys.map V.int) ∧ ys[j]? = some z ∧ (∀ m, m < j → ys[m]? ≠ some z) ∧ Q (.int (j : Nat)) H
/-- a method of a tuple whose object is known -/
def tPM (r : V → List V → Hp → VK → Prop) (to : TE) (t : TA) : TE := fun σ H Q => to σ H fun x H1 => (∃ (a : Addr) (o : Obj) (vs : List V), x = .ref a ∧ H1 a = some (.frz o (.tup vs)) ∧ o.dict = none) ∧ t σ H1 fun xs H2 => r x xs H2 Q
theorem pe_pm {o e : Expr} {es : List Expr} {to : TE} {t : TA} {name : Str} {apos cpos : Pos} {id : String} {r : V → List V → Hp → VK → Prop} (slot : Slot "tuple" name id) (hty : typeOf (.builtin id) = pure (.type "method_descriptor")) (hm : MtR X id r) (ho : PE X o to) (ha : PA X (e :: es) t)
    (hbase : attributeBase o name X.env (eval o X.env) = eval o X.env := by rfl)
    (hfew : ((backTo cpos (starEach (e :: es) X.env)).all (fun x => !x.1) && (backToKw cpos (keywordEach [] X.env)).all (fun x => x.1.isSome)
      && decide ((e :: es).length + ([] : List Keyword).length + (if ([] : List Keyword).isEmpty then 0 else 1) < 30)) = true := by rfl)
    (hline : (apos.endLine == cpos.line) = true := by rfl) (hs : starEach (e :: es) X.env = (false, eval e X.env) :: starEach es X.env := by rfl) (hplain : (backTo cpos (starEach es X.env)).any (·.1) = false := by rfl) :
    PE X (.Call (.Attribute o name apos) (e :: es) [] cpos) (tPM r to t) := by
  refine ⟨fun pins s σ H Q I h => ?_⟩
  refine wpAny_Call_method_late hbase hfew hline rfl (thn (ho.run pins s σ H _ I h) fun v s1 ⟨x, H1, I1, r1, ⟨a, ob, vs, ex, hx, hd⟩, q1⟩ => ?_)
  subst ex
  obtain rfl : v = Value.ref a := r1
  obtain ⟨e1, _, its, rv, o', e2, e3, n, e4⟩ := (show ObjOk X.prog X.w H1 s1.heap a (.frz ob (.tup vs)) from I1.hok a _ hx)
  have eo : o' = ob := Option.some.inj (e2.symm.trans e1)
  subst eo
  refine ⟨"tuple", id, PySem.F.plainAttrs_tuple, slot, hty, ⟨o', e1, e3⟩, fun b eb => by cases eb; exact ⟨o', e1, hd⟩, ?_⟩
  have hA := ha.run cpos pins s1 σ H1 _ I1 q1
  rw [hs] at hA ⊢
  refine Calls.callWith_builtin (by show (false || (backTo cpos (starEach es X.env)).any (·.1)) = false; rw [hplain] <;> rfl) (Calls.evalArgs_plain ?_)
  exact thn hA fun us s2 ⟨vs, H2, I2, r2, q2⟩ => hm pins s2 σ H2 (.ref a) vs _ us Q I2 rfl r2 q2
/-- t.index(x) of a plain tuple that stays -/
theorem evf_idx {st o e : Expr} {f h : Den} (pm : PE X st (tPM (rIdxT X) (SE X o) (tCons (SE X e) tNil))) (hf : EvF X o f) (hh : EvR X e h) : EvF X st (d2 gIdx f h) := fun B env ds σ Hf H d ds' S hd Q q => by
  obtain ⟨v1, s1, e1, e2⟩ := bnd_eq hd
  obtain ⟨v2, s2, e3, e4⟩ := bnd_eq e2
  obtain ⟨e5, rfl⟩ := op1_eq e4
  unfold gIdx at e5
  split at e5
  · rename_i xs z
    split at e5
    · rename_i ns en
      split at e5
      · rename_i j ej
        cases e5
        refine SE.of pm (hf B env ds σ Hf H _ _ S e1 _ fun v Hf1 H1 g1 S1 r1 => ?_)
        cases r1 with
        | @ptup a ob ws _ h1 hd h2 =>
          refine ⟨⟨a, ob, ws, rfl, S1.sub _ _ h1, hd⟩, hh B env s1 σ Hf1 H1 _ _ S1 e3 _ fun v2 Hf2 H2 g2 S2 r2 => ?_⟩
          cases r2.int
          rw [ints_eq en] at h2
          rw [rpl_ints h2] at h1
          obtain ⟨_, i1, i2⟩ := idxI_ok ej
          rw [Nat.sub_zero] at i1 i2
          exact ⟨a, ns, z, j, rfl, rfl, .inl (.inr ⟨ob, S2.sub _ _ (g2.ff _ _ h1)⟩), i1, i2, q _ _ _ (g1.trans g2) S2 (.int _)⟩
      · cases e5
    · cases e5
  · cases e5
/-- tuple(list) as a plain tuple -/
def rPtup (X : Cx) : List V → Hp → VK → Prop := fun xs H Q => ∃ p ys, xs = [.ref p] ∧ SqL X.K H p ys ∧ ∀ (l : Addr) (o : Obj), H l = none → o.dict = none → Q (.ref l) (upd H l (.frz o (.tup ys)))
theorem cr_ptup : CallR X (.type "tuple") (rPtup X) := by
  intro pins s σ H xs us Q I r ⟨p, ys, ex, hs, q⟩
  subst ex
  obtain ⟨u, rfl, rx⟩ := vals1 r
  obtain rfl : u = Value.ref p := rx
  obtain ⟨its, rv, pl, hz⟩ := I.list hs
  refine call_tuple_list pl.isList (fun h' hk => ?_) (by rw [List.size_toArray, ← rv.length]; exact hz)
  have I1 : Inv X pins σ H { s with heap := h' } := I.kept (t' := s.toks) hk
  have e := Heap.get?_push_size h' (o := { cls := .type "tuple", data := .seq its.toArray }) rfl
  have I2 : Inv X pins σ (upd H h'.objs.size (.frz { cls := .type "tuple", data := .seq its.toArray } (.tup ys))) { s with heap := h'.push { cls := .type "tuple", data := .seq its.toArray } } :=
    I1.laid (t' := s.toks) (fun b o e => Heap.get?_push_of_some _ e) (Nat.le_refl _) ⟨e, hz, its, rv, IsTup.new _ _⟩
  exact ⟨.ref h'.objs.size, _, I2, rfl, q _ _ I1.fresh rfl⟩
def gPtup : List D → Option D
  | [.list xs] => some (.ptup xs)
  | _ => none
theorem rc_ptup : RCF X (rPtup X) gPtup := fun B env ds σ Hf H args d vs Q S r e q => by
  unfold gPtup at e
  split at e
  · cases e
    cases r with
    | cons r t =>
      cases t
      obtain ⟨a, ws, rfl, h1, h2⟩ := r.lst S.sub
      exact ⟨_, ws, rfl, .inl (.inl h1), fun l o hl hd => q.ptup S h2 hd l hl⟩
  · cases e
def gGet : D → D → D → Option D
  | .dT kvs, k, x => (match keyOf? k with
    | some ks => (match lookT kvs ks with
      | some v => some v
      | none => some x)
    | none => none)
  | .dK kvs, k, x => (match key1? k with
    | some ks => (match lookK kvs ks with
      | some v => some v
      | none => some x)
    | none => none)
  | _, _, _ => none
def dGet2 (f h u : Den) : Den := fun env ds => bnd (f env ds) fun a s => bnd (h env s) fun b s1 => bnd (u env s1) fun c s2 => op1 (gGet a b c) s2
theorem evf_get {o e1 e2 : Expr} {f h u : Den} {apos cpos : Pos} (hu : X.A.units + 8 < cLine) (ho : EvR X o f) (he : EvR X e1 h) (hx : EvF X e2 u) (m : M2 X o "get" apos e1 e2 cpos) : EvF X (.Call (.Attribute o "get" apos) [e1, e2] [] cpos) (dGet2 f h u) := fun B env ds σ Hf H d ds' S hd Q q => by
  obtain ⟨v1, s1, k1, hd⟩ := bnd_eq hd
  obtain ⟨v2, s2, k2, hd⟩ := bnd_eq hd
  obtain ⟨v3, s3, k3, hd⟩ := bnd_eq hd
  obtain ⟨k4, rfl⟩ := op1_eq hd
  refine SE.of (pe_dget2 (by omega) (pe_se X o) (pe_se X e1) (pe_se X e2) m) (ho B env ds σ Hf H _ _ S k1 _ fun x Hf1 H1 g1 S1 r1 => ?_)
  unfold gGet at k4
  split at k4
  · rename_i kvs
    split at k4
    · rename_i ks ek
      obtain ⟨a, kv, rfl, h1, h2⟩ := r1.dT S1.sub
      refine ⟨a, rfl, .inr ⟨_, h1⟩, he B env s1 σ Hf1 H1 _ _ S1 k2 _ fun y Hf2 H2 g2 S2 r2 => hx B env s2 σ Hf2 H2 _ _ S2 k3 _ fun z Hf3 H3 g3 S3 r3 => ?_⟩
      obtain ⟨b, rfl, hb⟩ := keyOf_rd r2 ek
      obtain ⟨a', kv', ea, h1', h2'⟩ := (r1.up (g2.trans g3)).dT S3.sub
      cases ea
      have hb3 := S3.sub _ _ (g3.ff _ _ hb)
      have gg := (g1.trans g2).trans g3
      split at k4
      · rename_i w hw
        cases k4
        obtain ⟨vv, l1, l2⟩ := (h2'.look (k := ks)).1 _ hw
        exact ⟨some vv, .inr ⟨kv', ks, b, h1', rfl, hb3, l1.symm⟩, q _ _ _ gg S3 l2⟩
      · rename_i hw
        cases k4
        exact ⟨none, .inr ⟨kv', ks, b, h1', rfl, hb3, ((h2'.look (k := ks)).2 hw).symm⟩, q _ _ _ gg S3 r3⟩
    · cases k4
  · rename_i kvs
    split at k4
    · rename_i ks ek
      obtain ⟨a, kv, rfl, h1, h2⟩ := r1.dK S1.sub
      refine ⟨a, rfl, .inl ⟨_, h1⟩, he B env s1 σ Hf1 H1 _ _ S1 k2 _ fun y Hf2 H2 g2 S2 r2 => hx B env s2 σ Hf2 H2 _ _ S2 k3 _ fun z Hf3 H3 g3 S3 r3 => ?_⟩
      cases key1_rd r2 ek
      obtain ⟨a', kv', ea, h1', h2'⟩ := (r1.up (g2.trans g3)).dK S3.sub
      cases ea
      have gg := (g1.trans g2).trans g3
      split at k4
      · rename_i w hw
        cases k4
        obtain ⟨vv, l1, l2⟩ := (h2'.look (k := ks)).1 _ hw
        exact ⟨some vv, .inl ⟨kv', ks, h1', rfl, l1.symm⟩, q _ _ _ gg S3 l2⟩
      · rename_i hw
        cases k4
        exact ⟨none, .inl ⟨kv', ks, h1', rfl, ((h2'.look (k := ks)).2 hw).symm⟩, q _ _ _ gg S3 r3⟩
    · cases k4
  · cases k4
end
end L2.Dn
set_option Elab.async false
set_option linter.all false
set_option maxRecDepth 100000
/-! the draws, the script, abs, int, ** -/
namespace L2.Dn
open PySem PySem.Spec PyProof.Rows
section
variable {X : Cx}
def gAbs : List D → Option D
  | [.int i] => some (.int (if i < 0 then -i else i))
  | _ => none
theorem rc_abs : RCF X (fun xs H Q => ∃ i, xs = [.int i] ∧ Q (.int (if i < 0 then -i else i)) H) gAbs := fun B env ds σ Hf H args d vs Q S r e q => by
  unfold gAbs at e
  split at e
  · cases e
    cases r with
    | cons r t =>
      cases t
      cases r.int
      exact ⟨_, rfl, q.now S (.int _)⟩
  · cases e
def gInt1 : List D → Option D
  | [.int i] => some (.int i)
  | [.bool b] => some (.int (if b then 1 else 0))
  | _ => none
theorem rc_int1 : RCF X (fun xs H Q => (∃ i, xs = [.int i] ∧ Q (.int i) H) ∨ ∃ k, xs = [.bl k] ∧ Q (.int (if k then 1 else 0)) H) gInt1 := fun B env ds σ Hf H args d vs Q S r e q => by
  unfold gInt1 at e
  split at e
  · cases e
    cases r with
    | cons r t =>
      cases t
      cases r.int
      exact .inl ⟨_, rfl, q.now S (.int _)⟩
  · cases e
    cases r with
    | cons r t =>
      cases t
      cases r.bl
      exact .inr ⟨_, rfl, q.now S (.int _)⟩
  · cases e
def gPow : D → D → Option D
  | .int i, .int j => if 0 ≤ j ∧ j ≤ 1000000 ∧ i.natAbs < 18446744073709551616 then some (.int (i ^ j.toNat)) else none
  | _, _ => none
theorem r2_pow : R2F X (rI CPow fun i j => .int (i ^ j.toNat)) gPow := fun B env ds σ Hf H d1 d2 d x y Q S r1 r2 e q => by
  unfold gPow at e
  split at e
  · split at e
    · rename_i h
      cases e
      cases r1.int
      cases r2.int
      exact ⟨_, _, rfl, rfl, ⟨h.1, h.2.1, by have := h.2.2; omega⟩, q.now S (.int _)⟩
    · cases e
  · cases e
/-! == and != of data with or without dicts -/
def rEqU (X : Cx) : R2 := fun x y H Q => rEqD X.K x y H Q ∨ rEqM X false x y H Q
def rNeU (X : Cx) : R2 := fun x y H Q => rNeD X.K x y H Q ∨ rEqM X true x y H Q
theorem op_eqU (hu : X.A.units + 100 < cLine) : OpR X (compareOp .Eq) (rEqU X) := OpR.or (op_eqD (by omega)) (op_eqT (by omega))
theorem op_neU (hu : X.A.units + 100 < cLine) : OpR X (compareOp .NotEq) (rNeU X) := OpR.or (op_neD (by omega)) (op_neT (by omega))
def gEqU (x y : D) : Option D := match gEqD x y with
  | some d => some d
  | none => gEqM false x y
def gNeU (x y : D) : Option D := match gNeD x y with
  | some d => some d
  | none => gEqM true x y
theorem r2_eqU : R2F X (rEqU X) gEqU := fun B env ds σ Hf H d1 d2 d x y Q S r1 r2 e q => by
  unfold gEqU at e
  split at e
  · rename_i h
    cases e
    exact .inl (r2_eqD _ _ _ _ _ _ _ _ _ _ _ _ S r1 r2 h q)
  · exact .inr (r2_eqM false _ _ _ _ _ _ _ _ _ _ _ _ S r1 r2 e q)
theorem r2_neU : R2F X (rNeU X) gNeU := fun B env ds σ Hf H d1 d2 d x y Q S r1 r2 e q => by
  unfold gNeU at e
  split at e
  · rename_i h
    cases e
    exact .inl (r2_neD _ _ _ _ _ _ _ _ _ _ _ _ S r1 r2 h q)
  · exact .inr (r2_eqM true _ _ _ _ _ _ _ _ _ _ _ _ S r1 r2 e q)
end
/-! ### the draws' dict -/
section
variable {B : Bs} {K : PySem.W.Frag} {env : En} {ds ds' : DS} {σ : St} {Hf H : Hp} {x l c : Addr}
theorem kv_rest : valV (drawKV l c ds) (.inr "rest") = some (.int ds.rest) := by rfl
theorem kv_turn : valV (drawKV l c ds) (.inr "turn") = some (.int ds.turn) := by rfl
theorem kv_large : valV (drawKV l c ds) (.inr "large") = some (.ref l) := by rfl
theorem kv_cells : valV (drawKV l c ds) (.inr "cells") = some (.ref c) := by rfl
theorem put_rest {n : Int} : putK (drawKV l c ds) (.inr "rest") (.int n) = drawKV l c { ds with rest := n } := by rfl
theorem put_turn {n : Int} : putK (drawKV l c ds) (.inr "turn") (.int n) = drawKV l c { ds with turn := n } := by rfl
theorem SR.dr (S : SR B K env ds σ Hf H) (e : B.dr = some (x, l, c)) : H x = some (.dK (drawKV l c ds)) ∧ H l = some (.lst (ds.large.map V.int)) ∧ Hf x = none ∧ Hf l = none ∧ Hf c = some (.lst (ds.cells.map V.int)) := S.draw x l c e
/-- an object of the draws is changed -/
theorem SR.drw {a : Addr} {o : HO} (S : SR B K env ds σ Hf H) (n : B.isDr a) (dr : DrawR B.dr ds' Hf (upd H a o)) : SR B K env ds' σ Hf (upd H a o) where
  sub := fun b u e => by rw [upd_ne (ne_of_none e (S.isDr n).2)]; exact S.sub b u e
  base := fun b u e => by
    by_cases h : b = a
    · subst h
      exact ⟨o, upd_same, fun z => absurd n z⟩
    · rw [upd_ne h]; exact S.base b u e
  fbase := S.fbase
  fnew := S.fnew
  slots := fun i s e => (S.slots i s e).hp fun d q => by
    subst q
    intro z
    obtain ⟨b, e1, _, _, n3, _⟩ := S.slots i _ e
    rw [z] at e1
    cases e1
    exact n3 n
  apart := S.apart
  draw := dr
  len := S.len
theorem Gr.drw {a : Addr} {o : HO} (n : B.isDr a) : Gr B Hf H Hf (upd H a o) where
  hh := fun b u e => by
    by_cases h : b = a
    · subst h
      exact ⟨o, upd_same, fun z => absurd n z⟩
    · exact ⟨u, by rw [upd_ne h]; exact e, fun _ => rfl⟩
  ff := fun _ _ e => e
  nw := fun _ h => .inl h
end
def dRest (i : Nat) : Den := fun env ds => match env[i]? with
  | some (some .draw) => some (.int ds.rest, ds)
  | _ => none
def dTurn (i : Nat) : Den := fun env ds => match env[i]? with
  | some (some .draw) => some (.int ds.turn, ds)
  | _ => none
def dCells (i : Nat) : Den := fun env ds => match env[i]? with
  | some (some .draw) => some (.list (ds.cells.map D.int), ds)
  | _ => none
def dPopL (i : Nat) : Den := fun env ds => match env[i]? with
  | some (some .draw) => (match ds.large with
    | n :: r => some (.int n, { ds with large := r })
    | [] => none)
  | _ => none
def tLarge (i : Nat) : DenT := fun env ds => match env[i]? with
  | some (some .draw) => some ((match ds.large with
    | [] => false
    | _ => true), ds)
  | _ => none
def dSetR (i : Nat) (f : Den) : DenS := fun env ds => bnd (f env ds) fun v s => match v, env[i]? with
  | .int n, some (some .draw) => some (.nx env, { s with rest := n })
  | _, _ => none
def dSetTn (i : Nat) (f : Den) : DenS := fun env ds => bnd (f env ds) fun v s => match v, env[i]? with
  | .int n, some (some .draw) => some (.nx env, { s with turn := n })
  | _, _ => none
section
variable {X : Cx} {e a b : Expr} {f : Den} {ss : Stmt}
theorem evf_rest (i : Nat) (pm : PE X e (tDGet (tVar i) (tC (.str "rest")))) : EvF X e (dRest i) := fun B env ds σ Hf H d ds' S hd Q q => by
  unfold dRest at hd
  split at hd
  · rename_i ei
    cases hd
    obtain ⟨x, l, c, ed, ex⟩ := S.slots i _ ei
    obtain ⟨h1, h2, h3, h4, h5⟩ := S.dr ed
    exact SE.of pm ⟨_, ex, x, _, rfl, .inl ⟨_, .inr "rest", .inl h1, rfl, kv_rest.symm⟩, q.now S (.int _)⟩
  · cases hd
theorem evf_turn (i : Nat) (pm : PE X e (tDGet (tVar i) (tC (.str "turn")))) : EvF X e (dTurn i) := fun B env ds σ Hf H d ds' S hd Q q => by
  unfold dTurn at hd
  split at hd
  · rename_i ei
    cases hd
    obtain ⟨x, l, c, ed, ex⟩ := S.slots i _ ei
    obtain ⟨h1, h2, h3, h4, h5⟩ := S.dr ed
    exact SE.of pm ⟨_, ex, x, _, rfl, .inl ⟨_, .inr "turn", .inl h1, rfl, kv_turn.symm⟩, q.now S (.int _)⟩
  · cases hd
theorem evf_cells (i : Nat) (pm : PE X e (tDGet (tVar i) (tC (.str "cells")))) : EvF X e (dCells i) := fun B env ds σ Hf H d ds' S hd Q q => by
  unfold dCells at hd
  split at hd
  · rename_i ei
    cases hd
    obtain ⟨x, l, c, ed, ex⟩ := S.slots i _ ei
    obtain ⟨h1, h2, h3, h4, h5⟩ := S.dr ed
    exact SE.of pm ⟨_, ex, x, _, rfl, .inl ⟨_, .inr "cells", .inl h1, rfl, kv_cells.symm⟩, q.now S (.lst h5 (ints_rpl _))⟩
  · cases hd
theorem evf_popL (i : Nat) (pm : PE X e (tBM X.K "list" rPopAt (tDGet (tVar i) (tC (.str "large"))) (tCons (tC (.int 0)) tNil))) : EvF X e (dPopL i) := fun B env ds σ Hf H d ds' S hd Q q => by
  unfold dPopL at hd
  split at hd
  · rename_i ei
    split at hd
    · rename_i n r en
      cases hd
      obtain ⟨x, l, c, ed, ex⟩ := S.slots i _ ei
      obtain ⟨h1, h2, h3, h4, h5⟩ := S.dr ed
      have hl : B.isDr l := ⟨x, l, c, ed, .inr rfl⟩
      have hne : x ≠ l := fun z => by subst z; rw [h1] at h2; cases h2
      rw [en] at h2
      refine SE.of pm ⟨_, ex, x, _, rfl, .inl ⟨_, .inr "large", .inl h1, rfl, kv_large.symm⟩, .inl ⟨rfl, _, .inl (.inl h2)⟩, ?_⟩
      refine ⟨l, _, 0, 0, .int n, rfl, rfl, h2, by decide, by decide, ?_, rfl, ?_⟩
      · rw [List.length_map]; exact seqIx (by decide) (by simp)
      · refine q _ Hf _ (Gr.drw hl) (S.drw hl fun y m k ey => ?_) (.int n)
        rw [ed] at ey
        cases ey
        refine ⟨?_, ?_, h3, h4, h5⟩
        · rw [upd_ne hne]; exact h1
        · rw [upd_same]; rfl
    · cases hd
  · cases hd
theorem evt_large (hu : X.A.units + 100 < cLine) (i : Nat) {pos p2 : Pos} (pm : PE X a (tDGet (tVar i) (tC (.str "large")))) : EvT X (.Compare a [.NotEq] [.List [] p2] pos) (tLarge i) := fun B env ds σ Hf H d ds' S hd Q q => by
  unfold tLarge at hd
  split at hd
  · rename_i ei
    obtain ⟨rfl, rfl⟩ : (match ds.large with | [] => false | _ => true) = d ∧ ds = ds' := by cases hd; exact ⟨rfl, rfl⟩
    obtain ⟨x, l, c, ed, ex⟩ := S.slots i _ ei
    obtain ⟨h1, h2, h3, h4, h5⟩ := S.dr ed
    have hb : EvN X (.List [] p2) (dLst aNil) := evn_lst eva_nil
    refine STt.of (pt_cmpR (op_neD (by omega)) pm (pe_se X _) (nomark _)) ⟨_, ex, x, _, rfl, .inl ⟨_, .inr "large", .inl h1, rfl, kv_large.symm⟩, ?_⟩
    refine hb B env ds σ Hf H (.list []) ds S rfl _ fun b Hf2 H2 g2 S2 n2 nf2 t2 => ?_
    have ok : ∀ ns : List Int, eqOk 8 (.list (ns.map D.int)) = true := fun ns => by
      show (ns.map D.int).all (eqOk 7) = true
      rw [List.all_eq_true]
      intro d hd
      obtain ⟨n, _, rfl⟩ := List.mem_map.mp hd
      rfl
    obtain ⟨k1, k2, _, _, k5⟩ := S2.dr ed
    have lay := (eqOk_lay 8 _ (ok ds.large)).1
    have d1 : Dp X.K H2 (.ref l) (toPy (.list (ds.large.map D.int))) := .lst (.inl (.inl k2)) (RpL.dp S2.sub _ _ (by simpa only [toPy, PyData.canLay0] using lay) (ints_rpl _))
    cases t2 with
    | lst e1 e2 =>
      have d2 : Dp X.K H2 (.ref b) (toPy (.list [])) := .lst (.inl (.inl e1)) (RpL.dp S2.sub _ _ (by rfl) e2)
      refine ⟨_, _, d1, d2, eqOk_shaped (n := 8) (by decide) (ok _), eqOk_shaped (n := 8) (by decide) rfl, _, rfl, ?_⟩
      rw [deq_eqv 8 _ _ (ok _) rfl]
      have : (!deq 8 (.list (ds.large.map D.int)) (.list [])) = (match ds.large with | [] => false | _ => true) := by
        cases ds.large <;> rfl
      rw [this]
      exact q _ _ g2 S2
  · cases hd
theorem evs_setR (i : Nat) (pm : PS X ss (sDPut (tVar i) (tC (.str "rest")) (SE X e))) (he : EvR X e f) : EvS X ss (dSetR i f) := fun B env ds σ Hf H o ds' S hD Dd cc => by
  obtain ⟨v, s1, e1, e2⟩ := bnd_eq hD
  split at e2
  · rename_i n ei
    cases e2
    refine SS.of pm (he B env ds σ Hf H _ _ S e1 _ fun w Hf1 H1 g1 S1 r1 => ?_)
    cases r1.int
    obtain ⟨x, l, c, ed, ex⟩ := S1.slots i _ ei
    obtain ⟨h1, h2, h3, h4, h5⟩ := S1.dr ed
    have hx : B.isDr x := ⟨x, l, c, ed, .inl rfl⟩
    have hne : l ≠ x := fun z => by subst z; rw [h2] at h1; cases h1
    refine ⟨_, ex, x, _, rfl, DPut.k (k := .inr "rest") h1 (by show 4 < sizeLine; decide), ?_⟩
    rw [put_rest]
    refine cc _ _ _ g1.ff (S1.drw hx fun y m k ey => ?_)
    rw [ed] at ey
    cases ey
    exact ⟨upd_same, by rw [upd_ne hne]; exact h2, h3, h4, h5⟩
  · cases e2
theorem evs_setTn (i : Nat) (pm : PS X ss (sDPut (tVar i) (tC (.str "turn")) (SE X e))) (he : EvR X e f) : EvS X ss (dSetTn i f) := fun B env ds σ Hf H o ds' S hD Dd cc => by
  obtain ⟨v, s1, e1, e2⟩ := bnd_eq hD
  split at e2
  · rename_i n ei
    cases e2
    refine SS.of pm (he B env ds σ Hf H _ _ S e1 _ fun w Hf1 H1 g1 S1 r1 => ?_)
    cases r1.int
    obtain ⟨x, l, c, ed, ex⟩ := S1.slots i _ ei
    obtain ⟨h1, h2, h3, h4, h5⟩ := S1.dr ed
    have hx : B.isDr x := ⟨x, l, c, ed, .inl rfl⟩
    have hne : l ≠ x := fun z => by subst z; rw [h2] at h1; cases h1
    refine ⟨_, ex, x, _, rfl, DPut.k (k := .inr "turn") h1 (by show 4 < sizeLine; decide), ?_⟩
    rw [put_turn]
    refine cc _ _ _ g1.ff (S1.drw hx fun y m k ey => ?_)
    rw [ed] at ey
    cases ey
    exact ⟨upd_same, by rw [upd_ne hne]; exact h2, h3, h4, h5⟩
  · cases e2
end
/-! ### the script -/
theorem scr_sq {B : Bs} {K : PySem.W.Frag} {env : En} {ds : DS} {σ : St} {Hf H : Hp} {a : Addr} {xs : List V} (S : SR B K env ds σ Hf H) (nd : ∀ o, B.H0 a = some o → ¬ B.isDr a) (h : SqL K B.H0 a xs) : SqL K H a xs := by
  rcases h with h | h
  · rcases h with h | ⟨o, h⟩
    · obtain ⟨o', e, n⟩ := S.base a _ h
      exact .inl (.inl (by rw [e, n (nd _ h)]))
    · obtain ⟨o', e, n⟩ := S.base a _ h
      exact .inl (.inr ⟨o, by rw [e, n (nd _ h)]⟩)
  · exact .inr h
def iScr (i : Nat) : DenA := fun env ds => match env[i]? with
  | some (some (.scr ns)) => some (ns.map D.int, ds)
  | _ => none
def dLenS (i : Nat) : Den := fun env ds => match env[i]? with
  | some (some (.scr ns)) => some (.int (ns.length : Nat), ds)
  | _ => none
section
variable {X : Cx} {tg e : Expr}
theorem evi_scr (i : Nat) (pm : PE X e (tVar i)) : EvI X tg e (iScr i) := fun B env ds σ Hf H items ds' S he R q => by
  unfold iScr at he
  split at he
  · rename_i ns ei
    cases he
    obtain ⟨a, ea, nd, hs⟩ := S.slots i _ ei
    refine SI.of (pi_list pm) ⟨_, ea, a, rfl, ⟨_, scr_sq S nd hs⟩, q _ _ _ Gr.refl S fun j env ds σ Hf H s S => ?_⟩
    have hq := scr_sq S nd hs
    rw [List.length_map]
    refine ⟨fun hi => ?_, fun hi => ⟨_, hq, by rw [List.length_map]; exact hi⟩⟩
    have e1 : (ns.map V.int)[j]? = some (.int ns[j]) := by rw [List.getElem?_map, List.getElem?_eq_getElem hi]; rfl
    refine ⟨⟨_, _, hq, e1⟩, fun x H' y d hd => ?_⟩
    obtain ⟨rfl, y⟩ := y
    have := y _ hq
    rw [e1] at this
    cases this
    rw [List.getElem?_map, List.getElem?_eq_getElem hi] at hd
    cases hd
    exact ⟨Hf, Gr.refl, S, .int _⟩
  · cases he
theorem evf_lenS (i : Nat) (pm : PE X e (tCB (fun xs H Q => ∃ p ys, xs = [.ref p] ∧ (SqL X.K H p ys ∨ SqT X.K H p ys) ∧ Q (.int (ys.length : Nat)) H) (tCons (tVar i) tNil))) : EvF X e (dLenS i) := fun B env ds σ Hf H d ds' S hd Q q => by
  unfold dLenS at hd
  split at hd
  · rename_i ns ei
    cases hd
    obtain ⟨a, ea, nd, hs⟩ := S.slots i _ ei
    refine SE.of pm ⟨_, ea, a, _, rfl, .inl (scr_sq S nd hs), ?_⟩
    rw [List.length_map]
    exact q.now S (.int _)
  · cases hd
end
end L2.Dn
set_option Elab.async false
set_option linter.all false
set_option maxRecDepth 100000
/-! small rules that the printed walks need -/
namespace L2.Dn
open PySem PySem.Spec PyProof.Rows
theorem _root_.L2.Room.us {k : Nat} {A : Around} (r : Room k A) : A.units + 1 < cLine ∧ A.units + 8 < cLine ∧ A.units + 65 < cLine ∧ A.units + 100 < cLine := by
  have := r.un
  exact ⟨by omega, by omega, by omega, by omega⟩
def dDropS (f : Den) : DenS := fun env ds => bnd (f env ds) fun _ s => some (.nx env, s)
section
variable {X : Cx} {e a b c : Expr} {f h u : Den} {k l m : Bool} {pos pos' : Pos}
theorem evs_drop (he : EvF X e f) (hs : swapsWith e none pos.line X.env = pure false := by rfl) : EvS X (.Expr e pos) (dDropS f) := fun B env ds σ Hf H o ds' S hd Dd cc => by
  obtain ⟨d, s1, e1, e2⟩ := bnd_eq hd
  cases e2
  exact SS.of (ps_expr (pe_se X e) hs) (he B env ds σ Hf H _ _ S e1 _ fun v Hf' H' g S' r => cc _ _ _ g.ff S')
theorem evs_doc {x j} : EvS X (.Expr (.Constant (.str x) j pos) pos') dNx := fun B env ds σ Hf H o ds' S hd Dd cc => by
  cases hd
  exact SS.of ps_doc (cc σ Hf H (fun _ _ e => e) S)
theorem evs_part (i j : Nat) {x y : Str} {px py pt : Pos} {kt k2 pt2} (hc : X.calm = true) (hN : X.N.Nodup) (ha : EvU X a k f) (hb : EvU X b l h) (hij : i ≠ j) (hi : X.N[i]? = some x := by rfl) (hj : X.N[j]? = some y := by rfl)
    (hx : Loc X.env.scope x := by first | exact Or.inl rfl | exact Or.inr rfl) (hy : Loc X.env.scope y := by first | exact Or.inl rfl | exact Or.inr rfl)
    (fx : X.fn x = true ∨ X.env.scope.names.lookup x = some .local := by first | exact .inl rfl | exact .inr rfl) (fy : X.fn y = true ∨ X.env.scope.names.lookup y = some .local := by first | exact .inl rfl | exact .inr rfl)
    (hw : swappedStores [.Tuple [.Name x px, .Name y py] kt pt] (.Tuple [a, b] k2 pt2) X.env = pure none := by rfl)
    (hs : swapsWithSole [.Tuple [.Name x px, .Name y py] kt pt] (.Tuple [a, b] k2 pt2) pos.line X.env = pure false := by rfl) (h1 : starEach [a, b] X.env = (false, eval a X.env) :: starEach [b] X.env := by rfl) (h2 : starEach [b] X.env = (false, eval b X.env) :: starEach [] X.env := by rfl)
    (g1 : (assignEach [.Name x px, .Name y py] X.env).map (·.2) = assign (.Name x px) X.env :: (assignEach [.Name y py] X.env).map (·.2) := by rfl) (g2 : (assignEach [.Name y py] X.env).map (·.2) = assign (.Name y py) X.env :: (assignEach [] X.env).map (·.2) := by rfl)
    (hn : (assignEach [.Name x px, .Name y py] X.env).length = 2 := by rfl) (hst : (assignEach [.Name x px, .Name y py] X.env).findIdx? (·.1) = none := by rfl)
    (e1 : (assignEach [.Tuple [.Name x px, .Name y py] kt pt] X.env).map (·.2) = [assign (.Tuple [.Name x px, .Name y py] kt pt) X.env] := by rfl) :
    EvS X (.Assign [.Tuple [.Name x px, .Name y py] kt pt] (.Tuple [a, b] k2 pt2) pos) (dPar i j k l f h) := fun B env ds σ Hf H o ds' S hd Dd cc => by
  obtain ⟨d1, s1, q1, hd⟩ := bnd_eq hd
  obtain ⟨d2, s2, q2, e3⟩ := bnd_eq hd
  cases e3
  refine SS.of (ps_asg (pe_tup (pa_cons (pe_se X a) (pa_cons (pe_se X b) pa_nil h2) h1)) (pg_tup hc (pgs_cons (pg_name hN hi hx fx) (pgs_cons (pg_name hN hj hy fy) pgs_nil g2) g1) hn hst) hs hw e1) ?_
  refine ha B env ds σ Hf H _ _ S q1 _ fun v Hf1 H1 g1 S1 n1 => hb B env s1 σ Hf1 H1 _ _ S1 q2 _ fun w Hf2 H2 g2 S2 n2 => ⟨show 2 ≤ sizeLine by decide, fun q hq => ?_⟩
  refine ⟨q, [v, w], rfl, .inl (.inl upd_same), rfl, v, [w], rfl, w, [], rfl, rfl, ?_⟩
  have S2' : SR B X.K env ds' σ Hf2 (upd H2 q (.tup [v, w])) := S2.hp (sub_none S2 hq) (S2.fre hq)
  have g3 : Gr B Hf2 H2 Hf2 (upd H2 q (.tup [v, w])) := Gr.refl.hp hq
  exact cc _ _ _ (g1.ff.trans g2.ff) ((S2'.setU ((n1.up g2).up g3) i).setU ((n1.over n2 i).up g3) j)
theorem evs_par3t (i j p : Nat) {x y z : Str} {px py pz pt : Pos} {kt k2 pt2} (hc : X.calm = true) (hN : X.N.Nodup) (ha : EvU X a k f) (hb : EvU X b l h) (hcc : EvU X c m u) (hij : i ≠ j) (hil : i ≠ p) (hjl : j ≠ p) (hi : X.N[i]? = some x := by rfl) (hj : X.N[j]? = some y := by rfl) (hl : X.N[p]? = some z := by rfl)
    (hx : Loc X.env.scope x := by first | exact Or.inl rfl | exact Or.inr rfl) (hy : Loc X.env.scope y := by first | exact Or.inl rfl | exact Or.inr rfl) (hz : Loc X.env.scope z := by first | exact Or.inl rfl | exact Or.inr rfl)
    (fx : X.fn x = true ∨ X.env.scope.names.lookup x = some .local := by first | exact .inl rfl | exact .inr rfl) (fy : X.fn y = true ∨ X.env.scope.names.lookup y = some .local := by first | exact .inl rfl | exact .inr rfl) (fz : X.fn z = true ∨ X.env.scope.names.lookup z = some .local := by first | exact .inl rfl | exact .inr rfl)
    (hw : swappedStores [.Tuple [.Name x px, .Name y py, .Name z pz] kt pt] (.Tuple [a, b, c] k2 pt2) X.env = pure none := by rfl)
    (hs : swapsWithSole [.Tuple [.Name x px, .Name y py, .Name z pz] kt pt] (.Tuple [a, b, c] k2 pt2) pos.line X.env = pure false := by rfl) (h1 : starEach [a, b, c] X.env = (false, eval a X.env) :: starEach [b, c] X.env := by rfl) (h2 : starEach [b, c] X.env = (false, eval b X.env) :: starEach [c] X.env := by rfl) (h3 : starEach [c] X.env = (false, eval c X.env) :: starEach [] X.env := by rfl)
    (g1 : (assignEach [.Name x px, .Name y py, .Name z pz] X.env).map (·.2) = assign (.Name x px) X.env :: (assignEach [.Name y py, .Name z pz] X.env).map (·.2) := by rfl) (g2 : (assignEach [.Name y py, .Name z pz] X.env).map (·.2) = assign (.Name y py) X.env :: (assignEach [.Name z pz] X.env).map (·.2) := by rfl) (g3 : (assignEach [.Name z pz] X.env).map (·.2) = assign (.Name z pz) X.env :: (assignEach [] X.env).map (·.2) := by rfl)
    (hn : (assignEach [.Name x px, .Name y py, .Name z pz] X.env).length = 3 := by rfl) (hst : (assignEach [.Name x px, .Name y py, .Name z pz] X.env).findIdx? (·.1) = none := by rfl)
    (e1 : (assignEach [.Tuple [.Name x px, .Name y py, .Name z pz] kt pt] X.env).map (·.2) = [assign (.Tuple [.Name x px, .Name y py, .Name z pz] kt pt) X.env] := by rfl) :
    EvS X (.Assign [.Tuple [.Name x px, .Name y py, .Name z pz] kt pt] (.Tuple [a, b, c] k2 pt2) pos) (dPar3 i j p k l m f h u) := fun B env ds σ Hf H o ds' S hd Dd cc => by
  obtain ⟨d1, s1, q1, hd⟩ := bnd_eq hd
  obtain ⟨d2, s2, q2, hd⟩ := bnd_eq hd
  obtain ⟨d3, s3, q3, e4⟩ := bnd_eq hd
  cases e4
  refine SS.of (ps_asg (pe_tup (pa_cons (pe_se X a) (pa_cons (pe_se X b) (pa_cons (pe_se X c) pa_nil h3) h2) h1)) (pg_tup hc (pgs_cons (pg_name hN hi hx fx) (pgs_cons (pg_name hN hj hy fy) (pgs_cons (pg_name hN hl hz fz) pgs_nil g3) g2) g1) hn hst) hs hw e1) ?_
  refine ha B env ds σ Hf H _ _ S q1 _ fun v Hf1 H1 g1 S1 n1 => hb B env s1 σ Hf1 H1 _ _ S1 q2 _ fun w Hf2 H2 g2 S2 n2 => hcc B env s2 σ Hf2 H2 _ _ S2 q3 _ fun t Hf3 H3 g3 S3 n3 => ⟨show 3 ≤ sizeLine by decide, fun q hq => ?_⟩
  refine ⟨q, [v, w, t], rfl, .inl (.inl upd_same), rfl, v, [w, t], rfl, w, [t], rfl, t, [], rfl, rfl, ?_⟩
  have S3' : SR B X.K env ds' σ Hf3 (upd H3 q (.tup [v, w, t])) := S3.hp (sub_none S3 hq) (S3.fre hq)
  have g4 : Gr B Hf3 H3 Hf3 (upd H3 q (.tup [v, w, t])) := Gr.refl.hp hq
  have n1' := n1.up g2
  exact cc _ _ _ ((g1.ff.trans g2.ff).trans g3.ff) (((S3'.setU ((n1'.up g3).up g4) i).setU (((n1.over n2 i).up g3).up g4) j).setU (((n1.over n2 i).over (n1'.over n3 i) j).up g4) p)
end
end L2.Dn
set_option Elab.async false
set_option linter.all false
set_option maxRecDepth 100000
/-! the law's begin: the dict of the draws is made; from then on the base tells it -/
namespace L2.Dn
open PySem PySem.Spec PyProof.Rows C8
def envS (n : Nat) (ns : List Int) : En := some (.scr ns) :: List.replicate (n - 1) none
theorem sr_startS {K : PySem.W.Frag} {H : Hp} {a : Addr} {ns : List Int} {ds : DS} (N : List Str) (h : SqL K H a (ns.map V.int)) : SR ⟨H, fun _ => none, none⟩ K (envS N.length ns) ds (start N [.ref a]) (fun _ => none) H where
  sub := fun _ _ e => by cases e
  base := fun a o e => ⟨o, e, fun _ => rfl⟩
  fbase := fun _ _ e => e
  fnew := fun a h => .inl h
  slots := fun i sl e => by
    unfold envS at e
    cases i with
    | zero => cases e; exact ⟨a, rfl, fun _ _ => nodr, h⟩
    | succ i =>
      have e : (List.replicate (N.length - 1) (none : Option Sl))[i]? = some (some sl) := e
      rw [List.getElem?_replicate] at e
      split at e <;> cases e
  apart := fun i j d e a _ h1 => by
    unfold envS at h1
    cases i with
    | zero => cases h1
    | succ i =>
      have h1 : (List.replicate (N.length - 1) (none : Option Sl))[i]? = some (some (.own d)) := h1
      rw [List.getElem?_replicate] at h1
      split at h1 <;> cases h1
  draw := fun x l c e => by cases e
  len := by
    unfold envS start
    simp
/-- the draws of a script: large, cells -/
def spB (large cells : List Int → List Int) (K : PySem.W.Frag) : Sp := fun vs H Q _ => vs.length = 1 ∧ ∃ a ns, vs = [.ref a] ∧ SqL K H a (ns.map V.int) ∧ ns.length ≤ 63 ∧ ∀ x l c H', Same H H' → H x = none → H l = none → H c = none → x ≠ l → c ≠ x → c ≠ l →
  H' x = some (.dK (drawKV l c ⟨large ns, 0, cells ns, 0⟩)) → H' l = some (.lst ((large ns).map V.int)) → H' c = some (.lst ((cells ns).map V.int)) → Q (.ref x) H'
section
variable {P : Program} {w : World} {K : PySem.W.Frag} {mg : Str → Option Value} {base : Heap} {x : Str} {params : Arguments} {scope : Scope} {f : Addr} {fd : FuncData} {N ps : List Str} {k : Nat} {large cells : List Int → List Int}
theorem calB {d1 : DenS} {c1 : Den} {st1 : Stmt} {ec : Expr} {j1 j2 j3 j4 j5 j6 : Nat} {p1 p2 p3 p4 p5 p6 p7 pd pr : Pos}
    (F : FunD K x x params [st1, .Return (some (.Dict [some (.Constant (.str "large") j1 p1), some (.Constant (.str "rest") j2 p2), some (.Constant (.str "cells") j3 p3), some (.Constant (.str "turn") j4 p4)] [.Name "large" p5, .Constant (.int 0) j5 p6, ec, .Constant (.int 0) j6 p7] pd)) pr] scope [] [] f fd)
    (hm : mg x = some (.ref f)) (S : FnScope N ps scope) (hn : ps.length = 1) (hb : Binds K fd ps [])
    (hd : ∀ ns : List Int, ns.length ≤ 63 → ∃ env1, d1 (envS N.length ns) ds0 = some (.nx env1, ds0) ∧ env1[1]? = some (some (.own (.list ((large ns).map D.int)))) ∧ c1 env1 ds0 = some (.list ((cells ns).map D.int), ds0))
    (h : ∀ (cdv : Value) (A : Around) (outer : List Env) (s : Shared) (H : Hp) (E : XK), Room k (A.deeper (envOfC x scope s.heap.objs.size f cdv)) →
      EvS (cxB P w K mg base N x scope f cdv A outer s H E) st1 d1 ∧ PE (cxB P w K mg base N x scope f cdv A outer s H E) (.Name "large" p5) (tVar 1) ∧ EvN (cxB P w K mg base N x scope f cdv A outer s H E) ec c1) : Cal P w K mg base (k + 1) x (spB large cells K) [] :=
  ⟨f, fd, ps, [], F.ok S (fun vs H Q E h => h.1.trans hn.symm) (fun cdv A outer s H vs Q E hr hsp => ⟨SSs (cxB P w K mg base N x scope f cdv A outer s H E) _, PSs.nox (pss_ss _ _), by
    obtain ⟨_, a, ns, rfl, hq, hl, q⟩ := hsp
    obtain ⟨env1, e1, e2, e3⟩ := hd ns hl
    obtain ⟨h1, h2, h3⟩ := h cdv A outer s H E hr
    refine SSs.of (pss_cons (ps_ss _ st1) (pss_one (ps_ret (pe_disp (pps_cons pe_str h2 (pps_cons pe_str pe_int (pps_cons pe_str (pe_se _ ec) (pps_cons pe_str pe_int pps_nil)))) rfl rfl (by simp) (by show 4 ≤ 15; omega))))) ?_
    refine h1 ⟨H, fun _ => none, none⟩ (envS N.length ns) ds0 (start N [.ref a]) (fun _ => none) H _ _ (sr_startS N hq) e1 _ fun σ1 Hf1 H1 s1 S1 => ?_
    intro p np
    obtain ⟨l, el, nfl, hl0, ndl, tl⟩ := S1.slots 1 _ e2
    have nf := sub_none S1 np
    have Fp := S1.fre np
    have S2 := S1.hp (o := .dK []) nf Fp
    refine ⟨_, el, ?_⟩
    refine h3 _ _ _ _ _ _ _ _ S2 e3 _ fun c Hf3 H3 g3 S3 n3 nf3 t3 => ?_
    have np3 : H3 p = some (.dK []) := g3.at upd_same Fp.nd
    refine ⟨np3, [(.inr "large", .ref l), (.inr "rest", .int 0), (.inr "cells", .ref c), (.inr "turn", .int 0)], rfl, by show 4 ≤ 15; omega, ?_⟩
    cases tl with
    | lst hl1 rl =>
      cases t3 with
      | lst hc1 rc =>
        have hlp : l ≠ p := fun z => by subst z; rw [np] at hl1; cases hl1
        have hcp : c ≠ p := fun z => by subst z; rw [upd_same] at n3; cases n3
        have hl3 : H3 l = _ := g3.at (show upd H1 p (.dK []) l = _ by rw [upd_ne hlp]; exact hl1) ndl
        have hcl : c ≠ l := fun z => by
          subst z
          rw [upd_ne hlp, hl1] at n3; cases n3
        cases rpl_ints rl
        cases rpl_ints rc
        refine q p l c _ (fun b o e => ?_) Fp.h0 hl0 (S2.fre n3).h0 hlp.symm hcp hcl ?_ (by rw [upd_ne hlp]; exact hl3) (by rw [upd_ne hcp]; exact hc1)
        · obtain ⟨o', e', n'⟩ := S3.base b o e
          rw [upd_ne (ne_of_none e Fp.h0), e', n' nodr]
        · rw [upd_same]
          rfl⟩), hm, F.kp, hb, .nil⟩
/-- the first statement of a law -/
theorem law_start {X : Cx} {sn dn : Str} {j : Nat} {a : Addr} {ns : List Int} {H : Hp} {rest : List Stmt} {d : DenS} {ds' : DS} {Dd : Ends} {p1 p2 p3 p4 p5 : Pos} (hN : X.N.Nodup) (c : Cal X.prog X.w X.K X.mg X.base k x (spB large cells X.K) []) (hr : Room j X.A) (hk : k ≤ j)
    (hi : X.N[1]? = some dn) (h0 : PE X (.Name sn p3) (tVar 0)) (hx : Loc X.env.scope dn) (hf : X.fn dn = true ∨ X.env.scope.names.lookup dn = some .local) (hg : Gl X x)
    (hs : swapsWith (.Call (.Name x p2) [.Name sn p3] [] p4) (some (.Name dn p1)) p5.line X.env = pure false) (hdb : (x == ("__debug__" : Str)) = false)
    (he : starEach [.Name sn p3] X.env = (false, eval (.Name sn p3) X.env) :: starEach [] X.env) (hpl : (backTo p4 (starEach [] X.env)).any (·.1) = false)
    (hq : SqL X.K H a (ns.map V.int)) (hl : ns.length ≤ 63) (hrest : EvSs X rest d) (hd : d ((envS X.N.length ns).set 1 (some .draw)) ⟨large ns, 0, cells ns, 0⟩ = some (.rt (.bool true), ds'))
    (ht : ∀ H', Dd.rt (.bl true) H') : SSs X (.Assign [.Name dn p1] (.Call (.Name x p2) [.Name sn p3] [] p4) p5 :: rest) Dd (start X.N [.ref a]) H := by
  have hN1 : 1 < X.N.length := (List.getElem?_eq_some_iff.mp hi).1
  refine SSs.of (pss_cons (ps_set hN hi hx (pe_c c hr hk hg (pa_cons h0 pa_nil he) hdb he hpl) hs hf) (pss_ss X rest)) ?_
  refine ⟨_, rfl, rfl, a, ns, rfl, hq, hl, fun y l cc H' sm hy hll hc n1 n2 n3 ey el ec => ?_⟩
  have S0 := sr_startS (ds := ⟨large ns, 0, cells ns, 0⟩) X.N hq
  have nd : ∀ b, H b ≠ none → ¬ (Bs.mk H (fun _ => none) (some (y, l, cc))).isDr b := fun b hb ⟨_, _, _, e, z⟩ => by
    cases e
    rcases z with rfl | rfl
    · exact hb hy
    · exact hb hll
  refine hrest ⟨H, fun _ => none, some (y, l, cc)⟩ _ _ _ (upd (fun _ => none) cc (.lst ((cells ns).map V.int))) H' _ _ ⟨?_, ?_, ?_, ?_, ?_, ?_, ?_, ?_⟩ hd _ fun v _ _ _ H2 _ _ r => ?_
  · intro b o e
    by_cases z : b = cc
    · subst z; rw [upd_same] at e; cases e; exact ec
    · rw [upd_ne z] at e; cases e
  · exact fun b o e => ⟨o, sm b o e, fun _ => rfl⟩
  · exact fun _ _ e => by cases e
  · intro b e
    by_cases z : b = cc
    · subst z; exact .inr (.inl hc)
    · rw [upd_ne z] at e; exact absurd rfl e
  · intro i sl e
    by_cases z : 1 = i
    · subst z
      rw [List.getElem?_set_self (by unfold envS; simp; omega)] at e
      cases e
      exact ⟨y, l, cc, rfl, List.getElem?_set_self (by unfold start; simp; omega)⟩
    · rw [List.getElem?_set_ne z] at e
      have q := S0.slots i sl e
      cases sl with
      | scr ms =>
        obtain ⟨b, e1, n, e2⟩ := q
        exact ⟨b, by rw [List.getElem?_set_ne z]; exact e1, fun o eo => nd b (fun z => by have eo : H b = some o := eo; rw [z] at eo; cases eo), e2⟩
      | val d => obtain ⟨v, e1, r⟩ := q; unfold envS at e; cases i with
        | zero => cases e
        | succ i =>
          have e : (List.replicate (X.N.length - 1) (none : Option Sl))[i]? = some (some (.val d)) := e
          rw [List.getElem?_replicate] at e
          split at e <;> cases e
      | own d => unfold envS at e; cases i with
        | zero => cases e
        | succ i =>
          have e : (List.replicate (X.N.length - 1) (none : Option Sl))[i]? = some (some (.own d)) := e
          rw [List.getElem?_replicate] at e
          split at e <;> cases e
      | draw => unfold envS at e; cases i with
        | zero => cases e
        | succ i =>
          have e : (List.replicate (X.N.length - 1) (none : Option Sl))[i]? = some (some .draw) := e
          rw [List.getElem?_replicate] at e
          split at e <;> cases e
  · intro i j' d e b z h1
    by_cases y1 : 1 = i
    · subst y1
      rw [List.getElem?_set_self (by unfold envS; simp; omega)] at h1
      cases h1
    · rw [List.getElem?_set_ne y1] at h1
      unfold envS at h1
      cases i with
      | zero => cases h1
      | succ i =>
        have h1 : (List.replicate (X.N.length - 1) (none : Option Sl))[i]? = some (some (.own d)) := h1
        rw [List.getElem?_replicate] at h1
        split at h1 <;> cases h1
  · intro x' l' c' e
    cases e
    exact ⟨ey, el, by rw [upd_ne n2.symm], by rw [upd_ne n3.symm], upd_same⟩
  · have := S0.len
    simpa using this
  · cases r
    exact ht _
end
end L2.Dn
set_option Elab.async false
set_option linter.all false
set_option maxRecDepth 100000
/-! a == {k: v}, the key any tuple of ints -/
namespace L2.Dn
open PySem PySem.Spec PyProof.Rows C8
def D1O (P : Program) (w : World) (p b : Addr) (ks : List Key) (y : V) : HO := .ext fun h => ∃ o es ep u, h.get? p = some o ∧ o.ExactDict ∧ o.data = .dict es ep ∧ es.toList = [(ks, b, u)].map (entryOfKey (tupleKind (mixKind P w))) ∧ RelV y u
theorem key_ofR {P : Program} {w : World} {H : Hp} {h : Heap} {a : Addr} {ks : List Key} (ok : HOk P w H h) (e : Rd H a (.tup (ks.map kV))) : (tupleKind (mixKind P w)).is h ks a := by
  obtain ⟨_, its, r, o, h1, h2, n, h3⟩ := (show ObjOk P w H h a (.tup (ks.map kV)) from rd_of ok e)
  exact ⟨o, its.toArray, n, h1, h2, h3, by simpa using items_are r⟩
section
variable {X : Cx} {pos : Pos} {k v : Expr} {tk tv : TE}
def tDisp1P (X : Cx) (tk tv : TE) : TE := fun σ H Q => ∀ p, H p = none → (p == sysModules) = false → tk σ (upd H p (.dT [])) fun x H1 => tv σ H1 fun y H2 => ∃ (ks : List Key) (b : Addr), x = .ref b ∧ Rd H2 b (.tup (ks.map kV)) ∧ H2 p = some (.dT []) ∧ Q (.ref p) (upd H2 p (D1O X.prog X.w p b ks y))
theorem pe_disp1P (hu : X.A.units + 8 < cLine) (hk : PE X k tk) (hv : PE X v tv) : PE X (.Dict [some k] [v] pos) (tDisp1P X tk tv) := by
  refine ⟨fun pins s σ H Q I q => ?_⟩
  have hn := I.hok.fresh (Nat.le_refl s.heap.objs.size)
  have hsm : (s.heap.objs.size == sysModules) = false := by
    have := I.big
    exact beq_eq_false_iff_ne.mpr (fun z => by rw [z] at this; exact Nat.lt_irrefl _ this)
  have I1 := I.laid (a := s.heap.objs.size) (o := .dT []) (h' := s.heap.push { cls := .type "dict", data := .dict #[] }) (t' := s.toks) (fun _ _ q => Heap.get?_push_of_some _ q) (Nat.le_refl _) (dt_empty s.heap I.big)
  rw [arm_eval_Dict, zip_pairTrees [some k] [v] X.env pos rfl rfl, dictDisplay_pairs (pairTrees [some k] [v] X.env pos) (by simp [pairTrees]) (by simp [pairTrees])]
  refine wpAny_bind (wpAny_standAt (wpAny_bind (wpAny_subDictH (knd := tupleKind (mixKind X.prog X.w)) (show X.A.units < cLine by omega) (by simp [pairTrees]) ?_)))
  refine pairTrees_cons_walk (thn (hk.run pins _ σ _ _ I1 (q _ hn hsm)) fun u s1 ⟨x, H1, I2, rx, q1⟩ => thn (hv.run pins s1 σ H1 _ I2 q1) fun u2 s2 ⟨y, H2, I3, ry, ks, b, ex, hb, hp, q2⟩ => pairTrees_nil_walk ?_)
  subst ex
  cases (show u = Value.ref b from rx)
  obtain ⟨z, hd, vs0, r0, dd⟩ := dt_of I3.hok hp
  cases r0
  refine ⟨[(ks, b, u2)], ⟨rfl, rfl, key_ofR I3.hok hb, True.intro⟩, dd, fun h' tk' dd' hs => wpAny_pure ⟨.ref s.heap.objs.size, _, ?_, rfl, q2⟩⟩
  have e1 : storedAllH ([] : List (List Key × Addr × Value)) [(ks, b, u2)] = [(ks, b, u2)] := by simp [storedAllH, storedH, atKey]
  rw [e1] at dd'
  obtain ⟨ob, es, ep, hq, h2, h3, h4, _, h5⟩ := dd'
  refine d_write I3 (by rw [hp]; exact True.intro) hs ⟨ob, hq⟩ ⟨⟨ob, es, ep, u2, hq, h2, h3, h4, ry⟩, ⟨ob, hq⟩, ?_⟩
  rintro g1 g2 ⟨o, es, ep, u, a1, a2, a3, a4, a5⟩ kk
  exact ⟨o, es, ep, u, kk _ a1, a2, a3, a4, a5⟩
def rEq1 (X : Cx) (ne : Bool) : R2 := fun x y H Q => ∃ a p b ks kvs Hf k' i r, x = .ref a ∧ y = .ref p ∧ (p == sysModules) = false ∧ Rd H a (.dT kvs) ∧ H p = some (D1O X.prog X.w p b ks (.int i)) ∧ Rd H b (.tup (ks.map kV)) ∧ RpT Hf kvs k' ∧ eqDT k' [(ks, .int i)] = some r ∧ Q (.bl (xor ne r)) H
theorem op_eq1 (ne : Bool) (hu : X.A.units + 8 < cLine) : OpR X (compareOp (if ne then .NotEq else .Eq)) (rEq1 X ne) := by
  intro pins s σ H x y v u Q I rx ry ⟨a, p, b, ks, kvs, Hf, k', i, r, ex, ey, yb, ha, hp, hb, hk, er, q⟩
  subst ex ey
  obtain rfl : v = Value.ref a := rx
  obtain rfl : u = Value.ref p := ry
  obtain ⟨_, ya, xa, ra, da⟩ := dt_rd I.hok ha
  obtain ⟨⟨o, es, ep, u, a1, a2, a3, a4, a5⟩, _⟩ := (show ObjOk X.prog X.w H s.heap p (D1O X.prog X.w p b ks (.int i)) from I.hok p _ hp)
  have kb := key_ofR I.hok hb
  have db : s.heap.DictOfH (tupleKind (mixKind X.prog X.w)) p [(ks, b, u)] := ⟨o, es, ep, a1, a2, a3, a4, fun x hx => by
    rcases List.mem_cons.mp hx with rfl | hx
    · exact kb
    · exact (nomatch hx), by simp⟩
  have e1 : xa.length = k'.length := (Paired.length ra).symm.trans hk.length
  have rb : KT (fun _ => some (.tup (ks.map kV))) [(ks, V.int i)] [(ks, b, u)] := .cons ⟨rfl, rfl, a5⟩ .nil
  have hl : RpT (fun _ => none) [(ks, V.int i)] [(ks, D.int i)] := .cons (.int i) .nil
  unfold eqDT at er
  cases hq : Nat.beq k'.length [(ks, D.int i)].length with
  | false =>
    rw [hq] at er
    cases er
    have hne : xa.length ≠ [(ks, b, u)].length := fun z => by
      rw [e1] at z
      have z : k'.length = 1 := z
      rw [z] at hq
      cases hq
    refine eqDH (knd := tupleKind (mixKind X.prog X.w)) (r := false) ne (show X.A.in1.units < cLine by show X.A.units + 1 < cLine; omega) ya yb da db (by omega) (fun z => absurd z hne) ⟨.bl _, H, I.tok _, rfl, ?_⟩
    have : (xa.length == [(ks, b, u)].length && false) = false := by simp
    rw [this]
    exact q
  | true =>
    rw [hq] at er
    have heq : xa.length = [(ks, b, u)].length := by rw [e1]; exact Nat.eq_of_beq_eq_true hq
    refine eqDH (knd := tupleKind (mixKind X.prog X.w)) (r := r) ne (show X.A.in1.units < cLine by show X.A.units + 1 < cLine; omega) ya yb da db (by omega) (fun _ => eqEnt_hits hl rb hk ra er) ⟨.bl _, H, I.tok _, rfl, ?_⟩
    have : (xa.length == [(ks, b, u)].length && r) = r := by rw [heq]; simp
    rw [this]
    exact q
def keyOfP? : D → Option (List Key)
  | .tuple ds => keys? ds
  | .ptup ds => keys? ds
  | _ => none
def dEq1 (ne : Bool) (f fk fv : Den) : Den := fun env ds => bnd (f env ds) fun x s => bnd (fk env s) fun k s1 => bnd (fv env s1) fun v s2 => match x, keyOfP? k, v with
  | .dT kvs, some ks, .int i => (match eqDT kvs [(ks, .int i)] with
    | some b => some (.bool (xor ne b), s2)
    | none => none)
  | _, _, _ => none
theorem keyOfP_rp {Hf : Hp} {v : V} {d : D} {k : List Key} (r : Rp Hf v d) (h : keyOfP? d = some k) : ∃ b, v = .ref b ∧ Rd Hf b (.tup (k.map kV)) := by
  cases d with
  | tuple ds =>
    cases r with
    | tup e t =>
      have := keys_rp t (show keys? ds = some k from h)
      subst this
      exact ⟨_, rfl, .inl e⟩
  | ptup ds =>
    cases r with
    | ptup e hd t =>
      have := keys_rp t (show keys? ds = some k from h)
      subst this
      exact ⟨_, rfl, .inr ⟨_, e⟩⟩
  | _ => cases h
theorem rd_sub {H H' : Hp} {a : Addr} {o : HO} (h : Rd H a o) (s : Same H H') : Rd H' a o := by
  rcases h with h | ⟨u, h⟩
  · exact .inl (s _ _ h)
  · exact .inr ⟨u, s _ _ h⟩
theorem eq1_core {a : Expr} {f fk fv : Den} (ne : Bool) (hu : X.A.units + 8 < cLine) (ha : EvR X a f) (hk : EvF X k fk) (hv : EvF X v fv) {B env ds σ Hf H d ds'} {Q : VK} (S : SR B X.K env ds σ Hf H) (hf : dEq1 ne f fk fv env ds = some (d, ds'))
    (q : ∀ b Hf' H', d = .bool b → Gr B Hf H Hf' H' → SR B X.K env ds' σ Hf' H' → Q (.bl b) H') : tOp (rEq1 X ne) (SE X a) (tDisp1P X (SE X k) (SE X v)) σ H Q := by
  obtain ⟨dx, s1, e1, hf1⟩ := bnd_eq hf
  obtain ⟨dk, s2, e2, hf2⟩ := bnd_eq hf1
  obtain ⟨dv, s3, e3, hf3⟩ := bnd_eq hf2
  clear hf hf1 hf2
  split at hf3
  · rename_i kvs ks i ek
    split at hf3
    · rename_i b eb
      cases hf3
      refine ha B env ds σ Hf H _ _ S e1 _ fun x Hf1 H1 g1 S1 r1 => ?_
      intro p np hsm
      have nf := sub_none S1 np
      have F := S1.fre np
      have S2 := S1.hp (o := .dT []) nf F
      refine hk B env s1 σ Hf1 (upd H1 p (.dT [])) _ _ S2 e2 _ fun y Hf2 H2 g2 S2' r2 => hv B env s2 σ Hf2 H2 _ _ S2' e3 _ fun z Hf3 H3 g3 S3 r3 => ?_
      have gg := g2.trans g3
      have hp3 : H3 p = some (.dT []) := gg.at upd_same F.nd
      have nf3 : Hf3 p = none := gg.noF nf (by rw [upd_same]; simp) (by intro xs z; rw [upd_same] at z; cases z)
      obtain ⟨b2, rfl, hb⟩ := keyOfP_rp r2 ek
      have hb3 : Rd Hf3 b2 _ := rd_sub hb g3.ff
      have hb4 : Rd H3 b2 _ := rd_sub hb3 S3.sub
      cases r3
      refine ⟨ks, b2, rfl, hb4, hp3, ?_⟩
      have gx : Gr B Hf1 H1 Hf3 (upd H3 p (D1O X.prog X.w p b2 ks (.int i))) := ((Gr.refl.hp np).trans gg).hp np
      have S4 := S3.hp (o := D1O X.prog X.w p b2 ks (.int i)) nf3 F
      have r4 := r1.up gx
      obtain ⟨a, kv, rfl, h1, h2⟩ := r4.dT S4.sub
      refine ⟨a, p, b2, ks, kv, Hf3, kvs, i, b, rfl, rfl, hsm, h1, upd_same, rd_sub hb3 S4.sub, h2, eb, q _ _ _ rfl (g1.trans gx) S4⟩
    · cases hf3
  · cases hf3
theorem evf_eq1 {a : Expr} {f fk fv : Den} {pos' : Pos} (hu : X.A.units + 8 < cLine) (ha : EvR X a f) (hk : EvF X k fk) (hv : EvF X v fv) : EvF X (.Compare a [.Eq] [.Dict [some k] [v] pos] pos') (dEq1 false f fk fv) := fun B env ds σ Hf H d ds' S hf Q q =>
  SE.of (pe_cmpR (op_eq1 false hu) (pe_se X a) (pe_disp1P hu (pe_se X k) (pe_se X v)) (nomark _)) (eq1_core false hu ha hk hv S hf fun b Hf' H' e g S' => by subst e; exact q _ _ _ g S' (.bl b))
theorem evf_ne1 {a : Expr} {f fk fv : Den} {pos' : Pos} (hu : X.A.units + 8 < cLine) (ha : EvR X a f) (hk : EvF X k fk) (hv : EvF X v fv) : EvF X (.Compare a [.NotEq] [.Dict [some k] [v] pos] pos') (dEq1 true f fk fv) := fun B env ds σ Hf H d ds' S hf Q q =>
  SE.of (pe_cmpR (op_eq1 true hu) (pe_se X a) (pe_disp1P hu (pe_se X k) (pe_se X v)) (nomark _)) (eq1_core true hu ha hk hv S hf fun b Hf' H' e g S' => by subst e; exact q _ _ _ g S' (.bl b))
theorem evt_ne1 {a : Expr} {f fk fv : Den} {pos' : Pos} (hu : X.A.units + 8 < cLine) (ha : EvR X a f) (hk : EvF X k fk) (hv : EvF X v fv) : EvT X (.Compare a [.NotEq] [.Dict [some k] [v] pos] pos') (dTest (dEq1 true f fk fv)) := fun B env ds σ Hf H d ds' S hf Q q =>
  STt.of (pt_cmpR (op_eq1 true hu) (pe_se X a) (pe_disp1P hu (pe_se X k) (pe_se X v)) (nomark _)) (eq1_core true hu ha hk hv S (dTest_eq hf) fun b Hf' H' e g S' => by cases e; exact ⟨_, rfl, q _ _ g S'⟩)
theorem evt_eq1 {a : Expr} {f fk fv : Den} {pos' : Pos} (hu : X.A.units + 8 < cLine) (ha : EvR X a f) (hk : EvF X k fk) (hv : EvF X v fv) : EvT X (.Compare a [.Eq] [.Dict [some k] [v] pos] pos') (dTest (dEq1 false f fk fv)) := fun B env ds σ Hf H d ds' S hf Q q =>
  STt.of (pt_cmpR (op_eq1 false hu) (pe_se X a) (pe_disp1P hu (pe_se X k) (pe_se X v)) (nomark _)) (eq1_core false hu ha hk hv S (dTest_eq hf) fun b Hf' H' e g S' => by cases e; exact ⟨_, rfl, q _ _ g S'⟩)
end
end L2.Dn
set_option Elab.async false
set_option linter.all false
set_option maxRecDepth 100000
/-! the law's def: its promise; the draws of a script -/
namespace L2.Dn
open PySem PySem.Spec PyProof.Rows C8
def iab (i : Int) : Int := if i < 0 then -i else i
def bgLarge (ns : List Int) : List Int := (ns.filter fun i => decide (1000000000000000000 ≤ iab i)).map fun i => iab i - 1000000000000000000
def bgCells (ns : List Int) : List Int := ns.map iab
def N__law_begun : List Str := ["script", "large", "cell"]
def d1_begun : DenS := dSet 1 true (dLc (iScr 0) [2] (gNm 2) (dTest (d2 gGe (dB gAbs (aCons (dRd 2) (aNil))) (d2 gPow (dC (.int 10)) (dC (.int 18))))) (d2 L2.Dn.gSub (dB gAbs (aCons (dRd 2) (aNil))) (d2 gPow (dC (.int 10)) (dC (.int 18)))))
def c1_begun : Den := dLc (iScr 0) [2] (gNm 2) (tYesD) (dB gAbs (aCons (dRd 2) (aNil)))
theorem pow_18 : d2 gPow (dC (.int 10)) (dC (.int 18)) = dC (.int 1000000000000000000) := by
  funext env ds
  rfl
theorem beg_test (a b : Option Sl) (i : Int) (ds : DS) : dTest (d2 gGe (dB gAbs (aCons (dRd 2) aNil)) (dC (.int 1000000000000000000))) [a, b, some (.val (.int i))] ds = some (decide (1000000000000000000 ≤ iab i), ds) := rfl
theorem beg_elt (a b : Option Sl) (i : Int) (ds : DS) : d2 L2.Dn.gSub (dB gAbs (aCons (dRd 2) aNil)) (dC (.int 1000000000000000000)) [a, b, some (.val (.int i))] ds = some (.int (iab i - 1000000000000000000), ds) := rfl
theorem beg_loop (a b : Option Sl) (ds : DS) : ∀ l : List Int, lcLoop (gNm 2) (dTest (d2 gGe (dB gAbs (aCons (dRd 2) aNil)) (dC (.int 1000000000000000000)))) (d2 L2.Dn.gSub (dB gAbs (aCons (dRd 2) aNil)) (dC (.int 1000000000000000000))) [a, b, none] (l.map D.int) ds = some ((bgLarge l).map D.int, ds)
  | [] => rfl
  | i :: r => by
    have ih := beg_loop a b ds r
    have e : gNm 2 (.int i) [a, b, none] = some [a, b, some (.val (.int i))] := rfl
    rw [List.map_cons, lcLoop, e]
    dsimp only
    rw [beg_test]
    unfold bnd
    dsimp only
    by_cases h : 1000000000000000000 ≤ iab i
    · rw [decide_eq_true h]
      dsimp only
      rw [beg_elt]
      dsimp only
      rw [ih]
      have : bgLarge (i :: r) = (iab i - 1000000000000000000) :: bgLarge r := by
        unfold bgLarge
        rw [List.filter_cons_of_pos (by simpa using h)]
        rfl
      rw [this]
      rfl
    · rw [decide_eq_false h]
      dsimp only
      rw [ih]
      have : bgLarge (i :: r) = bgLarge r := by
        unfold bgLarge
        rw [List.filter_cons_of_neg (by simpa using h)]
      rw [this]
theorem beg_loop2 (a b : Option Sl) (ds : DS) : ∀ l : List Int, lcLoop (gNm 2) tYesD (dB gAbs (aCons (dRd 2) aNil)) [a, b, none] (l.map D.int) ds = some ((bgCells l).map D.int, ds)
  | [] => rfl
  | i :: r => by
    have ih := beg_loop2 a b ds r
    have e : gNm 2 (.int i) [a, b, none] = some [a, b, some (.val (.int i))] := rfl
    have e2 : dB gAbs (aCons (dRd 2) aNil) [a, b, some (.val (.int i))] ds = some (.int (iab i), ds) := rfl
    have e3 : tYesD [a, b, some (.val (.int i))] ds = some (true, ds) := rfl
    rw [List.map_cons, lcLoop, e]
    dsimp only
    rw [e3]
    unfold bnd
    dsimp only
    rw [e2]
    dsimp only
    rw [ih]
    rfl
theorem bgLarge_len (ns : List Int) : (bgLarge ns).length ≤ ns.length := by
  unfold bgLarge
  rw [List.length_map]
  exact List.length_filter_le _ _
theorem begun_den (ns : List Int) (hl : ns.length ≤ 63) : ∃ env1, d1_begun (envS N__law_begun.length ns) ds0 = some (.nx env1, ds0) ∧ env1[1]? = some (some (.own (.list ((bgLarge ns).map D.int)))) ∧ c1_begun env1 ds0 = some (.list ((bgCells ns).map D.int), ds0) := by
  refine ⟨[some (.scr ns), some (.own (.list ((bgLarge ns).map D.int))), none], ?_, rfl, ?_⟩
  · unfold d1_begun
    rw [pow_18]
    have e : dLc (iScr 0) [2] (gNm 2) (dTest (d2 gGe (dB gAbs (aCons (dRd 2) aNil)) (dC (.int 1000000000000000000)))) (d2 L2.Dn.gSub (dB gAbs (aCons (dRd 2) aNil)) (dC (.int 1000000000000000000))) [some (.scr ns), none, none] ds0 = some (.list ((bgLarge ns).map D.int), ds0) := by
      unfold dLc
      show bnd (some (ns.map D.int, ds0)) _ = _
      unfold bnd
      dsimp only
      rw [show wipeE [some (Sl.scr ns), none, none] [2] = [some (.scr ns), none, none] from rfl, beg_loop]
      dsimp only
      rw [if_pos]
      rw [List.length_map]
      have := bgLarge_len ns
      omega
    show bnd (dLc _ _ _ _ _ [some (.scr ns), none, none] ds0) _ = _
    rw [e]
    rfl
  · show dLc (iScr 0) [2] (gNm 2) (tYesD) (dB gAbs (aCons (dRd 2) (aNil))) _ _ = _
    unfold dLc
    show bnd (some (ns.map D.int, ds0)) _ = _
    unfold bnd
    dsimp only
    rw [show wipeE [some (Sl.scr ns), some (Sl.own (D.list ((bgLarge ns).map D.int))), none] [2] = [some (.scr ns), some (.own (.list ((bgLarge ns).map D.int))), none] from rfl, beg_loop2]
    dsimp only
    rw [if_pos]
    rw [List.length_map]
    unfold bgCells
    rw [List.length_map]
    omega
/-- the law's promise -/
def spL (K : PySem.W.Frag) : Sp := fun vs H Q _ => vs.length = 1 ∧ ∃ (a : Addr) (ns : List Int), vs = [.ref a] ∧ SqL K H a (ns.map V.int) ∧ ns.length ≤ 63 ∧ ∀ H', Q (.bl true) H'
/-- the plain law: what the def's denotation answers -/
def LawHolds (N : List Str) (d : DenS) : Prop := ∀ ns : List Int, ns.length ≤ 63 → ∃ ds', d ((envS N.length ns).set 1 (some .draw)) ⟨bgLarge ns, 0, bgCells ns, 0⟩ = some (.rt (.bool true), ds')
structure LawSt (X : Cx) (x sn dn : Str) (p1 p2 p3 p4 p5 : Pos) : Prop where
  h0 : PE X (.Name sn p3) (tVar 0)
  hx : Loc X.env.scope dn
  hf : X.fn dn = true ∨ X.env.scope.names.lookup dn = some .local
  hg : Gl X x
  hs : swapsWith (.Call (.Name x p2) [.Name sn p3] [] p4) (some (.Name dn p1)) p5.line X.env = pure false
  he : starEach [.Name sn p3] X.env = (false, eval (.Name sn p3) X.env) :: starEach [] X.env
  hpl : (backTo p4 (starEach [] X.env)).any (·.1) = false
section
variable {P : Program} {w : World} {K : PySem.W.Frag} {mg : Str → Option Value} {base : Heap} {x bx sn dn : Str} {params : Arguments} {scope : Scope} {f : Addr} {fd : FuncData} {N ps : List Str} {k j : Nat}
theorem calL {rest : List Stmt} {d : DenS} {p1 p2 p3 p4 p5 : Pos} (F : FunD K x x params (.Assign [.Name dn p1] (.Call (.Name bx p2) [.Name sn p3] [] p4) p5 :: rest) scope [] [] f fd) (S : FnScope N ps scope) (hn : ps.length = 1) (hi : N[1]? = some dn)
    (c : Cal P w K mg base j bx (spB bgLarge bgCells K) []) (hk : j ≤ k) (hd : LawHolds N d)
    (h : ∀ (cdv : Value) (A : Around) (outer : List Env) (s : Shared) (H : Hp) (E : XK), Room k (A.deeper (envOfC x scope s.heap.objs.size f cdv)) →
      LawSt (cxB P w K mg base N x scope f cdv A outer s H E) bx sn dn p1 p2 p3 p4 p5 ∧ EvSs (cxB P w K mg base N x scope f cdv A outer s H E) rest d)
    (hdb : (bx == ("__debug__" : Str)) = false := by decide) : FnOk P w K mg base CX0 (k + 1) f fd ps (spL K) :=
  F.ok S (fun vs H Q E h => h.1.trans hn.symm) (fun cdv A outer s H vs Q E hr hsp => ⟨SSs (cxB P w K mg base N x scope f cdv A outer s H E) _, PSs.nox (pss_ss _ _), by
    obtain ⟨_, a, ns, rfl, hq, hl, q⟩ := hsp
    obtain ⟨ds', e⟩ := hd ns hl
    obtain ⟨⟨h0, hx, hf, hg, hs, he, hpl⟩, hr2⟩ := h cdv A outer s H E hr
    exact law_start S.nd c hr hk hi h0 hx hf hg hs hdb he hpl hq hl hr2 e q⟩)
end
end L2.Dn
set_option Elab.async false
set_option linter.all false
set_option maxRecDepth 100000
/-! the draws: a number that is taken lies below its bound-/
namespace L2.Dn
open PySem PySem.Spec PyProof.Rows C8
def N__law_mixed : List Str := ["draw", "lap", "found", "great", "blend", "cell"]
def d__law_mixed : DenS := dSeq (dSetTn 0 (d2 gAdd (dTurn 0) (dC (.int 1)))) (dSeq (dPar 1 2 false false (dB gInt1 (aCons (dTurn 0) (aNil))) (dC (.int 0))) (dSeq (dFor (dItems (dLst (aCons (dC (.int 2147483647)) (aCons (dC (.int 2147483629)) (aCons (dC (.int 2147483587)) (aNil)))))) (gNm 3) (dSeq (dSet 4 false (d2 gMod (d2 gAdd (d2 gMul (dRd 1) (dC (.int 48271))) (d2 gDiv (dRd 3) (dC (.int 11)))) (dRd 3))) (dSeq (dFor (dItems (dCells 0)) (gNm 5) (dSeq (dSet 4 false (d2 gMod (d2 gAdd (d2 gAdd (d2 gMul (dRd 4) (dC (.int 69621))) (dB gInt1 (aCons (dRd 5) (aNil)))) (dRd 1)) (dRd 3))) (dNx))) (dSeq (dSet 2 false (d2 gAdd (d2 gMul (dRd 2) (dC (.int 2147483659))) (d2 gMod (d2 gPow (dRd 4) (dC (.int 5))) (dRd 3)))) (dNx))))) (dSeq (dRet (dVar 2)) (dNx))))
def f__law_mixed : List D → DS → Option (D × DS) := fnD N__law_mixed.length d__law_mixed
def N__law_take : List Str := ["draw", "amount", "found"]
def d__law_take : DenS := dSeq (dIfS (dTest (d2 gEqU (dRest 0) (dC (.int 0)))) (dSeq (dSetR 0 (dIf (tLarge 0) (dPopL 0) (dCallD 0 0 f__law_mixed (aNil)))) (dNx)) (dNx)) (dSeq (dSet 2 false (d2 gMod (dB gInt1 (aCons (dRest 0) (aNil))) (dRd 1))) (dSeq (dSetR 0 (d2 gDiv (dB gInt1 (aCons (dRest 0) (aNil))) (dRd 1))) (dSeq (dRet (dVar 2)) (dNx))))
def f__law_take : List D → DS → Option (D × DS) := fnD N__law_take.length d__law_take
def N__law_pick : List Str := ["draw", "some"]
def d__law_pick : DenS := dSeq (dRet (d2 gIx (dRd 1) (dCallD 0 1 f__law_take (aCons (dB gLen (aCons (dRd 1) (aNil))) (aNil))))) (dNx)
def f__law_pick : List D → DS → Option (D × DS) := fnD N__law_pick.length d__law_pick
def N__law_shuffled : List Str := ["draw", "some", "rest", "found"]
def d__law_shuffled : DenS := dSeq (dPar 2 3 true true (dB gListS (aCons (dRd 1) (aNil))) (dLst (aNil))) (dSeq (whLoop (dTest (d2 gNeU (dRd 2) (dLst (aNil)))) (dSeq (dAppPop 3 2 (dCallD 0 1 f__law_take (aCons (dB gLen (aCons (dRd 2) (aNil))) (aNil)))) (dNx)) 1000) (dSeq (dFrz 3 (dRet (dVar 3))) (dNx)))
def f__law_shuffled : List D → DS → Option (D × DS) := fnD N__law_shuffled.length d__law_shuffled
def N__law_sequence : List Str := ["draw", "wires"]
def d__law_sequence : DenS := dSeq (dRet (dB gPtup (aCons (dCallD 0 1 f__law_shuffled (aCons (dLstI (dRg2 (dC (.int 1)) (d2 gAdd (dRd 1) (dC (.int 1))))) (aNil))) (aNil)))) (dNx)
def f__law_sequence : List D → DS → Option (D × DS) := fnD N__law_sequence.length d__law_sequence
theorem d2_eq {g : D → D → Option D} {f h : Den} {env : En} {ds s s1 : DS} {a b c : D} (e1 : f env ds = some (a, s)) (e2 : h env s = some (b, s1)) (e3 : g a b = some c) : d2 g f h env ds = some (c, s1) := by
  unfold d2
  rw [e1]
  show bnd (h env s) _ = _
  rw [e2]
  show op1 (g a b) s1 = _
  rw [e3]
  rfl
theorem dSet_eq {i : Nat} {k : Bool} {f : Den} {env : En} {ds s : DS} {a : D} (e : f env ds = some (a, s)) : dSet i k f env ds = some (.nx (env.set i (some (mkSl k a))), s) := by
  unfold dSet
  rw [e]
  rfl
theorem dSeq_eq {f g : DenS} {env e : En} {ds s : DS} (h : f env ds = some (.nx e, s)) : dSeq f g env ds = g e s := by
  unfold dSeq
  rw [h]
theorem gMulR (i j : Int) (h : -(2 ^ 64) < j ∧ j < 2 ^ 64) : gMul (.int i) (.int j) = some (.int (i * j)) := if_pos (.inr h)
theorem gModR (i j : Int) (h : 0 < j) : gMod (.int i) (.int j) = some (.int (i % j)) := if_pos h
theorem gDivR (i j : Int) (h : 0 < j ∧ j < 1073741824) : gDiv (.int i) (.int j) = some (.int (i / j)) := if_pos h
def mixIn : DenS := dSeq (dSet 4 false (d2 gMod (d2 gAdd (d2 gAdd (d2 gMul (dRd 4) (dC (.int 69621))) (dB gInt1 (aCons (dRd 5) (aNil)))) (dRd 1)) (dRd 3))) (dNx)
theorem mixIn_eq (l f g b c : Int) (s : DS) (hg : 0 < g) : mixIn [some .draw, some (.val (.int l)), some (.val (.int f)), some (.val (.int g)), some (.val (.int b)), some (.val (.int c))] s =
    some (.nx [some .draw, some (.val (.int l)), some (.val (.int f)), some (.val (.int g)), some (.val (.int ((b * 69621 + c + l) % g))), some (.val (.int c))], s) := by
  unfold mixIn
  rw [dSeq_eq (dSet_eq (d2_eq (d2_eq (d2_eq (d2_eq rfl rfl (gMulR b 69621 (by decide))) (b := .int c) rfl rfl) (b := .int l) rfl rfl) (b := .int g) rfl (gModR _ _ hg)))]
  rfl
theorem mix_cells (l f g : Int) (hg : 0 < g) (s : DS) : ∀ (cs : List Int) (b : Int) (x : Option Sl), ∃ b' x', forLoop (gNm 5) mixIn (cs.map D.int) [some .draw, some (.val (.int l)), some (.val (.int f)), some (.val (.int g)), some (.val (.int b)), x] s =
    some (.nx [some .draw, some (.val (.int l)), some (.val (.int f)), some (.val (.int g)), some (.val (.int b')), x'], s) ∧ (0 ≤ b ∧ b < g → 0 ≤ b' ∧ b' < g)
  | [], b, x => ⟨b, x, rfl, id⟩
  | c :: cs, b, x => by
    obtain ⟨b', x', h1, h2⟩ := mix_cells l f g hg s cs ((b * 69621 + c + l) % g) (some (.val (.int c)))
    refine ⟨b', x', ?_, fun _ => h2 ⟨Int.emod_nonneg _ (by omega), Int.emod_lt_of_pos _ hg⟩⟩
    rw [List.map_cons, forLoop]
    show (match mixIn [some .draw, some (.val (.int l)), some (.val (.int f)), some (.val (.int g)), some (.val (.int b)), some (.val (.int c))] s with | none => none | some (.nx e, s') => forLoop (gNm 5) mixIn (cs.map D.int) e s' | some (.ct e, s') => forLoop (gNm 5) mixIn (cs.map D.int) e s' | some (.bk e, s') => some (.nx e, s') | some (.rt d, s') => some (.rt d, s')) = _
    rw [mixIn_eq l f g b c s hg]
    exact h1
def mixOut : DenS := dSeq (dSet 4 false (d2 gMod (d2 gAdd (d2 gMul (dRd 1) (dC (.int 48271))) (d2 gDiv (dRd 3) (dC (.int 11)))) (dRd 3))) (dSeq (dFor (dItems (dCells 0)) (gNm 5) mixIn) (dSeq (dSet 2 false (d2 gAdd (d2 gMul (dRd 2) (dC (.int 2147483659))) (d2 gMod (d2 gPow (dRd 4) (dC (.int 5))) (dRd 3)))) (dNx)))
theorem mixOut_eq (l f g : Int) (s : DS) (hg : 0 < g ∧ g < 2147483648) (x4 x5 : Option Sl) : ∃ f' y4 y5, mixOut [some .draw, some (.val (.int l)), some (.val (.int f)), some (.val (.int g)), x4, x5] s =
    some (.nx [some .draw, some (.val (.int l)), some (.val (.int f')), some (.val (.int g)), y4, y5], s) := by
  obtain ⟨b', x', h1, h2⟩ := mix_cells l f g hg.1 s s.cells ((l * 48271 + g / 11) % g) x5
  have h3 := h2 ⟨Int.emod_nonneg _ (by omega), Int.emod_lt_of_pos _ hg.1⟩
  refine ⟨f * 2147483659 + (b' ^ 5 % g), some (.val (.int b')), x', ?_⟩
  unfold mixOut
  refine (dSeq_eq (dSet_eq (d2_eq (d2_eq (d2_eq rfl rfl (gMulR l 48271 (by decide))) (d2_eq rfl rfl (gDivR g 11 (by decide))) rfl) (b := .int g) rfl (gModR _ _ hg.1)))).trans ?_
  have e : dFor (dItems (dCells 0)) (gNm 5) mixIn [some .draw, some (.val (.int l)), some (.val (.int f)), some (.val (.int g)), some (.val (.int ((l * 48271 + g / 11) % g))), x5] s = _ := h1
  refine (dSeq_eq (f := dFor (dItems (dCells 0)) (gNm 5) mixIn) e).trans ?_
  have hp : gPow (.int b') (.int 5) = some (.int (b' ^ 5)) := if_pos ⟨by decide, by decide, by omega⟩
  refine (dSeq_eq (dSet_eq (d2_eq (d2_eq rfl rfl (gMulR f 2147483659 (by decide))) (d2_eq (d2_eq rfl rfl hp) (b := .int g) rfl (gModR _ _ hg.1)) rfl))).trans ?_
  rfl
theorem mixed_ok (ds : DS) : ∃ m ds', f__law_mixed [] ds = some (.int m, ds') := by
  obtain ⟨f1, a4, a5, e1⟩ := mixOut_eq (ds.turn + 1) 0 2147483647 { ds with turn := ds.turn + 1 } (by decide) none none
  obtain ⟨f2, b4, b5, e2⟩ := mixOut_eq (ds.turn + 1) f1 2147483629 { ds with turn := ds.turn + 1 } (by decide) a4 a5
  obtain ⟨f3, c4, c5, e3⟩ := mixOut_eq (ds.turn + 1) f2 2147483587 { ds with turn := ds.turn + 1 } (by decide) b4 b5
  refine ⟨f3, { ds with turn := ds.turn + 1 }, ?_⟩
  have ef : dFor (dItems (dLst (aCons (dC (.int 2147483647)) (aCons (dC (.int 2147483629)) (aCons (dC (.int 2147483587)) (aNil)))))) (gNm 3) mixOut [some .draw, some (.val (.int (ds.turn + 1))), some (.val (.int 0)), none, none, none] { ds with turn := ds.turn + 1 } =
      some (.nx [some .draw, some (.val (.int (ds.turn + 1))), some (.val (.int f3)), some (.val (.int 2147483587)), c4, c5], { ds with turn := ds.turn + 1 }) := by
    show forLoop (gNm 3) mixOut [.int 2147483647, .int 2147483629, .int 2147483587] [some .draw, some (.val (.int (ds.turn + 1))), some (.val (.int 0)), none, none, none] { ds with turn := ds.turn + 1 } = _
    rw [forLoop, show gNm 3 (.int 2147483647) [some .draw, some (.val (.int (ds.turn + 1))), some (.val (.int 0)), none, none, none] = some [some .draw, some (.val (.int (ds.turn + 1))), some (.val (.int 0)), some (.val (.int 2147483647)), none, none] from rfl]
    dsimp only
    rw [e1]
    dsimp only
    rw [forLoop, show gNm 3 (.int 2147483629) [some .draw, some (.val (.int (ds.turn + 1))), some (.val (.int f1)), some (.val (.int 2147483647)), a4, a5] = some [some .draw, some (.val (.int (ds.turn + 1))), some (.val (.int f1)), some (.val (.int 2147483629)), a4, a5] from rfl]
    dsimp only
    rw [e2]
    dsimp only
    rw [forLoop, show gNm 3 (.int 2147483587) [some .draw, some (.val (.int (ds.turn + 1))), some (.val (.int f2)), some (.val (.int 2147483629)), b4, b5] = some [some .draw, some (.val (.int (ds.turn + 1))), some (.val (.int f2)), some (.val (.int 2147483587)), b4, b5] from rfl]
    dsimp only
    rw [e3]
    rfl
  show outD (dSeq (dFor (dItems (dLst (aCons (dC (.int 2147483647)) (aCons (dC (.int 2147483629)) (aCons (dC (.int 2147483587)) (aNil)))))) (gNm 3) mixOut) (dSeq (dRet (dVar 2)) (dNx)) [some .draw, some (.val (.int (ds.turn + 1))), some (.val (.int 0)), none, none, none] { ds with turn := ds.turn + 1 }) = _
  rw [dSeq_eq ef]
  rfl
end L2.Dn
set_option Elab.async false
set_option linter.all false
set_option maxRecDepth 100000
/-! the draws, plain: taking, picking, shuffling -/
namespace L2.Dn
open PySem PySem.Spec PyProof.Rows C8
theorem dCallD_eq {i n : Nat} {f : List D → DS → Option (D × DS)} {g : DenA} {env : En} {ds s : DS} {as : List D} (hi : env[i]? = some (some .draw)) (h : g env ds = some (as, s)) (hn : as.length = n) : dCallD i n f g env ds = f as s := by
  unfold dCallD
  rw [hi]
  show bnd (g env ds) _ = _
  rw [h]
  exact if_pos hn
theorem aCons1 {f : Den} {env : En} {ds s : DS} {a : D} (h : f env ds = some (a, s)) : aCons f aNil env ds = some ([a], s) := by
  unfold aCons
  rw [h]
  rfl
theorem erase_perm {α : Type} : ∀ (xs : List α) (i : Nat) (x : α), xs[i]? = some x → (x :: xs.eraseIdx i).Perm xs
  | [], i, x, h => by simp at h
  | y :: ys, 0, x, h => by
    simp at h
    subst h
    exact List.Perm.refl _
  | y :: ys, i + 1, x, h => by
    have ih := erase_perm ys i x (by simpa using h)
    exact (List.Perm.swap y x _).trans (List.Perm.cons y ih)
theorem dTest_of {f : Den} {env : En} {ds s : DS} {b : Bool} (h : f env ds = some (.bool b, s)) : dTest f env ds = some (b, s) := by
  unfold dTest
  rw [h]
  rfl
theorem dIfS_t {t : DenT} {f g : DenS} {env : En} {ds s : DS} (h : t env ds = some (true, s)) : dIfS t f g env ds = f env s := by
  unfold dIfS
  rw [h]
  rfl
theorem dIfS_f {t : DenT} {f g : DenS} {env : En} {ds s : DS} (h : t env ds = some (false, s)) : dIfS t f g env ds = g env s := by
  unfold dIfS
  rw [h]
  rfl
def envT (n : Int) : En := [some .draw, some (.val (.int n)), none]
theorem take_rest (n : Int) (ds : DS) : ∃ ds1, dIfS (dTest (d2 gEqU (dRest 0) (dC (.int 0)))) (dSeq (dSetR 0 (dIf (tLarge 0) (dPopL 0) (dCallD 0 0 f__law_mixed (aNil)))) (dNx)) (dNx) (envT n) ds = some (.nx (envT n), ds1) := by
  by_cases h : ds.rest = 0
  · have e1 : dTest (d2 gEqU (dRest 0) (dC (.int 0))) (envT n) ds = some (true, ds) := dTest_of (d2_eq (a := .int ds.rest) rfl rfl (by
      show some (D.bool (decide (ds.rest = 0))) = _
      rw [decide_eq_true h]))
    rw [dIfS_t e1]
    cases hl : ds.large with
    | nil =>
      obtain ⟨m, ds', em⟩ := mixed_ok ds
      refine ⟨{ ds' with rest := m }, ?_⟩
      have e2 : dIf (tLarge 0) (dPopL 0) (dCallD 0 0 f__law_mixed (aNil)) (envT n) ds = some (.int m, ds') := by
        have e3 : tLarge 0 (envT n) ds = some (false, ds) := by
          show some ((match ds.large with | [] => false | _ => true), ds) = _
          rw [hl]
        unfold dIf
        rw [e3]
        show dCallD 0 0 f__law_mixed aNil (envT n) ds = _
        exact (dCallD_eq (i := 0) (n := 0) (g := aNil) (env := envT n) (as := []) (s := ds) rfl rfl rfl).trans em
      have e4 : dSetR 0 (dIf (tLarge 0) (dPopL 0) (dCallD 0 0 f__law_mixed (aNil))) (envT n) ds = some (.nx (envT n), { ds' with rest := m }) := by
        unfold dSetR
        rw [e2]
        rfl
      exact (dSeq_eq e4).trans rfl
    | cons m r =>
      refine ⟨{ { ds with large := r } with rest := m }, ?_⟩
      have e2 : dIf (tLarge 0) (dPopL 0) (dCallD 0 0 f__law_mixed (aNil)) (envT n) ds = some (.int m, { ds with large := r }) := by
        have e3 : tLarge 0 (envT n) ds = some (true, ds) := by
          show some ((match ds.large with | [] => false | _ => true), ds) = _
          rw [hl]
        unfold dIf
        rw [e3]
        show (match ds.large with | n :: r => some (D.int n, { ds with large := r }) | [] => none) = _
        rw [hl]
      have e4 : dSetR 0 (dIf (tLarge 0) (dPopL 0) (dCallD 0 0 f__law_mixed (aNil))) (envT n) ds = some (.nx (envT n), { { ds with large := r } with rest := m }) := by
        unfold dSetR
        rw [e2]
        rfl
      exact (dSeq_eq e4).trans rfl
  · have e1 : dTest (d2 gEqU (dRest 0) (dC (.int 0))) (envT n) ds = some (false, ds) := dTest_of (d2_eq (a := .int ds.rest) rfl rfl (by
      show some (D.bool (decide (ds.rest = 0))) = _
      rw [decide_eq_false h]))
    exact ⟨ds, (dIfS_f e1).trans rfl⟩
/-- a number below n -/
theorem take_ok (n : Int) (hn : 0 < n ∧ n < 1073741824) (ds : DS) : ∃ r ds', f__law_take [.int n] ds = some (.int r, ds') ∧ 0 ≤ r ∧ r < n := by
  obtain ⟨ds1, e1⟩ := take_rest n ds
  refine ⟨ds1.rest % n, { ds1 with rest := ds1.rest / n }, ?_, Int.emod_nonneg _ (by omega), Int.emod_lt_of_pos _ hn.1⟩
  show outD (d__law_take (envT n) ds) = _
  have e2 : dSet 2 false (d2 gMod (dB gInt1 (aCons (dRest 0) (aNil))) (dRd 1)) (envT n) ds1 = some (.nx [some .draw, some (.val (.int n)), some (.val (.int (ds1.rest % n)))], ds1) :=
    dSet_eq (i := 2) (k := false) (env := envT n) (d2_eq (a := .int ds1.rest) (b := .int n) rfl rfl (gModR _ _ hn.1))
  have e3 : d2 gDiv (dB gInt1 (aCons (dRest 0) (aNil))) (dRd 1) [some .draw, some (.val (.int n)), some (.val (.int (ds1.rest % n)))] ds1 = some (.int (ds1.rest / n), ds1) := d2_eq (a := .int ds1.rest) (b := .int n) rfl rfl (gDivR _ _ hn)
  have e4 : dSetR 0 (d2 gDiv (dB gInt1 (aCons (dRest 0) (aNil))) (dRd 1)) [some .draw, some (.val (.int n)), some (.val (.int (ds1.rest % n)))] ds1 = some (.nx [some .draw, some (.val (.int n)), some (.val (.int (ds1.rest % n)))], { ds1 with rest := ds1.rest / n }) := by
    unfold dSetR
    rw [e3]
    rfl
  unfold d__law_take
  rw [dSeq_eq e1, dSeq_eq e2, dSeq_eq e4]
  rfl
theorem atI_nat {α : Type} (xs : List α) (r : Int) (h : 0 ≤ r ∧ r < xs.length) : ∃ x, atI xs r = some x ∧ x ∈ xs ∧ xs[r.toNat]? = some x := by
  have hl : r.toNat < xs.length := by omega
  refine ⟨xs[r.toNat], ?_, List.getElem_mem hl, List.getElem?_eq_getElem hl⟩
  unfold atI ixN
  rw [if_pos h.1, if_pos h.2]
  exact List.getElem?_eq_getElem hl
/-- one of them -/
theorem pick_ok (xs : List D) (h0 : xs ≠ []) (hl : xs.length < 1073741824) (ds : DS) : ∃ x ds', f__law_pick [.list xs] ds = some (x, ds') ∧ x ∈ xs := by
  have hp : 0 < xs.length := List.length_pos_iff.mpr h0
  obtain ⟨r, ds', e, h1⟩ := take_ok (xs.length : Nat) (by omega) ds
  obtain ⟨x, e2, hx, _⟩ := atI_nat xs r (by omega)
  refine ⟨x, ds', ?_, hx⟩
  have e3 : dCallD 0 1 f__law_take (aCons (dB gLen (aCons (dRd 1) (aNil))) (aNil)) [some .draw, some (.val (.list xs))] ds = some (.int r, ds') := (dCallD_eq (as := [.int (xs.length : Nat)]) rfl rfl rfl).trans e
  have e4 : d2 gIx (dRd 1) (dCallD 0 1 f__law_take (aCons (dB gLen (aCons (dRd 1) (aNil))) (aNil))) [some .draw, some (.val (.list xs))] ds = some (x, ds') := d2_eq (a := .list xs) rfl e3 e2
  show outD (d__law_pick [some .draw, some (.val (.list xs))] ds) = _
  unfold d__law_pick dSeq dRet
  rw [e4]
  rfl
def shBody : DenS := dSeq (dAppPop 3 2 (dCallD 0 1 f__law_take (aCons (dB gLen (aCons (dRd 2) (aNil))) (aNil)))) (dNx)
def shEnv (a : Sl) (rest found : List D) : En := [some .draw, some a, some (.own (.list rest)), some (.own (.list found))]
theorem sh_loop (a : Sl) : ∀ (m : Nat) (rest found : List D) (fuel : Nat) (ds : DS), rest.length = m → m < fuel → m + found.length < 100000 → (∀ d ∈ rest, eqOk 7 d = true) →
    ∃ res ds', whLoop (dTest (d2 gNeU (dRd 2) (dLst (aNil)))) shBody fuel (shEnv a rest found) ds = some (.nx (shEnv a [] res), ds') ∧ res.Perm (found ++ rest)
  | 0, rest, found, fuel, ds, hm, hf, hs, hk => by
    cases rest with
    | cons _ _ => cases hm
    | nil =>
      cases fuel with
      | zero => omega
      | succ fuel => exact ⟨found, ds, rfl, by simp⟩
  | m + 1, rest, found, fuel, ds, hm, hf, hs, hk => by
    cases fuel with
    | zero => omega
    | succ fuel =>
      obtain ⟨r, ds', e, h1, h2⟩ := take_ok (rest.length : Nat) (by omega) ds
      obtain ⟨x, e2, hx, e3⟩ := atI_nat rest r (by omega)
      have hr : r.toNat < rest.length := by omega
      obtain ⟨res, ds2, e4, hp⟩ := sh_loop a m (rest.eraseIdx r.toNat) (found ++ [x]) fuel ds' (by rw [List.length_eraseIdx_of_lt hr]; omega) (by omega) (by rw [List.length_append]; simp; omega) fun d hd => hk d (List.mem_of_mem_eraseIdx hd)
      refine ⟨res, ds2, ?_, hp.trans ?_⟩
      · have ht : dTest (d2 gNeU (dRd 2) (dLst (aNil))) (shEnv a rest found) ds = some (true, ds) := by
          refine dTest_of (d2_eq (a := .list rest) (b := .list []) rfl rfl ?_)
          have hh : eqOk 8 (.list rest) = true := by
            show rest.all (eqOk 7) = true
            rw [List.all_eq_true]
            exact hk
          have h9 : gNeD (.list rest) (.list []) = some (.bool true) := by
            unfold gNeD
            rw [hh, show eqOk 8 (.list []) = true from rfl]
            cases rest with
            | nil => cases hm
            | cons _ _ => rfl
          unfold gNeU
          rw [h9]
        rw [whLoop]
        unfold bnd
        rw [ht]
        dsimp only
        have e5 : dCallD 0 1 f__law_take (aCons (dB gLen (aCons (dRd 2) (aNil))) (aNil)) (shEnv a rest found) ds = some (.int r, ds') := (dCallD_eq (as := [.int (rest.length : Nat)]) rfl rfl rfl).trans e
        have e6 : shBody (shEnv a rest found) ds = some (.nx (shEnv a (rest.eraseIdx r.toNat) (found ++ [x])), ds') := by
          have e7 : dAppPop 3 2 (dCallD 0 1 f__law_take (aCons (dB gLen (aCons (dRd 2) (aNil))) (aNil))) (shEnv a rest found) ds = some (.nx (shEnv a (rest.eraseIdx r.toNat) (found ++ [x])), ds') := by
            unfold dAppPop
            rw [e5]
            show (if (found.length < 100000 ∧ rest.length < 100000) ∧ 0 ≤ r ∧ r < rest.length then _ else none) = _
            rw [if_pos ⟨⟨by omega, by omega⟩, by omega, by omega⟩, e3]
            rfl
          exact (dSeq_eq e7).trans rfl
        rw [e6]
        exact e4
      · have h5 : (x :: rest.eraseIdx r.toNat).Perm rest := erase_perm rest _ x e3
        rw [List.append_assoc]
        exact List.Perm.append_left found h5
/-- the same things in another order -/
theorem shuffled_ok (xs : List D) (hl : xs.length < 1000) (hk : ∀ d ∈ xs, eqOk 7 d = true) (ds : DS) : ∃ ys ds', f__law_shuffled [.list xs] ds = some (.list ys, ds') ∧ ys.Perm xs := by
  obtain ⟨res, ds', e, hp⟩ := sh_loop (.val (.list xs)) xs.length xs [] 1000 ds rfl hl (by simp; omega) hk
  refine ⟨res, ds', ?_, by simpa using hp⟩
  show outD (d__law_shuffled [some .draw, some (.val (.list xs)), none, none] ds) = _
  have e1 : dPar 2 3 true true (dB gListS (aCons (dRd 1) (aNil))) (dLst (aNil)) [some .draw, some (.val (.list xs)), none, none] ds = some (.nx (shEnv (.val (.list xs)) xs []), ds) := rfl
  have e2 : dSeq (dFrz 3 (dRet (dVar 3))) (dNx) (shEnv (.val (.list xs)) [] res) ds' = some (.rt (.list res), ds') := rfl
  show outD (dSeq (dPar 2 3 true true (dB gListS (aCons (dRd 1) (aNil))) (dLst (aNil))) (dSeq (whLoop (dTest (d2 gNeU (dRd 2) (dLst (aNil)))) shBody 1000) (dSeq (dFrz 3 (dRet (dVar 3))) (dNx))) [some .draw, some (.val (.list xs)), none, none] ds) = _
  rw [dSeq_eq e1, dSeq_eq e, e2]
  rfl
theorem rgD_ok : ∀ (n : Nat) (a : Int), ∀ d ∈ rgD a n, eqOk 7 d = true
  | 0, a, d, h => by cases h
  | n + 1, a, d, h => by
    rcases List.mem_cons.mp h with rfl | h
    · rfl
    · exact rgD_ok n (a + 1) d h
/-- a shuffled 1 .. n -/
theorem sequence_ok (n : Nat) (hn : n < 900) (ds : DS) : ∃ ys ds', f__law_sequence [.int n] ds = some (.ptup ys, ds') ∧ ys.Perm (rgD 1 n) := by
  obtain ⟨ys, ds', e, hp⟩ := shuffled_ok (rgD 1 n) (by rw [rgD_len]; omega) (rgD_ok n 1) ds
  refine ⟨ys, ds', ?_, hp⟩
  have e1 : dLstI (dRg2 (dC (.int 1)) (d2 gAdd (dRd 1) (dC (.int 1)))) [some .draw, some (.val (.int n))] ds = some (.list (rgD 1 n), ds) := by
    have e2 : dRg2 (dC (.int 1)) (d2 gAdd (dRd 1) (dC (.int 1))) [some .draw, some (.val (.int n))] ds = some (rgD 1 n, ds) := by
      have q : d2 gAdd (dRd 1) (dC (.int 1)) [some .draw, some (.val (.int n))] ds = some (.int ((n : Int) + 1), ds) := rfl
      have q1 : dC (.int 1) [some .draw, some (.val (.int n))] ds = some (.int 1, ds) := rfl
      unfold dRg2
      rw [q1]
      unfold bnd
      dsimp only
      rw [q]
      dsimp only
      rw [if_pos ⟨by omega, by omega, by omega, by omega⟩]
      have : ((n : Int) + 1 - 1).toNat = n := by omega
      rw [this]
    unfold dLstI
    rw [e2]
    show (if (rgD 1 n).length ≤ 100000 then _ else none) = _
    rw [if_pos (by rw [rgD_len]; omega)]
  have e4 : dCallD 0 1 f__law_shuffled (aCons (dLstI (dRg2 (dC (.int 1)) (d2 gAdd (dRd 1) (dC (.int 1))))) (aNil)) [some .draw, some (.val (.int n))] ds = some (.list ys, ds') := (dCallD_eq rfl (aCons1 e1) rfl).trans e
  have e5 := aCons1 e4
  show outD (d__law_sequence [some .draw, some (.val (.int n))] ds) = _
  unfold d__law_sequence dSeq dRet dB
  rw [e5]
  rfl
end L2.Dn
set_option Elab.async false
set_option linter.all false
set_option maxRecDepth 100000
/-! the draws, plain: a list of numbers that are taken -/
namespace L2.Dn
open PySem PySem.Spec PyProof.Rows C8
def intsTo (n : Nat) : List Int := (List.range n).map Int.ofNat
theorem intsTo_mem {n : Nat} {r : Int} (h : 0 ≤ r ∧ r < n) : r ∈ intsTo n := List.mem_map.mpr ⟨r.toNat, List.mem_range.mpr (by omega), Int.toNat_of_nonneg h.1⟩
/-- all lists of k numbers below n -/
def allsN (n : Nat) : Nat → List (List Int)
  | 0 => [[]]
  | k + 1 => (intsTo n).flatMap fun a => (allsN n k).map (a :: ·)
theorem allsN_mem {n : Nat} : ∀ (l : List Int), (∀ r ∈ l, 0 ≤ r ∧ r < n) → l ∈ allsN n l.length
  | [], _ => List.mem_singleton.mpr rfl
  | r :: l, h => List.mem_flatMap.mpr ⟨r, intsTo_mem (h r (List.mem_cons_self ..)), List.mem_map.mpr ⟨l, allsN_mem l (fun z hz => h z (List.mem_cons_of_mem _ hz)), rfl⟩⟩
/-- [take(draw, env[k]) for i in items] -/
theorem takes_loop (i k : Nat) (n : Int) (hn : 0 < n ∧ n < 1073741824) (env0 : En) (h1 : ∀ d, (env0.set i (some (.val d)))[1]? = some (some .draw)) (h2 : ∀ d, (env0.set i (some (.val d)))[k]? = some (some (.val (.int n)))) :
    ∀ (items : List D) (ds : DS), ∃ (l : List Int) (ds' : DS), lcLoop (gNm i) tYesD (dCallD 1 1 f__law_take (aCons (dVar k) (aNil))) env0 items ds = some (l.map D.int, ds') ∧ l.length = items.length ∧ ∀ r ∈ l, 0 ≤ r ∧ r < n
  | [], ds => ⟨[], ds, rfl, rfl, fun _ h => by cases h⟩
  | d :: items, ds => by
    obtain ⟨r, ds1, e1, hr⟩ := take_ok n hn ds
    obtain ⟨l, ds2, e2, h3, h4⟩ := takes_loop i k n hn env0 h1 h2 items ds1
    refine ⟨r :: l, ds2, ?_, by simp [h3], fun z hz => ?_⟩
    · have e3 : dVar k (env0.set i (some (.val d))) ds = some (.int n, ds) := by
        unfold dVar
        rw [h2 d]
      have e4 : dCallD 1 1 f__law_take (aCons (dVar k) (aNil)) (env0.set i (some (.val d))) ds = some (.int r, ds1) := (dCallD_eq (h1 d) (aCons1 e3) rfl).trans e1
      rw [lcLoop, show gNm i d env0 = some (env0.set i (some (.val d))) from rfl]
      dsimp only
      rw [show tYesD (env0.set i (some (.val d))) ds = some (true, ds) from rfl]
      unfold bnd
      dsimp only
      rw [e4]
      dsimp only
      rw [e2]
      rfl
    · rcases List.mem_cons.mp hz with rfl | hz
      · exact hr
      · exact h4 z hz
def chkSeq (seqs : List (List Int)) : Option Sl → Bool
  | some (.val (.ptup ys)) => (match ints? ys with
    | some l => seqs.contains l
    | none => false)
  | _ => false
theorem chkSeq_eq {seqs : List (List Int)} {x : Option Sl} (h : chkSeq seqs x = true) : ∃ l ∈ seqs, x = some (.val (.ptup (l.map D.int))) := by
  unfold chkSeq at h
  split at h
  · rename_i ys
    split at h
    · rename_i l e
      exact ⟨l, by simpa using h, by rw [ints_eq e]⟩
    · cases h
  · cases h
theorem map_at {α β : Type} {f g : α → β} : ∀ {l : List α}, l.map f = l.map g → ∀ x ∈ l, f x = g x
  | [], _, x, h => by cases h
  | y :: ys, e, x, h => by
    rw [List.map_cons, List.map_cons] at e
    rcases List.mem_cons.mp h with rfl | h
    · exact (List.cons.inj e).1
    · exact map_at (List.cons.inj e).2 x h
end L2.Dn
set_option Elab.async false
set_option linter.all false
set_option maxRecDepth 100000
set_option maxHeartbeats 0
namespace Hd
open PySem PySem.Spec PyProof.Rows L2
def top (i : Nat) : Stmt := PySem.Challenge.pw_crosswires_k80_across_sums_and_telling_c.main.body.getD i (.Pass ⟨0, 0, 0, 0⟩)
def mk (x : Str) (i : Nat) : He.DefD := ⟨(x, none), x, x, defArgs (top i), defBody (top i), defScope (top i), [], []⟩
def fn : List He.DefD := [mk "is_number" 10, mk "are_exponents" 14, mk "is_polynomial_of" 15, mk "without_noughts" 16, mk "plus_by" 17, mk "swapped" 20, mk "is_sequence_of" 22, mk "need_sequence" 23, mk "doubles_by" 24, mk "crossings_by" 25, mk "back_by" 26, mk "code_by" 27, mk "of_code_by" 28, mk "many_crossings" 29, mk "code" 30, mk "of_code" 31, mk "cut_by" 33, mk "sum_by" 35, mk "sum_of" 36, mk "short_by" 41, mk "shortened_sequence" 42, mk "last_by" 43, mk "turned_row" 44, mk "sequence_by_row" 45, mk "told_by" 46, mk "told_in_sums" 47, mk "last_row" 48, mk "sequence_of_row" 49, mk "corner_by" 51, mk "corner" 52, mk "diagram_by" 54, mk "telling_by" 55, mk "diagram" 56, mk "told_by_corners" 57, mk "_law_begun" 59, mk "_law_mixed" 60, mk "_law_take" 61, mk "_law_pick" 62, mk "_law_shuffled" 63, mk "_law_sequence" 64, mk "_law_code" 65, mk "law" 66]
def fa : List He.Fa := [.glo "is_number", .glo "are_exponents", .glo "is_polynomial_of", .glo "without_noughts", .glo "plus_by", .glo "swapped", .glo "is_sequence_of", .glo "need_sequence", .glo "doubles_by", .glo "crossings_by", .glo "back_by", .glo "code_by", .glo "of_code_by", .glo "many_crossings", .glo "code", .glo "of_code", .glo "cut_by", .glo "sum_by", .glo "sum_of", .glo "short_by", .glo "shortened_sequence", .glo "last_by", .glo "turned_row", .glo "sequence_by_row", .glo "told_by", .glo "told_in_sums", .glo "last_row", .glo "sequence_of_row", .glo "corner_by", .glo "corner", .glo "diagram_by", .glo "telling_by", .glo "diagram", .glo "told_by_corners", .glo "_law_begun", .glo "_law_mixed", .glo "_law_take", .glo "_law_pick", .glo "_law_shuffled", .glo "_law_sequence", .glo "_law_code", .glo "law", .free "abs", .free "all", .free "bool", .free "dict", .free "enumerate", .free "int", .free "isinstance", .free "len", .free "list", .free "max", .free "min", .free "range", .free "sorted", .free "sum", .free "tuple", .int "UNKNOWNS_polynomials" 5, .int "MOST_EXPONENT_polynomials" 60, .int "MOST_WIRES_drawings" 6, .int "MOST_WIRES_toldsums" 6, .int "UNKNOWNS_toldsums" 5, .int "MOST_EXPONENT_toldsums" 60]
abbrev R : PySem.W.OpenRow := PySem.W.OpenLaw.row PySem.Challenge.rw_crosswires_k80_across_sums_and_telling_c
abbrev hk : PySem.W.Hook := He.hookD 4 fa fn
def ob (s : PySem.W.SharedT) : He.AlD := He.obsDG 4 fa fn (HandSHeadRun.getT s)
theorem ob_eq (s : PySem.W.SharedT) : ob s = hk.obs s.abs := He.obsDG_eq (HandSHeadRun.getT_eq s)
def loose : List PySem.Str := (["WireError", "BadI", "BadJ", "BadNumbers", "BadPolynomial", "BadRow", "BadSequence", "TooMany", "is_number", "UNKNOWNS_polynomials", "MOST_EXPONENT_polynomials", "are_exponents", "is_polynomial_of", "without_noughts", "plus_by", "MOST_WIRES_drawings", "swapped", "is_sequence_of", "need_sequence", "doubles_by", "crossings_by", "back_by", "code_by", "of_code_by", "many_crossings", "code", "of_code", "cut_by", "sum_by", "sum_of"] : List PySem.Str) ++ (["MOST_WIRES_toldsums", "UNKNOWNS_toldsums", "MOST_EXPONENT_toldsums", "short_by", "shortened_sequence", "last_by", "turned_row", "sequence_by_row", "told_by", "told_in_sums", "last_row", "sequence_of_row", "corner_by", "corner", "diagram_by", "telling_by", "diagram", "told_by_corners", "_law_begun", "_law_mixed", "_law_take", "_law_pick", "_law_shuffled", "_law_sequence", "_law_code"] : List PySem.Str)
theorem run (w : World) : HandSHeadRun.RunEq R (PySem.W.view R.prog [66]) hk ob 60000 loose w := by
  intro os
  kernel_rfl
end Hd
set_option Elab.async false
set_option linter.all false
set_option maxRecDepth 100000
set_option maxHeartbeats 0
namespace L2.Dn
open PySem PySem.Spec PyProof.Rows C8
def N_is_number : List Str := ["thing"]
def d_is_number : DenS := dSeq (dRet (dAnd (dIsi .int (dRd 0)) (dNot (dIsi .bool (dRd 0))))) (dNx)
def f_is_number : List D → Option D := fnP N_is_number.length d_is_number
def N_are_exponents : List Str := ["thing", "one"]
def d_are_exponents : DenS := dSeq (dIfS (tOrD (tNotD (dTest (dIsi .tuple (dRd 0)))) (dTest (d2 gNeU (dB gLen (aCons (dRd 0) (aNil))) (dC (.int 5))))) (dSeq (dRet (dC (.bool false))) (dNx)) (dNx)) (dSeq (dRet (dB gAll (aCons (dLc (dItems (dVar 0)) [1] (gNm 1) (tYesD) (dAnd (dCallP 1 f_is_number (aCons (dVar 1) (aNil))) (d3 gLe gLe (dC (.int 0)) (dRd 1) (dC (.int 60))))) (aNil)))) (dNx))
def f_are_exponents : List D → Option D := fnP N_are_exponents.length d_are_exponents
def N_is_polynomial_of : List Str := ["thing", "row", "number"]
def d_is_polynomial_of : DenS := dSeq (dIfS (tOrD (tNotD (dTest (dIsi .dict (dRd 0)))) (tNotD (dTest (dB gAll (aCons (dLc (dItems (dVar 0)) [1] (gNm 1) (tYesD) (dCallP 1 f_are_exponents (aCons (dVar 1) (aNil)))) (aNil)))))) (dSeq (dRet (dC (.bool false))) (dNx)) (dNx)) (dSeq (dRet (dB gAll (aCons (dLc (dIt valsD (dVar 0)) [2] (gNm 2) (tYesD) (dAnd (dCallP 1 f_is_number (aCons (dVar 2) (aNil))) (d2 gNeU (dRd 2) (dC (.int 0))))) (aNil)))) (dNx))
def f_is_polynomial_of : List D → Option D := fnP N_is_polynomial_of.length d_is_polynomial_of
def N_without_noughts : List Str := ["rows", "row", "number"]
def d_without_noughts : DenS := dSeq (dRet (dDc (dIt itemsD (dVar 0)) [1, 2] (gTp (gsCons (gNm 1) (gsCons (gNm 2) (gsNil)))) (dTest (d2 gNeU (dRd 2) (dC (.int 0)))) (dVar 1) (dVar 2))) (dNx)
def f_without_noughts : List D → Option D := fnP N_without_noughts.length d_without_noughts
def N_plus_by : List Str := ["one", "other", "many", "found", "row", "number"]
def d_plus_by : DenS := dSeq (dSet 3 true (dB gDict (aCons (dRd 0) (aNil)))) (dSeq (dFor (dIt itemsD (dVar 1)) (gTp (gsCons (gNm 4) (gsCons (gNm 5) (gsNil)))) (dSeq (dPut 3 (d2 gAdd (dGet2 (dRd 3) (dRd 4) (dC (.int 0))) (d2 gMul (dRd 2) (dRd 5))) (dRd 4)) (dNx))) (dSeq (dFrz 3 (dRet (dCallP 1 f_without_noughts (aCons (dVar 3) (aNil))))) (dNx)))
def f_plus_by : List D → Option D := fnP N_plus_by.length d_plus_by
def N_swapped : List Str := ["sequence", "at"]
def d_swapped : DenS := dSeq (dRet (d2 gAdd (d2 gAdd (dSl (dRd 0) none (some (d2 gSub (dRd 1) (dC (.int 1))))) (dTup (aCons (d2 gIx (dRd 0) (dRd 1)) (aCons (d2 gIx (dRd 0) (d2 gSub (dRd 1) (dC (.int 1)))) (aNil))))) (dSl (dRd 0) (some (d2 gAdd (dRd 1) (dC (.int 1)))) none))) (dNx)
def f_swapped : List D → Option D := fnP N_swapped.length d_swapped
def N_is_sequence_of : List Str := ["thing", "wire"]
def d_is_sequence_of : DenS := dSeq (dIfS (tOrD (tNotD (dTest (dIsi .tuple (dRd 0)))) (tNotD (dTest (d3 gLe gLe (dC (.int 1)) (dB gLen (aCons (dRd 0) (aNil))) (dC (.int 6)))))) (dSeq (dRet (dC (.bool false))) (dNx)) (dNx)) (dSeq (dRet (dAnd (dB gAll (aCons (dLc (dItems (dVar 0)) [1] (gNm 1) (tYesD) (dCallP 1 f_is_number (aCons (dVar 1) (aNil)))) (aNil))) (d2 gEqU (dB gSorted (aCons (dRd 0) (aNil))) (dLstI (dRg2 (dC (.int 1)) (d2 gAdd (dB gLen (aCons (dRd 0) (aNil))) (dC (.int 1)))))))) (dNx))
def f_is_sequence_of : List D → Option D := fnP N_is_sequence_of.length d_is_sequence_of
def N_need_sequence : List Str := ["sequence"]
def d_need_sequence : DenS := dSeq (dIfS (tNotD (dTest (dCallP 1 f_is_sequence_of (aCons (dVar 0) (aNil))))) (dSeq (dDead) (dNx)) (dNx)) (dNx)
def f_need_sequence : List D → Option D := fnP N_need_sequence.length d_need_sequence
def N_doubles_by : List Str := ["sequence", "size", "i", "j"]
def d_doubles_by : DenS := dSeq (dSet 1 false (dB gLen (aCons (dRd 0) (aNil)))) (dSeq (dRet (dLc2 (dRg2 (dC (.int 1)) (dRd 1)) [2, 3] (gNm 2) (tYesD) (dRg2 (d2 gAdd (dRd 2) (dC (.int 1))) (d2 gAdd (dRd 1) (dC (.int 1)))) [3] (gNm 3) (dTest (d2 gGt (d2 gIx (dRd 0) (d2 gSub (dRd 2) (dC (.int 1)))) (d2 gIx (dRd 0) (d2 gSub (dRd 3) (dC (.int 1)))))) (dTup (aCons (dVar 2) (aCons (dVar 3) (aNil)))))) (dNx))
def f_doubles_by : List D → Option D := fnP N_doubles_by.length d_doubles_by
def N_crossings_by : List Str := ["sequence"]
def d_crossings_by : DenS := dSeq (dRet (dB gLen (aCons (dCallP 1 f_doubles_by (aCons (dVar 0) (aNil))) (aNil)))) (dNx)
def f_crossings_by : List D → Option D := fnP N_crossings_by.length d_crossings_by
def N_back_by : List Str := ["sequence", "wire"]
def d_back_by : DenS := dSeq (dRet (dB gTupS (aCons (dLc (dRg2 (dC (.int 1)) (d2 gAdd (dB gLen (aCons (dRd 0) (aNil))) (dC (.int 1)))) [1] (gNm 1) (tYesD) (d2 gAdd (d2 gIdx (dVar 0) (dRd 1)) (dC (.int 1)))) (aNil)))) (dNx)
def f_back_by : List D → Option D := fnP N_back_by.length d_back_by
def N_code_by : List Str := ["sequence", "at", "wire", "late"]
def d_code_by : DenS := dSeq (dRet (dB gTupS (aCons (dLc (dEn1 (dVar 0)) [1, 2] (gTp (gsCons (gNm 1) (gsCons (gNm 2) (gsNil)))) (tYesD) (dB gLen (aCons (dLc (dItems (dSl (dRd 0) (some (dRd 1)) none)) [3] (gNm 3) (dTest (d2 gLt (dRd 3) (dRd 2))) (dVar 3)) (aNil)))) (aNil)))) (dNx)
def f_code_by : List D → Option D := fnP N_code_by.length d_code_by
def N_of_code_by : List Str := ["numbers", "left", "found", "number"]
def d_of_code_by : DenS := dSeq (dPar 1 2 true true (dLstI (dRg2 (dC (.int 1)) (d2 gAdd (dB gLen (aCons (dRd 0) (aNil))) (dC (.int 1))))) (dLst (aNil))) (dSeq (dFor (dItems (dVar 0)) (gNm 3) (dSeq (dAppPop 2 1 (dRd 3)) (dNx))) (dSeq (dRet (dB gTupS (aCons (dRd 2) (aNil)))) (dNx)))
def f_of_code_by : List D → Option D := fnP N_of_code_by.length d_of_code_by
def N_many_crossings : List Str := ["sequence"]
def d_many_crossings : DenS := dSeq (dDropS (dCallP 1 f_need_sequence (aCons (dVar 0) (aNil)))) (dSeq (dRet (dCallP 1 f_crossings_by (aCons (dVar 0) (aNil)))) (dNx))
def f_many_crossings : List D → Option D := fnP N_many_crossings.length d_many_crossings
def N_code : List Str := ["sequence"]
def d_code : DenS := dSeq (dDropS (dCallP 1 f_need_sequence (aCons (dVar 0) (aNil)))) (dSeq (dRet (dCallP 1 f_code_by (aCons (dVar 0) (aNil)))) (dNx))
def f_code : List D → Option D := fnP N_code.length d_code
def N_of_code : List Str := ["numbers", "at", "number"]
def d_of_code : DenS := dSeq (dIfS (tOrD (tNotD (dTest (dIsi .tuple (dRd 0)))) (tNotD (dTest (d3 gLe gLe (dC (.int 1)) (dB gLen (aCons (dRd 0) (aNil))) (dC (.int 6)))))) (dSeq (dDead) (dNx)) (dNx)) (dSeq (dIfS (tNotD (dTest (dB gAll (aCons (dLc (dEn1 (dVar 0)) [1, 2] (gTp (gsCons (gNm 1) (gsCons (gNm 2) (gsNil)))) (tYesD) (dAnd (dCallP 1 f_is_number (aCons (dVar 2) (aNil))) (d3 gLe gLt (dC (.int 0)) (dRd 2) (d2 gSub (dB gLen (aCons (dRd 0) (aNil))) (dRd 1))))) (aNil))))) (dSeq (dDead) (dNx)) (dNx)) (dSeq (dRet (dCallP 1 f_of_code_by (aCons (dVar 0) (aNil)))) (dNx)))
def f_of_code : List D → Option D := fnP N_of_code.length d_of_code
def N_cut_by : List Str := ["rows", "at", "found", "row", "number", "one", "other", "sign", "low", "high", "more", "late"]
def d_cut_by : DenS := dSeq (dSet 2 true (dC (.dT []))) (dSeq (dFor (dIt itemsD (dVar 0)) (gTp (gsCons (gNm 3) (gsCons (gNm 4) (gsNil)))) (dSeq (dPar 5 6 false false (d2 gIx (dRd 3) (d2 gSub (dRd 1) (dC (.int 1)))) (d2 gIx (dRd 3) (dRd 1))) (dSeq (dAsg (dIf (dTest (d2 gGt (dRd 5) (dRd 6))) (dTup (aCons (dC (.int 1)) (aCons (dVar 6) (aCons (dVar 5) (aNil))))) (dTup (aCons (d1 gNeg (dC (.int 1))) (aCons (dVar 5) (aCons (dVar 6) (aNil)))))) (gTp (gsCons (gNm 7) (gsCons (gNm 8) (gsCons (gNm 9) (gsNil)))))) (dSeq (dFor (dRg1 (d2 gSub (dRd 9) (dRd 8))) (gNm 10) (dSeq (dSet 11 false (d2 gAdd (d2 gAdd (dSl (dRd 3) none (some (d2 gSub (dRd 1) (dC (.int 1))))) (dTup (aCons (d2 gAdd (dRd 8) (dRd 10)) (aCons (d2 gSub (d2 gSub (dRd 9) (dC (.int 1))) (dRd 10)) (aNil))))) (dSl (dRd 3) (some (d2 gAdd (dRd 1) (dC (.int 1)))) none))) (dSeq (dPut 2 (d2 gAdd (dGet2 (dRd 2) (dRd 11) (dC (.int 0))) (d2 gMul (dRd 7) (dRd 4))) (dRd 11)) (dNx)))) (dNx))))) (dSeq (dFrz 2 (dRet (dCallP 1 f_without_noughts (aCons (dVar 2) (aNil))))) (dNx)))
def f_cut_by : List D → Option D := fnP N_cut_by.length d_cut_by
def N_sum_by : List Str := ["sequence", "many", "here", "road", "at", "rows", "row", "number"]
def d_sum_by : DenS := dSeq (dPar3 1 2 3 false false true (dB gLen (aCons (dRd 0) (aNil))) (dVar 0) (dLst (aNil))) (dSeq (whLoop (dTest (d2 gNeU (dRd 2) (dTupI (dRg3 (dRd 1) (dC (.int 0)))))) (dSeq (dSet 4 false (d2 gIx (dLc (dRg2 (dC (.int 1)) (dRd 1)) [4] (gNm 4) (dTest (d2 gLt (d2 gIx (dRd 2) (d2 gSub (dRd 4) (dC (.int 1)))) (d2 gIx (dRd 2) (dRd 4)))) (dVar 4)) (dC (.int 0)))) (dSeq (dSet 2 false (dCallP 2 f_swapped (aCons (dVar 2) (aCons (dVar 4) (aNil))))) (dSeq (dApp 3 (dVar 4)) (dNx)))) 1000) (dSeq (dSet 5 false (dDisp1 (dB gTupS (aCons (dLc (dRg2 (dC (.int 1)) (d2 gAdd (dC (.int 5)) (dC (.int 2)))) [4] (gNm 4) (tYesD) (dB gMax2 (aCons (d2 gSub (dRd 1) (dRd 4)) (aCons (dC (.int 0)) (aNil))))) (aNil))) (dC (.int 1)))) (dSeq (dFor (dItems (d1 gRevL (dRd 3))) (gNm 4) (dSeq (dSet 5 false (dCallP 2 f_cut_by (aCons (dVar 5) (aCons (dVar 4) (aNil))))) (dNx))) (dSeq (dRet (dDc (dIt itemsD (dVar 5)) [6, 7] (gTp (gsCons (gNm 6) (gsCons (gNm 7) (gsNil)))) (tYesD) (dSl (dRd 6) none (some (dC (.int 5)))) (dVar 7))) (dNx)))))
def f_sum_by : List D → Option D := fnP N_sum_by.length d_sum_by
def N_sum_of : List Str := ["sequence"]
def d_sum_of : DenS := dSeq (dDropS (dCallP 1 f_need_sequence (aCons (dVar 0) (aNil)))) (dSeq (dRet (dCallP 1 f_sum_by (aCons (dVar 0) (aNil)))) (dNx))
def f_sum_of : List D → Option D := fnP N_sum_of.length d_sum_of
def N_short_by : List Str := ["sequence", "size"]
def d_short_by : DenS := dSeq (dSet 1 false (dB gLen (aCons (dRd 0) (aNil)))) (dSeq (whLoop (tAndD (dTest (d2 gGt (dRd 1) (dC (.int 1)))) (dTest (d2 gEqU (d2 gIx (dRd 0) (d2 gSub (dRd 1) (dC (.int 1)))) (dRd 1)))) (dSeq (dSet 1 false (d2 gSub (dRd 1) (dC (.int 1)))) (dNx)) 1000) (dSeq (dRet (dSl (dRd 0) none (some (dRd 1)))) (dNx)))
def f_short_by : List D → Option D := fnP N_short_by.length d_short_by
def N_shortened_sequence : List Str := ["sequence"]
def d_shortened_sequence : DenS := dSeq (dDropS (dCallP 1 f_need_sequence (aCons (dVar 0) (aNil)))) (dSeq (dRet (dCallP 1 f_short_by (aCons (dVar 0) (aNil)))) (dNx))
def f_shortened_sequence : List D → Option D := fnP N_shortened_sequence.length d_shortened_sequence
def N_turned_row : List Str := ["row"]
def d_turned_row : DenS := dSeq (dRet (d1 gRevT (dRd 0))) (dNx)
def f_turned_row : List D → Option D := fnP N_turned_row.length d_turned_row
def N_last_by : List Str := ["polynomial"]
def d_last_by : DenS := dSeq (dRet (dMaxK f_turned_row (dVar 0))) (dNx)
def f_last_by : List D → Option D := fnP N_last_by.length d_last_by
def N_sequence_by_row : List Str := ["row", "size", "at", "number"]
def d_sequence_by_row : DenS := dSeq (dSet 1 false (dB gMaxL (aCons (d2 gCat (dLst (aCons (dC (.int 1)) (aNil))) (dLc (dEn1 (dVar 0)) [2, 3] (gTp (gsCons (gNm 2) (gsCons (gNm 3) (gsNil)))) (dTest (d2 gGt (dRd 3) (dC (.int 0)))) (d2 gAdd (d2 gAdd (dRd 2) (dC (.int 1))) (dRd 3)))) (aNil)))) (dSeq (dIfS (dTest (d2 gGt (dRd 1) (dC (.int 6)))) (dSeq (dDead) (dNx)) (dNx)) (dSeq (dRet (dCallP 1 f_short_by (aCons (dCallP 1 f_of_code_by (aCons (dSl (dTup (aStar (dRd 0) (aCons (dC (.int 0)) (aNil)))) none (some (dRd 1))) (aNil))) (aNil)))) (dNx)))
def f_sequence_by_row : List D → Option D := fnP N_sequence_by_row.length d_sequence_by_row
def N_told_by : List Str := ["polynomial", "left", "found", "row", "sequence", "number"]
def d_told_by : DenS := dSeq (dPar 1 2 false true (dB gDict (aCons (dRd 0) (aNil))) (dC (.dT []))) (dSeq (whLoop (dTest (d2 gNeU (dRd 1) (dC (.dT [])))) (dSeq (dSet 3 false (dCallP 1 f_last_by (aCons (dVar 1) (aNil)))) (dSeq (dPar 4 5 false false (dCallP 1 f_sequence_by_row (aCons (dVar 3) (aNil))) (d2 gIx (dRd 1) (dRd 3))) (dSeq (dPut 2 (dVar 5) (dRd 4)) (dSeq (dSet 1 false (dCallP 3 f_plus_by (aCons (dVar 1) (aCons (dCallP 1 f_sum_by (aCons (dVar 4) (aNil))) (aCons (d1 gNeg (dRd 5)) (aNil)))))) (dNx))))) 1000) (dSeq (dFrz 2 (dRet (dVar 2))) (dNx)))
def f_told_by : List D → Option D := fnP N_told_by.length d_told_by
def N_told_in_sums : List Str := ["polynomial"]
def d_told_in_sums : DenS := dSeq (dIfS (tNotD (dTest (dCallP 1 f_is_polynomial_of (aCons (dVar 0) (aNil))))) (dSeq (dDead) (dNx)) (dNx)) (dSeq (dRet (dCallP 1 f_told_by (aCons (dVar 0) (aNil)))) (dNx))
def f_told_in_sums : List D → Option D := fnP N_told_in_sums.length d_told_in_sums
def N_last_row : List Str := ["polynomial"]
def d_last_row : DenS := dSeq (dIfS (tOrD (tNotD (dTest (dCallP 1 f_is_polynomial_of (aCons (dVar 0) (aNil))))) (dTest (d2 gEqU (dRd 0) (dC (.dT []))))) (dSeq (dDead) (dNx)) (dNx)) (dSeq (dRet (dCallP 1 f_last_by (aCons (dVar 0) (aNil)))) (dNx))
def f_last_row : List D → Option D := fnP N_last_row.length d_last_row
def N_sequence_of_row : List Str := ["row", "number"]
def d_sequence_of_row : DenS := dSeq (dIfS (tOrD (tNotD (dTest (dIsi .tuple (dRd 0)))) (dTest (d2 gNeU (dB gLen (aCons (dRd 0) (aNil))) (dC (.int 5))))) (dSeq (dDead) (dNx)) (dNx)) (dSeq (dIfS (tNotD (dTest (dB gAll (aCons (dLc (dItems (dVar 0)) [1] (gNm 1) (tYesD) (dAnd (dCallP 1 f_is_number (aCons (dVar 1) (aNil))) (d3 gLe gLe (dC (.int 0)) (dRd 1) (dC (.int 60))))) (aNil))))) (dSeq (dDead) (dNx)) (dNx)) (dSeq (dRet (dCallP 1 f_sequence_by_row (aCons (dVar 0) (aNil)))) (dNx)))
def f_sequence_of_row : List D → Option D := fnP N_sequence_of_row.length d_sequence_of_row
def N_corner_by : List Str := ["sequence", "i", "j", "wire"]
def d_corner_by : DenS := dSeq (dRet (dB gLen (aCons (dLc (dItems (dSl (dRd 0) none (some (dRd 1)))) [3] (gNm 3) (dTest (d2 gLe (dRd 3) (dRd 2))) (dVar 3)) (aNil)))) (dNx)
def f_corner_by : List D → Option D := fnP N_corner_by.length d_corner_by
def N_corner : List Str := ["sequence", "i", "j"]
def d_corner : DenS := dSeq (dDropS (dCallP 1 f_need_sequence (aCons (dVar 0) (aNil)))) (dSeq (dIfS (tOrD (tNotD (dTest (dCallP 1 f_is_number (aCons (dVar 1) (aNil))))) (tNotD (dTest (d3 gLe gLe (dC (.int 0)) (dRd 1) (dB gLen (aCons (dRd 0) (aNil))))))) (dSeq (dDead) (dNx)) (dNx)) (dSeq (dIfS (tOrD (tNotD (dTest (dCallP 1 f_is_number (aCons (dVar 2) (aNil))))) (tNotD (dTest (d3 gLe gLe (dC (.int 0)) (dRd 2) (dB gLen (aCons (dRd 0) (aNil))))))) (dSeq (dDead) (dNx)) (dNx)) (dSeq (dRet (dCallP 3 f_corner_by (aCons (dVar 0) (aCons (dVar 1) (aCons (dVar 2) (aNil)))))) (dNx))))
def f_corner : List D → Option D := fnP N_corner.length d_corner
def N_diagram_by : List Str := ["sequence", "places", "found", "i", "wire", "j"]
def d_diagram_by : DenS := dSeq (dSet 1 false (dCallP 1 f_back_by (aCons (dVar 0) (aNil)))) (dSeq (dSet 2 true (dLst (aNil))) (dSeq (dFor (dEn2 (dVar 0) (dC (.int 1))) (gTp (gsCons (gNm 3) (gsCons (gNm 4) (gsNil)))) (dSeq (dExt 2 (dLc (dRg2 (dC (.int 1)) (dRd 4)) [5] (gNm 5) (dTest (d2 gGt (d2 gIx (dRd 1) (d2 gSub (dRd 5) (dC (.int 1)))) (dRd 3))) (dTup (aCons (dVar 3) (aCons (dVar 5) (aNil)))))) (dNx))) (dSeq (dFrz 2 (dRet (dVar 2))) (dNx))))
def f_diagram_by : List D → Option D := fnP N_diagram_by.length d_diagram_by
def N_telling_by : List Str := ["sequence", "found", "i", "j"]
def d_telling_by : DenS := dSeq (dSet 1 false (dCallP 1 f_diagram_by (aCons (dVar 0) (aNil)))) (dSeq (dRet (dLc (dItems (dVar 1)) [2, 3] (gTp (gsCons (gNm 2) (gsCons (gNm 3) (gsNil)))) (tAndD (dTest (d2 gNotIn (dTup (aCons (d2 gAdd (dRd 2) (dC (.int 1))) (aCons (dVar 3) (aNil)))) (dRd 1))) (dTest (d2 gNotIn (dTup (aCons (dVar 2) (aCons (d2 gAdd (dRd 3) (dC (.int 1))) (aNil)))) (dRd 1)))) (dTup (aCons (dVar 2) (aCons (dVar 3) (aNil)))))) (dNx))
def f_telling_by : List D → Option D := fnP N_telling_by.length d_telling_by
def N_diagram : List Str := ["sequence"]
def d_diagram : DenS := dSeq (dDropS (dCallP 1 f_need_sequence (aCons (dVar 0) (aNil)))) (dSeq (dRet (dB gTupS (aCons (dCallP 1 f_diagram_by (aCons (dVar 0) (aNil))) (aNil)))) (dNx))
def f_diagram : List D → Option D := fnP N_diagram.length d_diagram
def N_told_by_corners : List Str := ["sequence", "i", "j"]
def d_told_by_corners : DenS := dSeq (dDropS (dCallP 1 f_need_sequence (aCons (dVar 0) (aNil)))) (dSeq (dRet (dDc (dItems (dCallP 1 f_telling_by (aCons (dVar 0) (aNil)))) [1, 2] (gTp (gsCons (gNm 1) (gsCons (gNm 2) (gsNil)))) (tYesD) (dTup (aCons (dVar 1) (aCons (dVar 2) (aNil)))) (dCallP 3 f_corner_by (aCons (dVar 0) (aCons (dVar 1) (aCons (dVar 2) (aNil))))))) (dNx))
def f_told_by_corners : List D → Option D := fnP N_told_by_corners.length d_told_by_corners
def N__law_code : List Str := ["sequence", "found", "at", "wire", "late"]
def d__law_code : DenS := dSeq (dSet 1 false (dLc (dEn1 (dVar 0)) [2, 3] (gTp (gsCons (gNm 2) (gsCons (gNm 3) (gsNil)))) (tYesD) (dB gLen (aCons (dLc (dItems (dSl (dRd 0) (some (dRd 2)) none)) [4] (gNm 4) (dTest (d2 gLt (dRd 4) (dRd 3))) (dVar 4)) (aNil))))) (dSeq (dRet (dB gTupS (aCons (dSlL (d2 gCat (dRd 1) (d2 gRep (dLst (aCons (dC (.int 0)) (aNil))) (dC (.int 5)))) none (some (dC (.int 5)))) (aNil)))) (dNx))
def f__law_code : List D → Option D := fnP N__law_code.length d__law_code
def N_of_code_by_p : List Str := ["numbers", "left", "found", "number"]
def d_of_code_by_p : DenS := dSeq (dPar 1 2 true true (dLstI (dRg2 (dC (.int 1)) (d2 gAdd (dB gLen (aCons (dRd 0) (aNil))) (dC (.int 1))))) (dLst (aNil))) (dSeq (dFor (dItems (dVar 0)) (gNm 3) (dSeq (dAppPop 2 1 (dRd 3)) (dNx))) (dSeq (dRet (dB gPtup (aCons (dRd 2) (aNil)))) (dNx)))
def f_of_code_by_p : List D → Option D := fnP N_of_code_by_p.length d_of_code_by_p
def N_of_code_p : List Str := ["numbers", "at", "number"]
def d_of_code_p : DenS := dSeq (dIfS (tOrD (tNotD (dTest (dIsi .tuple (dRd 0)))) (tNotD (dTest (d3 gLe gLe (dC (.int 1)) (dB gLen (aCons (dRd 0) (aNil))) (dC (.int 6)))))) (dSeq (dDead) (dNx)) (dNx)) (dSeq (dIfS (tNotD (dTest (dB gAll (aCons (dLc (dEn1 (dVar 0)) [1, 2] (gTp (gsCons (gNm 1) (gsCons (gNm 2) (gsNil)))) (tYesD) (dAnd (dCallP 1 f_is_number (aCons (dVar 2) (aNil))) (d3 gLe gLt (dC (.int 0)) (dRd 2) (d2 gSub (dB gLen (aCons (dRd 0) (aNil))) (dRd 1))))) (aNil))))) (dSeq (dDead) (dNx)) (dNx)) (dSeq (dRet (dCallP 1 f_of_code_by_p (aCons (dVar 0) (aNil)))) (dNx)))
def f_of_code_p : List D → Option D := fnP N_of_code_p.length d_of_code_p
def N_law : List Str := ["script", "draw", "lap", "sequence", "size", "own", "numbers", "told", "falls", "pairs", "at", "late", "pair", "i", "j"]
def l_1 : DenS := dSet 3 false (dCallD 1 1 f__law_sequence (aCons (dCallD 1 1 f__law_pick (aCons (dLst (aCons (dC (.int 1)) (aCons (dC (.int 2)) (aCons (dC (.int 3)) (aCons (dC (.int 4)) (aCons (dC (.int 5)) (aNil))))))) (aNil))) (aNil)))
def l_2 : DenS := dIfS (dTest (d2 gEqU (dCallD 1 1 f__law_take (aCons (dC (.int 2)) (aNil))) (dC (.int 0)))) (dSeq (dSet 4 false (dB gLen (aCons (dRd 3) (aNil)))) (dSeq (dSet 3 false (dCallP 1 f_of_code_p (aCons (dB gPtup (aCons (dLc (dEn1 (d1 gRevL (dB gSorted (aCons (dLc (dRg1 (dRd 4)) [10] (gNm 10) (tYesD) (dCallD 1 1 f__law_take (aCons (dVar 4) (aNil)))) (aNil))))) [10, 11] (gTp (gsCons (gNm 10) (gsCons (gNm 11) (gsNil)))) (tYesD) (dB gMin2 (aCons (dRd 11) (aCons (d2 gSub (d2 gSub (dRd 4) (dC (.int 1))) (dRd 10)) (aNil))))) (aNil))) (aNil)))) (dNx))) (dNx)
def l_3 : DenS := dAsg (dTup (aCons (dCallP 1 f_sum_of (aCons (dVar 3) (aNil))) (aCons (dCallP 1 f_code (aCons (dVar 3) (aNil))) (aCons (dCallP 1 f_told_by_corners (aCons (dVar 3) (aNil))) (aNil))))) (gTp (gsCons (gNm 5) (gsCons (gNm 6) (gsCons (gNm 7) (gsNil)))))
def l_4 : DenS := dSet 8 false (d2 gEqU (dLc (dRg1 (d2 gSub (dB gLen (aCons (dRd 6) (aNil))) (dC (.int 1)))) [10] (gNm 10) (dTest (d2 gLt (d2 gIx (dRd 6) (dRd 10)) (d2 gIx (dRd 6) (d2 gAdd (dRd 10) (dC (.int 1)))))) (dVar 10)) (dLst (aNil)))
def l_5 : DenS := dIfS (tOrD (dTest (d2 gNeU (d2 gEqU (dB gLen (aCons (dRd 5) (aNil))) (dC (.int 1))) (dRd 8))) (tOrD (dTest (d2 gNeU (d2 gEqU (dLc (dItems (dVar 7)) [12] (gNm 12) (dTest (d2 gNeU (d2 gIx (dRd 7) (dRd 12)) (dC (.int 0)))) (dVar 12)) (dLst (aNil))) (dRd 8))) (tAndD (dTest (dRd 8)) (dTest (dEq1 true (dRd 5) (dCallP 1 f__law_code (aCons (dVar 3) (aNil))) (dC (.int 1))))))) (dSeq (dRet (dC (.bool false))) (dNx)) (dNx)
def l_6 : DenS := dSet 9 false (dCallP 1 f_diagram (aCons (dVar 3) (aNil)))
def l_7 : DenS := dIfS (tOrD (dTest (d2 gNeU (dLc (dRg1 (dB gLen (aCons (dRd 6) (aNil)))) [10] (gNm 10) (tYesD) (dB gLen (aCons (dLc (dItems (dVar 9)) [13, 14] (gTp (gsCons (gNm 13) (gsCons (gNm 14) (gsNil)))) (dTest (d2 gEqU (dRd 13) (d2 gAdd (dRd 10) (dC (.int 1))))) (dC (.int 1))) (aNil)))) (dB gListS (aCons (dRd 6) (aNil))))) (tOrD (dTest (d2 gNeU (dB gLen (aCons (dRd 9) (aNil))) (dCallP 1 f_many_crossings (aCons (dVar 3) (aNil))))) (dTest (d2 gNeU (dB gSum (aCons (dB gListS (aCons (dRd 6) (aNil))) (aNil))) (dB gLen (aCons (dRd 9) (aNil))))))) (dSeq (dRet (dC (.bool false))) (dNx)) (dNx)
def l_8 : DenS := dIfS (tOrD (dTest (d2 gNeU (dCallP 1 f_sequence_of_row (aCons (dCallP 1 f_last_row (aCons (dVar 5) (aNil))) (aNil))) (dCallP 1 f_shortened_sequence (aCons (dVar 3) (aNil))))) (tOrD (dTest (d2 gNeU (dCallP 1 f_last_row (aCons (dVar 5) (aNil))) (dCallP 1 f__law_code (aCons (dVar 3) (aNil))))) (dTest (dEq1 true (dCallP 1 f_told_in_sums (aCons (dVar 5) (aNil))) (dCallP 1 f_shortened_sequence (aCons (dVar 3) (aNil))) (dC (.int 1)))))) (dSeq (dRet (dC (.bool false))) (dNx)) (dNx)
def l_9 : DenS := dIfS (tOrD (dTest (d2 gNeU (dLc (dItems (dVar 7)) [12] (gNm 12) (dTest (d2 gNeU (d2 gIx (dRd 7) (dRd 12)) (dCallP 3 f_corner (aCons (dVar 3) (aCons (d2 gIx (dRd 12) (dC (.int 0))) (aCons (d2 gIx (dRd 12) (dC (.int 1))) (aNil))))))) (dVar 12)) (dLst (aNil)))) (dTest (d2 gNeU (d2 gEqU (dRd 7) (dC (.dT []))) (d2 gEqU (dCallP 1 f_many_crossings (aCons (dVar 3) (aNil))) (dC (.int 0)))))) (dSeq (dRet (dC (.bool false))) (dNx)) (dNx)
def d_law : DenS := dSeq (dFor (dRg1 (d2 gAdd (dC (.int 4)) (dB gMin2 (aCons (dLenS 0) (aCons (dC (.int 6)) (aNil)))))) (gNm 2) (dSeq l_1 (dSeq l_2 (dSeq l_3 (dSeq l_4 (dSeq l_5 (dSeq l_6 (dSeq l_7 (dSeq l_8 (dSeq l_9 (dNx))))))))))) (dSeq (dRet (dC (.bool true))) (dNx))
end L2.Dn
set_option Elab.async false
set_option linter.all false
set_option maxRecDepth 100000
set_option maxHeartbeats 0
namespace L2.Dn
open PySem PySem.Spec PyProof.Rows C8
section
variable {P : Program} {w : World} {K : PySem.W.Frag} {mg : Str → Option Value} {base h0 : Heap}
theorem ok_is_number (X0 : K.In h0) (G : h0.Ns mainGlobals mg) (c : He.SaysD Hd.fa Hd.fn K) : Cal P w K mg base 1 "is_number" (spP 1 f_is_number) [] := by
  obtain ⟨fd, F⟩ := c.def_ 0 (d := Hd.mk "is_number" 10) rfl
  have b_bool : mg "bool" = none := He.free_ok X0 G (c.fact 44 (f := .free "bool") rfl)
  have b_int : mg "int" = none := He.free_ok X0 G (c.fact 47 (f := .free "int") rfl)
  have b_isinstance : mg "isinstance" = none := He.free_ok X0 G (c.fact 48 (f := .free "isinstance") rfl)
  have Sc : FnScope N_is_number ["thing"] (defScope (Hd.top 10)) := C8.fnScope_by (by kernel_rfl)
  have nd : (N_is_number : List Str).Nodup := Sc.nd
  have Bd : Binds K fd ["thing"] [] := FunD.bindsN F fun _ _ _ _ _ _ us hl => match us, hl with | [_], _ => rfl
  refine calP (N := N_is_number) (ps := ["thing"]) (b := d_is_number) 1 F (He.glo_ok X0 G (c.fact 0 (f := .glo "is_number") rfl)) Sc rfl Bd fun cdv A outer s H E hr => ?_
  obtain ⟨u1, u8, u65, u100⟩ := hr.us
  exact evss_cons (evs_ret (evf_and (EvF.r (evf_isi .int boot_int b_isinstance b_int (evr_var 0))) (evf_one (evf_not (EvF.r (evf_isi .bool boot_bool b_isinstance b_bool (evr_var 0))))))) (evss_nil)
theorem ok_are_exponents (X0 : K.In h0) (G : h0.Ns mainGlobals mg) (c : He.SaysD Hd.fa Hd.fn K) : Cal P w K mg base 2 "are_exponents" (spP 1 f_are_exponents) [] := by
  obtain ⟨fd, F⟩ := c.def_ 1 (d := Hd.mk "are_exponents" 14) rfl
  have b_all : mg "all" = none := He.free_ok X0 G (c.fact 43 (f := .free "all") rfl)
  have b_isinstance : mg "isinstance" = none := He.free_ok X0 G (c.fact 48 (f := .free "isinstance") rfl)
  have b_len : mg "len" = none := He.free_ok X0 G (c.fact 49 (f := .free "len") rfl)
  have b_tuple : mg "tuple" = none := He.free_ok X0 G (c.fact 56 (f := .free "tuple") rfl)
  have c_MOST_EXPONENT_polynomials : ∃ t, mg "MOST_EXPONENT_polynomials" = some (.int 60 t) := He.int_ok X0 G (c.fact 58 (f := .int "MOST_EXPONENT_polynomials" 60) rfl)
  have c_UNKNOWNS_polynomials : ∃ t, mg "UNKNOWNS_polynomials" = some (.int 5 t) := He.int_ok X0 G (c.fact 57 (f := .int "UNKNOWNS_polynomials" 5) rfl)
  have c_is_number := ok_is_number (P := P) (w := w) (base := base) X0 G c
  have Sc : FnScope N_are_exponents ["thing"] (defScope (Hd.top 14)) := C8.fnScope_by (by kernel_rfl)
  have nd : (N_are_exponents : List Str).Nodup := Sc.nd
  have Bd : Binds K fd ["thing"] [] := FunD.bindsN F fun _ _ _ _ _ _ us hl => match us, hl with | [_], _ => rfl
  refine calP (N := N_are_exponents) (ps := ["thing"]) (b := d_are_exponents) 1 F (He.glo_ok X0 G (c.fact 1 (f := .glo "are_exponents") rfl)) Sc rfl Bd fun cdv A outer s H E hr => ?_
  obtain ⟨u1, u8, u65, u100⟩ := hr.us
  exact evss_cons (evs_if (EvW.toT (evw_or (evt_not (evt_val (EvF.r (evf_isi .tuple boot_tuple b_isinstance b_tuple (evr_var 0))))) (evw_or1 (evt_cmp (op_neU u100) r2_neU (EvF.r (evf_callB cr_len rc_len b_len boot_len (evb_cons (evr_var 0) (evb_nil)))) (EvF.r (evf_glob c_UNKNOWNS_polynomials)) (nomark _))))) (evss_cons (evs_ret (evf_bl)) (evss_nil)) (evss_nil)) (evss_cons (evs_ret (evf_callB (cr_all rfl) rc_all b_all (by decide +kernel) (evb_cons (EvN.r (evn_lc (own := [("one", 1)]) rfl nd (blkOk_by (by kernel_rfl)) (evi_val (evf_var 0)) (fun _ _ _ _ _ => evg_nm 1 nd) (evtb_nil) (fun _ _ _ _ _ => evf_and (EvF.r (evf_callP c_is_number hr (by decide) (eva_cons (evf_var 1) (eva_nil)))) (evf_one (evf_chain op_le op_le r2_cmp r2_cmp (EvF.r (evf_int)) (evr_var 1) (EvF.r (evf_glob c_MOST_EXPONENT_polynomials)) rfl))) (by decide))) (evb_nil)))) (evss_nil))
theorem ok_is_polynomial_of (X0 : K.In h0) (G : h0.Ns mainGlobals mg) (c : He.SaysD Hd.fa Hd.fn K) : Cal P w K mg base 3 "is_polynomial_of" (spP 1 f_is_polynomial_of) [] := by
  obtain ⟨fd, F⟩ := c.def_ 2 (d := Hd.mk "is_polynomial_of" 15) rfl
  have b_all : mg "all" = none := He.free_ok X0 G (c.fact 43 (f := .free "all") rfl)
  have b_dict : mg "dict" = none := He.free_ok X0 G (c.fact 45 (f := .free "dict") rfl)
  have b_isinstance : mg "isinstance" = none := He.free_ok X0 G (c.fact 48 (f := .free "isinstance") rfl)
  have c_are_exponents := ok_are_exponents (P := P) (w := w) (base := base) X0 G c
  have c_is_number := ok_is_number (P := P) (w := w) (base := base) X0 G c
  have Sc : FnScope N_is_polynomial_of ["thing"] (defScope (Hd.top 15)) := C8.fnScope_by (by kernel_rfl)
  have nd : (N_is_polynomial_of : List Str).Nodup := Sc.nd
  have Bd : Binds K fd ["thing"] [] := FunD.bindsN F fun _ _ _ _ _ _ us hl => match us, hl with | [_], _ => rfl
  refine calP (N := N_is_polynomial_of) (ps := ["thing"]) (b := d_is_polynomial_of) 1 F (He.glo_ok X0 G (c.fact 2 (f := .glo "is_polynomial_of") rfl)) Sc rfl Bd fun cdv A outer s H E hr => ?_
  obtain ⟨u1, u8, u65, u100⟩ := hr.us
  exact evss_cons (evs_if (EvW.toT (evw_or (evt_not (evt_val (EvF.r (evf_isi .dict boot_dict b_isinstance b_dict (evr_var 0))))) (evw_or1 (evt_not (evt_val (EvF.r (evf_callB (cr_all rfl) rc_all b_all (by decide +kernel) (evb_cons (EvN.r (evn_lc (own := [("row", 1)]) rfl nd (blkOk_by (by kernel_rfl)) (evi_val (evf_var 0)) (fun _ _ _ _ _ => evg_nm 1 nd) (evtb_nil) (fun _ _ _ _ _ => evf_callP c_are_exponents hr (by decide) (eva_cons (evf_var 1) (eva_nil))) (by decide))) (evb_nil))))))))) (evss_cons (evs_ret (evf_bl)) (evss_nil)) (evss_nil)) (evss_cons (evs_ret (evf_callB (cr_all rfl) rc_all b_all (by decide +kernel) (evb_cons (EvN.r (evn_lc (own := [("number", 2)]) rfl nd (blkOk_by (by kernel_rfl)) (evi_vals (evf_var 0)) (fun _ _ _ _ _ => evg_nm 2 nd) (evtb_nil) (fun _ _ _ _ _ => evf_and (EvF.r (evf_callP c_is_number hr (by decide) (eva_cons (evf_var 2) (eva_nil)))) (evf_one (evf_cmp (op_neU u100) r2_neU (evr_var 2) (EvF.r (evf_int)) (nomark _)))) (by decide))) (evb_nil)))) (evss_nil))
theorem ok_without_noughts (X0 : K.In h0) (G : h0.Ns mainGlobals mg) (c : He.SaysD Hd.fa Hd.fn K) : Cal P w K mg base 1 "without_noughts" (spP 1 f_without_noughts) [] := by
  obtain ⟨fd, F⟩ := c.def_ 3 (d := Hd.mk "without_noughts" 16) rfl
  have Sc : FnScope N_without_noughts ["rows"] (defScope (Hd.top 16)) := C8.fnScope_by (by kernel_rfl)
  have nd : (N_without_noughts : List Str).Nodup := Sc.nd
  have Bd : Binds K fd ["rows"] [] := FunD.bindsN F fun _ _ _ _ _ _ us hl => match us, hl with | [_], _ => rfl
  refine calP (N := N_without_noughts) (ps := ["rows"]) (b := d_without_noughts) 1 F (He.glo_ok X0 G (c.fact 3 (f := .glo "without_noughts") rfl)) Sc rfl Bd fun cdv A outer s H E hr => ?_
  obtain ⟨u1, u8, u65, u100⟩ := hr.us
  exact evss_cons (evs_ret (EvN.toF (evn_dc (own := [("row", 1), ("number", 2)]) u8 rfl nd (blkOk_by (by kernel_rfl)) (evi_items (evf_var 0)) (fun _ _ _ _ _ => evg_tp rfl (evgs_cons (evg_nm 1 nd) (evgs_cons (evg_nm 2 nd) (evgs_nil))) rfl gs2) (evtb_one (fun _ _ _ _ _ => evt_cmp (op_neU u100) r2_neU (evr_var 2) (EvF.r (evf_int)) (nomark _))) (fun _ _ _ _ _ => evf_var 1) (fun _ _ _ _ _ => evf_var 2) (by decide)))) (evss_nil)
theorem ok_plus_by (X0 : K.In h0) (G : h0.Ns mainGlobals mg) (c : He.SaysD Hd.fa Hd.fn K) : Cal P w K mg base 2 "plus_by" (spP 3 f_plus_by) [] := by
  obtain ⟨fd, F⟩ := c.def_ 4 (d := Hd.mk "plus_by" 17) rfl
  have b_dict : mg "dict" = none := He.free_ok X0 G (c.fact 45 (f := .free "dict") rfl)
  have c_without_noughts := ok_without_noughts (P := P) (w := w) (base := base) X0 G c
  have Sc : FnScope N_plus_by ["one", "other", "many"] (defScope (Hd.top 17)) := C8.fnScope_by (by kernel_rfl)
  have nd : (N_plus_by : List Str).Nodup := Sc.nd
  have Bd : Binds K fd ["one", "other", "many"] [] := FunD.bindsN F fun _ _ _ _ _ _ us hl => match us, hl with | [_, _, _], _ => rfl
  refine calP (N := N_plus_by) (ps := ["one", "other", "many"]) (b := d_plus_by) 3 F (He.glo_ok X0 G (c.fact 4 (f := .glo "plus_by") rfl)) Sc rfl Bd fun cdv A outer s H E hr => ?_
  obtain ⟨u1, u8, u65, u100⟩ := hr.us
  exact evss_cons (evs_set 3 nd (EvN.u (evn_callTy (call_dict u8) rc_dict b_dict boot_dict (evb_cons (evr_var 0) (evb_nil))))) (evss_cons (evs_for PassesOwn.never rfl (evi_items (evf_var 1)) (evg_tp rfl (evgs_cons (evg_nm 4 nd) (evgs_cons (evg_nm 5 nd) (evgs_nil))) rfl gs2) (evss_cons (evs_put 3 (ps_dput u1 (pv 3) (pe_se _ _) (pe_se _ _) rfl) (evf_op op_addA r2_add (EvF.r (evf_get u8 (evr_var 3) (evr_var 4) (evf_int) ⟨rfl, rfl, rfl, rfl⟩)) (EvF.r (evf_op op_mul r2_mul (evr_var 2) (evr_var 5)))) (evr_var 4)) (evss_nil))) (evss_cons (evs_frz 3 (evs_ret (evf_callP c_without_noughts hr (by decide) (eva_cons (evf_var 3) (eva_nil))))) (evss_nil)))
theorem ok_swapped (X0 : K.In h0) (G : h0.Ns mainGlobals mg) (c : He.SaysD Hd.fa Hd.fn K) : Cal P w K mg base 1 "swapped" (spP 2 f_swapped) [] := by
  obtain ⟨fd, F⟩ := c.def_ 5 (d := Hd.mk "swapped" 20) rfl
  have Sc : FnScope N_swapped ["sequence", "at"] (defScope (Hd.top 20)) := C8.fnScope_by (by kernel_rfl)
  have nd : (N_swapped : List Str).Nodup := Sc.nd
  have Bd : Binds K fd ["sequence", "at"] [] := FunD.bindsN F fun _ _ _ _ _ _ us hl => match us, hl with | [_, _], _ => rfl
  refine calP (N := N_swapped) (ps := ["sequence", "at"]) (b := d_swapped) 2 F (He.glo_ok X0 G (c.fact 5 (f := .glo "swapped") rfl)) Sc rfl Bd fun cdv A outer s H E hr => ?_
  obtain ⟨u1, u8, u65, u100⟩ := hr.us
  exact evss_cons (evs_ret (evf_op op_addA r2_add (EvF.r (evf_op op_addA r2_add (EvF.r (evf_slice (evr_var 0) evp_none (evp_some (EvF.r (evf_op op_sub r2_sub (evr_var 1) (EvF.r (evf_int))))))) (EvF.r (evf_tup (eva_cons (evf_ix u1 (evr_var 0) (evr_var 1)) (eva_cons (evf_ix u1 (evr_var 0) (EvF.r (evf_op op_sub r2_sub (evr_var 1) (EvF.r (evf_int))))) (eva_nil))))))) (EvF.r (evf_slice (evr_var 0) (evp_some (EvF.r (evf_op op_addA r2_add (evr_var 1) (EvF.r (evf_int))))) evp_none)))) (evss_nil)
theorem ok_is_sequence_of (X0 : K.In h0) (G : h0.Ns mainGlobals mg) (c : He.SaysD Hd.fa Hd.fn K) : Cal P w K mg base 2 "is_sequence_of" (spP 1 f_is_sequence_of) [] := by
  obtain ⟨fd, F⟩ := c.def_ 6 (d := Hd.mk "is_sequence_of" 22) rfl
  have b_all : mg "all" = none := He.free_ok X0 G (c.fact 43 (f := .free "all") rfl)
  have b_isinstance : mg "isinstance" = none := He.free_ok X0 G (c.fact 48 (f := .free "isinstance") rfl)
  have b_len : mg "len" = none := He.free_ok X0 G (c.fact 49 (f := .free "len") rfl)
  have b_list : mg "list" = none := He.free_ok X0 G (c.fact 50 (f := .free "list") rfl)
  have b_range : mg "range" = none := He.free_ok X0 G (c.fact 53 (f := .free "range") rfl)
  have b_sorted : mg "sorted" = none := He.free_ok X0 G (c.fact 54 (f := .free "sorted") rfl)
  have b_tuple : mg "tuple" = none := He.free_ok X0 G (c.fact 56 (f := .free "tuple") rfl)
  have c_MOST_WIRES_drawings : ∃ t, mg "MOST_WIRES_drawings" = some (.int 6 t) := He.int_ok X0 G (c.fact 59 (f := .int "MOST_WIRES_drawings" 6) rfl)
  have c_is_number := ok_is_number (P := P) (w := w) (base := base) X0 G c
  have Sc : FnScope N_is_sequence_of ["thing"] (defScope (Hd.top 22)) := C8.fnScope_by (by kernel_rfl)
  have nd : (N_is_sequence_of : List Str).Nodup := Sc.nd
  have Bd : Binds K fd ["thing"] [] := FunD.bindsN F fun _ _ _ _ _ _ us hl => match us, hl with | [_], _ => rfl
  refine calP (N := N_is_sequence_of) (ps := ["thing"]) (b := d_is_sequence_of) 1 F (He.glo_ok X0 G (c.fact 6 (f := .glo "is_sequence_of") rfl)) Sc rfl Bd fun cdv A outer s H E hr => ?_
  obtain ⟨u1, u8, u65, u100⟩ := hr.us
  exact evss_cons (evs_if (EvW.toT (evw_or (evt_not (evt_val (EvF.r (evf_isi .tuple boot_tuple b_isinstance b_tuple (evr_var 0))))) (evw_or1 (evt_not (evt_chain op_le op_le r2_cmp r2_cmp (EvF.r (evf_int)) (EvF.r (evf_callB cr_len rc_len b_len boot_len (evb_cons (evr_var 0) (evb_nil)))) (EvF.r (evf_glob c_MOST_WIRES_drawings)) rfl))))) (evss_cons (evs_ret (evf_bl)) (evss_nil)) (evss_nil)) (evss_cons (evs_ret (evf_and (EvF.r (evf_callB (cr_all rfl) rc_all b_all (by decide +kernel) (evb_cons (EvN.r (evn_lc (own := [("wire", 1)]) rfl nd (blkOk_by (by kernel_rfl)) (evi_val (evf_var 0)) (fun _ _ _ _ _ => evg_nm 1 nd) (evtb_nil) (fun _ _ _ _ _ => evf_callP c_is_number hr (by decide) (eva_cons (evf_var 1) (eva_nil))) (by decide))) (evb_nil)))) (evf_one (evf_cmp (op_eqU u100) r2_eqU (EvN.r (evn_callB cr_sorted2 rc_sorted b_sorted boot_sorted (evb_cons (evr_var 0) (evb_nil)))) (EvN.r (evn_listRg rfl b_list (evrg_2 b_range (EvF.r (evf_int)) (EvF.r (evf_op op_addA r2_add (EvF.r (evf_callB cr_len rc_len b_len boot_len (evb_cons (evr_var 0) (evb_nil)))) (EvF.r (evf_int))))))) (nomark _))))) (evss_nil))
theorem ok_need_sequence (X0 : K.In h0) (G : h0.Ns mainGlobals mg) (c : He.SaysD Hd.fa Hd.fn K) : Cal P w K mg base 3 "need_sequence" (spP 1 f_need_sequence) [] := by
  obtain ⟨fd, F⟩ := c.def_ 7 (d := Hd.mk "need_sequence" 23) rfl
  have c_is_sequence_of := ok_is_sequence_of (P := P) (w := w) (base := base) X0 G c
  have Sc : FnScope N_need_sequence ["sequence"] (defScope (Hd.top 23)) := C8.fnScope_by (by kernel_rfl)
  have nd : (N_need_sequence : List Str).Nodup := Sc.nd
  have Bd : Binds K fd ["sequence"] [] := FunD.bindsN F fun _ _ _ _ _ _ us hl => match us, hl with | [_], _ => rfl
  refine calP (N := N_need_sequence) (ps := ["sequence"]) (b := d_need_sequence) 1 F (He.glo_ok X0 G (c.fact 7 (f := .glo "need_sequence") rfl)) Sc rfl Bd fun cdv A outer s H E hr => ?_
  obtain ⟨u1, u8, u65, u100⟩ := hr.us
  exact evss_cons (evs_if (evt_not (evt_val (EvF.r (evf_callP c_is_sequence_of hr (by decide) (eva_cons (evf_var 0) (eva_nil)))))) (evss_cons (evs_dead) (evss_nil)) (evss_nil)) (evss_nil)
theorem ok_doubles_by (X0 : K.In h0) (G : h0.Ns mainGlobals mg) (c : He.SaysD Hd.fa Hd.fn K) : Cal P w K mg base 1 "doubles_by" (spP 1 f_doubles_by) [] := by
  obtain ⟨fd, F⟩ := c.def_ 8 (d := Hd.mk "doubles_by" 24) rfl
  have b_len : mg "len" = none := He.free_ok X0 G (c.fact 49 (f := .free "len") rfl)
  have b_range : mg "range" = none := He.free_ok X0 G (c.fact 53 (f := .free "range") rfl)
  have Sc : FnScope N_doubles_by ["sequence"] (defScope (Hd.top 24)) := C8.fnScope_by (by kernel_rfl)
  have nd : (N_doubles_by : List Str).Nodup := Sc.nd
  have Bd : Binds K fd ["sequence"] [] := FunD.bindsN F fun _ _ _ _ _ _ us hl => match us, hl with | [_], _ => rfl
  refine calP (N := N_doubles_by) (ps := ["sequence"]) (b := d_doubles_by) 1 F (He.glo_ok X0 G (c.fact 8 (f := .glo "doubles_by") rfl)) Sc rfl Bd fun cdv A outer s H E hr => ?_
  obtain ⟨u1, u8, u65, u100⟩ := hr.us
  exact evss_cons (evs_set 1 nd (EvF.u (evf_callB cr_len rc_len b_len boot_len (evb_cons (evr_var 0) (evb_nil))))) (evss_cons (evs_ret (EvN.toF (evn_lc2 (own := [("i", 2), ("j", 3)]) (vs1 := [3]) rfl nd (blkOk_by (by kernel_rfl)) (by decide) (evi_rg2 b_range (EvF.r (evf_int)) (evr_var 1)) (fun _ _ _ _ _ => evg_nm 2 nd) (gok_nm 2) (evtb_nil) (fun _ _ _ _ _ => evi_rg2 b_range (EvF.r (evf_op op_addA r2_add (evr_var 2) (EvF.r (evf_int)))) (EvF.r (evf_op op_addA r2_add (evr_var 1) (EvF.r (evf_int))))) (fun _ _ _ _ _ => evg_nm 3 nd) (evtb_one (fun _ _ _ _ _ => evt_cmp op_gt r2_cmp (EvF.r (evf_ix u1 (evr_var 0) (EvF.r (evf_op op_sub r2_sub (evr_var 2) (EvF.r (evf_int)))))) (EvF.r (evf_ix u1 (evr_var 0) (EvF.r (evf_op op_sub r2_sub (evr_var 3) (EvF.r (evf_int)))))) (nomark _))) (fun _ _ _ _ _ => evf_tup (eva_cons (evf_var 2) (eva_cons (evf_var 3) (eva_nil)))) (by decide) (by decide)))) (evss_nil))
theorem ok_crossings_by (X0 : K.In h0) (G : h0.Ns mainGlobals mg) (c : He.SaysD Hd.fa Hd.fn K) : Cal P w K mg base 2 "crossings_by" (spP 1 f_crossings_by) [] := by
  obtain ⟨fd, F⟩ := c.def_ 9 (d := Hd.mk "crossings_by" 25) rfl
  have b_len : mg "len" = none := He.free_ok X0 G (c.fact 49 (f := .free "len") rfl)
  have c_doubles_by := ok_doubles_by (P := P) (w := w) (base := base) X0 G c
  have Sc : FnScope N_crossings_by ["sequence"] (defScope (Hd.top 25)) := C8.fnScope_by (by kernel_rfl)
  have nd : (N_crossings_by : List Str).Nodup := Sc.nd
  have Bd : Binds K fd ["sequence"] [] := FunD.bindsN F fun _ _ _ _ _ _ us hl => match us, hl with | [_], _ => rfl
  refine calP (N := N_crossings_by) (ps := ["sequence"]) (b := d_crossings_by) 1 F (He.glo_ok X0 G (c.fact 9 (f := .glo "crossings_by") rfl)) Sc rfl Bd fun cdv A outer s H E hr => ?_
  obtain ⟨u1, u8, u65, u100⟩ := hr.us
  exact evss_cons (evs_ret (evf_callB cr_len rc_len b_len boot_len (evb_cons (EvF.r (evf_callP c_doubles_by hr (by decide) (eva_cons (evf_var 0) (eva_nil)))) (evb_nil)))) (evss_nil)
theorem ok_back_by (X0 : K.In h0) (G : h0.Ns mainGlobals mg) (c : He.SaysD Hd.fa Hd.fn K) : Cal P w K mg base 1 "back_by" (spP 1 f_back_by) [] := by
  obtain ⟨fd, F⟩ := c.def_ 10 (d := Hd.mk "back_by" 26) rfl
  have b_len : mg "len" = none := He.free_ok X0 G (c.fact 49 (f := .free "len") rfl)
  have b_range : mg "range" = none := He.free_ok X0 G (c.fact 53 (f := .free "range") rfl)
  have b_tuple : mg "tuple" = none := He.free_ok X0 G (c.fact 56 (f := .free "tuple") rfl)
  have Sc : FnScope N_back_by ["sequence"] (defScope (Hd.top 26)) := C8.fnScope_by (by kernel_rfl)
  have nd : (N_back_by : List Str).Nodup := Sc.nd
  have Bd : Binds K fd ["sequence"] [] := FunD.bindsN F fun _ _ _ _ _ _ us hl => match us, hl with | [_], _ => rfl
  refine calP (N := N_back_by) (ps := ["sequence"]) (b := d_back_by) 1 F (He.glo_ok X0 G (c.fact 10 (f := .glo "back_by") rfl)) Sc rfl Bd fun cdv A outer s H E hr => ?_
  obtain ⟨u1, u8, u65, u100⟩ := hr.us
  exact evss_cons (evs_ret (evf_callTy call_tuple_of rc_tuple b_tuple boot_tuple (evb_cons (EvN.r (evn_lc (own := [("wire", 1)]) rfl nd (blkOk_by (by kernel_rfl)) (evi_rg2 b_range (EvF.r (evf_int)) (EvF.r (evf_op op_addA r2_add (EvF.r (evf_callB cr_len rc_len b_len boot_len (evb_cons (evr_var 0) (evb_nil)))) (EvF.r (evf_int))))) (fun _ _ _ _ _ => evg_nm 1 nd) (evtb_nil) (fun _ _ _ _ _ => evf_op op_addA r2_add (EvF.r (evf_idx (pe_pm PySem.F.slot_tuple_index PySem.F.type_tuple_index mt_tupIndexI (pe_se _ _) (pa_cons (pe_se _ _) pa_nil)) (evf_var 0) (evr_var 1))) (EvF.r (evf_int))) (by decide))) (evb_nil)))) (evss_nil)
theorem ok_code_by (X0 : K.In h0) (G : h0.Ns mainGlobals mg) (c : He.SaysD Hd.fa Hd.fn K) : Cal P w K mg base 1 "code_by" (spP 1 f_code_by) [] := by
  obtain ⟨fd, F⟩ := c.def_ 11 (d := Hd.mk "code_by" 27) rfl
  have b_enumerate : mg "enumerate" = none := He.free_ok X0 G (c.fact 46 (f := .free "enumerate") rfl)
  have b_len : mg "len" = none := He.free_ok X0 G (c.fact 49 (f := .free "len") rfl)
  have b_tuple : mg "tuple" = none := He.free_ok X0 G (c.fact 56 (f := .free "tuple") rfl)
  have Sc : FnScope N_code_by ["sequence"] (defScope (Hd.top 27)) := C8.fnScope_by (by kernel_rfl)
  have nd : (N_code_by : List Str).Nodup := Sc.nd
  have Bd : Binds K fd ["sequence"] [] := FunD.bindsN F fun _ _ _ _ _ _ us hl => match us, hl with | [_], _ => rfl
  refine calP (N := N_code_by) (ps := ["sequence"]) (b := d_code_by) 1 F (He.glo_ok X0 G (c.fact 11 (f := .glo "code_by") rfl)) Sc rfl Bd fun cdv A outer s H E hr => ?_
  obtain ⟨u1, u8, u65, u100⟩ := hr.us
  exact evss_cons (evs_ret (evf_callTy call_tuple_of rc_tuple b_tuple boot_tuple (evb_cons (EvN.r (evn_lc (own := [("at", 1), ("wire", 2)]) rfl nd (blkOk_by (by kernel_rfl)) (evi_en1 b_enumerate (evf_var 0)) (fun _ _ _ _ _ => evg_tp rfl (evgs_cons (evg_nm 1 nd) (evgs_cons (evg_nm 2 nd) (evgs_nil))) rfl gs2) (evtb_nil) (fun _ _ _ _ _ => evf_callB cr_len rc_len b_len boot_len (evb_cons (EvN.r (evn_lc (own := [("late", 3)]) rfl nd (blkOk_by (by kernel_rfl)) (evi_val (evf_slice (evr_var 0) (evp_some (evr_var 1)) evp_none)) (fun _ _ _ _ _ => evg_nm 3 nd) (evtb_one (fun _ _ _ _ _ => evt_cmp op_lt r2_cmp (evr_var 3) (evr_var 2) (nomark _))) (fun _ _ _ _ _ => evf_var 3) (by decide))) (evb_nil))) (by decide))) (evb_nil)))) (evss_nil)
theorem ok_of_code_by (X0 : K.In h0) (G : h0.Ns mainGlobals mg) (c : He.SaysD Hd.fa Hd.fn K) : Cal P w K mg base 1 "of_code_by" (spP 1 f_of_code_by) [] := by
  obtain ⟨fd, F⟩ := c.def_ 12 (d := Hd.mk "of_code_by" 28) rfl
  have b_len : mg "len" = none := He.free_ok X0 G (c.fact 49 (f := .free "len") rfl)
  have b_list : mg "list" = none := He.free_ok X0 G (c.fact 50 (f := .free "list") rfl)
  have b_range : mg "range" = none := He.free_ok X0 G (c.fact 53 (f := .free "range") rfl)
  have b_tuple : mg "tuple" = none := He.free_ok X0 G (c.fact 56 (f := .free "tuple") rfl)
  have Sc : FnScope N_of_code_by ["numbers"] (defScope (Hd.top 28)) := C8.fnScope_by (by kernel_rfl)
  have nd : (N_of_code_by : List Str).Nodup := Sc.nd
  have Bd : Binds K fd ["numbers"] [] := FunD.bindsN F fun _ _ _ _ _ _ us hl => match us, hl with | [_], _ => rfl
  refine calP (N := N_of_code_by) (ps := ["numbers"]) (b := d_of_code_by) 1 F (He.glo_ok X0 G (c.fact 12 (f := .glo "of_code_by") rfl)) Sc rfl Bd fun cdv A outer s H E hr => ?_
  obtain ⟨u1, u8, u65, u100⟩ := hr.us
  exact evss_cons (evs_par 1 2 rfl nd (EvN.u (evn_listRg rfl b_list (evrg_2 b_range (EvF.r (evf_int)) (EvF.r (evf_op op_addA r2_add (EvF.r (evf_callB cr_len rc_len b_len boot_len (evb_cons (evr_var 0) (evb_nil)))) (EvF.r (evf_int))))))) (EvN.u (evn_lst (eva_nil))) (by decide)) (evss_cons (evs_for PassesOwn.never rfl (evi_val (evf_var 0)) (evg_nm 3 nd) (evss_cons (evs_appPop 2 1 (by decide) (pe_bm PySem.F.plainAttrs_list PySem.F.slot_list_append PySem.F.type_list_append mt_append (pv 2) (pa_cons (pe_bm PySem.F.plainAttrs_list PySem.F.slot_list_pop PySem.F.type_list_pop mt_popAt (pv 1) (pa_cons (pe_se _ _) pa_nil)) pa_nil)) (evr_var 3)) (evss_nil))) (evss_cons (evs_ret (evf_callTy call_tuple_of rc_tuple b_tuple boot_tuple (evb_cons (evr_var 2) (evb_nil)))) (evss_nil)))
theorem ok_many_crossings (X0 : K.In h0) (G : h0.Ns mainGlobals mg) (c : He.SaysD Hd.fa Hd.fn K) : Cal P w K mg base 4 "many_crossings" (spP 1 f_many_crossings) [] := by
  obtain ⟨fd, F⟩ := c.def_ 13 (d := Hd.mk "many_crossings" 29) rfl
  have c_crossings_by := ok_crossings_by (P := P) (w := w) (base := base) X0 G c
  have c_need_sequence := ok_need_sequence (P := P) (w := w) (base := base) X0 G c
  have Sc : FnScope N_many_crossings ["sequence"] (defScope (Hd.top 29)) := C8.fnScope_by (by kernel_rfl)
  have nd : (N_many_crossings : List Str).Nodup := Sc.nd
  have Bd : Binds K fd ["sequence"] [] := FunD.bindsN F fun _ _ _ _ _ _ us hl => match us, hl with | [_], _ => rfl
  refine calP (N := N_many_crossings) (ps := ["sequence"]) (b := d_many_crossings) 1 F (He.glo_ok X0 G (c.fact 13 (f := .glo "many_crossings") rfl)) Sc rfl Bd fun cdv A outer s H E hr => ?_
  obtain ⟨u1, u8, u65, u100⟩ := hr.us
  exact evss_cons (evs_drop (evf_callP c_need_sequence hr (by decide) (eva_cons (evf_var 0) (eva_nil)))) (evss_cons (evs_ret (evf_callP c_crossings_by hr (by decide) (eva_cons (evf_var 0) (eva_nil)))) (evss_nil))
theorem ok_code (X0 : K.In h0) (G : h0.Ns mainGlobals mg) (c : He.SaysD Hd.fa Hd.fn K) : Cal P w K mg base 4 "code" (spP 1 f_code) [] := by
  obtain ⟨fd, F⟩ := c.def_ 14 (d := Hd.mk "code" 30) rfl
  have c_code_by := ok_code_by (P := P) (w := w) (base := base) X0 G c
  have c_need_sequence := ok_need_sequence (P := P) (w := w) (base := base) X0 G c
  have Sc : FnScope N_code ["sequence"] (defScope (Hd.top 30)) := C8.fnScope_by (by kernel_rfl)
  have nd : (N_code : List Str).Nodup := Sc.nd
  have Bd : Binds K fd ["sequence"] [] := FunD.bindsN F fun _ _ _ _ _ _ us hl => match us, hl with | [_], _ => rfl
  refine calP (N := N_code) (ps := ["sequence"]) (b := d_code) 1 F (He.glo_ok X0 G (c.fact 14 (f := .glo "code") rfl)) Sc rfl Bd fun cdv A outer s H E hr => ?_
  obtain ⟨u1, u8, u65, u100⟩ := hr.us
  exact evss_cons (evs_drop (evf_callP c_need_sequence hr (by decide) (eva_cons (evf_var 0) (eva_nil)))) (evss_cons (evs_ret (evf_callP c_code_by hr (by decide) (eva_cons (evf_var 0) (eva_nil)))) (evss_nil))
theorem ok_of_code (X0 : K.In h0) (G : h0.Ns mainGlobals mg) (c : He.SaysD Hd.fa Hd.fn K) : Cal P w K mg base 2 "of_code" (spP 1 f_of_code) [] := by
  obtain ⟨fd, F⟩ := c.def_ 15 (d := Hd.mk "of_code" 31) rfl
  have b_all : mg "all" = none := He.free_ok X0 G (c.fact 43 (f := .free "all") rfl)
  have b_enumerate : mg "enumerate" = none := He.free_ok X0 G (c.fact 46 (f := .free "enumerate") rfl)
  have b_isinstance : mg "isinstance" = none := He.free_ok X0 G (c.fact 48 (f := .free "isinstance") rfl)
  have b_len : mg "len" = none := He.free_ok X0 G (c.fact 49 (f := .free "len") rfl)
  have b_tuple : mg "tuple" = none := He.free_ok X0 G (c.fact 56 (f := .free "tuple") rfl)
  have c_MOST_WIRES_drawings : ∃ t, mg "MOST_WIRES_drawings" = some (.int 6 t) := He.int_ok X0 G (c.fact 59 (f := .int "MOST_WIRES_drawings" 6) rfl)
  have c_is_number := ok_is_number (P := P) (w := w) (base := base) X0 G c
  have c_of_code_by := ok_of_code_by (P := P) (w := w) (base := base) X0 G c
  have Sc : FnScope N_of_code ["numbers"] (defScope (Hd.top 31)) := C8.fnScope_by (by kernel_rfl)
  have nd : (N_of_code : List Str).Nodup := Sc.nd
  have Bd : Binds K fd ["numbers"] [] := FunD.bindsN F fun _ _ _ _ _ _ us hl => match us, hl with | [_], _ => rfl
  refine calP (N := N_of_code) (ps := ["numbers"]) (b := d_of_code) 1 F (He.glo_ok X0 G (c.fact 15 (f := .glo "of_code") rfl)) Sc rfl Bd fun cdv A outer s H E hr => ?_
  obtain ⟨u1, u8, u65, u100⟩ := hr.us
  exact evss_cons (evs_if (EvW.toT (evw_or (evt_not (evt_val (EvF.r (evf_isi .tuple boot_tuple b_isinstance b_tuple (evr_var 0))))) (evw_or1 (evt_not (evt_chain op_le op_le r2_cmp r2_cmp (EvF.r (evf_int)) (EvF.r (evf_callB cr_len rc_len b_len boot_len (evb_cons (evr_var 0) (evb_nil)))) (EvF.r (evf_glob c_MOST_WIRES_drawings)) rfl))))) (evss_cons (evs_dead) (evss_nil)) (evss_nil)) (evss_cons (evs_if (evt_not (evt_val (EvF.r (evf_callB (cr_all rfl) rc_all b_all (by decide +kernel) (evb_cons (EvN.r (evn_lc (own := [("at", 1), ("number", 2)]) rfl nd (blkOk_by (by kernel_rfl)) (evi_en1 b_enumerate (evf_var 0)) (fun _ _ _ _ _ => evg_tp rfl (evgs_cons (evg_nm 1 nd) (evgs_cons (evg_nm 2 nd) (evgs_nil))) rfl gs2) (evtb_nil) (fun _ _ _ _ _ => evf_and (EvF.r (evf_callP c_is_number hr (by decide) (eva_cons (evf_var 2) (eva_nil)))) (evf_one (evf_chain op_le op_lt r2_cmp r2_cmp (EvF.r (evf_int)) (evr_var 2) (EvF.r (evf_op op_sub r2_sub (EvF.r (evf_callB cr_len rc_len b_len boot_len (evb_cons (evr_var 0) (evb_nil)))) (evr_var 1))) rfl))) (by decide))) (evb_nil)))))) (evss_cons (evs_dead) (evss_nil)) (evss_nil)) (evss_cons (evs_ret (evf_callP c_of_code_by hr (by decide) (eva_cons (evf_var 0) (eva_nil)))) (evss_nil)))
theorem ok_cut_by (X0 : K.In h0) (G : h0.Ns mainGlobals mg) (c : He.SaysD Hd.fa Hd.fn K) : Cal P w K mg base 2 "cut_by" (spP 2 f_cut_by) [] := by
  obtain ⟨fd, F⟩ := c.def_ 16 (d := Hd.mk "cut_by" 33) rfl
  have b_range : mg "range" = none := He.free_ok X0 G (c.fact 53 (f := .free "range") rfl)
  have c_without_noughts := ok_without_noughts (P := P) (w := w) (base := base) X0 G c
  have Sc : FnScope N_cut_by ["rows", "at"] (defScope (Hd.top 33)) := C8.fnScope_by (by kernel_rfl)
  have nd : (N_cut_by : List Str).Nodup := Sc.nd
  have Bd : Binds K fd ["rows", "at"] [] := FunD.bindsN F fun _ _ _ _ _ _ us hl => match us, hl with | [_, _], _ => rfl
  refine calP (N := N_cut_by) (ps := ["rows", "at"]) (b := d_cut_by) 2 F (He.glo_ok X0 G (c.fact 16 (f := .glo "cut_by") rfl)) Sc rfl Bd fun cdv A outer s H E hr => ?_
  obtain ⟨u1, u8, u65, u100⟩ := hr.us
  exact evss_cons (evs_set 2 nd (EvN.u (evn_dT))) (evss_cons (evs_for PassesOwn.never rfl (evi_items (evf_var 0)) (evg_tp rfl (evgs_cons (evg_nm 3 nd) (evgs_cons (evg_nm 4 nd) (evgs_nil))) rfl gs2) (evss_cons (evs_par 5 6 rfl nd (EvF.u (evf_ix u1 (evr_var 3) (EvF.r (evf_op op_sub r2_sub (evr_var 1) (EvF.r (evf_int)))))) (EvF.u (evf_ix u1 (evr_var 3) (evr_var 1))) (by decide)) (evss_cons (evs_asg (evf_if (evt_cmp op_gt r2_cmp (evr_var 5) (evr_var 6) (nomark _)) (evf_tup (eva_cons (evf_int) (eva_cons (evf_var 6) (eva_cons (evf_var 5) (eva_nil))))) (evf_tup (eva_cons (evf_neg (EvF.r (evf_int))) (eva_cons (evf_var 5) (eva_cons (evf_var 6) (eva_nil)))))) (evg_tp rfl (evgs_cons (evg_nm 7 nd) (evgs_cons (evg_nm 8 nd) (evgs_cons (evg_nm 9 nd) (evgs_nil)))) rfl gs3)) (evss_cons (evs_for PassesOwn.never rfl (evi_rg1 b_range (EvF.r (evf_op op_sub r2_sub (evr_var 9) (evr_var 8)))) (evg_nm 10 nd) (evss_cons (evs_set 11 nd (EvF.u (evf_op op_addA r2_add (EvF.r (evf_op op_addA r2_add (EvF.r (evf_slice (evr_var 3) evp_none (evp_some (EvF.r (evf_op op_sub r2_sub (evr_var 1) (EvF.r (evf_int))))))) (EvF.r (evf_tup (eva_cons (evf_op op_addA r2_add (evr_var 8) (evr_var 10)) (eva_cons (evf_op op_sub r2_sub (EvF.r (evf_op op_sub r2_sub (evr_var 9) (EvF.r (evf_int)))) (evr_var 10)) (eva_nil))))))) (EvF.r (evf_slice (evr_var 3) (evp_some (EvF.r (evf_op op_addA r2_add (evr_var 1) (EvF.r (evf_int))))) evp_none))))) (evss_cons (evs_put 2 (ps_dput u1 (pv 2) (pe_se _ _) (pe_se _ _) rfl) (evf_op op_addA r2_add (EvF.r (evf_get u8 (evr_var 2) (evr_var 11) (evf_int) ⟨rfl, rfl, rfl, rfl⟩)) (EvF.r (evf_op op_mul r2_mul (evr_var 7) (evr_var 4)))) (evr_var 11)) (evss_nil)))) (evss_nil))))) (evss_cons (evs_frz 2 (evs_ret (evf_callP c_without_noughts hr (by decide) (eva_cons (evf_var 2) (eva_nil))))) (evss_nil)))
theorem ok_sum_by (X0 : K.In h0) (G : h0.Ns mainGlobals mg) (c : He.SaysD Hd.fa Hd.fn K) : Cal P w K mg base 3 "sum_by" (spP 1 f_sum_by) [] := by
  obtain ⟨fd, F⟩ := c.def_ 17 (d := Hd.mk "sum_by" 35) rfl
  have b_len : mg "len" = none := He.free_ok X0 G (c.fact 49 (f := .free "len") rfl)
  have b_max : mg "max" = none := He.free_ok X0 G (c.fact 51 (f := .free "max") rfl)
  have b_range : mg "range" = none := He.free_ok X0 G (c.fact 53 (f := .free "range") rfl)
  have b_tuple : mg "tuple" = none := He.free_ok X0 G (c.fact 56 (f := .free "tuple") rfl)
  have c_UNKNOWNS_polynomials : ∃ t, mg "UNKNOWNS_polynomials" = some (.int 5 t) := He.int_ok X0 G (c.fact 57 (f := .int "UNKNOWNS_polynomials" 5) rfl)
  have c_cut_by := ok_cut_by (P := P) (w := w) (base := base) X0 G c
  have c_swapped := ok_swapped (P := P) (w := w) (base := base) X0 G c
  have Sc : FnScope N_sum_by ["sequence"] (defScope (Hd.top 35)) := C8.fnScope_by (by kernel_rfl)
  have nd : (N_sum_by : List Str).Nodup := Sc.nd
  have Bd : Binds K fd ["sequence"] [] := FunD.bindsN F fun _ _ _ _ _ _ us hl => match us, hl with | [_], _ => rfl
  refine calP (N := N_sum_by) (ps := ["sequence"]) (b := d_sum_by) 1 F (He.glo_ok X0 G (c.fact 17 (f := .glo "sum_by") rfl)) Sc rfl Bd fun cdv A outer s H E hr => ?_
  obtain ⟨u1, u8, u65, u100⟩ := hr.us
  exact evss_cons (evs_par3t 1 2 3 rfl nd (EvF.u (evf_callB cr_len rc_len b_len boot_len (evb_cons (evr_var 0) (evb_nil)))) (EvF.u (evf_var 0)) (EvN.u (evn_lst (eva_nil))) (by decide) (by decide) (by decide)) (evss_cons (evs_while 1000 PassesOwn.never (evt_cmp (op_neU u100) r2_neU (evr_var 2) (EvF.r (evf_tupRg3 rfl b_tuple b_range (evr_var 1) (EvF.r (evf_int)))) (nomark _)) (evss_cons (evs_set 4 nd (EvF.u (evf_ix u1 (EvN.r (evn_lc (own := [("at", 4)]) rfl nd (blkOk_by (by kernel_rfl)) (evi_rg2 b_range (EvF.r (evf_int)) (evr_var 1)) (fun _ _ _ _ _ => evg_nm 4 nd) (evtb_one (fun _ _ _ _ _ => evt_cmp op_lt r2_cmp (EvF.r (evf_ix u1 (evr_var 2) (EvF.r (evf_op op_sub r2_sub (evr_var 4) (EvF.r (evf_int)))))) (EvF.r (evf_ix u1 (evr_var 2) (evr_var 4))) (nomark _))) (fun _ _ _ _ _ => evf_var 4) (by decide))) (EvF.r (evf_int))))) (evss_cons (evs_set 2 nd (EvF.u (evf_callP c_swapped hr (by decide) (eva_cons (evf_var 2) (eva_cons (evf_var 4) (eva_nil)))))) (evss_cons (evs_app 3 (pe_bm PySem.F.plainAttrs_list PySem.F.slot_list_append PySem.F.type_list_append mt_append (pv 3) (pa_cons (pe_se _ _) pa_nil)) (evf_var 4)) (evss_nil))))) (evss_cons (evs_set 5 nd (EvF.u (EvN.toF (evn_disp1 u8 (evf_callTy call_tuple_of rc_tuple b_tuple boot_tuple (evb_cons (EvN.r (evn_lc (own := [("at", 4)]) rfl nd (blkOk_by (by kernel_rfl)) (evi_rg2 b_range (EvF.r (evf_int)) (EvF.r (evf_op op_addA r2_add (EvF.r (evf_glob c_UNKNOWNS_polynomials)) (EvF.r (evf_int))))) (fun _ _ _ _ _ => evg_nm 4 nd) (evtb_nil) (fun _ _ _ _ _ => evf_callB (call_max2 rfl) rc_max2 b_max (by decide +kernel) (evb_cons (EvF.r (evf_op op_sub r2_sub (evr_var 1) (evr_var 4))) (evb_cons (EvF.r (evf_int)) (evb_nil)))) (by decide))) (evb_nil))) (evf_int))))) (evss_cons (evs_for PassesOwn.never rfl (evi_val (EvN.toF (evn_rev (evr_var 3)))) (evg_nm 4 nd) (evss_cons (evs_set 5 nd (EvF.u (evf_callP c_cut_by hr (by decide) (eva_cons (evf_var 5) (eva_cons (evf_var 4) (eva_nil)))))) (evss_nil))) (evss_cons (evs_ret (EvN.toF (evn_dc (own := [("row", 6), ("number", 7)]) u8 rfl nd (blkOk_by (by kernel_rfl)) (evi_items (evf_var 5)) (fun _ _ _ _ _ => evg_tp rfl (evgs_cons (evg_nm 6 nd) (evgs_cons (evg_nm 7 nd) (evgs_nil))) rfl gs2) (evtb_nil) (fun _ _ _ _ _ => evf_slice (evr_var 6) evp_none (evp_some (EvF.r (evf_glob c_UNKNOWNS_polynomials)))) (fun _ _ _ _ _ => evf_var 7) (by decide)))) (evss_nil)))))
theorem ok_sum_of (X0 : K.In h0) (G : h0.Ns mainGlobals mg) (c : He.SaysD Hd.fa Hd.fn K) : Cal P w K mg base 4 "sum_of" (spP 1 f_sum_of) [] := by
  obtain ⟨fd, F⟩ := c.def_ 18 (d := Hd.mk "sum_of" 36) rfl
  have c_need_sequence := ok_need_sequence (P := P) (w := w) (base := base) X0 G c
  have c_sum_by := ok_sum_by (P := P) (w := w) (base := base) X0 G c
  have Sc : FnScope N_sum_of ["sequence"] (defScope (Hd.top 36)) := C8.fnScope_by (by kernel_rfl)
  have nd : (N_sum_of : List Str).Nodup := Sc.nd
  have Bd : Binds K fd ["sequence"] [] := FunD.bindsN F fun _ _ _ _ _ _ us hl => match us, hl with | [_], _ => rfl
  refine calP (N := N_sum_of) (ps := ["sequence"]) (b := d_sum_of) 1 F (He.glo_ok X0 G (c.fact 18 (f := .glo "sum_of") rfl)) Sc rfl Bd fun cdv A outer s H E hr => ?_
  obtain ⟨u1, u8, u65, u100⟩ := hr.us
  exact evss_cons (evs_drop (evf_callP c_need_sequence hr (by decide) (eva_cons (evf_var 0) (eva_nil)))) (evss_cons (evs_ret (evf_callP c_sum_by hr (by decide) (eva_cons (evf_var 0) (eva_nil)))) (evss_nil))
theorem ok_short_by (X0 : K.In h0) (G : h0.Ns mainGlobals mg) (c : He.SaysD Hd.fa Hd.fn K) : Cal P w K mg base 1 "short_by" (spP 1 f_short_by) [] := by
  obtain ⟨fd, F⟩ := c.def_ 19 (d := Hd.mk "short_by" 41) rfl
  have b_len : mg "len" = none := He.free_ok X0 G (c.fact 49 (f := .free "len") rfl)
  have Sc : FnScope N_short_by ["sequence"] (defScope (Hd.top 41)) := C8.fnScope_by (by kernel_rfl)
  have nd : (N_short_by : List Str).Nodup := Sc.nd
  have Bd : Binds K fd ["sequence"] [] := FunD.bindsN F fun _ _ _ _ _ _ us hl => match us, hl with | [_], _ => rfl
  refine calP (N := N_short_by) (ps := ["sequence"]) (b := d_short_by) 1 F (He.glo_ok X0 G (c.fact 19 (f := .glo "short_by") rfl)) Sc rfl Bd fun cdv A outer s H E hr => ?_
  obtain ⟨u1, u8, u65, u100⟩ := hr.us
  exact evss_cons (evs_set 1 nd (EvF.u (evf_callB cr_len rc_len b_len boot_len (evb_cons (evr_var 0) (evb_nil))))) (evss_cons (evs_while 1000 PassesOwn.never (EvW.toT (evw_and (evt_cmp op_gt r2_cmp (evr_var 1) (EvF.r (evf_int)) (nomark _)) (evw_and1 (evt_cmp (op_eqU u100) r2_eqU (EvF.r (evf_ix u1 (evr_var 0) (EvF.r (evf_op op_sub r2_sub (evr_var 1) (EvF.r (evf_int)))))) (evr_var 1) (nomark _))))) (evss_cons (evs_set 1 nd (EvF.u (evf_op op_sub r2_sub (evr_var 1) (EvF.r (evf_int))))) (evss_nil))) (evss_cons (evs_ret (evf_slice (evr_var 0) evp_none (evp_some (evr_var 1)))) (evss_nil)))
theorem ok_shortened_sequence (X0 : K.In h0) (G : h0.Ns mainGlobals mg) (c : He.SaysD Hd.fa Hd.fn K) : Cal P w K mg base 4 "shortened_sequence" (spP 1 f_shortened_sequence) [] := by
  obtain ⟨fd, F⟩ := c.def_ 20 (d := Hd.mk "shortened_sequence" 42) rfl
  have c_need_sequence := ok_need_sequence (P := P) (w := w) (base := base) X0 G c
  have c_short_by := ok_short_by (P := P) (w := w) (base := base) X0 G c
  have Sc : FnScope N_shortened_sequence ["sequence"] (defScope (Hd.top 42)) := C8.fnScope_by (by kernel_rfl)
  have nd : (N_shortened_sequence : List Str).Nodup := Sc.nd
  have Bd : Binds K fd ["sequence"] [] := FunD.bindsN F fun _ _ _ _ _ _ us hl => match us, hl with | [_], _ => rfl
  refine calP (N := N_shortened_sequence) (ps := ["sequence"]) (b := d_shortened_sequence) 1 F (He.glo_ok X0 G (c.fact 20 (f := .glo "shortened_sequence") rfl)) Sc rfl Bd fun cdv A outer s H E hr => ?_
  obtain ⟨u1, u8, u65, u100⟩ := hr.us
  exact evss_cons (evs_drop (evf_callP c_need_sequence hr (by decide) (eva_cons (evf_var 0) (eva_nil)))) (evss_cons (evs_ret (evf_callP c_short_by hr (by decide) (eva_cons (evf_var 0) (eva_nil)))) (evss_nil))
theorem ok_turned_row (X0 : K.In h0) (G : h0.Ns mainGlobals mg) (c : He.SaysD Hd.fa Hd.fn K) : Cal P w K mg base 1 "turned_row" (spP 1 f_turned_row) [] := by
  obtain ⟨fd, F⟩ := c.def_ 22 (d := Hd.mk "turned_row" 44) rfl
  have Sc : FnScope N_turned_row ["row"] (defScope (Hd.top 44)) := C8.fnScope_by (by kernel_rfl)
  have nd : (N_turned_row : List Str).Nodup := Sc.nd
  have Bd : Binds K fd ["row"] [] := FunD.bindsN F fun _ _ _ _ _ _ us hl => match us, hl with | [_], _ => rfl
  refine calP (N := N_turned_row) (ps := ["row"]) (b := d_turned_row) 1 F (He.glo_ok X0 G (c.fact 22 (f := .glo "turned_row") rfl)) Sc rfl Bd fun cdv A outer s H E hr => ?_
  obtain ⟨u1, u8, u65, u100⟩ := hr.us
  exact evss_cons (evs_ret (evf_rev (evr_var 0))) (evss_nil)
theorem ok_last_by (X0 : K.In h0) (G : h0.Ns mainGlobals mg) (c : He.SaysD Hd.fa Hd.fn K) : Cal P w K mg base 3 "last_by" (spP 1 f_last_by) [] := by
  obtain ⟨fd, F⟩ := c.def_ 21 (d := Hd.mk "last_by" 43) rfl
  have b_max : mg "max" = none := He.free_ok X0 G (c.fact 51 (f := .free "max") rfl)
  have c_turned_row := ok_turned_row (P := P) (w := w) (base := base) X0 G c
  have Sc : FnScope N_last_by ["polynomial"] (defScope (Hd.top 43)) := C8.fnScope_by (by kernel_rfl)
  have nd : (N_last_by : List Str).Nodup := Sc.nd
  have Bd : Binds K fd ["polynomial"] [] := FunD.bindsN F fun _ _ _ _ _ _ us hl => match us, hl with | [_], _ => rfl
  refine calP (N := N_last_by) (ps := ["polynomial"]) (b := d_last_by) 1 F (He.glo_ok X0 G (c.fact 21 (f := .glo "last_by") rfl)) Sc rfl Bd fun cdv A outer s H E hr => ?_
  obtain ⟨u1, u8, u65, u100⟩ := hr.us
  exact evss_cons (evs_ret (evf_maxK b_max rfl c_turned_row hr (by decide) (evf_var 0))) (evss_nil)
theorem ok_sequence_by_row (X0 : K.In h0) (G : h0.Ns mainGlobals mg) (c : He.SaysD Hd.fa Hd.fn K) : Cal P w K mg base 2 "sequence_by_row" (spP 1 f_sequence_by_row) [] := by
  obtain ⟨fd, F⟩ := c.def_ 23 (d := Hd.mk "sequence_by_row" 45) rfl
  have b_enumerate : mg "enumerate" = none := He.free_ok X0 G (c.fact 46 (f := .free "enumerate") rfl)
  have b_max : mg "max" = none := He.free_ok X0 G (c.fact 51 (f := .free "max") rfl)
  have c_MOST_WIRES_toldsums : ∃ t, mg "MOST_WIRES_toldsums" = some (.int 6 t) := He.int_ok X0 G (c.fact 60 (f := .int "MOST_WIRES_toldsums" 6) rfl)
  have c_of_code_by := ok_of_code_by (P := P) (w := w) (base := base) X0 G c
  have c_short_by := ok_short_by (P := P) (w := w) (base := base) X0 G c
  have Sc : FnScope N_sequence_by_row ["row"] (defScope (Hd.top 45)) := C8.fnScope_by (by kernel_rfl)
  have nd : (N_sequence_by_row : List Str).Nodup := Sc.nd
  have Bd : Binds K fd ["row"] [] := FunD.bindsN F fun _ _ _ _ _ _ us hl => match us, hl with | [_], _ => rfl
  refine calP (N := N_sequence_by_row) (ps := ["row"]) (b := d_sequence_by_row) 1 F (He.glo_ok X0 G (c.fact 23 (f := .glo "sequence_by_row") rfl)) Sc rfl Bd fun cdv A outer s H E hr => ?_
  obtain ⟨u1, u8, u65, u100⟩ := hr.us
  exact evss_cons (evs_set 1 nd (EvF.u (evf_callB (cr_max rfl) rc_maxL b_max (by decide +kernel) (evb_cons (EvN.r (evn_op op_cat r2_cat (EvN.r (evn_lst (eva_cons (evf_int) (eva_nil)))) (EvN.r (evn_lc (own := [("at", 2), ("number", 3)]) rfl nd (blkOk_by (by kernel_rfl)) (evi_en1 b_enumerate (evf_var 0)) (fun _ _ _ _ _ => evg_tp rfl (evgs_cons (evg_nm 2 nd) (evgs_cons (evg_nm 3 nd) (evgs_nil))) rfl gs2) (evtb_one (fun _ _ _ _ _ => evt_cmp op_gt r2_cmp (evr_var 3) (EvF.r (evf_int)) (nomark _))) (fun _ _ _ _ _ => evf_op op_addA r2_add (EvF.r (evf_op op_addA r2_add (evr_var 2) (EvF.r (evf_int)))) (evr_var 3)) (by decide))))) (evb_nil))))) (evss_cons (evs_if (evt_cmp op_gt r2_cmp (evr_var 1) (EvF.r (evf_glob c_MOST_WIRES_toldsums)) (nomark _)) (evss_cons (evs_dead) (evss_nil)) (evss_nil)) (evss_cons (evs_ret (evf_callP c_short_by hr (by decide) (eva_cons (evf_callP c_of_code_by hr (by decide) (eva_cons (evf_slice (EvF.r (evf_tup (eva_star (evr_var 0) (eva_cons (evf_int) (eva_nil))))) evp_none (evp_some (evr_var 1))) (eva_nil))) (eva_nil)))) (evss_nil)))
theorem ok_told_by (X0 : K.In h0) (G : h0.Ns mainGlobals mg) (c : He.SaysD Hd.fa Hd.fn K) : Cal P w K mg base 4 "told_by" (spP 1 f_told_by) [] := by
  obtain ⟨fd, F⟩ := c.def_ 24 (d := Hd.mk "told_by" 46) rfl
  have b_dict : mg "dict" = none := He.free_ok X0 G (c.fact 45 (f := .free "dict") rfl)
  have c_last_by := ok_last_by (P := P) (w := w) (base := base) X0 G c
  have c_plus_by := ok_plus_by (P := P) (w := w) (base := base) X0 G c
  have c_sequence_by_row := ok_sequence_by_row (P := P) (w := w) (base := base) X0 G c
  have c_sum_by := ok_sum_by (P := P) (w := w) (base := base) X0 G c
  have Sc : FnScope N_told_by ["polynomial"] (defScope (Hd.top 46)) := C8.fnScope_by (by kernel_rfl)
  have nd : (N_told_by : List Str).Nodup := Sc.nd
  have Bd : Binds K fd ["polynomial"] [] := FunD.bindsN F fun _ _ _ _ _ _ us hl => match us, hl with | [_], _ => rfl
  refine calP (N := N_told_by) (ps := ["polynomial"]) (b := d_told_by) 1 F (He.glo_ok X0 G (c.fact 24 (f := .glo "told_by") rfl)) Sc rfl Bd fun cdv A outer s H E hr => ?_
  obtain ⟨u1, u8, u65, u100⟩ := hr.us
  exact evss_cons (evs_par 1 2 rfl nd (EvF.u (EvN.toF (evn_callTy (call_dict u8) rc_dict b_dict boot_dict (evb_cons (evr_var 0) (evb_nil))))) (EvN.u (evn_dT)) (by decide)) (evss_cons (evs_while 1000 PassesOwn.never (evt_cmp (op_neU u100) r2_neU (evr_var 1) (EvN.r (evn_dT)) (nomark _)) (evss_cons (evs_set 3 nd (EvF.u (evf_callP c_last_by hr (by decide) (eva_cons (evf_var 1) (eva_nil))))) (evss_cons (evs_par 4 5 rfl nd (EvF.u (evf_callP c_sequence_by_row hr (by decide) (eva_cons (evf_var 3) (eva_nil)))) (EvF.u (evf_ix u1 (evr_var 1) (evr_var 3))) (by decide)) (evss_cons (evs_put 2 (ps_dput u1 (pv 2) (pe_se _ _) (pe_se _ _) rfl) (evf_var 5) (evr_var 4)) (evss_cons (evs_set 1 nd (EvF.u (evf_callP c_plus_by hr (by decide) (eva_cons (evf_var 1) (eva_cons (evf_callP c_sum_by hr (by decide) (eva_cons (evf_var 4) (eva_nil))) (eva_cons (evf_neg (evr_var 5)) (eva_nil))))))) (evss_nil)))))) (evss_cons (evs_frz 2 (evs_ret (evf_var 2))) (evss_nil)))
theorem ok_told_in_sums (X0 : K.In h0) (G : h0.Ns mainGlobals mg) (c : He.SaysD Hd.fa Hd.fn K) : Cal P w K mg base 5 "told_in_sums" (spP 1 f_told_in_sums) [] := by
  obtain ⟨fd, F⟩ := c.def_ 25 (d := Hd.mk "told_in_sums" 47) rfl
  have c_is_polynomial_of := ok_is_polynomial_of (P := P) (w := w) (base := base) X0 G c
  have c_told_by := ok_told_by (P := P) (w := w) (base := base) X0 G c
  have Sc : FnScope N_told_in_sums ["polynomial"] (defScope (Hd.top 47)) := C8.fnScope_by (by kernel_rfl)
  have nd : (N_told_in_sums : List Str).Nodup := Sc.nd
  have Bd : Binds K fd ["polynomial"] [] := FunD.bindsN F fun _ _ _ _ _ _ us hl => match us, hl with | [_], _ => rfl
  refine calP (N := N_told_in_sums) (ps := ["polynomial"]) (b := d_told_in_sums) 1 F (He.glo_ok X0 G (c.fact 25 (f := .glo "told_in_sums") rfl)) Sc rfl Bd fun cdv A outer s H E hr => ?_
  obtain ⟨u1, u8, u65, u100⟩ := hr.us
  exact evss_cons (evs_if (evt_not (evt_val (EvF.r (evf_callP c_is_polynomial_of hr (by decide) (eva_cons (evf_var 0) (eva_nil)))))) (evss_cons (evs_dead) (evss_nil)) (evss_nil)) (evss_cons (evs_ret (evf_callP c_told_by hr (by decide) (eva_cons (evf_var 0) (eva_nil)))) (evss_nil))
theorem ok_last_row (X0 : K.In h0) (G : h0.Ns mainGlobals mg) (c : He.SaysD Hd.fa Hd.fn K) : Cal P w K mg base 4 "last_row" (spP 1 f_last_row) [] := by
  obtain ⟨fd, F⟩ := c.def_ 26 (d := Hd.mk "last_row" 48) rfl
  have c_is_polynomial_of := ok_is_polynomial_of (P := P) (w := w) (base := base) X0 G c
  have c_last_by := ok_last_by (P := P) (w := w) (base := base) X0 G c
  have Sc : FnScope N_last_row ["polynomial"] (defScope (Hd.top 48)) := C8.fnScope_by (by kernel_rfl)
  have nd : (N_last_row : List Str).Nodup := Sc.nd
  have Bd : Binds K fd ["polynomial"] [] := FunD.bindsN F fun _ _ _ _ _ _ us hl => match us, hl with | [_], _ => rfl
  refine calP (N := N_last_row) (ps := ["polynomial"]) (b := d_last_row) 1 F (He.glo_ok X0 G (c.fact 26 (f := .glo "last_row") rfl)) Sc rfl Bd fun cdv A outer s H E hr => ?_
  obtain ⟨u1, u8, u65, u100⟩ := hr.us
  exact evss_cons (evs_if (EvW.toT (evw_or (evt_not (evt_val (EvF.r (evf_callP c_is_polynomial_of hr (by decide) (eva_cons (evf_var 0) (eva_nil)))))) (evw_or1 (evt_cmp (op_eqU u100) r2_eqU (evr_var 0) (EvN.r (evn_dT)) (nomark _))))) (evss_cons (evs_dead) (evss_nil)) (evss_nil)) (evss_cons (evs_ret (evf_callP c_last_by hr (by decide) (eva_cons (evf_var 0) (eva_nil)))) (evss_nil))
theorem ok_sequence_of_row (X0 : K.In h0) (G : h0.Ns mainGlobals mg) (c : He.SaysD Hd.fa Hd.fn K) : Cal P w K mg base 3 "sequence_of_row" (spP 1 f_sequence_of_row) [] := by
  obtain ⟨fd, F⟩ := c.def_ 27 (d := Hd.mk "sequence_of_row" 49) rfl
  have b_all : mg "all" = none := He.free_ok X0 G (c.fact 43 (f := .free "all") rfl)
  have b_isinstance : mg "isinstance" = none := He.free_ok X0 G (c.fact 48 (f := .free "isinstance") rfl)
  have b_len : mg "len" = none := He.free_ok X0 G (c.fact 49 (f := .free "len") rfl)
  have b_tuple : mg "tuple" = none := He.free_ok X0 G (c.fact 56 (f := .free "tuple") rfl)
  have c_MOST_EXPONENT_toldsums : ∃ t, mg "MOST_EXPONENT_toldsums" = some (.int 60 t) := He.int_ok X0 G (c.fact 62 (f := .int "MOST_EXPONENT_toldsums" 60) rfl)
  have c_UNKNOWNS_toldsums : ∃ t, mg "UNKNOWNS_toldsums" = some (.int 5 t) := He.int_ok X0 G (c.fact 61 (f := .int "UNKNOWNS_toldsums" 5) rfl)
  have c_is_number := ok_is_number (P := P) (w := w) (base := base) X0 G c
  have c_sequence_by_row := ok_sequence_by_row (P := P) (w := w) (base := base) X0 G c
  have Sc : FnScope N_sequence_of_row ["row"] (defScope (Hd.top 49)) := C8.fnScope_by (by kernel_rfl)
  have nd : (N_sequence_of_row : List Str).Nodup := Sc.nd
  have Bd : Binds K fd ["row"] [] := FunD.bindsN F fun _ _ _ _ _ _ us hl => match us, hl with | [_], _ => rfl
  refine calP (N := N_sequence_of_row) (ps := ["row"]) (b := d_sequence_of_row) 1 F (He.glo_ok X0 G (c.fact 27 (f := .glo "sequence_of_row") rfl)) Sc rfl Bd fun cdv A outer s H E hr => ?_
  obtain ⟨u1, u8, u65, u100⟩ := hr.us
  exact evss_cons (evs_if (EvW.toT (evw_or (evt_not (evt_val (EvF.r (evf_isi .tuple boot_tuple b_isinstance b_tuple (evr_var 0))))) (evw_or1 (evt_cmp (op_neU u100) r2_neU (EvF.r (evf_callB cr_len rc_len b_len boot_len (evb_cons (evr_var 0) (evb_nil)))) (EvF.r (evf_glob c_UNKNOWNS_toldsums)) (nomark _))))) (evss_cons (evs_dead) (evss_nil)) (evss_nil)) (evss_cons (evs_if (evt_not (evt_val (EvF.r (evf_callB (cr_all rfl) rc_all b_all (by decide +kernel) (evb_cons (EvN.r (evn_lc (own := [("number", 1)]) rfl nd (blkOk_by (by kernel_rfl)) (evi_val (evf_var 0)) (fun _ _ _ _ _ => evg_nm 1 nd) (evtb_nil) (fun _ _ _ _ _ => evf_and (EvF.r (evf_callP c_is_number hr (by decide) (eva_cons (evf_var 1) (eva_nil)))) (evf_one (evf_chain op_le op_le r2_cmp r2_cmp (EvF.r (evf_int)) (evr_var 1) (EvF.r (evf_glob c_MOST_EXPONENT_toldsums)) rfl))) (by decide))) (evb_nil)))))) (evss_cons (evs_dead) (evss_nil)) (evss_nil)) (evss_cons (evs_ret (evf_callP c_sequence_by_row hr (by decide) (eva_cons (evf_var 0) (eva_nil)))) (evss_nil)))
theorem ok_corner_by (X0 : K.In h0) (G : h0.Ns mainGlobals mg) (c : He.SaysD Hd.fa Hd.fn K) : Cal P w K mg base 1 "corner_by" (spP 3 f_corner_by) [] := by
  obtain ⟨fd, F⟩ := c.def_ 28 (d := Hd.mk "corner_by" 51) rfl
  have b_len : mg "len" = none := He.free_ok X0 G (c.fact 49 (f := .free "len") rfl)
  have Sc : FnScope N_corner_by ["sequence", "i", "j"] (defScope (Hd.top 51)) := C8.fnScope_by (by kernel_rfl)
  have nd : (N_corner_by : List Str).Nodup := Sc.nd
  have Bd : Binds K fd ["sequence", "i", "j"] [] := FunD.bindsN F fun _ _ _ _ _ _ us hl => match us, hl with | [_, _, _], _ => rfl
  refine calP (N := N_corner_by) (ps := ["sequence", "i", "j"]) (b := d_corner_by) 3 F (He.glo_ok X0 G (c.fact 28 (f := .glo "corner_by") rfl)) Sc rfl Bd fun cdv A outer s H E hr => ?_
  obtain ⟨u1, u8, u65, u100⟩ := hr.us
  exact evss_cons (evs_ret (evf_callB cr_len rc_len b_len boot_len (evb_cons (EvN.r (evn_lc (own := [("wire", 3)]) rfl nd (blkOk_by (by kernel_rfl)) (evi_val (evf_slice (evr_var 0) evp_none (evp_some (evr_var 1)))) (fun _ _ _ _ _ => evg_nm 3 nd) (evtb_one (fun _ _ _ _ _ => evt_cmp op_le r2_cmp (evr_var 3) (evr_var 2) (nomark _))) (fun _ _ _ _ _ => evf_var 3) (by decide))) (evb_nil)))) (evss_nil)
theorem ok_corner (X0 : K.In h0) (G : h0.Ns mainGlobals mg) (c : He.SaysD Hd.fa Hd.fn K) : Cal P w K mg base 4 "corner" (spP 3 f_corner) [] := by
  obtain ⟨fd, F⟩ := c.def_ 29 (d := Hd.mk "corner" 52) rfl
  have b_len : mg "len" = none := He.free_ok X0 G (c.fact 49 (f := .free "len") rfl)
  have c_corner_by := ok_corner_by (P := P) (w := w) (base := base) X0 G c
  have c_is_number := ok_is_number (P := P) (w := w) (base := base) X0 G c
  have c_need_sequence := ok_need_sequence (P := P) (w := w) (base := base) X0 G c
  have Sc : FnScope N_corner ["sequence", "i", "j"] (defScope (Hd.top 52)) := C8.fnScope_by (by kernel_rfl)
  have nd : (N_corner : List Str).Nodup := Sc.nd
  have Bd : Binds K fd ["sequence", "i", "j"] [] := FunD.bindsN F fun _ _ _ _ _ _ us hl => match us, hl with | [_, _, _], _ => rfl
  refine calP (N := N_corner) (ps := ["sequence", "i", "j"]) (b := d_corner) 3 F (He.glo_ok X0 G (c.fact 29 (f := .glo "corner") rfl)) Sc rfl Bd fun cdv A outer s H E hr => ?_
  obtain ⟨u1, u8, u65, u100⟩ := hr.us
  exact evss_cons (evs_drop (evf_callP c_need_sequence hr (by decide) (eva_cons (evf_var 0) (eva_nil)))) (evss_cons (evs_if (EvW.toT (evw_or (evt_not (evt_val (EvF.r (evf_callP c_is_number hr (by decide) (eva_cons (evf_var 1) (eva_nil)))))) (evw_or1 (evt_not (evt_chain op_le op_le r2_cmp r2_cmp (EvF.r (evf_int)) (evr_var 1) (EvF.r (evf_callB cr_len rc_len b_len boot_len (evb_cons (evr_var 0) (evb_nil)))) rfl))))) (evss_cons (evs_dead) (evss_nil)) (evss_nil)) (evss_cons (evs_if (EvW.toT (evw_or (evt_not (evt_val (EvF.r (evf_callP c_is_number hr (by decide) (eva_cons (evf_var 2) (eva_nil)))))) (evw_or1 (evt_not (evt_chain op_le op_le r2_cmp r2_cmp (EvF.r (evf_int)) (evr_var 2) (EvF.r (evf_callB cr_len rc_len b_len boot_len (evb_cons (evr_var 0) (evb_nil)))) rfl))))) (evss_cons (evs_dead) (evss_nil)) (evss_nil)) (evss_cons (evs_ret (evf_callP c_corner_by hr (by decide) (eva_cons (evf_var 0) (eva_cons (evf_var 1) (eva_cons (evf_var 2) (eva_nil)))))) (evss_nil))))
theorem ok_diagram_by (X0 : K.In h0) (G : h0.Ns mainGlobals mg) (c : He.SaysD Hd.fa Hd.fn K) : Cal P w K mg base 2 "diagram_by" (spP 1 f_diagram_by) [] := by
  obtain ⟨fd, F⟩ := c.def_ 30 (d := Hd.mk "diagram_by" 54) rfl
  have b_enumerate : mg "enumerate" = none := He.free_ok X0 G (c.fact 46 (f := .free "enumerate") rfl)
  have b_range : mg "range" = none := He.free_ok X0 G (c.fact 53 (f := .free "range") rfl)
  have c_back_by := ok_back_by (P := P) (w := w) (base := base) X0 G c
  have Sc : FnScope N_diagram_by ["sequence"] (defScope (Hd.top 54)) := C8.fnScope_by (by kernel_rfl)
  have nd : (N_diagram_by : List Str).Nodup := Sc.nd
  have Bd : Binds K fd ["sequence"] [] := FunD.bindsN F fun _ _ _ _ _ _ us hl => match us, hl with | [_], _ => rfl
  refine calP (N := N_diagram_by) (ps := ["sequence"]) (b := d_diagram_by) 1 F (He.glo_ok X0 G (c.fact 30 (f := .glo "diagram_by") rfl)) Sc rfl Bd fun cdv A outer s H E hr => ?_
  obtain ⟨u1, u8, u65, u100⟩ := hr.us
  exact evss_cons (evs_set 1 nd (EvF.u (evf_callP c_back_by hr (by decide) (eva_cons (evf_var 0) (eva_nil))))) (evss_cons (evs_set 2 nd (EvN.u (evn_lst (eva_nil)))) (evss_cons (evs_for PassesOwn.never rfl (evi_en2 b_enumerate (evf_var 0) (EvF.r (evf_int))) (evg_tp rfl (evgs_cons (evg_nm 3 nd) (evgs_cons (evg_nm 4 nd) (evgs_nil))) rfl gs2) (evss_cons (evs_ext 2 (pe_bm PySem.F.plainAttrs_list PySem.F.slot_list_extend PySem.F.type_list_extend mt_extend (pv 2) (pa_cons (pe_se _ _) pa_nil)) (EvN.r (evn_lc (own := [("j", 5)]) rfl nd (blkOk_by (by kernel_rfl)) (evi_rg2 b_range (EvF.r (evf_int)) (evr_var 4)) (fun _ _ _ _ _ => evg_nm 5 nd) (evtb_one (fun _ _ _ _ _ => evt_cmp op_gt r2_cmp (EvF.r (evf_ix u1 (evr_var 1) (EvF.r (evf_op op_sub r2_sub (evr_var 5) (EvF.r (evf_int)))))) (evr_var 3) (nomark _))) (fun _ _ _ _ _ => evf_tup (eva_cons (evf_var 3) (eva_cons (evf_var 5) (eva_nil)))) (by decide)))) (evss_nil))) (evss_cons (evs_frz 2 (evs_ret (evf_var 2))) (evss_nil))))
theorem ok_telling_by (X0 : K.In h0) (G : h0.Ns mainGlobals mg) (c : He.SaysD Hd.fa Hd.fn K) : Cal P w K mg base 3 "telling_by" (spP 1 f_telling_by) [] := by
  obtain ⟨fd, F⟩ := c.def_ 31 (d := Hd.mk "telling_by" 55) rfl
  have c_diagram_by := ok_diagram_by (P := P) (w := w) (base := base) X0 G c
  have Sc : FnScope N_telling_by ["sequence"] (defScope (Hd.top 55)) := C8.fnScope_by (by kernel_rfl)
  have nd : (N_telling_by : List Str).Nodup := Sc.nd
  have Bd : Binds K fd ["sequence"] [] := FunD.bindsN F fun _ _ _ _ _ _ us hl => match us, hl with | [_], _ => rfl
  refine calP (N := N_telling_by) (ps := ["sequence"]) (b := d_telling_by) 1 F (He.glo_ok X0 G (c.fact 31 (f := .glo "telling_by") rfl)) Sc rfl Bd fun cdv A outer s H E hr => ?_
  obtain ⟨u1, u8, u65, u100⟩ := hr.us
  exact evss_cons (evs_set 1 nd (EvF.u (evf_callP c_diagram_by hr (by decide) (eva_cons (evf_var 0) (eva_nil))))) (evss_cons (evs_ret (EvN.toF (evn_lc (own := [("i", 2), ("j", 3)]) rfl nd (blkOk_by (by kernel_rfl)) (evi_val (evf_var 1)) (fun _ _ _ _ _ => evg_tp rfl (evgs_cons (evg_nm 2 nd) (evgs_cons (evg_nm 3 nd) (evgs_nil))) rfl gs2) (evtb_one (fun _ _ _ _ _ => EvW.toT (evw_and (evt_cmp (op_notInD u65) r2_notIn (EvF.r (evf_tup (eva_cons (evf_op op_addA r2_add (evr_var 2) (EvF.r (evf_int))) (eva_cons (evf_var 3) (eva_nil))))) (evr_var 1) rfl) (evw_and1 (evt_cmp (op_notInD u65) r2_notIn (EvF.r (evf_tup (eva_cons (evf_var 2) (eva_cons (evf_op op_addA r2_add (evr_var 3) (EvF.r (evf_int))) (eva_nil))))) (evr_var 1) rfl))))) (fun _ _ _ _ _ => evf_tup (eva_cons (evf_var 2) (eva_cons (evf_var 3) (eva_nil)))) (by decide)))) (evss_nil))
theorem ok_diagram (X0 : K.In h0) (G : h0.Ns mainGlobals mg) (c : He.SaysD Hd.fa Hd.fn K) : Cal P w K mg base 4 "diagram" (spP 1 f_diagram) [] := by
  obtain ⟨fd, F⟩ := c.def_ 32 (d := Hd.mk "diagram" 56) rfl
  have b_tuple : mg "tuple" = none := He.free_ok X0 G (c.fact 56 (f := .free "tuple") rfl)
  have c_diagram_by := ok_diagram_by (P := P) (w := w) (base := base) X0 G c
  have c_need_sequence := ok_need_sequence (P := P) (w := w) (base := base) X0 G c
  have Sc : FnScope N_diagram ["sequence"] (defScope (Hd.top 56)) := C8.fnScope_by (by kernel_rfl)
  have nd : (N_diagram : List Str).Nodup := Sc.nd
  have Bd : Binds K fd ["sequence"] [] := FunD.bindsN F fun _ _ _ _ _ _ us hl => match us, hl with | [_], _ => rfl
  refine calP (N := N_diagram) (ps := ["sequence"]) (b := d_diagram) 1 F (He.glo_ok X0 G (c.fact 32 (f := .glo "diagram") rfl)) Sc rfl Bd fun cdv A outer s H E hr => ?_
  obtain ⟨u1, u8, u65, u100⟩ := hr.us
  exact evss_cons (evs_drop (evf_callP c_need_sequence hr (by decide) (eva_cons (evf_var 0) (eva_nil)))) (evss_cons (evs_ret (evf_callTy call_tuple_of rc_tuple b_tuple boot_tuple (evb_cons (EvF.r (evf_callP c_diagram_by hr (by decide) (eva_cons (evf_var 0) (eva_nil)))) (evb_nil)))) (evss_nil))
theorem ok_told_by_corners (X0 : K.In h0) (G : h0.Ns mainGlobals mg) (c : He.SaysD Hd.fa Hd.fn K) : Cal P w K mg base 4 "told_by_corners" (spP 1 f_told_by_corners) [] := by
  obtain ⟨fd, F⟩ := c.def_ 33 (d := Hd.mk "told_by_corners" 57) rfl
  have c_corner_by := ok_corner_by (P := P) (w := w) (base := base) X0 G c
  have c_need_sequence := ok_need_sequence (P := P) (w := w) (base := base) X0 G c
  have c_telling_by := ok_telling_by (P := P) (w := w) (base := base) X0 G c
  have Sc : FnScope N_told_by_corners ["sequence"] (defScope (Hd.top 57)) := C8.fnScope_by (by kernel_rfl)
  have nd : (N_told_by_corners : List Str).Nodup := Sc.nd
  have Bd : Binds K fd ["sequence"] [] := FunD.bindsN F fun _ _ _ _ _ _ us hl => match us, hl with | [_], _ => rfl
  refine calP (N := N_told_by_corners) (ps := ["sequence"]) (b := d_told_by_corners) 1 F (He.glo_ok X0 G (c.fact 33 (f := .glo "told_by_corners") rfl)) Sc rfl Bd fun cdv A outer s H E hr => ?_
  obtain ⟨u1, u8, u65, u100⟩ := hr.us
  exact evss_cons (evs_drop (evf_callP c_need_sequence hr (by decide) (eva_cons (evf_var 0) (eva_nil)))) (evss_cons (evs_ret (EvN.toF (evn_dc (own := [("i", 1), ("j", 2)]) u8 rfl nd (blkOk_by (by kernel_rfl)) (evi_val (evf_callP c_telling_by hr (by decide) (eva_cons (evf_var 0) (eva_nil)))) (fun _ _ _ _ _ => evg_tp rfl (evgs_cons (evg_nm 1 nd) (evgs_cons (evg_nm 2 nd) (evgs_nil))) rfl gs2) (evtb_nil) (fun _ _ _ _ _ => evf_tup (eva_cons (evf_var 1) (eva_cons (evf_var 2) (eva_nil)))) (fun _ _ _ _ _ => evf_callP c_corner_by hr (by decide) (eva_cons (evf_var 0) (eva_cons (evf_var 1) (eva_cons (evf_var 2) (eva_nil))))) (by decide)))) (evss_nil))
theorem ok__law_mixed (X0 : K.In h0) (G : h0.Ns mainGlobals mg) (c : He.SaysD Hd.fa Hd.fn K) : Cal P w K mg base 1 "_law_mixed" (spD 0 f__law_mixed) [] := by
  obtain ⟨fd, F⟩ := c.def_ 35 (d := Hd.mk "_law_mixed" 60) rfl
  have b_int : mg "int" = none := He.free_ok X0 G (c.fact 47 (f := .free "int") rfl)
  have Sc : FnScope N__law_mixed ["draw"] (defScope (Hd.top 60)) := C8.fnScope_by (by kernel_rfl)
  have nd : (N__law_mixed : List Str).Nodup := Sc.nd
  have Bd : Binds K fd ["draw"] [] := FunD.bindsN F fun _ _ _ _ _ _ us hl => match us, hl with | [_], _ => rfl
  refine calD (N := N__law_mixed) (ps := ["draw"]) (b := d__law_mixed) 0 F (He.glo_ok X0 G (c.fact 35 (f := .glo "_law_mixed") rfl)) Sc rfl Bd fun cdv A outer s H E hr => ?_
  obtain ⟨u1, u8, u65, u100⟩ := hr.us
  exact evss_cons (evs_setTn 0 (ps_dput u1 (pv 0) pe_str (pe_se _ _) rfl) (EvF.r (evf_op op_addA r2_add (EvF.r (evf_turn 0 (pe_dget u1 (pv 0) pe_str (fun _ _ => rfl)))) (EvF.r (evf_int))))) (evss_cons (evs_par 1 2 rfl nd (EvF.u (evf_callTy call_int1 rc_int1 b_int boot_int (evb_cons (EvF.r (evf_turn 0 (pe_dget u1 (pv 0) pe_str (fun _ _ => rfl)))) (evb_nil)))) (EvF.u (evf_int)) (by decide)) (evss_cons (evs_for PassesOwn.never rfl (evi_val (EvN.toF (evn_lst (eva_cons (evf_int) (eva_cons (evf_int) (eva_cons (evf_int) (eva_nil))))))) (evg_nm 3 nd) (evss_cons (evs_set 4 nd (EvF.u (evf_op op_mod r2_mod (EvF.r (evf_op op_addA r2_add (EvF.r (evf_op op_mul r2_mul (evr_var 1) (EvF.r (evf_int)))) (EvF.r (evf_op op_fdiv r2_div (evr_var 3) (EvF.r (evf_int)))))) (evr_var 3)))) (evss_cons (evs_for PassesOwn.never rfl (evi_val (evf_cells 0 (pe_dget u1 (pv 0) pe_str (fun _ _ => rfl)))) (evg_nm 5 nd) (evss_cons (evs_set 4 nd (EvF.u (evf_op op_mod r2_mod (EvF.r (evf_op op_addA r2_add (EvF.r (evf_op op_addA r2_add (EvF.r (evf_op op_mul r2_mul (evr_var 4) (EvF.r (evf_int)))) (EvF.r (evf_callTy call_int1 rc_int1 b_int boot_int (evb_cons (evr_var 5) (evb_nil)))))) (evr_var 1))) (evr_var 3)))) (evss_nil))) (evss_cons (evs_set 2 nd (EvF.u (evf_op op_addA r2_add (EvF.r (evf_op op_mul r2_mul (evr_var 2) (EvF.r (evf_int)))) (EvF.r (evf_op op_mod r2_mod (EvF.r (evf_op op_pow r2_pow (evr_var 4) (EvF.r (evf_int)))) (evr_var 3)))))) (evss_nil))))) (evss_cons (evs_ret (evf_var 2)) (evss_nil))))
theorem ok__law_take (X0 : K.In h0) (G : h0.Ns mainGlobals mg) (c : He.SaysD Hd.fa Hd.fn K) : Cal P w K mg base 2 "_law_take" (spD 1 f__law_take) [] := by
  obtain ⟨fd, F⟩ := c.def_ 36 (d := Hd.mk "_law_take" 61) rfl
  have b_int : mg "int" = none := He.free_ok X0 G (c.fact 47 (f := .free "int") rfl)
  have c__law_mixed := ok__law_mixed (P := P) (w := w) (base := base) X0 G c
  have Sc : FnScope N__law_take ["draw", "amount"] (defScope (Hd.top 61)) := C8.fnScope_by (by kernel_rfl)
  have nd : (N__law_take : List Str).Nodup := Sc.nd
  have Bd : Binds K fd ["draw", "amount"] [] := FunD.bindsN F fun _ _ _ _ _ _ us hl => match us, hl with | [_, _], _ => rfl
  refine calD (N := N__law_take) (ps := ["draw", "amount"]) (b := d__law_take) 1 F (He.glo_ok X0 G (c.fact 36 (f := .glo "_law_take") rfl)) Sc rfl Bd fun cdv A outer s H E hr => ?_
  obtain ⟨u1, u8, u65, u100⟩ := hr.us
  exact evss_cons (evs_if (evt_cmp (op_eqU u100) r2_eqU (EvF.r (evf_rest 0 (pe_dget u1 (pv 0) pe_str (fun _ _ => rfl)))) (EvF.r (evf_int)) (nomark _)) (evss_cons (evs_setR 0 (ps_dput u1 (pv 0) pe_str (pe_se _ _) rfl) (EvF.r (evf_if (evt_large u100 0 (pe_dget u1 (pv 0) pe_str (fun _ _ => rfl))) (evf_popL 0 (pe_bm PySem.F.plainAttrs_list PySem.F.slot_list_pop PySem.F.type_list_pop mt_popAt (pe_dget u1 (pv 0) pe_str (fun _ _ => rfl)) (pa_cons pe_int pa_nil))) (evf_callD 0 c__law_mixed hr (by decide) (pv 0) (eva_nil))))) (evss_nil)) (evss_nil)) (evss_cons (evs_set 2 nd (EvF.u (evf_op op_mod r2_mod (EvF.r (evf_callTy call_int1 rc_int1 b_int boot_int (evb_cons (EvF.r (evf_rest 0 (pe_dget u1 (pv 0) pe_str (fun _ _ => rfl)))) (evb_nil)))) (evr_var 1)))) (evss_cons (evs_setR 0 (ps_dput u1 (pv 0) pe_str (pe_se _ _) rfl) (EvF.r (evf_op op_fdiv r2_div (EvF.r (evf_callTy call_int1 rc_int1 b_int boot_int (evb_cons (EvF.r (evf_rest 0 (pe_dget u1 (pv 0) pe_str (fun _ _ => rfl)))) (evb_nil)))) (evr_var 1)))) (evss_cons (evs_ret (evf_var 2)) (evss_nil))))
theorem ok__law_pick (X0 : K.In h0) (G : h0.Ns mainGlobals mg) (c : He.SaysD Hd.fa Hd.fn K) : Cal P w K mg base 3 "_law_pick" (spD 1 f__law_pick) [] := by
  obtain ⟨fd, F⟩ := c.def_ 37 (d := Hd.mk "_law_pick" 62) rfl
  have b_len : mg "len" = none := He.free_ok X0 G (c.fact 49 (f := .free "len") rfl)
  have c__law_take := ok__law_take (P := P) (w := w) (base := base) X0 G c
  have Sc : FnScope N__law_pick ["draw", "some"] (defScope (Hd.top 62)) := C8.fnScope_by (by kernel_rfl)
  have nd : (N__law_pick : List Str).Nodup := Sc.nd
  have Bd : Binds K fd ["draw", "some"] [] := FunD.bindsN F fun _ _ _ _ _ _ us hl => match us, hl with | [_, _], _ => rfl
  refine calD (N := N__law_pick) (ps := ["draw", "some"]) (b := d__law_pick) 1 F (He.glo_ok X0 G (c.fact 37 (f := .glo "_law_pick") rfl)) Sc rfl Bd fun cdv A outer s H E hr => ?_
  obtain ⟨u1, u8, u65, u100⟩ := hr.us
  exact evss_cons (evs_ret (evf_ix u1 (evr_var 1) (EvF.r (evf_callD 0 c__law_take hr (by decide) (pv 0) (eva_cons (evf_callB cr_len rc_len b_len boot_len (evb_cons (evr_var 1) (evb_nil))) (eva_nil)))))) (evss_nil)
theorem ok__law_shuffled (X0 : K.In h0) (G : h0.Ns mainGlobals mg) (c : He.SaysD Hd.fa Hd.fn K) : Cal P w K mg base 3 "_law_shuffled" (spD 1 f__law_shuffled) [] := by
  obtain ⟨fd, F⟩ := c.def_ 38 (d := Hd.mk "_law_shuffled" 63) rfl
  have b_len : mg "len" = none := He.free_ok X0 G (c.fact 49 (f := .free "len") rfl)
  have b_list : mg "list" = none := He.free_ok X0 G (c.fact 50 (f := .free "list") rfl)
  have c__law_take := ok__law_take (P := P) (w := w) (base := base) X0 G c
  have Sc : FnScope N__law_shuffled ["draw", "some"] (defScope (Hd.top 63)) := C8.fnScope_by (by kernel_rfl)
  have nd : (N__law_shuffled : List Str).Nodup := Sc.nd
  have Bd : Binds K fd ["draw", "some"] [] := FunD.bindsN F fun _ _ _ _ _ _ us hl => match us, hl with | [_, _], _ => rfl
  refine calD (N := N__law_shuffled) (ps := ["draw", "some"]) (b := d__law_shuffled) 1 F (He.glo_ok X0 G (c.fact 38 (f := .glo "_law_shuffled") rfl)) Sc rfl Bd fun cdv A outer s H E hr => ?_
  obtain ⟨u1, u8, u65, u100⟩ := hr.us
  exact evss_cons (evs_par 2 3 rfl nd (EvN.u (evn_callTy call_list_of rc_list b_list boot_list (evb_cons (evr_var 1) (evb_nil)))) (EvN.u (evn_lst (eva_nil))) (by decide)) (evss_cons (evs_while 1000 PassesOwn.never (evt_cmp (op_neU u100) r2_neU (evr_var 2) (EvN.r (evn_lst (eva_nil))) (nomark _)) (evss_cons (evs_appPop 3 2 (by decide) (pe_bm PySem.F.plainAttrs_list PySem.F.slot_list_append PySem.F.type_list_append mt_append (pv 3) (pa_cons (pe_bm PySem.F.plainAttrs_list PySem.F.slot_list_pop PySem.F.type_list_pop mt_popAt (pv 2) (pa_cons (pe_se _ _) pa_nil)) pa_nil)) (EvF.r (evf_callD 0 c__law_take hr (by decide) (pv 0) (eva_cons (evf_callB cr_len rc_len b_len boot_len (evb_cons (evr_var 2) (evb_nil))) (eva_nil))))) (evss_nil))) (evss_cons (evs_frz 3 (evs_ret (evf_var 3))) (evss_nil)))
theorem ok__law_sequence (X0 : K.In h0) (G : h0.Ns mainGlobals mg) (c : He.SaysD Hd.fa Hd.fn K) : Cal P w K mg base 4 "_law_sequence" (spD 1 f__law_sequence) [] := by
  obtain ⟨fd, F⟩ := c.def_ 39 (d := Hd.mk "_law_sequence" 64) rfl
  have b_list : mg "list" = none := He.free_ok X0 G (c.fact 50 (f := .free "list") rfl)
  have b_range : mg "range" = none := He.free_ok X0 G (c.fact 53 (f := .free "range") rfl)
  have b_tuple : mg "tuple" = none := He.free_ok X0 G (c.fact 56 (f := .free "tuple") rfl)
  have c__law_shuffled := ok__law_shuffled (P := P) (w := w) (base := base) X0 G c
  have Sc : FnScope N__law_sequence ["draw", "wires"] (defScope (Hd.top 64)) := C8.fnScope_by (by kernel_rfl)
  have nd : (N__law_sequence : List Str).Nodup := Sc.nd
  have Bd : Binds K fd ["draw", "wires"] [] := FunD.bindsN F fun _ _ _ _ _ _ us hl => match us, hl with | [_, _], _ => rfl
  refine calD (N := N__law_sequence) (ps := ["draw", "wires"]) (b := d__law_sequence) 1 F (He.glo_ok X0 G (c.fact 39 (f := .glo "_law_sequence") rfl)) Sc rfl Bd fun cdv A outer s H E hr => ?_
  obtain ⟨u1, u8, u65, u100⟩ := hr.us
  exact evss_cons (evs_ret (evf_callTy cr_ptup rc_ptup b_tuple boot_tuple (evb_cons (EvF.r (evf_callD 0 c__law_shuffled hr (by decide) (pv 0) (eva_cons (EvN.toF (evn_listRg rfl b_list (evrg_2 b_range (EvF.r (evf_int)) (EvF.r (evf_op op_addA r2_add (evr_var 1) (EvF.r (evf_int))))))) (eva_nil)))) (evb_nil)))) (evss_nil)
theorem ok__law_code (X0 : K.In h0) (G : h0.Ns mainGlobals mg) (c : He.SaysD Hd.fa Hd.fn K) : Cal P w K mg base 1 "_law_code" (spP 1 f__law_code) [] := by
  obtain ⟨fd, F⟩ := c.def_ 40 (d := Hd.mk "_law_code" 65) rfl
  have b_enumerate : mg "enumerate" = none := He.free_ok X0 G (c.fact 46 (f := .free "enumerate") rfl)
  have b_len : mg "len" = none := He.free_ok X0 G (c.fact 49 (f := .free "len") rfl)
  have b_tuple : mg "tuple" = none := He.free_ok X0 G (c.fact 56 (f := .free "tuple") rfl)
  have Sc : FnScope N__law_code ["sequence"] (defScope (Hd.top 65)) := C8.fnScope_by (by kernel_rfl)
  have nd : (N__law_code : List Str).Nodup := Sc.nd
  have Bd : Binds K fd ["sequence"] [] := FunD.bindsN F fun _ _ _ _ _ _ us hl => match us, hl with | [_], _ => rfl
  refine calP (N := N__law_code) (ps := ["sequence"]) (b := d__law_code) 1 F (He.glo_ok X0 G (c.fact 40 (f := .glo "_law_code") rfl)) Sc rfl Bd fun cdv A outer s H E hr => ?_
  obtain ⟨u1, u8, u65, u100⟩ := hr.us
  exact evss_cons (evs_setLc 1 false (own := [("at", 2), ("wire", 3)]) rfl nd (blkOk_by (by kernel_rfl)) (evi_en1 b_enumerate (evf_var 0)) (fun _ _ _ _ _ => evg_tp rfl (evgs_cons (evg_nm 2 nd) (evgs_cons (evg_nm 3 nd) (evgs_nil))) rfl gs2) (evtb_nil) (fun _ _ _ _ _ => evf_callB cr_len rc_len b_len boot_len (evb_cons (EvN.r (evn_lc (own := [("late", 4)]) rfl nd (blkOk_by (by kernel_rfl)) (evi_val (evf_slice (evr_var 0) (evp_some (evr_var 2)) evp_none)) (fun _ _ _ _ _ => evg_nm 4 nd) (evtb_one (fun _ _ _ _ _ => evt_cmp op_lt r2_cmp (evr_var 4) (evr_var 3) (nomark _))) (fun _ _ _ _ _ => evf_var 4) (by decide))) (evb_nil))) (by decide) (sw_true rfl rfl rfl rfl)) (evss_cons (evs_ret (evf_callTy call_tuple_of rc_tuple b_tuple boot_tuple (evb_cons (EvN.r (evn_slice (EvN.r (evn_op op_cat r2_cat (evr_var 1) (EvN.r (evn_op op_rep r2_rep (EvN.r (evn_lst (eva_cons (evf_int) (eva_nil)))) (EvF.r (evf_int)))))) evp_none (evp_some (EvF.r (evf_int))))) (evb_nil)))) (evss_nil))
theorem ok_of_code_by_p (X0 : K.In h0) (G : h0.Ns mainGlobals mg) (c : He.SaysD Hd.fa Hd.fn K) : Cal P w K mg base 1 "of_code_by" (spP 1 f_of_code_by_p) [] := by
  obtain ⟨fd, F⟩ := c.def_ 12 (d := Hd.mk "of_code_by" 28) rfl
  have b_len : mg "len" = none := He.free_ok X0 G (c.fact 49 (f := .free "len") rfl)
  have b_list : mg "list" = none := He.free_ok X0 G (c.fact 50 (f := .free "list") rfl)
  have b_range : mg "range" = none := He.free_ok X0 G (c.fact 53 (f := .free "range") rfl)
  have b_tuple : mg "tuple" = none := He.free_ok X0 G (c.fact 56 (f := .free "tuple") rfl)
  have Sc : FnScope N_of_code_by_p ["numbers"] (defScope (Hd.top 28)) := C8.fnScope_by (by kernel_rfl)
  have nd : (N_of_code_by_p : List Str).Nodup := Sc.nd
  have Bd : Binds K fd ["numbers"] [] := FunD.bindsN F fun _ _ _ _ _ _ us hl => match us, hl with | [_], _ => rfl
  refine calP (N := N_of_code_by_p) (ps := ["numbers"]) (b := d_of_code_by_p) 1 F (He.glo_ok X0 G (c.fact 12 (f := .glo "of_code_by") rfl)) Sc rfl Bd fun cdv A outer s H E hr => ?_
  obtain ⟨u1, u8, u65, u100⟩ := hr.us
  exact evss_cons (evs_par 1 2 rfl nd (EvN.u (evn_listRg rfl b_list (evrg_2 b_range (EvF.r (evf_int)) (EvF.r (evf_op op_addA r2_add (EvF.r (evf_callB cr_len rc_len b_len boot_len (evb_cons (evr_var 0) (evb_nil)))) (EvF.r (evf_int))))))) (EvN.u (evn_lst (eva_nil))) (by decide)) (evss_cons (evs_for PassesOwn.never rfl (evi_val (evf_var 0)) (evg_nm 3 nd) (evss_cons (evs_appPop 2 1 (by decide) (pe_bm PySem.F.plainAttrs_list PySem.F.slot_list_append PySem.F.type_list_append mt_append (pv 2) (pa_cons (pe_bm PySem.F.plainAttrs_list PySem.F.slot_list_pop PySem.F.type_list_pop mt_popAt (pv 1) (pa_cons (pe_se _ _) pa_nil)) pa_nil)) (evr_var 3)) (evss_nil))) (evss_cons (evs_ret (evf_callTy cr_ptup rc_ptup b_tuple boot_tuple (evb_cons (evr_var 2) (evb_nil)))) (evss_nil)))
theorem ok_of_code_p (X0 : K.In h0) (G : h0.Ns mainGlobals mg) (c : He.SaysD Hd.fa Hd.fn K) : Cal P w K mg base 2 "of_code" (spP 1 f_of_code_p) [] := by
  obtain ⟨fd, F⟩ := c.def_ 15 (d := Hd.mk "of_code" 31) rfl
  have b_all : mg "all" = none := He.free_ok X0 G (c.fact 43 (f := .free "all") rfl)
  have b_enumerate : mg "enumerate" = none := He.free_ok X0 G (c.fact 46 (f := .free "enumerate") rfl)
  have b_isinstance : mg "isinstance" = none := He.free_ok X0 G (c.fact 48 (f := .free "isinstance") rfl)
  have b_len : mg "len" = none := He.free_ok X0 G (c.fact 49 (f := .free "len") rfl)
  have b_tuple : mg "tuple" = none := He.free_ok X0 G (c.fact 56 (f := .free "tuple") rfl)
  have c_MOST_WIRES_drawings : ∃ t, mg "MOST_WIRES_drawings" = some (.int 6 t) := He.int_ok X0 G (c.fact 59 (f := .int "MOST_WIRES_drawings" 6) rfl)
  have c_is_number := ok_is_number (P := P) (w := w) (base := base) X0 G c
  have c_of_code_by_p := ok_of_code_by_p (P := P) (w := w) (base := base) X0 G c
  have Sc : FnScope N_of_code_p ["numbers"] (defScope (Hd.top 31)) := C8.fnScope_by (by kernel_rfl)
  have nd : (N_of_code_p : List Str).Nodup := Sc.nd
  have Bd : Binds K fd ["numbers"] [] := FunD.bindsN F fun _ _ _ _ _ _ us hl => match us, hl with | [_], _ => rfl
  refine calP (N := N_of_code_p) (ps := ["numbers"]) (b := d_of_code_p) 1 F (He.glo_ok X0 G (c.fact 15 (f := .glo "of_code") rfl)) Sc rfl Bd fun cdv A outer s H E hr => ?_
  obtain ⟨u1, u8, u65, u100⟩ := hr.us
  exact evss_cons (evs_if (EvW.toT (evw_or (evt_not (evt_val (EvF.r (evf_isi .tuple boot_tuple b_isinstance b_tuple (evr_var 0))))) (evw_or1 (evt_not (evt_chain op_le op_le r2_cmp r2_cmp (EvF.r (evf_int)) (EvF.r (evf_callB cr_len rc_len b_len boot_len (evb_cons (evr_var 0) (evb_nil)))) (EvF.r (evf_glob c_MOST_WIRES_drawings)) rfl))))) (evss_cons (evs_dead) (evss_nil)) (evss_nil)) (evss_cons (evs_if (evt_not (evt_val (EvF.r (evf_callB (cr_all rfl) rc_all b_all (by decide +kernel) (evb_cons (EvN.r (evn_lc (own := [("at", 1), ("number", 2)]) rfl nd (blkOk_by (by kernel_rfl)) (evi_en1 b_enumerate (evf_var 0)) (fun _ _ _ _ _ => evg_tp rfl (evgs_cons (evg_nm 1 nd) (evgs_cons (evg_nm 2 nd) (evgs_nil))) rfl gs2) (evtb_nil) (fun _ _ _ _ _ => evf_and (EvF.r (evf_callP c_is_number hr (by decide) (eva_cons (evf_var 2) (eva_nil)))) (evf_one (evf_chain op_le op_lt r2_cmp r2_cmp (EvF.r (evf_int)) (evr_var 2) (EvF.r (evf_op op_sub r2_sub (EvF.r (evf_callB cr_len rc_len b_len boot_len (evb_cons (evr_var 0) (evb_nil)))) (evr_var 1))) rfl))) (by decide))) (evb_nil)))))) (evss_cons (evs_dead) (evss_nil)) (evss_nil)) (evss_cons (evs_ret (evf_callP c_of_code_by_p hr (by decide) (eva_cons (evf_var 0) (eva_nil)))) (evss_nil)))
theorem ok__law_begun (X0 : K.In h0) (G : h0.Ns mainGlobals mg) (c : He.SaysD Hd.fa Hd.fn K) : Cal P w K mg base 1 "_law_begun" (spB bgLarge bgCells K) [] := by
  obtain ⟨fd, F⟩ := c.def_ 34 (d := Hd.mk "_law_begun" 59) rfl
  have b_abs : mg "abs" = none := He.free_ok X0 G (c.fact 42 (f := .free "abs") rfl)
  have Sc : FnScope N__law_begun ["script"] (defScope (Hd.top 59)) := C8.fnScope_by (by kernel_rfl)
  have nd : (N__law_begun : List Str).Nodup := Sc.nd
  have Bd : Binds K fd ["script"] [] := FunD.bindsN F fun _ _ _ _ _ _ us hl => match us, hl with | [_], _ => rfl
  refine calB (N := N__law_begun) (ps := ["script"]) (d1 := d1_begun) (c1 := c1_begun) F (He.glo_ok X0 G (c.fact 34 (f := .glo "_law_begun") rfl)) Sc rfl Bd begun_den fun cdv A outer s H E hr => ?_
  obtain ⟨u1, u8, u65, u100⟩ := hr.us
  exact ⟨evs_setLc 1 true (own := [("cell", 2)]) rfl nd (blkOk_by (by kernel_rfl)) (evi_scr 0 (pv 0)) (fun _ _ _ _ _ => evg_nm 2 nd) (evtb_one (fun _ _ _ _ _ => evt_cmp op_ge r2_cmp (EvF.r (evf_callB call_abs rc_abs b_abs boot_abs (evb_cons (evr_var 2) (evb_nil)))) (EvF.r (evf_op op_pow r2_pow (EvF.r (evf_int)) (EvF.r (evf_int)))) (nomark _))) (fun _ _ _ _ _ => evf_op op_sub r2_sub (EvF.r (evf_callB call_abs rc_abs b_abs boot_abs (evb_cons (evr_var 2) (evb_nil)))) (EvF.r (evf_op op_pow r2_pow (EvF.r (evf_int)) (EvF.r (evf_int))))) (by decide) (sw_true rfl rfl rfl rfl), pv 1, evn_lc (own := [("cell", 2)]) rfl nd (blkOk_by (by kernel_rfl)) (evi_scr 0 (pv 0)) (fun _ _ _ _ _ => evg_nm 2 nd) (evtb_nil) (fun _ _ _ _ _ => evf_callB call_abs rc_abs b_abs boot_abs (evb_cons (evr_var 2) (evb_nil))) (by decide)⟩
theorem ok_law (X0 : K.In h0) (G : h0.Ns mainGlobals mg) (c : He.SaysD Hd.fa Hd.fn K) (hd : LawHolds N_law d_law) : ∃ fd : FuncData, (∀ (s : Shared) (v : Value), BindsTo s fd ⟨[v], []⟩ [("script", v)]) ∧ ∀ base : Heap, FnOk P w K mg base CX0 6 (He.fAd K ("law", none)) fd ["script"] (spL K) := by
  obtain ⟨fd, F⟩ := c.def_ 41 (d := Hd.mk "law" 66) rfl
  have b := FunD.bindsA (ps := ["script"]) F fun _ _ _ _ _ _ us hl => match us, hl with | [_], _ => rfl
  refine ⟨fd, fun s v => b s [v] rfl, fun base => ?_⟩
  have b_enumerate : mg "enumerate" = none := He.free_ok X0 G (c.fact 46 (f := .free "enumerate") rfl)
  have b_len : mg "len" = none := He.free_ok X0 G (c.fact 49 (f := .free "len") rfl)
  have b_list : mg "list" = none := He.free_ok X0 G (c.fact 50 (f := .free "list") rfl)
  have b_min : mg "min" = none := He.free_ok X0 G (c.fact 52 (f := .free "min") rfl)
  have b_range : mg "range" = none := He.free_ok X0 G (c.fact 53 (f := .free "range") rfl)
  have b_sorted : mg "sorted" = none := He.free_ok X0 G (c.fact 54 (f := .free "sorted") rfl)
  have b_sum : mg "sum" = none := He.free_ok X0 G (c.fact 55 (f := .free "sum") rfl)
  have b_tuple : mg "tuple" = none := He.free_ok X0 G (c.fact 56 (f := .free "tuple") rfl)
  have c__law_code := ok__law_code (P := P) (w := w) (base := base) X0 G c
  have c__law_pick := ok__law_pick (P := P) (w := w) (base := base) X0 G c
  have c__law_sequence := ok__law_sequence (P := P) (w := w) (base := base) X0 G c
  have c__law_take := ok__law_take (P := P) (w := w) (base := base) X0 G c
  have c_code := ok_code (P := P) (w := w) (base := base) X0 G c
  have c_corner := ok_corner (P := P) (w := w) (base := base) X0 G c
  have c_diagram := ok_diagram (P := P) (w := w) (base := base) X0 G c
  have c_last_row := ok_last_row (P := P) (w := w) (base := base) X0 G c
  have c_many_crossings := ok_many_crossings (P := P) (w := w) (base := base) X0 G c
  have c_of_code_p := ok_of_code_p (P := P) (w := w) (base := base) X0 G c
  have c_sequence_of_row := ok_sequence_of_row (P := P) (w := w) (base := base) X0 G c
  have c_shortened_sequence := ok_shortened_sequence (P := P) (w := w) (base := base) X0 G c
  have c_sum_of := ok_sum_of (P := P) (w := w) (base := base) X0 G c
  have c_told_by_corners := ok_told_by_corners (P := P) (w := w) (base := base) X0 G c
  have c_told_in_sums := ok_told_in_sums (P := P) (w := w) (base := base) X0 G c
  have c_begun := ok__law_begun (P := P) (w := w) (base := base) X0 G c
  have Sc : FnScope N_law ["script"] (defScope (Hd.top 66)) := C8.fnScope_by (by kernel_rfl)
  have nd : (N_law : List Str).Nodup := Sc.nd
  refine calL (N := N_law) (ps := ["script"]) (d := d_law) (k := 5) F Sc rfl rfl c_begun (by decide) hd fun cdv A outer s H E hr => ?_
  obtain ⟨u1, u8, u65, u100⟩ := hr.us
  exact ⟨⟨pv 0, by first | exact Or.inl rfl | exact Or.inr rfl, by first | exact .inl rfl | exact .inr rfl, rfl, rfl, rfl, rfl⟩, evss_cons (evs_for PassesOwn.never rfl (evi_rg1 b_range (EvF.r (evf_op op_addA r2_add (EvF.r (evf_int)) (EvF.r (evf_callB (call_min2 rfl) rc_min2 b_min (by decide +kernel) (evb_cons (EvF.r (evf_lenS 0 (pe_callB call_len_seq rfl b_len boot_len (pa_cons (pv 0) pa_nil)))) (evb_cons (EvF.r (evf_int)) (evb_nil)))))))) (evg_nm 2 nd) (evss_cons (evs_set 3 nd (EvF.u (evf_callD 1 c__law_sequence hr (by decide) (pv 1) (eva_cons (evf_callD 1 c__law_pick hr (by decide) (pv 1) (eva_cons (EvN.toF (evn_lst (eva_cons (evf_int) (eva_cons (evf_int) (eva_cons (evf_int) (eva_cons (evf_int) (eva_cons (evf_int) (eva_nil)))))))) (eva_nil))) (eva_nil))))) (evss_cons (evs_if (evt_cmp (op_eqU u100) r2_eqU (EvF.r (evf_callD 1 c__law_take hr (by decide) (pv 1) (eva_cons (evf_int) (eva_nil)))) (EvF.r (evf_int)) (nomark _)) (evss_cons (evs_set 4 nd (EvF.u (evf_callB cr_len rc_len b_len boot_len (evb_cons (evr_var 3) (evb_nil))))) (evss_cons (evs_set 3 nd (EvF.u (evf_callP c_of_code_p hr (by decide) (eva_cons (evf_callTy cr_ptup rc_ptup b_tuple boot_tuple (evb_cons (EvN.r (evn_lc (own := [("at", 10), ("late", 11)]) rfl nd (blkOk_by (by kernel_rfl)) (evi_en1 b_enumerate (EvN.toF (evn_rev (EvN.r (evn_callB cr_sorted2 rc_sorted b_sorted boot_sorted (evb_cons (EvN.r (evn_lc (own := [("at", 10)]) rfl nd (blkOk_by (by kernel_rfl)) (evi_rg1 b_range (evr_var 4)) (fun _ _ _ _ _ => evg_nm 10 nd) (evtb_nil) (fun _ _ _ _ _ => evf_callD 1 c__law_take hr (by decide) (pv 1) (eva_cons (evf_var 4) (eva_nil))) (by decide))) (evb_nil))))))) (fun _ _ _ _ _ => evg_tp rfl (evgs_cons (evg_nm 10 nd) (evgs_cons (evg_nm 11 nd) (evgs_nil))) rfl gs2) (evtb_nil) (fun _ _ _ _ _ => evf_callB (call_min2 rfl) rc_min2 b_min (by decide +kernel) (evb_cons (evr_var 11) (evb_cons (EvF.r (evf_op op_sub r2_sub (EvF.r (evf_op op_sub r2_sub (evr_var 4) (EvF.r (evf_int)))) (evr_var 10))) (evb_nil)))) (by decide))) (evb_nil))) (eva_nil))))) (evss_nil))) (evss_nil)) (evss_cons (evs_asg (evf_tup (eva_cons (evf_callP c_sum_of hr (by decide) (eva_cons (evf_var 3) (eva_nil))) (eva_cons (evf_callP c_code hr (by decide) (eva_cons (evf_var 3) (eva_nil))) (eva_cons (evf_callP c_told_by_corners hr (by decide) (eva_cons (evf_var 3) (eva_nil))) (eva_nil))))) (evg_tp rfl (evgs_cons (evg_nm 5 nd) (evgs_cons (evg_nm 6 nd) (evgs_cons (evg_nm 7 nd) (evgs_nil)))) rfl gs3)) (evss_cons (evs_set 8 nd (EvF.u (evf_cmp (op_eqU u100) r2_eqU (EvN.r (evn_lc (own := [("at", 10)]) rfl nd (blkOk_by (by kernel_rfl)) (evi_rg1 b_range (EvF.r (evf_op op_sub r2_sub (EvF.r (evf_callB cr_len rc_len b_len boot_len (evb_cons (evr_var 6) (evb_nil)))) (EvF.r (evf_int))))) (fun _ _ _ _ _ => evg_nm 10 nd) (evtb_one (fun _ _ _ _ _ => evt_cmp op_lt r2_cmp (EvF.r (evf_ix u1 (evr_var 6) (evr_var 10))) (EvF.r (evf_ix u1 (evr_var 6) (EvF.r (evf_op op_addA r2_add (evr_var 10) (EvF.r (evf_int)))))) (nomark _))) (fun _ _ _ _ _ => evf_var 10) (by decide))) (EvN.r (evn_lst (eva_nil))) (nomark _)))) (evss_cons (evs_if (EvW.toT (evw_or (evt_cmp (op_neU u100) r2_neU (EvF.r (evf_cmp (op_eqU u100) r2_eqU (EvF.r (evf_callB cr_len rc_len b_len boot_len (evb_cons (evr_var 5) (evb_nil)))) (EvF.r (evf_int)) (nomark _))) (evr_var 8) (nomark _)) (evw_or (evt_cmp (op_neU u100) r2_neU (EvF.r (evf_cmp (op_eqU u100) r2_eqU (EvN.r (evn_lc (own := [("pair", 12)]) rfl nd (blkOk_by (by kernel_rfl)) (evi_val (evf_var 7)) (fun _ _ _ _ _ => evg_nm 12 nd) (evtb_one (fun _ _ _ _ _ => evt_cmp (op_neU u100) r2_neU (EvF.r (evf_ix u1 (evr_var 7) (evr_var 12))) (EvF.r (evf_int)) (nomark _))) (fun _ _ _ _ _ => evf_var 12) (by decide))) (EvN.r (evn_lst (eva_nil))) (nomark _))) (evr_var 8) (nomark _)) (evw_or1 (EvW.toT (evw_and (evt_val (evr_var 8)) (evw_and1 (evt_ne1 u8 (evr_var 5) (evf_callP c__law_code hr (by decide) (eva_cons (evf_var 3) (eva_nil))) (evf_int))))))))) (evss_cons (evs_ret (evf_bl)) (evss_nil)) (evss_nil)) (evss_cons (evs_set 9 nd (EvF.u (evf_callP c_diagram hr (by decide) (eva_cons (evf_var 3) (eva_nil))))) (evss_cons (evs_if (EvW.toT (evw_or (evt_cmp (op_neU u100) r2_neU (EvN.r (evn_lc (own := [("at", 10)]) rfl nd (blkOk_by (by kernel_rfl)) (evi_rg1 b_range (EvF.r (evf_callB cr_len rc_len b_len boot_len (evb_cons (evr_var 6) (evb_nil))))) (fun _ _ _ _ _ => evg_nm 10 nd) (evtb_nil) (fun _ _ _ _ _ => evf_callB cr_len rc_len b_len boot_len (evb_cons (EvN.r (evn_lc (own := [("i", 13), ("j", 14)]) rfl nd (blkOk_by (by kernel_rfl)) (evi_val (evf_var 9)) (fun _ _ _ _ _ => evg_tp rfl (evgs_cons (evg_nm 13 nd) (evgs_cons (evg_nm 14 nd) (evgs_nil))) rfl gs2) (evtb_one (fun _ _ _ _ _ => evt_cmp (op_eqU u100) r2_eqU (evr_var 13) (EvF.r (evf_op op_addA r2_add (evr_var 10) (EvF.r (evf_int)))) (nomark _))) (fun _ _ _ _ _ => evf_int) (by decide))) (evb_nil))) (by decide))) (EvN.r (evn_callTy call_list_of rc_list b_list boot_list (evb_cons (evr_var 6) (evb_nil)))) (nomark _)) (evw_or (evt_cmp (op_neU u100) r2_neU (EvF.r (evf_callB cr_len rc_len b_len boot_len (evb_cons (evr_var 9) (evb_nil)))) (EvF.r (evf_callP c_many_crossings hr (by decide) (eva_cons (evf_var 3) (eva_nil)))) (nomark _)) (evw_or1 (evt_cmp (op_neU u100) r2_neU (EvF.r (evf_callB (cr_sum rfl) rc_sum b_sum (by decide +kernel) (evb_cons (EvN.r (evn_callTy call_list_of rc_list b_list boot_list (evb_cons (evr_var 6) (evb_nil)))) (evb_nil)))) (EvF.r (evf_callB cr_len rc_len b_len boot_len (evb_cons (evr_var 9) (evb_nil)))) (nomark _)))))) (evss_cons (evs_ret (evf_bl)) (evss_nil)) (evss_nil)) (evss_cons (evs_if (EvW.toT (evw_or (evt_cmp (op_neU u100) r2_neU (EvF.r (evf_callP c_sequence_of_row hr (by decide) (eva_cons (evf_callP c_last_row hr (by decide) (eva_cons (evf_var 5) (eva_nil))) (eva_nil)))) (EvF.r (evf_callP c_shortened_sequence hr (by decide) (eva_cons (evf_var 3) (eva_nil)))) (nomark _)) (evw_or (evt_cmp (op_neU u100) r2_neU (EvF.r (evf_callP c_last_row hr (by decide) (eva_cons (evf_var 5) (eva_nil)))) (EvF.r (evf_callP c__law_code hr (by decide) (eva_cons (evf_var 3) (eva_nil)))) (nomark _)) (evw_or1 (evt_ne1 u8 (EvF.r (evf_callP c_told_in_sums hr (by decide) (eva_cons (evf_var 5) (eva_nil)))) (evf_callP c_shortened_sequence hr (by decide) (eva_cons (evf_var 3) (eva_nil))) (evf_int)))))) (evss_cons (evs_ret (evf_bl)) (evss_nil)) (evss_nil)) (evss_cons (evs_if (EvW.toT (evw_or (evt_cmp (op_neU u100) r2_neU (EvN.r (evn_lc (own := [("pair", 12)]) rfl nd (blkOk_by (by kernel_rfl)) (evi_val (evf_var 7)) (fun _ _ _ _ _ => evg_nm 12 nd) (evtb_one (fun _ _ _ _ _ => evt_cmp (op_neU u100) r2_neU (EvF.r (evf_ix u1 (evr_var 7) (evr_var 12))) (EvF.r (evf_callP c_corner hr (by decide) (eva_cons (evf_var 3) (eva_cons (evf_ix u1 (evr_var 12) (EvF.r (evf_int))) (eva_cons (evf_ix u1 (evr_var 12) (EvF.r (evf_int))) (eva_nil)))))) (nomark _))) (fun _ _ _ _ _ => evf_var 12) (by decide))) (EvN.r (evn_lst (eva_nil))) (nomark _)) (evw_or1 (evt_cmp (op_neU u100) r2_neU (EvF.r (evf_cmp (op_eqU u100) r2_eqU (evr_var 7) (EvN.r (evn_dT)) (nomark _))) (EvF.r (evf_cmp (op_eqU u100) r2_eqU (EvF.r (evf_callP c_many_crossings hr (by decide) (eva_cons (evf_var 3) (eva_nil)))) (EvF.r (evf_int)) (nomark _))) (nomark _))))) (evss_cons (evs_ret (evf_bl)) (evss_nil)) (evss_nil)) (evss_nil))))))))))) (evss_cons (evs_ret (evf_bl)) (evss_nil))⟩
end
end L2.Dn
set_option Elab.async false
set_option linter.all false
set_option maxRecDepth 100000
set_option maxHeartbeats 0
namespace L2.Dn
open PySem PySem.Spec PyProof.Rows C8
def insP {α : Type} (x : α) : List α → List (List α)
  | [] => [[x]]
  | y :: ys => (x :: y :: ys) :: (insP x ys).map (y :: ·)
def permsP {α : Type} : List α → List (List α)
  | [] => [[]]
  | x :: xs => (permsP xs).flatMap (insP x)
theorem insP_mem {α : Type} (x : α) : ∀ (l r : List α), l ++ x :: r ∈ insP x (l ++ r)
  | [], [] => by simp [insP]
  | [], y :: ys => by simp [insP]
  | y :: l, r => by
    have ih := insP_mem x l r
    show y :: (l ++ x :: r) ∈ (x :: y :: (l ++ r)) :: (insP x (l ++ r)).map (y :: ·)
    exact List.mem_cons_of_mem _ (List.mem_map.mpr ⟨_, ih, rfl⟩)
theorem permsP_mem {α : Type} : ∀ (xs ys : List α), ys.Perm xs → ys ∈ permsP xs
  | [], ys, h => by
    rw [List.Perm.eq_nil h]
    exact List.mem_singleton.mpr rfl
  | x :: xs, ys, h => by
    have hx : x ∈ ys := h.mem_iff.mpr (List.mem_cons_self ..)
    obtain ⟨l, r, rfl⟩ := List.append_of_mem hx
    have h2 : (l ++ r).Perm xs := (List.perm_middle.symm.trans h).cons_inv
    exact List.mem_flatMap.mpr ⟨_, permsP_mem xs _ h2, insP_mem x l r⟩
def rgI (a : Int) : Nat → List Int
  | 0 => []
  | n + 1 => a :: rgI (a + 1) n
def seqsN (n : Nat) : List (List D) := permsP (rgD 1 n)
def prj : Option (Out × DS) → Option (Option Sl × Option Sl × En × DS)
  | some (.nx (a :: b :: _ :: _ :: _ :: _ :: _ :: _ :: _ :: _ :: l), s) => some (a, b, l, s)
  | _ => none
theorem prj_eq {o : Option (Out × DS)} {a b : Option Sl} {l : En} {s : DS} (h : prj o = some (a, b, l, s)) : ∃ x2 x3 x4 x5 x6 x7 x8 x9, o = some (.nx (a :: b :: x2 :: x3 :: x4 :: x5 :: x6 :: x7 :: x8 :: x9 :: l), s) := by
  unfold prj at h
  split at h
  · cases h; exact ⟨_, _, _, _, _, _, _, _, rfl⟩
  · cases h
def rest80 : DenS := dSeq l_3 (dSeq l_4 (dSeq l_5 (dSeq l_6 (dSeq l_7 (dSeq l_8 (dSeq l_9 (dNx)))))))
theorem rest_3 (a x2 x4 x5 x6 x7 x8 x9 : Option Sl) (ds : DS) : ((seqsN 1 ++ seqsN 2 ++ seqsN 3).map fun seq => prj (rest80 [a, some .draw, x2, some (.val (.ptup seq)), x4, x5, x6, x7, x8, x9, none, none, none, none, none] ds)) = (seqsN 1 ++ seqsN 2 ++ seqsN 3).map fun _ => some (a, some .draw, [none, none, none, none, none], ds) := by
  kernel_rfl
end L2.Dn
set_option Elab.async false
set_option linter.all false
set_option maxRecDepth 100000
set_option maxHeartbeats 0
namespace L2.Dn
open PySem PySem.Spec PyProof.Rows C8
theorem rest_4 (a x2 x4 x5 x6 x7 x8 x9 : Option Sl) (ds : DS) : ((seqsN 4).map fun seq => prj (rest80 [a, some .draw, x2, some (.val (.ptup seq)), x4, x5, x6, x7, x8, x9, none, none, none, none, none] ds)) = (seqsN 4).map fun _ => some (a, some .draw, [none, none, none, none, none], ds) := by
  kernel_rfl
def c5 (k : Nat) : List (List D) := ((seqsN 5).drop (12 * k)).take 12
end L2.Dn
set_option Elab.async false
set_option linter.all false
set_option maxRecDepth 100000
set_option maxHeartbeats 0
namespace L2.Dn
open PySem PySem.Spec PyProof.Rows C8
def takesD : Den := dLc (dRg1 (dRd 4)) [10] (gNm 10) (tYesD) (dCallD 1 1 f__law_take (aCons (dVar 4) (aNil)))
def brD (T : Den) : DenS := dSet 3 false (dCallP 1 f_of_code_p (aCons (dB gPtup (aCons (dLc (dEn1 (d1 gRevL (dB gSorted (aCons T (aNil))))) [10, 11] (gTp (gsCons (gNm 10) (gsCons (gNm 11) (gsNil)))) (tYesD) (dB gMin2 (aCons (dRd 11) (aCons (d2 L2.Dn.gSub (d2 L2.Dn.gSub (dRd 4) (dC (.int 1))) (dRd 10)) (aNil))))) (aNil))) (aNil)))
theorem l_2_eq : l_2 = dIfS (dTest (d2 gEqU (dCallD 1 1 f__law_take (aCons (dC (.int 2)) (aNil))) (dC (.int 0)))) (dSeq (dSet 4 false (dB gLen (aCons (dRd 3) (aNil)))) (dSeq (brD takesD) (dNx))) (dNx) := rfl
theorem aCons_c {f f' : Den} {env : En} {ds ds' : DS} (h : f env ds = f' env ds') : aCons f aNil env ds = aCons f' aNil env ds' := by
  unfold aCons
  rw [h]
theorem dB_c {g : List D → Option D} {f f' : DenA} {env : En} {ds ds' : DS} (h : f env ds = f' env ds') : dB g f env ds = dB g f' env ds' := by
  unfold dB
  rw [h]
theorem d1_c {g : D → Option D} {f f' : Den} {env : En} {ds ds' : DS} (h : f env ds = f' env ds') : d1 g f env ds = d1 g f' env ds' := by
  unfold d1
  rw [h]
theorem dEn1_c {f f' : Den} {env : En} {ds ds' : DS} (h : f env ds = f' env ds') : dEn1 f env ds = dEn1 f' env ds' := by
  unfold dEn1
  rw [h]
theorem dLc_c {f f' : DenA} {own : List Nat} {g : DenG} {t : DenT} {e : Den} {env : En} {ds ds' : DS} (h : f env ds = f' env ds') : dLc f own g t e env ds = dLc f' own g t e env ds' := by
  unfold dLc
  rw [h]
theorem dCallP_c {n : Nat} {c : List D → Option D} {f f' : DenA} {env : En} {ds ds' : DS} (h : f env ds = f' env ds') : dCallP n c f env ds = dCallP n c f' env ds' := by
  unfold dCallP
  rw [h]
theorem dSet_c {i : Nat} {k : Bool} {f f' : Den} {env : En} {ds ds' : DS} (h : f env ds = f' env ds') : dSet i k f env ds = dSet i k f' env ds' := by
  unfold dSet
  rw [h]
theorem brD_eq {T : Den} {env : En} {ds ds' : DS} {v : D} (h : T env ds = some (v, ds')) : brD T env ds = brD (dC v) env ds' :=
  dSet_c (dCallP_c (aCons_c (dB_c (aCons_c (dLc_c (dEn1_c (d1_c (dB_c (aCons_c (f' := dC v) (ds' := ds') (h.trans rfl)))))))))) 
def seqsI (n : Nat) : List (List Int) := permsP (rgI 1 n)
def prj3 (seqs : List (List Int)) : Option (Out × DS) → Option (Bool × En × DS)
  | some (.nx (a :: b :: c :: y :: l), s) => some (chkSeq seqs y, a :: b :: c :: l, s)
  | _ => none
theorem prj3_eq {seqs : List (List Int)} {o : Option (Out × DS)} {a b c : Option Sl} {l : En} {s : DS} (h : prj3 seqs o = some (true, a :: b :: c :: l, s)) : ∃ q ∈ seqs, o = some (.nx (a :: b :: c :: some (.val (.ptup (q.map D.int))) :: l), s) := by
  unfold prj3 at h
  split at h
  · rename_i a' b' c' y l' s'
    have h1 := Option.some.inj h
    have h2 : chkSeq seqs y = true := congrArg (·.1) h1
    have h3 : a' :: b' :: c' :: l' = a :: b :: c :: l := congrArg (·.2.1) h1
    have h4 : s' = s := congrArg (·.2.2) h1
    obtain ⟨q, hq, rfl⟩ := chkSeq_eq h2
    cases h3
    cases h4
    exact ⟨q, hq, rfl⟩
  · cases h
theorem br_1 (a x2 x3 x5 x6 x7 x8 x9 : Option Sl) (ds : DS) : ((allsN 1 1).map fun l => prj3 (seqsI 1) (brD (dC (.list (l.map D.int))) [a, some .draw, x2, x3, some (.val (.int 1)), x5, x6, x7, x8, x9, none, none, none, none, none] ds)) = (allsN 1 1).map fun _ => some (true, [a, some .draw, x2, some (.val (.int 1)), x5, x6, x7, x8, x9, none, none, none, none, none], ds) := by
  kernel_rfl
theorem br_2 (a x2 x3 x5 x6 x7 x8 x9 : Option Sl) (ds : DS) : ((allsN 2 2).map fun l => prj3 (seqsI 2) (brD (dC (.list (l.map D.int))) [a, some .draw, x2, x3, some (.val (.int 2)), x5, x6, x7, x8, x9, none, none, none, none, none] ds)) = (allsN 2 2).map fun _ => some (true, [a, some .draw, x2, some (.val (.int 2)), x5, x6, x7, x8, x9, none, none, none, none, none], ds) := by
  kernel_rfl
theorem br_3 (a x2 x3 x5 x6 x7 x8 x9 : Option Sl) (ds : DS) : ((allsN 3 3).map fun l => prj3 (seqsI 3) (brD (dC (.list (l.map D.int))) [a, some .draw, x2, x3, some (.val (.int 3)), x5, x6, x7, x8, x9, none, none, none, none, none] ds)) = (allsN 3 3).map fun _ => some (true, [a, some .draw, x2, some (.val (.int 3)), x5, x6, x7, x8, x9, none, none, none, none, none], ds) := by
  kernel_rfl
theorem seqs_eq : [1, 2, 3, 4, 5].map (fun n => (seqsI n).map fun l => l.map D.int) = [1, 2, 3, 4, 5].map seqsN := by
  kernel_rfl
end L2.Dn
set_option Elab.async false
set_option linter.all false
set_option maxRecDepth 100000
set_option maxHeartbeats 0
namespace L2.Dn
open PySem PySem.Spec PyProof.Rows C8
theorem rest_5_0 (a x2 x4 x5 x6 x7 x8 x9 : Option Sl) (ds : DS) : ((c5 0).map fun seq => prj (rest80 [a, some .draw, x2, some (.val (.ptup seq)), x4, x5, x6, x7, x8, x9, none, none, none, none, none] ds)) = (c5 0).map fun _ => some (a, some .draw, [none, none, none, none, none], ds) := by
  kernel_rfl
theorem rest_5_1 (a x2 x4 x5 x6 x7 x8 x9 : Option Sl) (ds : DS) : ((c5 1).map fun seq => prj (rest80 [a, some .draw, x2, some (.val (.ptup seq)), x4, x5, x6, x7, x8, x9, none, none, none, none, none] ds)) = (c5 1).map fun _ => some (a, some .draw, [none, none, none, none, none], ds) := by
  kernel_rfl
theorem rest_5_2 (a x2 x4 x5 x6 x7 x8 x9 : Option Sl) (ds : DS) : ((c5 2).map fun seq => prj (rest80 [a, some .draw, x2, some (.val (.ptup seq)), x4, x5, x6, x7, x8, x9, none, none, none, none, none] ds)) = (c5 2).map fun _ => some (a, some .draw, [none, none, none, none, none], ds) := by
  kernel_rfl
theorem rest_5_3 (a x2 x4 x5 x6 x7 x8 x9 : Option Sl) (ds : DS) : ((c5 3).map fun seq => prj (rest80 [a, some .draw, x2, some (.val (.ptup seq)), x4, x5, x6, x7, x8, x9, none, none, none, none, none] ds)) = (c5 3).map fun _ => some (a, some .draw, [none, none, none, none, none], ds) := by
  kernel_rfl
theorem rest_5_4 (a x2 x4 x5 x6 x7 x8 x9 : Option Sl) (ds : DS) : ((c5 4).map fun seq => prj (rest80 [a, some .draw, x2, some (.val (.ptup seq)), x4, x5, x6, x7, x8, x9, none, none, none, none, none] ds)) = (c5 4).map fun _ => some (a, some .draw, [none, none, none, none, none], ds) := by
  kernel_rfl
end L2.Dn
set_option Elab.async false
set_option linter.all false
set_option maxRecDepth 100000
set_option maxHeartbeats 0
namespace L2.Dn
open PySem PySem.Spec PyProof.Rows C8
theorem rest_5_5 (a x2 x4 x5 x6 x7 x8 x9 : Option Sl) (ds : DS) : ((c5 5).map fun seq => prj (rest80 [a, some .draw, x2, some (.val (.ptup seq)), x4, x5, x6, x7, x8, x9, none, none, none, none, none] ds)) = (c5 5).map fun _ => some (a, some .draw, [none, none, none, none, none], ds) := by
  kernel_rfl
theorem rest_5_6 (a x2 x4 x5 x6 x7 x8 x9 : Option Sl) (ds : DS) : ((c5 6).map fun seq => prj (rest80 [a, some .draw, x2, some (.val (.ptup seq)), x4, x5, x6, x7, x8, x9, none, none, none, none, none] ds)) = (c5 6).map fun _ => some (a, some .draw, [none, none, none, none, none], ds) := by
  kernel_rfl
theorem rest_5_7 (a x2 x4 x5 x6 x7 x8 x9 : Option Sl) (ds : DS) : ((c5 7).map fun seq => prj (rest80 [a, some .draw, x2, some (.val (.ptup seq)), x4, x5, x6, x7, x8, x9, none, none, none, none, none] ds)) = (c5 7).map fun _ => some (a, some .draw, [none, none, none, none, none], ds) := by
  kernel_rfl
theorem rest_5_8 (a x2 x4 x5 x6 x7 x8 x9 : Option Sl) (ds : DS) : ((c5 8).map fun seq => prj (rest80 [a, some .draw, x2, some (.val (.ptup seq)), x4, x5, x6, x7, x8, x9, none, none, none, none, none] ds)) = (c5 8).map fun _ => some (a, some .draw, [none, none, none, none, none], ds) := by
  kernel_rfl
theorem rest_5_9 (a x2 x4 x5 x6 x7 x8 x9 : Option Sl) (ds : DS) : ((c5 9).map fun seq => prj (rest80 [a, some .draw, x2, some (.val (.ptup seq)), x4, x5, x6, x7, x8, x9, none, none, none, none, none] ds)) = (c5 9).map fun _ => some (a, some .draw, [none, none, none, none, none], ds) := by
  kernel_rfl
end L2.Dn
set_option Elab.async false
set_option linter.all false
set_option maxRecDepth 100000
set_option maxHeartbeats 0
namespace L2.Dn
open PySem PySem.Spec PyProof.Rows C8
theorem br_4 (a x2 x3 x5 x6 x7 x8 x9 : Option Sl) (ds : DS) : ((allsN 4 4).map fun l => prj3 (seqsI 4) (brD (dC (.list (l.map D.int))) [a, some .draw, x2, x3, some (.val (.int 4)), x5, x6, x7, x8, x9, none, none, none, none, none] ds)) = (allsN 4 4).map fun _ => some (true, [a, some .draw, x2, some (.val (.int 4)), x5, x6, x7, x8, x9, none, none, none, none, none], ds) := by
  kernel_rfl
end L2.Dn
set_option Elab.async false
set_option linter.all false
set_option maxRecDepth 100000
set_option maxHeartbeats 0
namespace L2.Dn
open PySem PySem.Spec PyProof.Rows C8
theorem br_5_0 (a x2 x3 x5 x6 x7 x8 x9 : Option Sl) (ds : DS) : (((allsN 5 4).map fun l => (0 : Int) :: l).map fun l => prj3 (seqsI 5) (brD (dC (.list (l.map D.int))) [a, some .draw, x2, x3, some (.val (.int 5)), x5, x6, x7, x8, x9, none, none, none, none, none] ds)) = ((allsN 5 4).map fun l => (0 : Int) :: l).map fun _ => some (true, [a, some .draw, x2, some (.val (.int 5)), x5, x6, x7, x8, x9, none, none, none, none, none], ds) := by
  kernel_rfl
theorem br_5_1 (a x2 x3 x5 x6 x7 x8 x9 : Option Sl) (ds : DS) : (((allsN 5 4).map fun l => (1 : Int) :: l).map fun l => prj3 (seqsI 5) (brD (dC (.list (l.map D.int))) [a, some .draw, x2, x3, some (.val (.int 5)), x5, x6, x7, x8, x9, none, none, none, none, none] ds)) = ((allsN 5 4).map fun l => (1 : Int) :: l).map fun _ => some (true, [a, some .draw, x2, some (.val (.int 5)), x5, x6, x7, x8, x9, none, none, none, none, none], ds) := by
  kernel_rfl
theorem br_5_2 (a x2 x3 x5 x6 x7 x8 x9 : Option Sl) (ds : DS) : (((allsN 5 4).map fun l => (2 : Int) :: l).map fun l => prj3 (seqsI 5) (brD (dC (.list (l.map D.int))) [a, some .draw, x2, x3, some (.val (.int 5)), x5, x6, x7, x8, x9, none, none, none, none, none] ds)) = ((allsN 5 4).map fun l => (2 : Int) :: l).map fun _ => some (true, [a, some .draw, x2, some (.val (.int 5)), x5, x6, x7, x8, x9, none, none, none, none, none], ds) := by
  kernel_rfl
theorem br_5_3 (a x2 x3 x5 x6 x7 x8 x9 : Option Sl) (ds : DS) : (((allsN 5 4).map fun l => (3 : Int) :: l).map fun l => prj3 (seqsI 5) (brD (dC (.list (l.map D.int))) [a, some .draw, x2, x3, some (.val (.int 5)), x5, x6, x7, x8, x9, none, none, none, none, none] ds)) = ((allsN 5 4).map fun l => (3 : Int) :: l).map fun _ => some (true, [a, some .draw, x2, some (.val (.int 5)), x5, x6, x7, x8, x9, none, none, none, none, none], ds) := by
  kernel_rfl
theorem br_5_4 (a x2 x3 x5 x6 x7 x8 x9 : Option Sl) (ds : DS) : (((allsN 5 4).map fun l => (4 : Int) :: l).map fun l => prj3 (seqsI 5) (brD (dC (.list (l.map D.int))) [a, some .draw, x2, x3, some (.val (.int 5)), x5, x6, x7, x8, x9, none, none, none, none, none] ds)) = ((allsN 5 4).map fun l => (4 : Int) :: l).map fun _ => some (true, [a, some .draw, x2, some (.val (.int 5)), x5, x6, x7, x8, x9, none, none, none, none, none], ds) := by
  kernel_rfl
end L2.Dn
set_option Elab.async false
set_option linter.all false
set_option maxRecDepth 100000
set_option maxHeartbeats 0
namespace L2.Dn
open PySem PySem.Spec PyProof.Rows C8
theorem c5_eq : seqsN 5 = c5 0 ++ (c5 1 ++ (c5 2 ++ (c5 3 ++ (c5 4 ++ (c5 5 ++ (c5 6 ++ (c5 7 ++ (c5 8 ++ c5 9)))))))) := by
  kernel_rfl
theorem rest_all (a x2 x4 x5 x6 x7 x8 x9 : Option Sl) (ds : DS) (n : Nat) (h1 : 1 ≤ n) (h5 : n ≤ 5) (seq : List D) (hs : seq ∈ seqsN n) : prj (rest80 [a, some .draw, x2, some (.val (.ptup seq)), x4, x5, x6, x7, x8, x9, none, none, none, none, none] ds) = some (a, some .draw, [none, none, none, none, none], ds) := by
  have e3 := map_at (rest_3 a x2 x4 x5 x6 x7 x8 x9 ds) seq
  match n, h1, h5, hs with
  | 1, _, _, hs => exact e3 (List.mem_append_left _ (List.mem_append_left _ hs))
  | 2, _, _, hs => exact e3 (List.mem_append_left _ (List.mem_append_right _ hs))
  | 3, _, _, hs => exact e3 (List.mem_append_right _ hs)
  | 4, _, _, hs => exact map_at (rest_4 a x2 x4 x5 x6 x7 x8 x9 ds) seq hs
  | 5, _, _, hs =>
    rw [c5_eq] at hs
    rcases List.mem_append.mp hs with h | hs
    · exact map_at (rest_5_0 a x2 x4 x5 x6 x7 x8 x9 ds) seq h
    rcases List.mem_append.mp hs with h | hs
    · exact map_at (rest_5_1 a x2 x4 x5 x6 x7 x8 x9 ds) seq h
    rcases List.mem_append.mp hs with h | hs
    · exact map_at (rest_5_2 a x2 x4 x5 x6 x7 x8 x9 ds) seq h
    rcases List.mem_append.mp hs with h | hs
    · exact map_at (rest_5_3 a x2 x4 x5 x6 x7 x8 x9 ds) seq h
    rcases List.mem_append.mp hs with h | hs
    · exact map_at (rest_5_4 a x2 x4 x5 x6 x7 x8 x9 ds) seq h
    rcases List.mem_append.mp hs with h | hs
    · exact map_at (rest_5_5 a x2 x4 x5 x6 x7 x8 x9 ds) seq h
    rcases List.mem_append.mp hs with h | hs
    · exact map_at (rest_5_6 a x2 x4 x5 x6 x7 x8 x9 ds) seq h
    rcases List.mem_append.mp hs with h | hs
    · exact map_at (rest_5_7 a x2 x4 x5 x6 x7 x8 x9 ds) seq h
    rcases List.mem_append.mp hs with h | hs
    · exact map_at (rest_5_8 a x2 x4 x5 x6 x7 x8 x9 ds) seq h
    · exact map_at (rest_5_9 a x2 x4 x5 x6 x7 x8 x9 ds) seq hs
theorem br_all (a x2 x3 x5 x6 x7 x8 x9 : Option Sl) (ds : DS) (n : Nat) (h1 : 1 ≤ n) (h5 : n ≤ 5) (l : List Int) (hs : l ∈ allsN n n) : prj3 (seqsI n) (brD (dC (.list (l.map D.int))) [a, some .draw, x2, x3, some (.val (.int n)), x5, x6, x7, x8, x9, none, none, none, none, none] ds) = some (true, [a, some .draw, x2, some (.val (.int n)), x5, x6, x7, x8, x9, none, none, none, none, none], ds) := by
  match n, h1, h5, hs with
  | 1, _, _, hs => exact map_at (br_1 a x2 x3 x5 x6 x7 x8 x9 ds) l hs
  | 2, _, _, hs => exact map_at (br_2 a x2 x3 x5 x6 x7 x8 x9 ds) l hs
  | 3, _, _, hs => exact map_at (br_3 a x2 x3 x5 x6 x7 x8 x9 ds) l hs
  | 4, _, _, hs => exact map_at (br_4 a x2 x3 x5 x6 x7 x8 x9 ds) l hs
  | 5, _, _, hs =>
    obtain ⟨r, hr, hs⟩ := List.mem_flatMap.mp (show l ∈ (intsTo 5).flatMap fun a => (allsN 5 4).map (a :: ·) from hs)
    have hr : r ∈ [(0 : Int), 1, 2, 3, 4] := hr
    simp only [List.mem_cons, List.not_mem_nil, or_false] at hr
    rcases hr with rfl | rfl | rfl | rfl | rfl
    · exact map_at (br_5_0 a x2 x3 x5 x6 x7 x8 x9 ds) l hs
    · exact map_at (br_5_1 a x2 x3 x5 x6 x7 x8 x9 ds) l hs
    · exact map_at (br_5_2 a x2 x3 x5 x6 x7 x8 x9 ds) l hs
    · exact map_at (br_5_3 a x2 x3 x5 x6 x7 x8 x9 ds) l hs
    · exact map_at (br_5_4 a x2 x3 x5 x6 x7 x8 x9 ds) l hs
theorem seqsI_mem (n : Nat) (h1 : 1 ≤ n) (h5 : n ≤ 5) {q : List Int} (h : q ∈ seqsI n) : q.map D.int ∈ seqsN n := by
  have e := map_at seqs_eq n (by
    match n, h1, h5 with
    | 1, _, _ => simp
    | 2, _, _ => simp
    | 3, _, _ => simp
    | 4, _, _ => simp
    | 5, _, _ => simp)
  rw [← e]
  exact List.mem_map.mpr ⟨q, h, rfl⟩
end L2.Dn
set_option Elab.async false
set_option linter.all false
set_option maxRecDepth 100000
set_option maxHeartbeats 0
namespace L2.Dn
open PySem PySem.Spec PyProof.Rows C8
def lap80 : DenS := dSeq l_1 (dSeq l_2 rest80)
def E80 (ns : List Int) (x2 x3 x4 x5 x6 x7 x8 x9 : Option Sl) : En := [some (.scr ns), some .draw, x2, x3, x4, x5, x6, x7, x8, x9, none, none, none, none, none]
theorem l1_ok (ns : List Int) (x2 x3 x4 x5 x6 x7 x8 x9 : Option Sl) (ds : DS) : ∃ (n : Nat) (seq : List D) (ds' : DS), 1 ≤ n ∧ n ≤ 5 ∧ seq ∈ seqsN n ∧ seq.length = n ∧ l_1 (E80 ns x2 x3 x4 x5 x6 x7 x8 x9) ds = some (.nx (E80 ns x2 (some (.val (.ptup seq))) x4 x5 x6 x7 x8 x9), ds') := by
  obtain ⟨x, ds1, e1, hx⟩ := pick_ok [.int 1, .int 2, .int 3, .int 4, .int 5] (by simp) (by decide) ds
  obtain ⟨n, h1, h5, rfl⟩ : ∃ n : Nat, 1 ≤ n ∧ n ≤ 5 ∧ x = .int n := by
    simp only [List.mem_cons, List.not_mem_nil, or_false] at hx
    rcases hx with rfl | rfl | rfl | rfl | rfl
    · exact ⟨1, by decide, by decide, rfl⟩
    · exact ⟨2, by decide, by decide, rfl⟩
    · exact ⟨3, by decide, by decide, rfl⟩
    · exact ⟨4, by decide, by decide, rfl⟩
    · exact ⟨5, by decide, by decide, rfl⟩
  obtain ⟨ys, ds2, e2, hp⟩ := sequence_ok n (by omega) ds1
  refine ⟨n, ys, ds2, h1, h5, permsP_mem _ _ hp, by rw [hp.length_eq, rgD_len], ?_⟩
  have e3 : dCallD 1 1 f__law_pick (aCons (dLst (aCons (dC (.int 1)) (aCons (dC (.int 2)) (aCons (dC (.int 3)) (aCons (dC (.int 4)) (aCons (dC (.int 5)) (aNil))))))) (aNil)) (E80 ns x2 x3 x4 x5 x6 x7 x8 x9) ds = some (.int n, ds1) := (dCallD_eq (as := [.list [.int 1, .int 2, .int 3, .int 4, .int 5]]) (s := ds) rfl rfl rfl).trans e1
  exact dSet_eq (i := 3) (k := false) (env := E80 ns x2 x3 x4 x5 x6 x7 x8 x9) ((dCallD_eq rfl (aCons1 e3) rfl).trans e2)
theorem l2_ok (ns : List Int) (n : Nat) (h1 : 1 ≤ n) (h5 : n ≤ 5) (seq : List D) (hs : seq ∈ seqsN n) (hl : seq.length = n) (x2 x4 x5 x6 x7 x8 x9 : Option Sl) (ds : DS) :
    ∃ (seq' : List D) (y4 : Option Sl) (ds' : DS), seq' ∈ seqsN n ∧ l_2 (E80 ns x2 (some (.val (.ptup seq))) x4 x5 x6 x7 x8 x9) ds = some (.nx (E80 ns x2 (some (.val (.ptup seq'))) y4 x5 x6 x7 x8 x9), ds') := by
  obtain ⟨r, ds1, e1, hr⟩ := take_ok 2 (by decide) ds
  have e2 : dCallD 1 1 f__law_take (aCons (dC (.int 2)) (aNil)) (E80 ns x2 (some (.val (.ptup seq))) x4 x5 x6 x7 x8 x9) ds = some (.int r, ds1) := (dCallD_eq (as := [.int 2]) (s := ds) rfl rfl rfl).trans e1
  have e3 : dTest (d2 gEqU (dCallD 1 1 f__law_take (aCons (dC (.int 2)) (aNil))) (dC (.int 0))) (E80 ns x2 (some (.val (.ptup seq))) x4 x5 x6 x7 x8 x9) ds = some (decide (r = 0), ds1) := dTest_of (d2_eq (b := .int 0) e2 rfl rfl)
  by_cases hr0 : r = 0
  · rw [decide_eq_true hr0] at e3
    let E4 := E80 ns x2 (some (.val (.ptup seq))) (some (.val (.int n))) x5 x6 x7 x8 x9
    have e4 : dSet 4 false (dB gLen (aCons (dRd 3) (aNil))) (E80 ns x2 (some (.val (.ptup seq))) x4 x5 x6 x7 x8 x9) ds1 = some (.nx E4, ds1) := by
      have e5 : dB gLen (aCons (dRd 3) (aNil)) (E80 ns x2 (some (.val (.ptup seq))) x4 x5 x6 x7 x8 x9) ds1 = some (.int (seq.length : Nat), ds1) := rfl
      rw [hl] at e5
      exact dSet_eq (i := 4) (k := false) e5
    obtain ⟨l, ds2, e6, h6, h7⟩ := takes_loop 10 4 n (by omega) (wipeE E4 [10]) (fun _ => rfl) (fun _ => rfl) (rgD 0 n) ds1
    rw [rgD_len] at h6
    have e7 : takesD E4 ds1 = some (.list (l.map D.int), ds2) := by
      have e8 : dRg1 (dRd 4) E4 ds1 = some (rgD 0 n, ds1) := by
        have q : dRd 4 E4 ds1 = some (.int n, ds1) := rfl
        unfold dRg1
        rw [q]
        unfold bnd
        dsimp only
        rw [if_pos ⟨by omega, by omega⟩]
        rfl
      unfold takesD dLc
      rw [e8]
      unfold bnd
      dsimp only
      rw [e6]
      dsimp only
      rw [if_pos (by rw [List.length_map]; omega)]
    have hm : l ∈ allsN n n := by
      have := allsN_mem (n := n) l h7
      rw [h6] at this
      exact this
    obtain ⟨q, hq, e9⟩ := prj3_eq (br_all (some (.scr ns)) x2 (some (.val (.ptup seq))) x5 x6 x7 x8 x9 ds2 n h1 h5 l hm)
    refine ⟨q.map D.int, some (.val (.int n)), ds2, seqsI_mem n h1 h5 hq, ?_⟩
    rw [l_2_eq, dIfS_t e3, dSeq_eq e4]
    exact (dSeq_eq ((brD_eq e7).trans e9)).trans rfl
  · rw [decide_eq_false hr0] at e3
    refine ⟨seq, x4, ds1, hs, ?_⟩
    rw [l_2_eq, dIfS_f e3]
    rfl
theorem lap80_ok (ns : List Int) (x2 x3 x4 x5 x6 x7 x8 x9 : Option Sl) (ds : DS) : ∃ y2 y3 y4 y5 y6 y7 y8 y9 ds', lap80 (E80 ns x2 x3 x4 x5 x6 x7 x8 x9) ds = some (.nx (E80 ns y2 y3 y4 y5 y6 y7 y8 y9), ds') := by
  obtain ⟨n, seq, ds1, h1, h5, hs, hl, e1⟩ := l1_ok ns x2 x3 x4 x5 x6 x7 x8 x9 ds
  obtain ⟨seq', y4, ds2, hs', e2⟩ := l2_ok ns n h1 h5 seq hs hl x2 x4 x5 x6 x7 x8 x9 ds1
  obtain ⟨z2, z3, z4, z5, z6, z7, z8, z9, e3⟩ := prj_eq (rest_all (some (.scr ns)) x2 y4 x5 x6 x7 x8 x9 ds2 n h1 h5 seq' hs')
  refine ⟨z2, z3, z4, z5, z6, z7, z8, z9, ds2, ?_⟩
  unfold lap80
  rw [dSeq_eq e1, dSeq_eq e2]
  exact e3
theorem laps80 (ns : List Int) : ∀ (items : List D) (x2 x3 x4 x5 x6 x7 x8 x9 : Option Sl) (ds : DS), ∃ y2 y3 y4 y5 y6 y7 y8 y9 ds', forLoop (gNm 2) lap80 items (E80 ns x2 x3 x4 x5 x6 x7 x8 x9) ds = some (.nx (E80 ns y2 y3 y4 y5 y6 y7 y8 y9), ds')
  | [], x2, x3, x4, x5, x6, x7, x8, x9, ds => ⟨x2, x3, x4, x5, x6, x7, x8, x9, ds, rfl⟩
  | d :: items, x2, x3, x4, x5, x6, x7, x8, x9, ds => by
    obtain ⟨y2, y3, y4, y5, y6, y7, y8, y9, ds1, e1⟩ := lap80_ok ns (some (.val d)) x3 x4 x5 x6 x7 x8 x9 ds
    obtain ⟨z2, z3, z4, z5, z6, z7, z8, z9, ds2, e2⟩ := laps80 ns items y2 y3 y4 y5 y6 y7 y8 y9 ds1
    refine ⟨z2, z3, z4, z5, z6, z7, z8, z9, ds2, ?_⟩
    rw [forLoop, show gNm 2 d (E80 ns x2 x3 x4 x5 x6 x7 x8 x9) = some (E80 ns (some (.val d)) x3 x4 x5 x6 x7 x8 x9) from rfl]
    dsimp only
    rw [e1]
    exact e2
theorem law80 : LawHolds N_law d_law := fun ns hl => by
  let E := E80 ns none none none none none none none none
  let s0 : DS := ⟨bgLarge ns, 0, bgCells ns, 0⟩
  let m : Int := 4 + (if (6 : Int) < ((ns.length : Nat) : Int) then (6 : Int) else ((ns.length : Nat) : Int))
  obtain ⟨y2, y3, y4, y5, y6, y7, y8, y9, ds', e⟩ := laps80 ns (rgD 0 m.toNat) none none none none none none none none s0
  refine ⟨ds', ?_⟩
  have q : d2 gAdd (dC (.int 4)) (dB gMin2 (aCons (dLenS 0) (aCons (dC (.int 6)) (aNil)))) E s0 = some (.int m, s0) := by
    have q0 : dLenS 0 E s0 = some (.int (ns.length : Nat), s0) := rfl
    have q1 : dB gMin2 (aCons (dLenS 0) (aCons (dC (.int 6)) (aNil))) E s0 = some (.int (if (6 : Int) < ((ns.length : Nat) : Int) then (6 : Int) else ((ns.length : Nat) : Int)), s0) := by
      have q2 : aCons (dLenS 0) (aCons (dC (.int 6)) (aNil)) E s0 = some ([.int (ns.length : Nat), .int 6], s0) := rfl
      unfold dB
      rw [q2]
      rfl
    exact d2_eq (a := .int 4) rfl q1 rfl
  have hm : m < 100000 ∧ -100000 < m := by
    show 4 + (if (6 : Int) < ((ns.length : Nat) : Int) then (6 : Int) else ((ns.length : Nat) : Int)) < 100000 ∧ -100000 < 4 + (if (6 : Int) < ((ns.length : Nat) : Int) then (6 : Int) else ((ns.length : Nat) : Int))
    split <;> omega
  have e8 : dRg1 (d2 gAdd (dC (.int 4)) (dB gMin2 (aCons (dLenS 0) (aCons (dC (.int 6)) (aNil))))) E s0 = some (rgD 0 m.toNat, s0) := by
    unfold dRg1
    rw [q]
    unfold bnd
    dsimp only
    rw [if_pos hm]
  have e9 : dFor (dRg1 (d2 gAdd (dC (.int 4)) (dB gMin2 (aCons (dLenS 0) (aCons (dC (.int 6)) (aNil)))))) (gNm 2) lap80 E s0 = some (.nx (E80 ns y2 y3 y4 y5 y6 y7 y8 y9), ds') := by
    unfold dFor
    rw [e8]
    exact e
  exact (dSeq_eq (f := dFor (dRg1 (d2 gAdd (dC (.int 4)) (dB gMin2 (aCons (dLenS 0) (aCons (dC (.int 6)) (aNil)))))) (gNm 2) lap80) (g := dSeq (dRet (dC (.bool true))) (dNx)) (env := E) (ds := s0) e9).trans rfl
end L2.Dn
set_option Elab.async false
set_option linter.all false
set_option maxRecDepth 100000
set_option maxHeartbeats 0
open PySem PySem.W PySem.Calls PyProof.Rows
theorem PySem.Challenge.cw_crosswires_k80_across_sums_and_telling_c_holds : PySem.Challenge.rw_crosswires_k80_across_sums_and_telling_c.Holds := by
  w_on; o_law
  refine HandSHeadRun.head_any (r := OpenLaw.row PySem.Challenge.rw_crosswires_k80_across_sums_and_telling_c) (q := view (OpenLaw.row PySem.Challenge.rw_crosswires_k80_across_sums_and_telling_c).prog [66]) (H := Hd.hk) (ob := Hd.ob) (M := 60000) (loose := Hd.loose) (d := HandSHeadRun.topDef (OpenLaw.row PySem.Challenge.rw_crosswires_k80_across_sums_and_telling_c).prog 66) (kwd := []) Hd.ob_eq
    (by kernel_rfl) (fun s => by kernel_rfl) Hd.run (by kernel_rfl) (by kernel_rfl) (by kernel_rfl) (by rfl) (by first | assumption | decide +kernel) (by decide +kernel) ⟨rfl, rfl, rfl, rfl, rfl, by decide +kernel⟩ ?hw ?hc
  case hw => w_witness2
  case hc =>
    refine L2.walk_ofE (l := PySem.Challenge.rw_crosswires_k80_across_sums_and_telling_c) (n := 63) (k := 6) (x := "script") (CX := L2.CX0) rfl (by decide) (by kernel_rfl) ⟨rfl, by decide, by decide⟩ ?F (fun _ _ _ _ z => z)
    intro w mg fa h Y G hmg0
    obtain ⟨K, KX, c⟩ := Y
    have hmg : mg ("law" : PySem.Str) = some (.ref fa) := by
      have e : (HandSHeadRun.topDef (OpenLaw.row PySem.Challenge.rw_crosswires_k80_across_sums_and_telling_c).prog 66).name = ("law" : PySem.Str) := by kernel_rfl
      rw [← e]
      exact hmg0
    have e := hmg.symm.trans (He.glo_ok KX G (c.fact 41 (f := .glo "law") rfl))
    cases e
    obtain ⟨fd, hb, hF⟩ := L2.Dn.ok_law (P := (PySem.Challenge.rw_crosswires_k80_across_sums_and_telling_c).prog) (w := w) KX G c L2.Dn.law80
    exact ⟨K, fd, L2.Dn.spL K, KX, hb, fun H a ns hl _ hS => ⟨rfl, a, ns, rfl, hS, hl, fun _ => rfl⟩, fun base _ _ => hF base⟩
