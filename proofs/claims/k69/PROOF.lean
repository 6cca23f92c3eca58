import PyProof.Rows.All
import HandS.HeadHook4
import HandS.HeadWalk
import HandS.Lambda
import HandS.ForMost
import HandS.Deep
import HandS.Conv
import HandS.TupAny
import HandS.Zip
import HandS.Wide
import HandS.TupLen
import HandS.IsInst
import HandS.Star
import HandS.Style
import HandS.Rev
import HandS.Codes
import HandS.SetFor
import HandS.Defaults
import HandS.SortInts
import HandS.SortRule
import KE.KSortedM
import KE.KDictWalk
import HandS.Iter
import HandS.DictComp
import KE.KDictCopyH
import KE.KDictOf
import HandS.More
import HandS.DictEq
import KE.KDictDisplayH
import KE.DataMinKey
import HandS.TupLe
import HandS.SortKw
import KE.GoesEnum
import HandS.Strs
import KE.KDictPairs
import HandS.List
import PyProof.EnumIter
import KE.SortKeyHeap
import KE.DataMinMax
import PyProof.SumAny
import HandS.TupMul
import Wide.All
import OpenK.AllK
import Wide.FinOn
import KE.KStateDown
import Lean
import HandS.Base
import HandS.Call
import HandS.Ends
import HandS.Words
import HandS.WordsExc
import HandS.Head0
import HandS.Head1
import HandS.Head2
import HandS.HeadEnd
import HandS.HeadHook1
import HandS.HeadHook2
import HandS.HeadHook3
import PySem.Challenge.RW_crosswires_k69_across_sums_at_ones
set_option Elab.async false
/-! the one def of the text in which a lambda stands -/
namespace L2.Dn
open PySem
def QD : He.Defn := ("read_by", none)
def QN : Str := ("read_by" : Str) ++ ".<locals>." ++ "<lambda>"
/-- the table of its code object -/
def PTb (K : PySem.W.Frag) : Addr := (He.cT K QD).2
end L2.Dn
set_option Elab.async false
set_option linter.all false
set_option maxRecDepth 100000
/-! data denotations over the hand layer: what a piece of the text computes on plain data, and that it does -/
namespace L2.Dn
open PySem PySem.Spec PyProof.Rows
/-- plain data; a dict by the kind of its keys -/
inductive D where
  | none | bool (b : Bool) | int (i : Int) | str (x : Str) | list (xs : List D) | tuple (xs : List D) | ptup (xs : List D)
  | dT (kvs : List (List Key × D)) | dK (kvs : List (Key × D))
  deriving Inhabited
/-! ### keys -/
def keyD : Key → D
  | .inl i => .int i
  | .inr s => .str s
def keyT (k : List Key) : D := .tuple (k.map keyD)
/-! ### a value that represents data, in a heap whose objects stay -/
mutual
inductive Rp (H : Hp) : V → D → Prop
  | non : Rp H .non .none
  | bl (b : Bool) : Rp H (.bl b) (.bool b)
  | int (i : Int) : Rp H (.int i) (.int i)
  | str (x : Str) : Rp H (.str x) (.str x)
  | lst {a : Addr} {vs : List V} {ds : List D} : H a = some (.lst vs) → RpL H vs ds → Rp H (.ref a) (.list ds)
  | tup {a : Addr} {vs : List V} {ds : List D} : H a = some (.tup vs) → RpL H vs ds → Rp H (.ref a) (.tuple ds)
  | ptup {a : Addr} {o : Obj} {vs : List V} {ds : List D} : H a = some (.frz o (.tup vs)) → o.dict = none → RpL H vs ds → Rp H (.ref a) (.ptup ds)
  | dT {a : Addr} {o : Obj} {kvs : List (List Key × V)} {ds : List (List Key × D)} : H a = some (.frz o (.dT kvs)) → RpT H kvs ds → Rp H (.ref a) (.dT ds)
  | dK {a : Addr} {o : Obj} {kvs : List (Key × V)} {ds : List (Key × D)} : H a = some (.frz o (.dK kvs)) → RpK H kvs ds → Rp H (.ref a) (.dK ds)
inductive RpL (H : Hp) : List V → List D → Prop
  | nil : RpL H [] []
  | cons {v : V} {vs : List V} {d : D} {ds : List D} : Rp H v d → RpL H vs ds → RpL H (v :: vs) (d :: ds)
inductive RpT (H : Hp) : List (List Key × V) → List (List Key × D) → Prop
  | nil : RpT H [] []
  | cons {k : List Key} {v : V} {d : D} {kvs : List (List Key × V)} {ds : List (List Key × D)} : Rp H v d → RpT H kvs ds → RpT H ((k, v) :: kvs) ((k, d) :: ds)
inductive RpK (H : Hp) : List (Key × V) → List (Key × D) → Prop
  | nil : RpK H [] []
  | cons {k : Key} {v : V} {d : D} {kvs : List (Key × V)} {ds : List (Key × D)} : Rp H v d → RpK H kvs ds → RpK H ((k, v) :: kvs) ((k, d) :: ds)
end
mutual
theorem Rp.mono {H H' : Hp} (e : Same H H') : ∀ (d : D) (v : V), Rp H v d → Rp H' v d
  | .none, _, h => by cases h; exact .non
  | .bool b, _, h => by cases h; exact .bl b
  | .int i, _, h => by cases h; exact .int i
  | .str x, _, h => by cases h; exact .str x
  | .list ds, _, h => by
    cases h with
    | lst h1 h2 => exact .lst (e _ _ h1) (RpL.mono e ds _ h2)
  | .tuple ds, _, h => by
    cases h with
    | tup h1 h2 => exact .tup (e _ _ h1) (RpL.mono e ds _ h2)
  | .ptup ds, _, h => by
    cases h with
    | ptup h1 hd h2 => exact .ptup (e _ _ h1) hd (RpL.mono e ds _ h2)
  | .dT ds, _, h => by
    cases h with
    | dT h1 h2 => exact .dT (e _ _ h1) (RpT.mono e ds _ h2)
  | .dK ds, _, h => by
    cases h with
    | dK h1 h2 => exact .dK (e _ _ h1) (RpK.mono e ds _ h2)
theorem RpL.mono {H H' : Hp} (e : Same H H') : ∀ (ds : List D) (vs : List V), RpL H vs ds → RpL H' vs ds
  | [], _, h => by cases h; exact .nil
  | d :: ds, _, h => by
    cases h with
    | cons h1 h2 => exact .cons (Rp.mono e d _ h1) (RpL.mono e ds _ h2)
theorem RpT.mono {H H' : Hp} (e : Same H H') : ∀ (ds : List (List Key × D)) (kvs : List (List Key × V)), RpT H kvs ds → RpT H' kvs ds
  | [], _, h => by cases h; exact .nil
  | (_, d) :: ds, _, h => by
    cases h with
    | cons h1 h2 => exact .cons (Rp.mono e d _ h1) (RpT.mono e ds _ h2)
theorem RpK.mono {H H' : Hp} (e : Same H H') : ∀ (ds : List (Key × D)) (kvs : List (Key × V)), RpK H kvs ds → RpK H' kvs ds
  | [], _, h => by cases h; exact .nil
  | (_, d) :: ds, _, h => by
    cases h with
    | cons h1 h2 => exact .cons (Rp.mono e d _ h1) (RpK.mono e ds _ h2)
end
theorem Rp.up {H H' : Hp} {v : V} {d : D} (h : Rp H v d) (e : Same H H') : Rp H' v d := Rp.mono e d v h
theorem RpL.up {H H' : Hp} {vs : List V} {ds : List D} (h : RpL H vs ds) (e : Same H H') : RpL H' vs ds := RpL.mono e ds vs h
theorem RpT.up {H H' : Hp} {vs : List (List Key × V)} {ds : List (List Key × D)} (h : RpT H vs ds) (e : Same H H') : RpT H' vs ds := RpT.mono e ds vs h
theorem RpK.up {H H' : Hp} {vs : List (Key × V)} {ds : List (Key × D)} (h : RpK H vs ds) (e : Same H H') : RpK H' vs ds := RpK.mono e ds vs h
theorem RpL.length {H : Hp} : ∀ {vs : List V} {ds : List D}, RpL H vs ds → vs.length = ds.length
  | _, _, .nil => rfl
  | _, _, .cons _ t => congrArg Nat.succ (RpL.length t)
theorem RpL.append {H : Hp} : ∀ {vs ws : List V} {ds es : List D}, RpL H vs ds → RpL H ws es → RpL H (vs ++ ws) (ds ++ es)
  | _, _, _, _, .nil, h => h
  | _, _, _, _, .cons h t, h2 => .cons h (RpL.append t h2)
theorem RpL.get {H : Hp} : ∀ {vs : List V} {ds : List D} {i : Nat} {d : D}, RpL H vs ds → ds[i]? = some d → ∃ v, vs[i]? = some v ∧ Rp H v d
  | _, _, _, _, .nil, e => by simp at e
  | _, _, 0, _, .cons h _, e => by simp at e; subst e; exact ⟨_, rfl, h⟩
  | _, _, i + 1, _, .cons _ t, e => by
    obtain ⟨v, h1, h2⟩ := RpL.get (i := i) t (by simpa using e)
    exact ⟨v, by simpa using h1, h2⟩
theorem RpL.get' {H : Hp} : ∀ {vs : List V} {ds : List D} {i : Nat} {v : V}, RpL H vs ds → vs[i]? = some v → ∃ d, ds[i]? = some d ∧ Rp H v d
  | _, _, _, _, .nil, e => by simp at e
  | _, _, 0, _, .cons h _, e => by simp at e; subst e; exact ⟨_, rfl, h⟩
  | _, _, i + 1, _, .cons _ t, e => by
    obtain ⟨v, h1, h2⟩ := RpL.get' (i := i) t (by simpa using e)
    exact ⟨v, by simpa using h1, h2⟩
theorem RpL.take {H : Hp} : ∀ {vs : List V} {ds : List D} (n : Nat), RpL H vs ds → RpL H (vs.take n) (ds.take n)
  | _, _, 0, _ => .nil
  | _, _, _ + 1, .nil => .nil
  | _, _, n + 1, .cons h t => .cons h (RpL.take n t)
theorem RpL.drop {H : Hp} : ∀ {vs : List V} {ds : List D} (n : Nat), RpL H vs ds → RpL H (vs.drop n) (ds.drop n)
  | _, _, 0, h => h
  | _, _, _ + 1, .nil => .nil
  | _, _, n + 1, .cons _ t => RpL.drop n t
theorem RpL.set {H : Hp} {v : V} {d : D} (h : Rp H v d) : ∀ {vs : List V} {ds : List D} (i : Nat), RpL H vs ds → RpL H (vs.set i v) (ds.set i d)
  | _, _, _, .nil => .nil
  | _, _, 0, .cons _ t => .cons h t
  | _, _, i + 1, .cons h2 t => .cons h2 (RpL.set h i t)
theorem RpL.erase {H : Hp} : ∀ {vs : List V} {ds : List D} (i : Nat), RpL H vs ds → RpL H (vs.eraseIdx i) (ds.eraseIdx i)
  | _, _, _, .nil => .nil
  | _, _, 0, .cons _ t => t
  | _, _, i + 1, .cons h2 t => .cons h2 (RpL.erase i t)
theorem RpL.reverse {H : Hp} : ∀ {vs : List V} {ds : List D}, RpL H vs ds → RpL H vs.reverse ds.reverse
  | _, _, .nil => .nil
  | _, _, .cons h t => by
    rw [List.reverse_cons, List.reverse_cons]
    exact RpL.append (RpL.reverse t) (.cons h .nil)
theorem RpL.isEmpty {H : Hp} : ∀ {vs : List V} {ds : List D}, RpL H vs ds → vs.isEmpty = ds.isEmpty
  | _, _, .nil => rfl
  | _, _, .cons _ _ => rfl
/-! ### ints of a list of data -/
def ints? : List D → Option (List Int)
  | [] => some []
  | .int i :: r => (ints? r).map (i :: ·)
  | _ => none
theorem ints_eq : ∀ {ds : List D} {ns : List Int}, ints? ds = some ns → ds = ns.map D.int
  | [], _, h => by cases h; rfl
  | .int i :: r, ns, h => by
    simp only [ints?, Option.map_eq_some_iff] at h
    obtain ⟨ms, h1, rfl⟩ := h
    rw [ints_eq h1]; rfl
  | .none :: _, _, h => by simp [ints?] at h
  | .bool _ :: _, _, h => by simp [ints?] at h
  | .str _ :: _, _, h => by simp [ints?] at h
  | .list _ :: _, _, h => by simp [ints?] at h
  | .tuple _ :: _, _, h => by simp [ints?] at h
  | .ptup _ :: _, _, h => by simp [ints?] at h
  | .dT _ :: _, _, h => by simp [ints?] at h
  | .dK _ :: _, _, h => by simp [ints?] at h
theorem rpl_ints {H : Hp} : ∀ {ns : List Int} {vs : List V}, RpL H vs (ns.map D.int) → vs = ns.map V.int
  | [], _, h => by cases h; rfl
  | n :: ns, _, h => by
    cases h with
    | cons h1 h2 => cases h1; rw [rpl_ints h2]; rfl
theorem ints_rpl {H : Hp} : ∀ (ns : List Int), RpL H (ns.map V.int) (ns.map D.int)
  | [] => .nil
  | n :: ns => .cons (.int n) (ints_rpl ns)
def bools? : List D → Option (List Bool)
  | [] => some []
  | .bool i :: r => (bools? r).map (i :: ·)
  | _ => none
theorem bools_eq : ∀ {ds : List D} {ns : List Bool}, bools? ds = some ns → ds = ns.map D.bool
  | [], _, h => by cases h; rfl
  | .bool i :: r, ns, h => by
    simp only [bools?, Option.map_eq_some_iff] at h
    obtain ⟨ms, h1, rfl⟩ := h
    rw [bools_eq h1]; rfl
  | .none :: _, _, h => by simp [bools?] at h
  | .int _ :: _, _, h => by simp [bools?] at h
  | .str _ :: _, _, h => by simp [bools?] at h
  | .list _ :: _, _, h => by simp [bools?] at h
  | .tuple _ :: _, _, h => by simp [bools?] at h
  | .ptup _ :: _, _, h => by simp [bools?] at h
  | .dT _ :: _, _, h => by simp [bools?] at h
  | .dK _ :: _, _, h => by simp [bools?] at h
theorem rpl_bools {H : Hp} : ∀ {ns : List Bool} {vs : List V}, RpL H vs (ns.map D.bool) → vs = ns.map V.bl
  | [], _, h => by cases h; rfl
  | n :: ns, _, h => by
    cases h with
    | cons h1 h2 => cases h1; rw [rpl_bools h2]; rfl
/-! ### the draws -/
structure DS where
  large : List Int
  rest : Int
  cells : List Int
  turn : Int
def drawKV (l c : Addr) (ds : DS) : List (Key × V) := [(.inr "large", .ref l), (.inr "rest", .int ds.rest), (.inr "cells", .ref c), (.inr "turn", .int ds.turn)]
/-! ### what a slot holds -/
inductive Sl where
  | val (d : D) | own (d : D) | draw | scr (ns : List Int)
abbrev En := List (Option Sl)
/-- an object that may yet change: its parts stay -/
inductive Tp (Hf H : Hp) (a : Addr) : D → Prop
  | lst {vs : List V} {ds : List D} : H a = some (.lst vs) → RpL Hf vs ds → Tp Hf H a (.list ds)
  | dT {kvs : List (List Key × V)} {ds : List (List Key × D)} : H a = some (.dT kvs) → RpT Hf kvs ds → Tp Hf H a (.dT ds)
  | dK {kvs : List (Key × V)} {ds : List (Key × D)} : H a = some (.dK kvs) → RpK Hf kvs ds → Tp Hf H a (.dK ds)
/-- the base of a run: the heap at the entry, what stayed then, the draws' objects -/
structure Bs where
  H0 : Hp
  Hf0 : Hp
  dr : Option (Addr × Addr × Addr)
def Bs.isDr (B : Bs) (a : Addr) : Prop := ∃ x l c, B.dr = some (x, l, c) ∧ (a = x ∨ a = l)
def DrawR (dr : Option (Addr × Addr × Addr)) (ds : DS) (Hf H : Hp) : Prop :=
  ∀ x l c, dr = some (x, l, c) → H x = some (.dK (drawKV l c ds)) ∧ H l = some (.lst (ds.large.map V.int)) ∧ Hf x = none ∧ Hf l = none ∧ Hf c = some (.lst (ds.cells.map V.int))
def SlotR (B : Bs) (K : PySem.W.Frag) (Hf H : Hp) (σ : St) (i : Nat) : Sl → Prop
  | .val d => ∃ v, σ[i]? = some (some v) ∧ Rp Hf v d
  | .own d => ∃ a, σ[i]? = some (some (.ref a)) ∧ Hf a = none ∧ B.H0 a = none ∧ ¬ B.isDr a ∧ Tp Hf H a d
  | .draw => ∃ x l c, B.dr = some (x, l, c) ∧ σ[i]? = some (some (.ref x))
  | .scr ns => ∃ a, σ[i]? = some (some (.ref a)) ∧ (∀ o, B.H0 a = some o → ¬ B.isDr a) ∧ SqL K B.H0 a (ns.map V.int)
/-- a table of code objects may grow, all else stays -/
def Eqv (o o' : HO) : Prop := o' = o ∨ ∃ ps ps', o = .tbl ps ∧ o' = .tbl ps'
theorem Eqv.refl (o : HO) : Eqv o o := .inl rfl
theorem Eqv.trans {o o1 o2 : HO} (a : Eqv o o1) (b : Eqv o1 o2) : Eqv o o2 := by
  rcases a with rfl | ⟨p, p1, rfl, rfl⟩
  · exact b
  · rcases b with rfl | ⟨_, p2, _, rfl⟩
    · exact .inr ⟨_, _, rfl, rfl⟩
    · exact .inr ⟨_, _, rfl, rfl⟩
theorem Eqv.nt {o o' : HO} (a : Eqv o o') (t : ∀ ps, o ≠ .tbl ps) : o' = o := by
  rcases a with h | ⟨p, _, rfl, _⟩
  · exact h
  · exact absurd rfl (t p)
theorem Eqv.bk {o o' : HO} (a : Eqv o o') (t : ∀ ps, o' ≠ .tbl ps) : o = o' := by
  rcases a with h | ⟨_, p, _, rfl⟩
  · exact h.symm
  · exact absurd rfl (t p)
/-- the tables that are well stay well -/
def Tk (H H' : Hp) : Prop := ∀ P, LamX.TabS H P QN → LamX.TabS H' P QN
theorem Tk.refl (H : Hp) : Tk H H := fun _ h => h
theorem Tk.trans {H H1 H2 : Hp} (a : Tk H H1) (b : Tk H1 H2) : Tk H H2 := fun P h => b P (a P h)
theorem Tk.same {H H' : Hp} (e : ∀ b o, H b = some o → H' b = some o) : Tk H H' := fun _ h => h.ext e
theorem Tk.upd {H : Hp} {a : Addr} {o : HO} (h : ∀ u, H a = some u → (∀ ps, u ≠ .tbl ps) ∧ ∀ φ, u ≠ .ext φ) : Tk H (upd H a o) := fun P ⟨ps, h1, h2, h3⟩ => by
  have n1 : P ≠ a := fun z => by
    rw [z] at h1
    exact (h _ h1).1 ps rfl
  refine ⟨ps, by rw [upd_ne n1]; exact h1, h2, fun pos cv hc => ?_⟩
  obtain ⟨c, e1, e2⟩ := h3 pos cv hc
  have n2 : c ≠ a := fun z => by
    rw [z] at e2
    exact (h _ e2).2 _ rfl
  exact ⟨c, e1, by rw [upd_ne n2]; exact e2⟩
theorem Tk.new {H : Hp} {a : Addr} {o : HO} (h : H a = none) : Tk H (L2.upd H a o) := Tk.upd fun u e => by rw [h] at e; cases e
structure SR (B : Bs) (K : PySem.W.Frag) (env : En) (ds : DS) (σ : St) (Hf H : Hp) : Prop where
  sub : Same Hf H
  base : ∀ a o, B.H0 a = some o → ∃ o', H a = some o' ∧ (¬ B.isDr a → Eqv o o')
  fbase : Same B.Hf0 Hf
  fnew : ∀ a, Hf a ≠ none → B.Hf0 a ≠ none ∨ B.H0 a = none ∨ (¬ B.isDr a ∧ ∃ xs, B.H0 a = some (.tup xs))
  slots : ∀ (i : Nat) (s : Sl), env[i]? = some (some s) → SlotR B K Hf H σ i s
  apart : ∀ (i j : Nat) (d e : D) (a : Addr), i ≠ j → env[i]? = some (some (.own d)) → env[j]? = some (some (.own e)) → σ[i]? = some (some (.ref a)) → σ[j]? = some (some (.ref a)) → False
  draw : DrawR B.dr ds Hf H
  len : env.length = σ.length
  tk : Tk B.H0 H
  tab0 : LamX.TabS B.H0 (PTb K) QN
  tabf : Hf (PTb K) = none
/-- what an expression may do: new objects, some of them staying; the draws' objects may change -/
structure Gr (B : Bs) (Hf H Hf' H' : Hp) : Prop where
  hh : ∀ a o, H a = some o → ∃ o', H' a = some o' ∧ (¬ B.isDr a → Eqv o o')
  ff : Same Hf Hf'
  nw : ∀ a, Hf' a ≠ none → Hf a ≠ none ∨ H a = none ∨ (¬ B.isDr a ∧ ∃ xs, H a = some (.tup xs))
  tk : Tk H H'
theorem Gr.refl {B : Bs} {Hf H : Hp} : Gr B Hf H Hf H := ⟨fun _ o e => ⟨o, e, fun _ => .refl o⟩, fun _ _ e => e, fun _ h => .inl h, .refl _⟩
theorem Gr.trans {B : Bs} {Hf H Hf1 H1 Hf2 H2 : Hp} (a : Gr B Hf H Hf1 H1) (b : Gr B Hf1 H1 Hf2 H2) : Gr B Hf H Hf2 H2 where
  hh := fun x o e => by
    obtain ⟨o1, e1, n1⟩ := a.hh x o e
    obtain ⟨o2, e2, n2⟩ := b.hh x o1 e1
    exact ⟨o2, e2, fun n => (n1 n).trans (n2 n)⟩
  tk := a.tk.trans b.tk
  ff := a.ff.trans b.ff
  nw := fun x h => by
    rcases b.nw x h with h1 | h1 | ⟨nd, xs, h1⟩
    · exact a.nw x h1
    · refine .inr (.inl ?_)
      cases q : H x with
      | none => rfl
      | some o =>
        obtain ⟨o1, e1, _⟩ := a.hh x o q
        rw [h1] at e1; cases e1
    · cases q : H x with
      | none => exact .inr (.inl rfl)
      | some o =>
        obtain ⟨o1, e1, n1⟩ := a.hh x o q
        rw [h1] at e1; cases e1
        exact .inr (.inr ⟨nd, xs, by rw [(n1 nd).bk (by intro _ z; cases z)]⟩)
theorem Gr.at {B : Bs} {Hf H Hf' H' : Hp} (g : Gr B Hf H Hf' H') {a : Addr} {o : HO} (e : H a = some o) (n : ¬ B.isDr a) (t : ∀ ps, o ≠ .tbl ps := by intro _ z; cases z) : H' a = some o := by
  obtain ⟨o', e', h⟩ := g.hh a o e
  rw [e', (h n).nt t]
theorem Gr.fresh {B : Bs} {Hf H Hf' H' : Hp} (g : Gr B Hf H Hf' H') {a : Addr} (e : H' a = none) : H a = none := by
  cases q : H a with
  | none => rfl
  | some o =>
    obtain ⟨o', e', _⟩ := g.hh a o q
    rw [e] at e'; cases e'
theorem Gr.noF {B : Bs} {Hf H Hf' H' : Hp} (g : Gr B Hf H Hf' H') {a : Addr} (e : Hf a = none) (n : H a ≠ none) (nt : ∀ xs, H a ≠ some (.tup xs)) : Hf' a = none := by
  cases q : Hf' a with
  | none => rfl
  | some o =>
    rcases g.nw a (by rw [q]; simp) with h | h | ⟨_, xs, h⟩
    · exact absurd e h
    · exact absurd h n
    · exact absurd h (nt xs)
theorem Tp.ne {Hf H : Hp} {a : Addr} {d : D} (t : Tp Hf H a d) : H a ≠ none := by
  cases t with
  | lst h _ => rw [h]; simp
  | dT h _ => rw [h]; simp
  | dK h _ => rw [h]; simp
theorem Tp.nt {Hf H : Hp} {a : Addr} {d : D} (t : Tp Hf H a d) : ∀ xs, H a ≠ some (.tup xs) := fun xs z => by
  cases t with
  | lst h _ => rw [h] at z; cases z
  | dT h _ => rw [h] at z; cases z
  | dK h _ => rw [h] at z; cases z
theorem Tp.nx {Hf H : Hp} {a : Addr} {d : D} (t : Tp Hf H a d) : ∀ u, H a = some u → (∀ ps, u ≠ .tbl ps) ∧ ∀ φ, u ≠ .ext φ := fun u e => by
  cases t with
  | lst h _ => rw [h] at e; cases e; exact ⟨(by intro _ z; cases z), (by intro _ z; cases z)⟩
  | dT h _ => rw [h] at e; cases e; exact ⟨(by intro _ z; cases z), (by intro _ z; cases z)⟩
  | dK h _ => rw [h] at e; cases e; exact ⟨(by intro _ z; cases z), (by intro _ z; cases z)⟩
theorem Tp.up {B : Bs} {Hf H Hf' H' : Hp} {a : Addr} {d : D} (t : Tp Hf H a d) (g : Gr B Hf H Hf' H') (n : ¬ B.isDr a) : Tp Hf' H' a d := by
  cases t with
  | lst h r => exact .lst (g.at h n) (r.up g.ff)
  | dT h r => exact .dT (g.at h n) (r.up g.ff)
  | dK h r => exact .dK (g.at h n) (r.up g.ff)
/-- what may be read: it stays, or an object whose parts stay -/
inductive Rd1 (B : Bs) (Hf H : Hp) : V → D → Prop
  | fz {v : V} {d : D} : Rp Hf v d → Rd1 B Hf H v d
  | tm {a : Addr} {d : D} : Hf a = none → ¬ B.isDr a → Tp Hf H a d → Rd1 B Hf H (.ref a) d
theorem Rd1.up {B : Bs} {Hf H Hf' H' : Hp} {v : V} {d : D} (t : Rd1 B Hf H v d) (g : Gr B Hf H Hf' H') : Rd1 B Hf' H' v d := by
  cases t with
  | fz h => exact .fz (h.up g.ff)
  | tm h n t => exact .tm (g.noF h t.ne t.nt) n (t.up g n)
/-! ### judgements -/
def SE (X : Cx) (e : Expr) (σ : St) (H : Hp) (Q : VK) : Prop := ∀ pins s, Inv X pins σ H s → wpAny (model X.prog X.w) X.A (eval e X.env) (EP X pins σ Q) X.xe s
def STt (X : Cx) (e : Expr) (σ : St) (H : Hp) (Q : Bool → Hp → Prop) : Prop := ∀ pins s, Inv X pins σ H s → wpAny (model X.prog X.w) X.A (isTrue e X.env (eval e X.env)) (TP X pins σ Q) X.xe s
def SW (X : Cx) (e : Expr) (σ : St) (H : Hp) (Q : Bool → Hp → Prop) : Prop := ∀ (whole : Sem Value) pins s, Inv X pins σ H s → wpAny (model X.prog X.w) X.A (isTrue e X.env whole) (TP X pins σ Q) X.xe s
def SA (X : Cx) (es : List Expr) (σ : St) (H : Hp) (Q : List V → Hp → Prop) : Prop := ∀ pos pins s, Inv X pins σ H s → wpAny (model X.prog X.w) X.A (spliced (backTo pos (starEach es X.env))) (AP X pins σ Q) X.xe s
def SS (X : Cx) (st : Stmt) (Dd : Ends) (σ : St) (H : Hp) : Prop := ∀ pins s, Inv X pins σ H s → wpAny (model X.prog X.w) X.A (exec st X.env) (SP X pins Dd) X.xe s
def SSs (X : Cx) (st : List Stmt) (Dd : Ends) (σ : St) (H : Hp) : Prop := ∀ pins s, Inv X pins σ H s → wpAny (model X.prog X.w) X.A (execs st X.env) (SP X pins Dd) X.xe s
theorem pe_se (X : Cx) (e : Expr) : PE X e (SE X e) := ⟨fun pins s σ H Q I h => h pins s I⟩
theorem pt_st (X : Cx) (e : Expr) : PT X e (STt X e) := ⟨fun pins s σ H Q I h => h pins s I⟩
theorem pw_sw (X : Cx) (e : Expr) : PW X e (SW X e) := ⟨fun whole pins s σ H Q I h => h whole pins s I⟩
theorem pa_sa (X : Cx) (es : List Expr) : PA X es (SA X es) := ⟨fun pos pins s σ H Q I h => h pos pins s I⟩
theorem ps_ss (X : Cx) (st : Stmt) : PS X st (SS X st) := ⟨fun pins s σ H Dd I h => h pins s I⟩
theorem pss_ss (X : Cx) (st : List Stmt) : PSs X st (SSs X st) := ⟨fun pins s σ H Dd I h => h pins s I⟩
theorem SE.of {X : Cx} {e : Expr} {t : TE} (p : PE X e t) {σ : St} {H : Hp} {Q : VK} (h : t σ H Q) : SE X e σ H Q := fun pins s I => p.run pins s σ H Q I h
theorem STt.of {X : Cx} {e : Expr} {t : TT} (p : PT X e t) {σ : St} {H : Hp} {Q : Bool → Hp → Prop} (h : t σ H Q) : STt X e σ H Q := fun pins s I => p.run pins s σ H Q I h
theorem SW.of {X : Cx} {e : Expr} {t : TT} (p : PW X e t) {σ : St} {H : Hp} {Q : Bool → Hp → Prop} (h : t σ H Q) : SW X e σ H Q := fun whole pins s I => p.run whole pins s σ H Q I h
theorem SA.of {X : Cx} {es : List Expr} {t : TA} (p : PA X es t) {σ : St} {H : Hp} {Q : List V → Hp → Prop} (h : t σ H Q) : SA X es σ H Q := fun pos pins s I => p.run pos pins s σ H Q I h
theorem SS.of {X : Cx} {st : Stmt} {t : TS} (p : PS X st t) {σ : St} {H : Hp} {Dd : Ends} (h : t Dd σ H) : SS X st Dd σ H := fun pins s I => p.run pins s σ H Dd I h
theorem SSs.of {X : Cx} {st : List Stmt} {t : TS} (p : PSs X st t) {σ : St} {H : Hp} {Dd : Ends} (h : t Dd σ H) : SSs X st Dd σ H := fun pins s I => p.run pins s σ H Dd I h
theorem SE.mono {X : Cx} {e : Expr} {σ : St} {H : Hp} {Q Q' : VK} (h : SE X e σ H Q) (m : ∀ v H', Q v H' → Q' v H') : SE X e σ H Q' := fun pins s I =>
  thn (h pins s I) fun u s' ⟨v, H', I', r, q⟩ => ⟨v, H', I', r, m v H' q⟩
theorem STt.mono {X : Cx} {e : Expr} {σ : St} {H : Hp} {Q Q' : Bool → Hp → Prop} (h : STt X e σ H Q) (m : ∀ v H', Q v H' → Q' v H') : STt X e σ H Q' := fun pins s I =>
  thn (h pins s I) fun u s' ⟨H', I', q⟩ => ⟨H', I', m u H' q⟩
/-! ### denotations -/
abbrev Den := En → DS → Option (D × DS)
abbrev DenT := En → DS → Option (Bool × DS)
abbrev DenA := En → DS → Option (List D × DS)
def bnd {α β : Type} (o : Option (α × DS)) (k : α → DS → Option β) : Option β := match o with
  | none => none
  | some (a, s) => k a s
theorem bnd_eq {α β : Type} {o : Option (α × DS)} {k : α → DS → Option β} {b : β} (h : bnd o k = some b) : ∃ a s, o = some (a, s) ∧ k a s = some b := by
  cases o with
  | none => cases h
  | some p => obtain ⟨a, s⟩ := p; exact ⟨a, s, rfl, h⟩
def op1 {α : Type} (o : Option α) (ds : DS) : Option (α × DS) := match o with
  | none => none
  | some a => some (a, ds)
theorem op1_eq {α : Type} {o : Option α} {ds ds' : DS} {b : α} (h : op1 o ds = some (b, ds')) : o = some b ∧ ds' = ds := by
  cases o with
  | none => cases h
  | some a => cases h; exact ⟨rfl, rfl⟩
/-- what follows a value that stays, a new object, a value that may be read, a test, values -/
def CF (B : Bs) (K : PySem.W.Frag) (env : En) (ds : DS) (σ : St) (Hf H : Hp) (d : D) (Q : VK) : Prop := ∀ v Hf' H', Gr B Hf H Hf' H' → SR B K env ds σ Hf' H' → Rp Hf' v d → Q v H'
def CN (B : Bs) (K : PySem.W.Frag) (env : En) (ds : DS) (σ : St) (Hf H : Hp) (d : D) (Q : VK) : Prop := ∀ a Hf' H', Gr B Hf H Hf' H' → SR B K env ds σ Hf' H' → H a = none → Hf' a = none → Tp Hf' H' a d → Q (.ref a) H'
def CR (B : Bs) (K : PySem.W.Frag) (env : En) (ds : DS) (σ : St) (Hf H : Hp) (d : D) (Q : VK) : Prop := ∀ v Hf' H', Gr B Hf H Hf' H' → SR B K env ds σ Hf' H' → Rd1 B Hf' H' v d → Q v H'
def CT (B : Bs) (K : PySem.W.Frag) (env : En) (ds : DS) (σ : St) (Hf H : Hp) (b : Bool) (Q : Bool → Hp → Prop) : Prop := ∀ Hf' H', Gr B Hf H Hf' H' → SR B K env ds σ Hf' H' → Q b H'
def CA (B : Bs) (K : PySem.W.Frag) (env : En) (ds : DS) (σ : St) (Hf H : Hp) (d : List D) (Q : List V → Hp → Prop) : Prop := ∀ vs Hf' H', Gr B Hf H Hf' H' → SR B K env ds σ Hf' H' → RpL Hf' vs d → Q vs H'
/-- its value stays -/
def EvF (X : Cx) (e : Expr) (f : Den) : Prop := ∀ B env ds σ Hf H d ds', SR B X.K env ds σ Hf H → f env ds = some (d, ds') → ∀ Q : VK, CF B X.K env ds' σ Hf H d Q → SE X e σ H Q
/-- its value is a new object -/
def EvN (X : Cx) (e : Expr) (f : Den) : Prop := ∀ B env ds σ Hf H d ds', SR B X.K env ds σ Hf H → f env ds = some (d, ds') → ∀ Q : VK, CN B X.K env ds' σ Hf H d Q → SE X e σ H Q
/-- its value may be read -/
def EvR (X : Cx) (e : Expr) (f : Den) : Prop := ∀ B env ds σ Hf H d ds', SR B X.K env ds σ Hf H → f env ds = some (d, ds') → ∀ Q : VK, CR B X.K env ds' σ Hf H d Q → SE X e σ H Q
def EvT (X : Cx) (e : Expr) (f : DenT) : Prop := ∀ B env ds σ Hf H d ds', SR B X.K env ds σ Hf H → f env ds = some (d, ds') → ∀ Q : Bool → Hp → Prop, CT B X.K env ds' σ Hf H d Q → STt X e σ H Q
def EvW (X : Cx) (e : Expr) (f : DenT) : Prop := ∀ B env ds σ Hf H d ds', SR B X.K env ds σ Hf H → f env ds = some (d, ds') → ∀ Q : Bool → Hp → Prop, CT B X.K env ds' σ Hf H d Q → SW X e σ H Q
def EvA (X : Cx) (es : List Expr) (f : DenA) : Prop := ∀ B env ds σ Hf H d ds', SR B X.K env ds σ Hf H → f env ds = some (d, ds') → ∀ Q : List V → Hp → Prop, CA B X.K env ds' σ Hf H d Q → SA X es σ H Q
section
variable {B : Bs} {K : PySem.W.Frag} {env : En} {ds ds' : DS} {σ : St} {Hf H Hf1 H1 : Hp} {a : Addr} {o : HO}
theorem CF.step {d : D} {Q : VK} (c : CF B K env ds σ Hf H d Q) (g : Gr B Hf H Hf1 H1) : CF B K env ds σ Hf1 H1 d Q := fun v Hf' H' g' S r => c v Hf' H' (g.trans g') S r
theorem CR.step {d : D} {Q : VK} (c : CR B K env ds σ Hf H d Q) (g : Gr B Hf H Hf1 H1) : CR B K env ds σ Hf1 H1 d Q := fun v Hf' H' g' S r => c v Hf' H' (g.trans g') S r
theorem CN.step {d : D} {Q : VK} (c : CN B K env ds σ Hf H d Q) (g : Gr B Hf H Hf1 H1) : CN B K env ds σ Hf1 H1 d Q := fun a Hf' H' g' S n nf t => c a Hf' H' (g.trans g') S (g.fresh n) nf t
theorem CT.step {d : Bool} {Q : Bool → Hp → Prop} (c : CT B K env ds σ Hf H d Q) (g : Gr B Hf H Hf1 H1) : CT B K env ds σ Hf1 H1 d Q := fun Hf' H' g' S => c Hf' H' (g.trans g') S
theorem CA.step {d : List D} {Q : List V → Hp → Prop} (c : CA B K env ds σ Hf H d Q) (g : Gr B Hf H Hf1 H1) : CA B K env ds σ Hf1 H1 d Q := fun v Hf' H' g' S r => c v Hf' H' (g.trans g') S r
theorem SR.isDr (S : SR B K env ds σ Hf H) (n : B.isDr a) : H a ≠ none ∧ Hf a = none := by
  obtain ⟨x, l, c, e, h⟩ := n
  obtain ⟨h1, h2, h3, h4, _⟩ := S.draw x l c e
  rcases h with rfl | rfl
  · exact ⟨by rw [h1]; simp, h3⟩
  · exact ⟨by rw [h2]; simp, h4⟩
theorem SR.noDr (S : SR B K env ds σ Hf H) (h : H a = none) : ¬ B.isDr a := fun n => (S.isDr n).1 h
theorem SR.noDrF (S : SR B K env ds σ Hf H) (h : Hf a ≠ none) : ¬ B.isDr a := fun n => h (S.isDr n).2
/-- an address that nothing of the run holds -/
structure Fre (B : Bs) (env : En) (σ : St) (a : Addr) : Prop where
  h0 : B.H0 a = none
  nd : ¬ B.isDr a
  no : ∀ (i : Nat) (d : D), env[i]? = some (some (.own d)) → σ[i]? ≠ some (some (.ref a))
theorem SR.fre (S : SR B K env ds σ Hf H) (h : H a = none) : Fre B env σ a where
  h0 := by
    cases q : B.H0 a with
    | none => rfl
    | some o =>
      obtain ⟨o', e, _⟩ := S.base a o q
      rw [h] at e; cases e
  nd := S.noDr h
  no := fun i d e z => by
    obtain ⟨b, e1, _, _, _, t⟩ := S.slots i _ e
    rw [e1] at z
    cases z
    exact t.ne h
/-- an object that nothing holds is laid or changed -/
theorem Tp.hp {d : D} {b : Addr} (t : Tp Hf H b d) (h : b ≠ a) : Tp Hf (upd H a o) b d := by
  cases t with
  | lst h1 r => exact .lst (by rw [upd_ne h]; exact h1) r
  | dT h1 r => exact .dT (by rw [upd_ne h]; exact h1) r
  | dK h1 r => exact .dK (by rw [upd_ne h]; exact h1) r
theorem Tp.fz {d : D} {b : Addr} (t : Tp Hf H b d) (h : Hf a = none) : Tp (upd Hf a o) H b d := by
  have e : Same Hf (upd Hf a o) := fun c x q => by rw [upd_ne (ne_of_none q h)]; exact q
  cases t with
  | lst h1 r => exact .lst h1 (r.up e)
  | dT h1 r => exact .dT h1 (r.up e)
  | dK h1 r => exact .dK h1 (r.up e)
theorem SlotR.hp {K : PySem.W.Frag} {i : Nat} {s : Sl} (h : SlotR B K Hf H σ i s) (no : ∀ (d : D), s = .own d → σ[i]? ≠ some (some (.ref a))) : SlotR B K Hf (upd H a o) σ i s := by
  cases s with
  | val d => exact h
  | own d =>
    obtain ⟨b, e, n1, n2, n3, t⟩ := h
    refine ⟨b, e, n1, n2, n3, t.hp fun z => ?_⟩
    subst z
    exact no d rfl e
  | draw => exact h
  | scr ns => exact h
theorem SlotR.fz {K : PySem.W.Frag} {i : Nat} {s : Sl} (h : SlotR B K Hf H σ i s) (nf : Hf a = none) (no : ∀ (d : D), s = .own d → σ[i]? ≠ some (some (.ref a))) : SlotR B K (upd Hf a o) H σ i s := by
  have e : Same Hf (upd Hf a o) := fun c x q => by rw [upd_ne (ne_of_none q nf)]; exact q
  cases s with
  | val d =>
    obtain ⟨v, e1, r⟩ := h
    exact ⟨v, e1, r.up e⟩
  | own d =>
    obtain ⟨b, e1, n1, n2, n3, t⟩ := h
    refine ⟨b, e1, ?_, n2, n3, t.fz nf⟩
    rw [upd_ne]
    · exact n1
    · intro z; subst z; exact no d rfl e1
  | draw => exact h
  | scr ns => exact h
/-- an object that nothing holds is laid or changed -/
theorem SR.hp (S : SR B K env ds σ Hf H) (nf : Hf a = none) (F : Fre B env σ a) (no : ∀ u, H a = some u → (∀ ps, u ≠ .tbl ps) ∧ ∀ φ, u ≠ .ext φ := by first | (intro u e; simp_all; done) | (intro u e; rw [upd_same] at e; cases e; exact ⟨(by intro _ z; cases z), (by intro _ z; cases z)⟩)) : SR B K env ds σ Hf (upd H a o) where
  sub := fun b x e => by rw [upd_ne (ne_of_none e nf)]; exact S.sub b x e
  base := fun b x e => by
    rw [upd_ne (ne_of_none e F.h0)]; exact S.base b x e
  fbase := S.fbase
  fnew := S.fnew
  slots := fun i s e => (S.slots i s e).hp fun d q => by subst q; exact F.no i d e
  apart := S.apart
  draw := fun x l c e => by
    obtain ⟨h1, h2, h3, h4, h5⟩ := S.draw x l c e
    refine ⟨?_, ?_, h3, h4, h5⟩
    · rw [upd_ne]
      · exact h1
      · intro z; subst z; exact F.nd ⟨_, _, _, e, .inl rfl⟩
    · rw [upd_ne]
      · exact h2
      · intro z; subst z; exact F.nd ⟨_, _, _, e, .inr rfl⟩
  len := S.len
  tk := S.tk.trans (.upd no)
  tab0 := S.tab0
  tabf := S.tabf
/-- an object that nothing holds stays from now on -/
theorem SR.fz (S : SR B K env ds σ Hf H) (nf : Hf a = none) (e : H a = some o) (F : Fre B env σ a) : SR B K env ds σ (upd Hf a o) H where
  sub := fun b x q => by
    by_cases h : b = a
    · subst h; rw [upd_same] at q; cases q; exact e
    · rw [upd_ne h] at q; exact S.sub b x q
  base := S.base
  fbase := fun b x q => by rw [upd_ne (ne_of_none (S.fbase b x q) nf)]; exact S.fbase b x q
  fnew := fun b q => by
    by_cases h : b = a
    · subst h; exact .inr (.inl F.h0)
    · rw [upd_ne h] at q; exact S.fnew b q
  slots := fun i s e => (S.slots i s e).fz nf fun d q => by subst q; exact F.no i d e
  apart := S.apart
  draw := fun x l c ed => by
    obtain ⟨h1, h2, h3, h4, h5⟩ := S.draw x l c ed
    refine ⟨h1, h2, ?_, ?_, ?_⟩
    · rw [upd_ne]
      · exact h3
      · intro z; subst z; exact F.nd ⟨_, _, _, ed, .inl rfl⟩
    · rw [upd_ne]
      · exact h4
      · intro z; subst z; exact F.nd ⟨_, _, _, ed, .inr rfl⟩
    · rw [upd_ne (ne_of_none h5 nf)]; exact h5
  len := S.len
  tk := S.tk
  tab0 := S.tab0
  tabf := by
    rw [upd_ne]
    · exact S.tabf
    · intro z
      obtain ⟨ps, h, _⟩ := S.tab0
      rw [z, F.h0] at h
      cases h
/-- a tuple that stands may stay from now on -/
theorem SR.fzT {xs : List V} (S : SR B K env ds σ Hf H) (nf : Hf a = none) (e : H a = some (.tup xs)) : SR B K env ds σ (upd Hf a (.tup xs)) H := by
  have nd : ¬ B.isDr a := fun n => by
    obtain ⟨x, l, c, ed, h⟩ := n
    obtain ⟨h1, h2, _, _, _⟩ := S.draw x l c ed
    rcases h with rfl | rfl
    · rw [e] at h1; cases h1
    · rw [e] at h2; cases h2
  have no : ∀ (i : Nat) (d : D), env[i]? = some (some (.own d)) → σ[i]? ≠ some (some (.ref a)) := fun i d e1 z => by
    obtain ⟨b, e2, _, _, _, t⟩ := S.slots i _ e1
    rw [e2] at z; cases z
    exact t.nt xs e
  exact {
    sub := fun b x q => by
      by_cases h : b = a
      · subst h; rw [upd_same] at q; cases q; exact e
      · rw [upd_ne h] at q; exact S.sub b x q
    base := S.base
    fbase := fun b x q => by rw [upd_ne (ne_of_none (S.fbase b x q) nf)]; exact S.fbase b x q
    fnew := fun b q => by
      by_cases h : b = a
      · subst h
        cases q0 : B.H0 b with
        | none => exact .inr (.inl rfl)
        | some o =>
          obtain ⟨o', e', n'⟩ := S.base b o q0
          rw [e] at e'; cases e'
          exact .inr (.inr ⟨nd, xs, by rw [(n' nd).bk (by intro _ z; cases z)]⟩)
      · rw [upd_ne h] at q; exact S.fnew b q
    slots := fun i s e => (S.slots i s e).fz nf fun d q => by subst q; exact no i d e
    apart := S.apart
    draw := fun x l c ed => by
      obtain ⟨h1, h2, h3, h4, h5⟩ := S.draw x l c ed
      refine ⟨h1, h2, ?_, ?_, ?_⟩
      · rw [upd_ne]
        · exact h3
        · intro z; subst z; exact nd ⟨_, _, _, ed, .inl rfl⟩
      · rw [upd_ne]
        · exact h4
        · intro z; subst z; exact nd ⟨_, _, _, ed, .inr rfl⟩
      · rw [upd_ne (ne_of_none h5 nf)]; exact h5
    len := S.len
    tk := S.tk
    tab0 := S.tab0
    tabf := by
      rw [upd_ne]
      · exact S.tabf
      · intro z
        obtain ⟨ps, h, _⟩ := S.tk _ S.tab0
        rw [z, e] at h
        cases h }
theorem SR.noDrT {xs : List V} (S : SR B K env ds σ Hf H) (e : H a = some (.tup xs)) : ¬ B.isDr a := fun n => by
  obtain ⟨x, l, c, ed, h⟩ := n
  obtain ⟨h1, h2, _, _, _⟩ := S.draw x l c ed
  rcases h with rfl | rfl
  · rw [e] at h1; cases h1
  · rw [e] at h2; cases h2
theorem Gr.hp (g : Gr B Hf H Hf1 H1) (n : H a = none) (no : ∀ u, H1 a = some u → (∀ ps, u ≠ .tbl ps) ∧ ∀ φ, u ≠ .ext φ := by first | (intro u e; simp_all; done) | (intro u e; rw [upd_same] at e; cases e; exact ⟨(by intro _ z; cases z), (by intro _ z; cases z)⟩)) : Gr B Hf H Hf1 (upd H1 a o) where
  hh := fun b x e => by
    rw [upd_ne (ne_of_none e n)]; exact g.hh b x e
  ff := g.ff
  nw := g.nw
  tk := g.tk.trans (.upd no)
theorem Gr.fz (g : Gr B Hf H Hf1 H1) (n : H a = none) (nf : Hf1 a = none) : Gr B Hf H (upd Hf1 a o) H1 where
  hh := g.hh
  ff := fun b x e => by rw [upd_ne (ne_of_none (g.ff b x e) nf)]; exact g.ff b x e
  nw := fun b q => by
    by_cases h : b = a
    · subst h; exact .inr (.inl n)
    · rw [upd_ne h] at q; exact g.nw b q
  tk := g.tk
theorem upd_self {H : Hp} {a : Addr} {o : HO} (e : H a = some o) : upd H a o = H := by
  funext b
  by_cases h : b = a
  · subst h; rw [upd_same, e]
  · rw [upd_ne h]
theorem sub_none (S : SR B K env ds σ Hf H) (n : H a = none) : Hf a = none := by
  cases q : Hf a with
  | none => rfl
  | some o => rw [S.sub a o q] at n; cases n
theorem same_fz (nf : Hf a = none) : Same Hf (upd Hf a o) := fun c x q => by rw [upd_ne (ne_of_none q nf)]; exact q
/-- a new tuple: it stays -/
theorem CF.tup {d : List D} {vs : List V} {Q : VK} (c : CF B K env ds σ Hf H (.tuple d) Q) (S : SR B K env ds σ Hf H) (r : RpL Hf vs d) : ∀ p, H p = none → Q (.ref p) (upd H p (.tup vs)) := fun p n => by
  have nf := sub_none S n
  have F := S.fre n
  exact c _ _ _ ((Gr.refl.hp n).fz n nf) ((S.hp nf F).fz nf upd_same F) (.tup upd_same (r.up (same_fz nf)))
/-- a new plain tuple: it stays -/
theorem CF.ptup {d : List D} {vs : List V} {o : Obj} {Q : VK} (c : CF B K env ds σ Hf H (.ptup d) Q) (S : SR B K env ds σ Hf H) (r : RpL Hf vs d) (hd : o.dict = none) : ∀ p, H p = none → Q (.ref p) (upd H p (.frz o (.tup vs))) := fun p n => by
  have nf := sub_none S n
  have F := S.fre n
  exact c _ _ _ ((Gr.refl.hp n).fz n nf) ((S.hp nf F).fz nf upd_same F) (.ptup upd_same hd (r.up (same_fz nf)))
/-- a new list -/
theorem CN.lst {d : List D} {vs : List V} {Q : VK} (c : CN B K env ds σ Hf H (.list d) Q) (S : SR B K env ds σ Hf H) (r : RpL Hf vs d) : ∀ p, H p = none → Q (.ref p) (upd H p (.lst vs)) := fun p n => by
  have nf := sub_none S n
  exact c _ _ _ (Gr.refl.hp n) (S.hp nf (S.fre n)) n nf (.lst upd_same r)
theorem CN.dT {d : List (List Key × D)} {vs : List (List Key × V)} {Q : VK} (c : CN B K env ds σ Hf H (.dT d) Q) (S : SR B K env ds σ Hf H) (r : RpT Hf vs d) : ∀ p, H p = none → Q (.ref p) (upd H p (.dT vs)) := fun p n => by
  have nf := sub_none S n
  exact c _ _ _ (Gr.refl.hp n) (S.hp nf (S.fre n)) n nf (.dT upd_same r)
theorem CN.dK {d : List (Key × D)} {vs : List (Key × V)} {Q : VK} (c : CN B K env ds σ Hf H (.dK d) Q) (S : SR B K env ds σ Hf H) (r : RpK Hf vs d) : ∀ p, H p = none → Q (.ref p) (upd H p (.dK vs)) := fun p n => by
  have nf := sub_none S n
  exact c _ _ _ (Gr.refl.hp n) (S.hp nf (S.fre n)) n nf (.dK upd_same r)
theorem CF.now {d : D} {v : V} {Q : VK} (c : CF B K env ds σ Hf H d Q) (S : SR B K env ds σ Hf H) (r : Rp Hf v d) : Q v H := c v Hf H Gr.refl S r
end
section
variable {X : Cx} {e : Expr} {f : Den}
theorem EvF.r (h : EvF X e f) : EvR X e f := fun B env ds σ Hf H d ds' S hf Q q => h B env ds σ Hf H d ds' S hf Q fun v Hf' H' g S' r => q v Hf' H' g S' (.fz r)
theorem EvN.r (h : EvN X e f) : EvR X e f := fun B env ds σ Hf H d ds' S hf Q q => h B env ds σ Hf H d ds' S hf Q fun a Hf' H' g S' n nf t => q _ Hf' H' g S' (.tm nf (S.noDr n) t)
/-- a value's dict is locked for good -/
theorem SE.lock {σ : St} {H : Hp} {Q : VK} (h : SE X e σ H fun v H' => ∃ a u, v = .ref a ∧ H' a = some u ∧ Mut (some u) ∧ ∀ o, Q v (upd H' a (.frz o u))) : SE X e σ H Q := fun pins s I =>
  thn (h pins s I) fun u s' ⟨v, H', I', r, a, u', e, q, m, k⟩ => by
    obtain ⟨o, I2⟩ := I'.lock q m
    exact ⟨v, _, I2, r, k o⟩
/-- a new object stays from now on -/
theorem EvN.toF (h : EvN X e f) : EvF X e f := fun B env ds σ Hf H d ds' S hf Q q => by
  cases d with
  | list xs =>
    refine h B env ds σ Hf H _ ds' S hf Q fun a Hf' H' g S' n nf t => ?_
    cases t with
    | lst h1 r =>
      have F := S.fre n
      exact q _ _ _ (g.fz n nf) (S'.fz nf h1 F) (.lst upd_same (r.up (same_fz nf)))
  | dT xs =>
    refine SE.lock (h B env ds σ Hf H _ ds' S hf _ fun a Hf' H' g S' n nf t => ?_)
    have F := S.fre n
    cases t with
    | dT h1 r =>
      refine ⟨a, _, rfl, h1, True.intro, fun o => ?_⟩
      exact q _ _ _ ((g.hp n).fz n nf) ((S'.hp nf F).fz nf upd_same F) (.dT upd_same (r.up (same_fz nf)))
  | dK xs =>
    refine SE.lock (h B env ds σ Hf H _ ds' S hf _ fun a Hf' H' g S' n nf t => ?_)
    have F := S.fre n
    cases t with
    | dK h1 r =>
      refine ⟨a, _, rfl, h1, True.intro, fun o => ?_⟩
      exact q _ _ _ ((g.hp n).fz n nf) ((S'.hp nf F).fz nf upd_same F) (.dK upd_same (r.up (same_fz nf)))
  | _ => exact h B env ds σ Hf H _ ds' S hf Q fun a Hf' H' g S' n nf t => nomatch t
end
end L2.Dn
set_option Elab.async false
set_option linter.all false
set_option maxRecDepth 100000
namespace L2.Dn
open PySem PySem.Spec PyProof.Rows
section
variable {B : Bs} {K : PySem.W.Frag} {env : En} {ds ds' : DS} {σ : St} {Hf H Hf1 H1 : Hp} {a : Addr} {o : HO} {v : V}
theorem Rd1.int {i : Int} (r : Rd1 B Hf H v (.int i)) : v = .int i := by
  cases r with
  | fz h => cases h; rfl
  | tm _ _ t => cases t
theorem Rd1.bl {i : Bool} (r : Rd1 B Hf H v (.bool i)) : v = .bl i := by
  cases r with
  | fz h => cases h; rfl
  | tm _ _ t => cases t
theorem Rd1.non (r : Rd1 B Hf H v .none) : v = .non := by
  cases r with
  | fz h => cases h; rfl
  | tm _ _ t => cases t
theorem Rd1.str {i : Str} (r : Rd1 B Hf H v (.str i)) : v = .str i := by
  cases r with
  | fz h => cases h; rfl
  | tm _ _ t => cases t
theorem Rd1.tup {d : List D} (r : Rd1 B Hf H v (.tuple d)) : ∃ a vs, v = .ref a ∧ Hf a = some (.tup vs) ∧ RpL Hf vs d := by
  cases r with
  | fz h => cases h with
    | tup h r => exact ⟨_, _, rfl, h, r⟩
  | tm _ _ t => cases t
theorem Rd1.ptup {d : List D} (r : Rd1 B Hf H v (.ptup d)) : ∃ a vs o, v = .ref a ∧ Hf a = some (.frz o (.tup vs)) ∧ o.dict = none ∧ RpL Hf vs d := by
  cases r with
  | fz h => cases h with
    | ptup h1 hd h2 => exact ⟨_, _, _, rfl, h1, hd, h2⟩
  | tm _ _ t => cases t
theorem Rd1.lst {d : List D} (s : Same Hf H) (r : Rd1 B Hf H v (.list d)) : ∃ a vs, v = .ref a ∧ H a = some (.lst vs) ∧ RpL Hf vs d := by
  cases r with
  | fz h => cases h with
    | lst h r => exact ⟨_, _, rfl, s _ _ h, r⟩
  | tm _ _ t => cases t with
    | lst h r => exact ⟨_, _, rfl, h, r⟩
theorem Rd1.dT {d : List (List Key × D)} (s : Same Hf H) (r : Rd1 B Hf H v (.dT d)) : ∃ a kvs, v = .ref a ∧ Rd H a (.dT kvs) ∧ RpT Hf kvs d := by
  cases r with
  | fz h => cases h with
    | dT h r => exact ⟨_, _, rfl, .inr ⟨_, s _ _ h⟩, r⟩
  | tm _ _ t => cases t with
    | dT h r => exact ⟨_, _, rfl, .inl h, r⟩
theorem Rd1.dK {d : List (Key × D)} (s : Same Hf H) (r : Rd1 B Hf H v (.dK d)) : ∃ a kvs, v = .ref a ∧ Rd H a (.dK kvs) ∧ RpK Hf kvs d := by
  cases r with
  | fz h => cases h with
    | dK h r => exact ⟨_, _, rfl, .inr ⟨_, s _ _ h⟩, r⟩
  | tm _ _ t => cases t with
    | dK h r => exact ⟨_, _, rfl, .inl h, r⟩
end
/-! ### equality of data without dicts -/
mutual
def toPy : D → PyData
  | .none => .none
  | .bool b => .bool b
  | .int i => .int i
  | .str x => .str x
  | .list xs => .list (toPyL xs)
  | .tuple xs => .tuple (toPyL xs)
  | .ptup xs => .tuple (toPyL xs)
  | .dT _ => .dict []
  | .dK _ => .dict []
def toPyL : List D → List PyData
  | [] => []
  | x :: xs => toPy x :: toPyL xs
end
/-- no dict, no text, at most so deep -/
def eqOk : Nat → D → Bool
  | _, .none => true
  | _, .bool _ => true
  | _, .int _ => true
  | n + 1, .list xs => xs.all (eqOk n)
  | n + 1, .tuple xs => xs.all (eqOk n)
  | n + 1, .ptup xs => xs.all (eqOk n)
  | _, _ => false
def all2 (p : D → D → Bool) : List D → List D → Bool
  | [], [] => true
  | x :: xs, y :: ys => p x y && all2 p xs ys
  | _, _ => false
def deq : Nat → D → D → Bool
  | _, .none, .none => true
  | _, .bool a, .bool b => a == b
  | _, .bool a, .int j => decide ((if a then 1 else 0) = j)
  | _, .int i, .bool b => decide (i = (if b then 1 else 0))
  | _, .int i, .int j => decide (i = j)
  | n + 1, .list xs, .list ys => all2 (deq n) xs ys
  | n + 1, .tuple xs, .tuple ys => all2 (deq n) xs ys
  | n + 1, .ptup xs, .tuple ys => all2 (deq n) xs ys
  | n + 1, .tuple xs, .ptup ys => all2 (deq n) xs ys
  | n + 1, .ptup xs, .ptup ys => all2 (deq n) xs ys
  | _, _, _ => false
theorem eqOk_lay : ∀ (n : Nat) (d : D), eqOk n d = true → (toPy d).canLay0 = true ∧ (toPy d).depth ≤ n
  | n, .none, _ => by simp [toPy, PyData.canLay0, PyData.depth]
  | n, .bool _, _ => by simp [toPy, PyData.canLay0, PyData.depth]
  | n, .int _, _ => by simp [toPy, PyData.canLay0, PyData.depth]
  | 0, .list _, h => by simp [eqOk] at h
  | 0, .tuple _, h => by simp [eqOk] at h
  | 0, .ptup _, h => by simp [eqOk] at h
  | n + 1, .list xs, h => by
    have l : ∀ ys : List D, (∀ y ∈ ys, eqOk n y = true) → PyData.canLayAll0 (toPyL ys) = true ∧ PyData.depthAll (toPyL ys) ≤ n := by
      intro ys
      induction ys with
      | nil => intro _; simp [toPyL, PyData.canLayAll0, PyData.depthAll]
      | cons y ys ih =>
        intro hy
        have h1 := eqOk_lay n y (hy y (List.mem_cons_self ..))
        have h2 := ih fun z hz => hy z (List.mem_cons_of_mem _ hz)
        simp only [toPyL, PyData.canLayAll0, PyData.depthAll, h1.1, h2.1, Bool.and_self, true_and]
        omega
    have := l xs (by simpa [eqOk] using h)
    simp only [toPy, PyData.canLay0, PyData.depth]
    exact ⟨this.1, by omega⟩
  | n + 1, .tuple xs, h => by
    have l : ∀ ys : List D, (∀ y ∈ ys, eqOk n y = true) → PyData.canLayAll0 (toPyL ys) = true ∧ PyData.depthAll (toPyL ys) ≤ n := by
      intro ys
      induction ys with
      | nil => intro _; simp [toPyL, PyData.canLayAll0, PyData.depthAll]
      | cons y ys ih =>
        intro hy
        have h1 := eqOk_lay n y (hy y (List.mem_cons_self ..))
        have h2 := ih fun z hz => hy z (List.mem_cons_of_mem _ hz)
        simp only [toPyL, PyData.canLayAll0, PyData.depthAll, h1.1, h2.1, Bool.and_self, true_and]
        omega
    have := l xs (by simpa [eqOk] using h)
    simp only [toPy, PyData.canLay0, PyData.depth]
    exact ⟨this.1, by omega⟩
  | n + 1, .ptup xs, h => by
    have l : ∀ ys : List D, (∀ y ∈ ys, eqOk n y = true) → PyData.canLayAll0 (toPyL ys) = true ∧ PyData.depthAll (toPyL ys) ≤ n := by
      intro ys
      induction ys with
      | nil => intro _; simp [toPyL, PyData.canLayAll0, PyData.depthAll]
      | cons y ys ih =>
        intro hy
        have h1 := eqOk_lay n y (hy y (List.mem_cons_self ..))
        have h2 := ih fun z hz => hy z (List.mem_cons_of_mem _ hz)
        simp only [toPyL, PyData.canLayAll0, PyData.depthAll, h1.1, h2.1, Bool.and_self, true_and]
        omega
    have := l xs (by simpa [eqOk] using h)
    simp only [toPy, PyData.canLay0, PyData.depth]
    exact ⟨this.1, by omega⟩
  | n, .str _, h => by cases n <;> simp [eqOk] at h
  | n, .dT _, h => by cases n <;> simp [eqOk] at h
  | n, .dK _, h => by cases n <;> simp [eqOk] at h
theorem eqOk_shaped {n : Nat} {d : D} (hn : n ≤ 60) (h : eqOk n d = true) : SeqAt.shaped (toPy d) = true := by
  obtain ⟨h1, h2⟩ := eqOk_lay n d h
  show ((toPy d).canLay0 && decide ((toPy d).depth ≤ 64)) = true
  rw [Bool.and_eq_true]
  exact ⟨h1, decide_eq_true (by omega)⟩
theorem deq_eqv : ∀ (n : Nat) (d e : D), eqOk n d = true → eqOk n e = true → PyData.eqv (toPy d) (toPy e) = deq n d e := by
  intro n
  induction n with
  | zero =>
    intro d e h1 h2
    cases d <;> first
      | (simp [eqOk] at h1; done)
      | (cases e <;> first
          | (simp [eqOk] at h2; done)
          | (simp [toPy, PyData.eqv, deq]; done)
          | (simp only [toPy, PyData.eqv, deq]; first | rfl | (rw [Bool.beq_eq_decide_eq])))
  | succ n ih =>
    have l : ∀ xs ys : List D, (∀ y ∈ xs, eqOk n y = true) → (∀ y ∈ ys, eqOk n y = true) → PyData.eqvAll (toPyL xs) (toPyL ys) = all2 (deq n) xs ys := by
      intro xs
      induction xs with
      | nil => intro ys _ _; cases ys <;> simp [toPyL, PyData.eqvAll, all2]
      | cons x xs ihx =>
        intro ys hx hy
        cases ys with
        | nil => simp [toPyL, PyData.eqvAll, all2]
        | cons y ys =>
          simp only [toPyL, PyData.eqvAll, all2]
          rw [ih x y (hx x (List.mem_cons_self ..)) (hy y (List.mem_cons_self ..)), ihx ys (fun z hz => hx z (List.mem_cons_of_mem _ hz)) fun z hz => hy z (List.mem_cons_of_mem _ hz)]
    intro d e h1 h2
    cases d <;> first
      | (simp [eqOk] at h1; done)
      | (cases e <;> first
          | (simp [eqOk] at h2; done)
          | (simp only [toPy, PyData.eqv, deq]; exact l _ _ (by simpa [eqOk] using h1) (by simpa [eqOk] using h2))
          | (simp [toPy, PyData.eqv, deq]; done)
          | (simp only [toPy, PyData.eqv, deq]; first | rfl | (rw [Bool.beq_eq_decide_eq])))
mutual
theorem Rp.dp {K : PySem.W.Frag} {Hf H : Hp} (s : Same Hf H) : ∀ (d : D) (v : V), (toPy d).canLay0 = true → Rp Hf v d → Dp K H v (toPy d)
  | .none, _, _, h => by cases h; exact .non
  | .bool b, _, _, h => by cases h; exact .bl b
  | .int i, _, _, h => by cases h; exact .int i
  | .str x, _, _, h => by cases h; exact .str x
  | .list ds, _, c, h => by
    cases h with
    | lst h1 h2 => exact .lst (.inl (.inl (s _ _ h1))) (RpL.dp s ds _ (by simpa only [toPy, PyData.canLay0] using c) h2)
  | .tuple ds, _, c, h => by
    cases h with
    | tup h1 h2 => exact .tup (.inl (.inl (s _ _ h1))) (RpL.dp s ds _ (by simpa only [toPy, PyData.canLay0] using c) h2)
  | .ptup ds, _, c, h => by
    cases h with
    | ptup h1 hd h2 => exact .tup (.inl (.inr ⟨_, s _ _ h1⟩)) (RpL.dp s ds _ (by simpa only [toPy, PyData.canLay0] using c) h2)
  | .dT ds, _, c, h => by simp only [toPy, PyData.canLay0] at c; cases c
  | .dK ds, _, c, h => by simp only [toPy, PyData.canLay0] at c; cases c
theorem RpL.dp {K : PySem.W.Frag} {Hf H : Hp} (s : Same Hf H) : ∀ (ds : List D) (vs : List V), PyData.canLayAll0 (toPyL ds) = true → RpL Hf vs ds → DpAll K H vs (toPyL ds)
  | [], _, _, h => by cases h; exact .nil
  | d :: ds, _, c, h => by
    cases h with
    | cons h1 h2 =>
      simp only [toPyL, PyData.canLayAll0, Bool.and_eq_true] at c
      exact .cons (Rp.dp s d _ c.1 h1) (RpL.dp s ds _ c.2 h2)
end
theorem Rd1.dp {B : Bs} {K : PySem.W.Frag} {Hf H : Hp} {v : V} {d : D} (s : Same Hf H) (c : (toPy d).canLay0 = true) (r : Rd1 B Hf H v d) : Dp K H v (toPy d) := by
  cases r with
  | fz h => exact h.dp s _ _ c
  | tm _ _ t => cases t with
    | lst h r => exact .lst (.inl (.inl h)) (RpL.dp s _ _ (by simpa only [toPy, PyData.canLay0] using c) r)
    | dT h r => simp only [toPy, PyData.canLay0] at c; cases c
    | dK h r => simp only [toPy, PyData.canLay0] at c; cases c
/-! ### names, constants -/
def dVar (i : Nat) : Den := fun env ds => match env[i]? with
  | some (some (.val d)) => some (d, ds)
  | _ => none
def dRd (i : Nat) : Den := fun env ds => match env[i]? with
  | some (some (.val d)) => some (d, ds)
  | some (some (.own d)) => some (d, ds)
  | _ => none
def dC (d : D) : Den := fun _ ds => some (d, ds)
theorem dVar_eq {i : Nat} {env : En} {ds ds' : DS} {d : D} (h : dVar i env ds = some (d, ds')) : env[i]? = some (some (.val d)) ∧ ds' = ds := by
  unfold dVar at h
  split at h
  · rename_i e; cases h; exact ⟨e, rfl⟩
  · cases h
section
variable {X : Cx} {pos : Pos}
theorem evf_var (i : Nat) {x : Str} (hN : X.N[i]? = some x := by rfl) (hv : Vis X.env.scope x := by first | exact Or.inl rfl | exact Or.inr (Or.inl rfl) | exact Or.inr (Or.inr rfl)) (hd : (x == ("__debug__" : Str)) = false := by decide)
    (hcd : (x == ("__classdict__" : Str)) = false := by decide) : EvF X (.Name x pos) (dVar i) := fun B env ds σ Hf H d ds' S hf Q q => by
  obtain ⟨e, rfl⟩ := dVar_eq hf
  obtain ⟨v, e2, r⟩ := S.slots i _ e
  exact SE.of (pe_var hN hv hd hcd) ⟨v, e2, q.now S r⟩
theorem evr_var (i : Nat) {x : Str} (hN : X.N[i]? = some x := by rfl) (hv : Vis X.env.scope x := by first | exact Or.inl rfl | exact Or.inr (Or.inl rfl) | exact Or.inr (Or.inr rfl)) (hd : (x == ("__debug__" : Str)) = false := by decide)
    (hcd : (x == ("__classdict__" : Str)) = false := by decide) : EvR X (.Name x pos) (dRd i) := fun B env ds σ Hf H d ds' S hf Q q => by
  unfold dRd at hf
  split at hf
  · rename_i e
    cases hf
    obtain ⟨v, e2, r⟩ := S.slots i _ e
    exact SE.of (pe_var hN hv hd hcd) ⟨v, e2, q v Hf H Gr.refl S (.fz r)⟩
  · rename_i e
    cases hf
    obtain ⟨a, e2, n1, n2, n3, t⟩ := S.slots i _ e
    exact SE.of (pe_var hN hv hd hcd) ⟨_, e2, q _ Hf H Gr.refl S (.tm n1 n3 t)⟩
  · cases hf
theorem evf_int {i : Int} {j : Nat} : EvF X (.Constant (.int i) j pos) (dC (.int i)) := fun B env ds σ Hf H d ds' S hf Q q => by
  cases hf
  exact SE.of pe_int (q.now S (.int i))
theorem evf_bl {b : Bool} {j : Nat} : EvF X (.Constant (.bool b) j pos) (dC (.bool b)) := fun B env ds σ Hf H d ds' S hf Q q => by
  cases hf
  exact SE.of pe_bl (q.now S (.bl b))
theorem evf_non {j : Nat} : EvF X (.Constant .none j pos) (dC .none) := fun B env ds σ Hf H d ds' S hf Q q => by
  cases hf
  exact SE.of pe_non (q.now S .non)
theorem evf_str {x : Str} {j : Nat} : EvF X (.Constant (.str x) j pos) (dC (.str x)) := fun B env ds σ Hf H d ds' S hf Q q => by
  cases hf
  exact SE.of pe_str (q.now S (.str x))
theorem evf_glob {x : Str} {n : Int} (hm : ∃ t, X.mg x = some (.int n t)) (hg : Gl X x := by rfl) (hd : (x == ("__debug__" : Str)) = false := by decide) : EvF X (.Name x pos) (dC (.int n)) := fun B env ds σ Hf H d ds' S hf Q q => by
  cases hf
  obtain ⟨t, hm⟩ := hm
  exact SE.of (pe_glob (v := .int n) hg hm ⟨t, rfl⟩ hd) (q.now S (.int n))
end
/-! ### two operands -/
def d1 (g : D → Option D) (f : Den) : Den := fun env ds => bnd (f env ds) fun a s => op1 (g a) s
def d2 (g : D → D → Option D) (f h : Den) : Den := fun env ds => bnd (f env ds) fun a s => bnd (h env s) fun b s' => op1 (g a b) s'
def R2F (X : Cx) (r : R2) (g : D → D → Option D) : Prop := ∀ B env ds σ Hf H d1 d2 d x y Q, SR B X.K env ds σ Hf H → Rd1 B Hf H x d1 → Rd1 B Hf H y d2 → g d1 d2 = some d → CF B X.K env ds σ Hf H d Q → r x y H Q
def R2N (X : Cx) (r : R2) (g : D → D → Option D) : Prop := ∀ B env ds σ Hf H d1 d2 d x y Q, SR B X.K env ds σ Hf H → Rd1 B Hf H x d1 → Rd1 B Hf H y d2 → g d1 d2 = some d → CN B X.K env ds σ Hf H d Q → r x y H Q
section
variable {X : Cx} {a b c : Expr} {pos : Pos} {f h k : Den} {r : R2} {g : D → D → Option D}
theorem ev2 (ha : EvR X a f) (hb : EvR X b h) {B env ds σ Hf H d ds'} {Q : VK} (S : SR B X.K env ds σ Hf H) (e : d2 g f h env ds = some (d, ds'))
    (q : ∀ d1 d2 x y Hf' H', Gr B Hf H Hf' H' → SR B X.K env ds' σ Hf' H' → Rd1 B Hf' H' x d1 → Rd1 B Hf' H' y d2 → g d1 d2 = some d → r x y H' Q) : tOp r (SE X a) (SE X b) σ H Q := by
  obtain ⟨v1, s1, e1, e⟩ := bnd_eq e
  obtain ⟨v2, s2, e2, e⟩ := bnd_eq e
  obtain ⟨e3, rfl⟩ := op1_eq e
  refine ha B env ds σ Hf H _ _ S e1 _ fun x Hf1 H1 g1 S1 r1 => ?_
  refine hb B env s1 σ Hf1 H1 _ _ S1 e2 _ fun y Hf2 H2 g2 S2 r2 => ?_
  exact q _ _ _ _ _ _ (g1.trans g2) S2 (r1.up g2) r2 e3
theorem evf_op {op : Operator} (ho : OpR X (binaryOp op) r) (hr : R2F X r g) (ha : EvR X a f) (hb : EvR X b h) : EvF X (.BinOp a op b pos) (d2 g f h) := fun B env ds σ Hf H d ds' S hf Q q =>
  SE.of (pe_op ho (pe_se X a) (pe_se X b)) (ev2 ha hb S hf fun d1 d2 x y Hf' H' gr S' r1 r2 e => hr _ _ _ _ _ _ _ _ _ _ _ _ S' r1 r2 e (q.step gr))
theorem evn_op {op : Operator} (ho : OpR X (binaryOp op) r) (hr : R2N X r g) (ha : EvR X a f) (hb : EvR X b h) : EvN X (.BinOp a op b pos) (d2 g f h) := fun B env ds σ Hf H d ds' S hf Q q =>
  SE.of (pe_op ho (pe_se X a) (pe_se X b)) (ev2 ha hb S hf fun d1 d2 x y Hf' H' gr S' r1 r2 e => hr _ _ _ _ _ _ _ _ _ _ _ _ S' r1 r2 e (q.step gr))
theorem evf_cmp {op : CmpOp} (ho : OpR X (compareOp op) r) (hr : R2F X r g) (ha : EvR X a f) (hb : EvR X b h) (hm : behindInMarks op b = false) : EvF X (.Compare a [op] [b] pos) (d2 g f h) := fun B env ds σ Hf H d ds' S hf Q q =>
  SE.of (pe_cmpR ho (pe_se X a) (pe_se X b) hm) (ev2 ha hb S hf fun d1 d2 x y Hf' H' gr S' r1 r2 e => hr _ _ _ _ _ _ _ _ _ _ _ _ S' r1 r2 e (q.step gr))
/-- a bool for a test -/
def asB : D → Option Bool
  | .bool b => some b
  | _ => none
def dTest (f : Den) : DenT := fun env ds => bnd (f env ds) fun a s => op1 (asB a) s
theorem asB_eq {d : D} {b : Bool} (h : asB d = some b) : d = .bool b := by
  cases d <;> first | (cases h; rfl) | cases h
theorem dTest_eq {f : Den} {env ds ds'} {b : Bool} (h : dTest f env ds = some (b, ds')) : f env ds = some (.bool b, ds') := by
  obtain ⟨v, s, e1, e⟩ := bnd_eq h
  obtain ⟨e2, rfl⟩ := op1_eq e
  rw [asB_eq e2] at e1
  exact e1
theorem evt_cmp {op : CmpOp} (ho : OpR X (compareOp op) r) (hr : R2F X r g) (ha : EvR X a f) (hb : EvR X b h) (hm : behindInMarks op b = false) : EvT X (.Compare a [op] [b] pos) (dTest (d2 g f h)) := fun B env ds σ Hf H d ds' S hf Q q =>
  STt.of (pt_cmpR ho (pe_se X a) (pe_se X b) hm) (ev2 ha hb S (dTest_eq hf) fun d1 d2 x y Hf' H' gr S' r1 r2 e => hr _ _ _ _ _ _ _ _ _ _ _ _ S' r1 r2 e fun v Hf2 H2 g2 S2 rv => by
    cases rv
    exact ⟨_, rfl, q _ _ (gr.trans g2) S2⟩)
/-- a op b op c -/
def d3 (g g' : D → D → Option D) (f h k : Den) : Den := fun env ds => bnd (f env ds) fun a s => bnd (h env s) fun b s1 => match g a b with
  | some (.bool true) => bnd (k env s1) fun c s2 => op1 (g' b c) s2
  | some (.bool false) => some (.bool false, s1)
  | _ => none
theorem ev3 {r' : R2} {g' : D → D → Option D} (hr : R2F X r g) (hr' : R2F X r' g') (ha : EvR X a f) (hb : EvR X b h) (hc : EvR X c k) {B env ds σ Hf H d ds'} {Q : VK} (S : SR B X.K env ds σ Hf H) (e : d3 g g' f h k env ds = some (d, ds'))
    (q : CF B X.K env ds' σ Hf H d Q) : tChain r r' (SE X a) (SE X b) (SE X c) σ H Q := by
  obtain ⟨v1, s1, e1, e⟩ := bnd_eq e
  obtain ⟨v2, s2, e2, e⟩ := bnd_eq e
  refine ha B env ds σ Hf H _ _ S e1 _ fun x Hf1 H1 g1 S1 r1 => ?_
  refine hb B env s1 σ Hf1 H1 _ _ S1 e2 _ fun y Hf2 H2 g2 S2 r2 => ?_
  cases hg : g v1 v2 with
  | none => rw [hg] at e; cases e
  | some z =>
    rw [hg] at e
    refine hr _ _ _ _ _ _ _ _ _ _ _ _ S2 (r1.up g2) r2 hg fun v Hf3 H3 g3 S3 rv => ?_
    cases z with
    | bool t =>
      cases rv
      refine ⟨t, rfl, ?_⟩
      cases t with
      | true =>
        rw [if_pos rfl]
        obtain ⟨v3, s3, e3, e⟩ := bnd_eq e
        obtain ⟨e4, rfl⟩ := op1_eq e
        refine hc B env s2 σ Hf3 H3 _ _ S3 e3 _ fun w Hf4 H4 g4 S4 r4 => ?_
        exact hr' _ _ _ _ _ _ _ _ _ _ _ _ S4 ((r2.up g3).up g4) r4 e4 (q.step (((g1.trans g2).trans g3).trans g4))
      | false =>
        rw [if_neg Bool.false_ne_true]
        cases e
        exact q _ _ _ ((g1.trans g2).trans g3) S3 (.bl false)
    | _ => cases e
theorem evf_chain {op op' : CmpOp} {r' : R2} {g' : D → D → Option D} (ho : OpR X (compareOp op) r) (ho' : OpR X (compareOp op') r') (hr : R2F X r g) (hr' : R2F X r' g') (ha : EvR X a f) (hb : EvR X b h) (hc : EvR X c k) (hm : lastMarks [op, op'] [b, c] = false) :
    EvF X (.Compare a [op, op'] [b, c] pos) (d3 g g' f h k) := fun B env ds σ Hf H d ds' S hf Q q =>
  SE.of (pe_chain ho ho' (pe_se X a) (pe_se X b) (pe_se X c) hm) (ev3 hr hr' ha hb hc S hf q)
theorem evt_chain {op op' : CmpOp} {r' : R2} {g' : D → D → Option D} (ho : OpR X (compareOp op) r) (ho' : OpR X (compareOp op') r') (hr : R2F X r g) (hr' : R2F X r' g') (ha : EvR X a f) (hb : EvR X b h) (hc : EvR X c k) (hm : lastMarks [op, op'] [b, c] = false) :
    EvT X (.Compare a [op, op'] [b, c] pos) (dTest (d3 g g' f h k)) := fun B env ds σ Hf H d ds' S hf Q q =>
  STt.of (pt_chain ho ho' (pe_se X a) (pe_se X b) (pe_se X c) hm) (ev3 hr hr' ha hb hc S (dTest_eq hf) fun v Hf' H' gr S' rv => by
    cases rv
    exact ⟨_, rfl, q _ _ gr S'⟩)
end
/-! ### the operators -/
def gAdd : D → D → Option D
  | .int i, .int j => some (.int (i + j))
  | .tuple xs, .tuple ys => if xs.length + ys.length ≤ 100000 then some (.tuple (xs ++ ys)) else none
  | _, _ => none
def gCat : D → D → Option D
  | .list xs, .list ys => if xs.length + ys.length ≤ 100000 then some (.list (xs ++ ys)) else none
  | _, _ => none
def gRep : D → D → Option D
  | .list xs, .int k => if 0 ≤ k ∧ k < 1000 ∧ xs.length ≤ 1000 then some (.list (List.replicate k.toNat xs).flatten) else none
  | _, _ => none
def gSub : D → D → Option D
  | .int i, .int j => some (.int (i - j))
  | _, _ => none
def gMul : D → D → Option D
  | .int i, .int j => if (-(2 ^ 64) < i ∧ i < 2 ^ 64) ∨ (-(2 ^ 64) < j ∧ j < 2 ^ 64) then some (.int (i * j)) else none
  | _, _ => none
def gDiv : D → D → Option D
  | .int i, .int j => if 0 < j ∧ j < 2 ^ 80 then some (.int (i / j)) else none
  | _, _ => none
def gMod : D → D → Option D
  | .int i, .int j => if 0 < j then some (.int (i % j)) else none
  | _, _ => none
def gCmp (p : Int → Int → Bool) : D → D → Option D
  | .int i, .int j => some (.bool (p i j))
  | _, _ => none
abbrev gLt := gCmp fun i j => decide (i < j)
abbrev gLe := gCmp fun i j => decide (i ≤ j)
abbrev gGt := gCmp fun i j => decide (j < i)
abbrev gGe := gCmp fun i j => decide (j ≤ i)
def gEqD : D → D → Option D := fun x y => if eqOk 8 x && eqOk 8 y then some (.bool (deq 8 x y)) else none
def gNeD : D → D → Option D := fun x y => if eqOk 8 x && eqOk 8 y then some (.bool (!deq 8 x y)) else none
def gIn : D → D → Option D
  | x, .list ys => if eqOk 8 x && ys.all (eqOk 8) then some (.bool (ys.any fun z => deq 8 z x)) else none
  | _, _ => none
def gNotIn : D → D → Option D
  | x, .list ys => if eqOk 8 x && ys.all (eqOk 8) then some (.bool (!ys.any fun z => deq 8 z x)) else none
  | _, _ => none
def gIsN : D → D → Option D
  | .none, .none => some (.bool true)
  | .bool _, .none | .int _, .none | .str _, .none | .list _, .none | .tuple _, .none | .ptup _, .none | .dT _, .none | .dK _, .none => some (.bool false)
  | _, _ => none
def gNotN : D → D → Option D
  | .none, .none => some (.bool false)
  | .bool _, .none | .int _, .none | .str _, .none | .list _, .none | .tuple _, .none | .ptup _, .none | .dT _, .none | .dK _, .none => some (.bool true)
  | _, _ => none
theorem sz_ok {n : Nat} (h : n ≤ 100000) : n ≤ sizeLine := Nat.le_trans h (by rw [sizeLine_eq]; decide)
section
variable {X : Cx}
def rAddA (K : PySem.W.Frag) : R2 := fun x y H Q => rI0 (fun i j => .int (i + j)) x y H Q ∨ rCatA K x y H Q
theorem op_addA : OpR X (binaryOp .Add) (rAddA X.K) := OpR.or op_add op_catA
theorem r2_add : R2F X (rAddA X.K) gAdd := fun B env ds σ Hf H d1 d2 d x y Q S r1 r2 e q => by
  unfold gAdd at e
  split at e
  · cases e
    cases r1.int; cases r2.int
    exact .inl ⟨_, _, rfl, rfl, q.now S (.int _)⟩
  · split at e
    · rename_i hz
      cases e
      obtain ⟨a, vs, rfl, h1, t1⟩ := r1.tup
      obtain ⟨b, ws, rfl, h2, t2⟩ := r2.tup
      have l1 := t1.length
      have l2 := t2.length
      refine .inr ⟨a, b, vs, ws, rfl, rfl, .inl (.inl (S.sub _ _ h1)), .inl (.inl (S.sub _ _ h2)), sz_ok (by omega), fun e1 => ?_, fun e1 e2 => ?_, fun _ _ => ?_⟩
      · subst e1
        cases t1
        exact q.now S (.tup h2 t2)
      · subst e2
        cases t2
        exact q.now S (by rw [List.append_nil]; exact .tup h1 t1)
      · exact q.tup S (t1.append t2)
    · cases e
  · cases e
theorem r2_sub : R2F X (rI0 fun i j => .int (i - j)) gSub := fun B env ds σ Hf H d1 d2 d x y Q S r1 r2 e q => by
  unfold gSub at e
  split at e
  · cases e
    cases r1.int; cases r2.int
    exact ⟨_, _, rfl, rfl, q.now S (.int _)⟩
  · cases e
theorem r2_mul : R2F X (rI CMul fun i j => .int (i * j)) gMul := fun B env ds σ Hf H d1 d2 d x y Q S r1 r2 e q => by
  unfold gMul at e
  split at e
  · split at e
    · rename_i hz
      cases e
      cases r1.int; cases r2.int
      exact ⟨_, _, rfl, rfl, hz, q.now S (.int _)⟩
    · cases e
  · cases e
theorem divW_ok {i j : Int} (h : 0 < j ∧ j < 2 ^ 80) : CDivW i j := ⟨h.1, by
  have := PySem.Flt.log2_lt_of (n := j.natAbs) (k := 80) (by decide) (by omega)
  omega⟩
theorem r2_div : R2F X (rI CDivW fun i j => .int (i / j)) gDiv := fun B env ds σ Hf H d1 d2 d x y Q S r1 r2 e q => by
  unfold gDiv at e
  split at e
  · split at e
    · rename_i hz
      cases e
      cases r1.int; cases r2.int
      exact ⟨_, _, rfl, rfl, divW_ok hz, q.now S (.int _)⟩
    · cases e
  · cases e
theorem r2_mod : R2F X (rI (fun _ j => 0 < j) fun i j => .int (i % j)) gMod := fun B env ds σ Hf H d1 d2 d x y Q S r1 r2 e q => by
  unfold gMod at e
  split at e
  · split at e
    · rename_i hz
      cases e
      cases r1.int; cases r2.int
      exact ⟨_, _, rfl, rfl, hz, q.now S (.int _)⟩
    · cases e
  · cases e
theorem r2_cmp {p : Int → Int → Bool} : R2F X (rI0 fun i j => .bl (p i j)) (gCmp p) := fun B env ds σ Hf H d1 d2 d x y Q S r1 r2 e q => by
  unfold gCmp at e
  split at e
  · cases e
    cases r1.int; cases r2.int
    exact ⟨_, _, rfl, rfl, q.now S (.bl _)⟩
  · cases e
theorem r2_eqD : R2F X (rEqD X.K) gEqD := fun B env ds σ Hf H d1 d2 d x y Q S r1 r2 e q => by
  unfold gEqD at e
  split at e
  · rename_i hz
    rw [Bool.and_eq_true] at hz
    cases e
    refine ⟨_, _, r1.dp S.sub (eqOk_lay _ _ hz.1).1, r2.dp S.sub (eqOk_lay _ _ hz.2).1, eqOk_shaped (by decide) hz.1, eqOk_shaped (by decide) hz.2, ?_⟩
    rw [deq_eqv _ _ _ hz.1 hz.2]
    exact q.now S (.bl _)
  · cases e
theorem r2_neD : R2F X (rNeD X.K) gNeD := fun B env ds σ Hf H d1 d2 d x y Q S r1 r2 e q => by
  unfold gNeD at e
  split at e
  · rename_i hz
    rw [Bool.and_eq_true] at hz
    cases e
    refine ⟨_, _, r1.dp S.sub (eqOk_lay _ _ hz.1).1, r2.dp S.sub (eqOk_lay _ _ hz.2).1, eqOk_shaped (by decide) hz.1, eqOk_shaped (by decide) hz.2, ?_⟩
    rw [deq_eqv _ _ _ hz.1 hz.2]
    exact q.now S (.bl _)
  · cases e
theorem any_eqv {x : D} (hx : eqOk 8 x = true) : ∀ {ys : List D}, ys.all (eqOk 8) = true → ((toPyL ys).any fun z => PyData.eqv z (toPy x)) = ys.any fun z => deq 8 z x
  | [], _ => rfl
  | y :: ys, h => by
    simp only [List.all_cons, Bool.and_eq_true] at h
    simp only [toPyL, List.any_cons]
    rw [deq_eqv 8 _ _ h.1 hx, any_eqv hx h.2]
theorem list_ok {ys : List D} (h : ys.all (eqOk 8) = true) : eqOk 9 (.list ys) = true := h
theorem r2_in : R2F X (rInD X.K) gIn := fun B env ds σ Hf H d1 d2 d x y Q S r1 r2 e q => by
  unfold gIn at e
  split at e
  · split at e
    · rename_i hz
      rw [Bool.and_eq_true] at hz
      cases e
      have r2' := r2.dp (K := X.K) S.sub (eqOk_lay _ _ (list_ok hz.2)).1
      simp only [toPy] at r2'
      refine ⟨_, _, r1.dp S.sub (eqOk_lay _ _ hz.1).1, r2', eqOk_shaped (by decide) hz.1, by have := eqOk_shaped (by decide) (list_ok hz.2); simpa only [toPy] using this, ?_⟩
      rw [any_eqv hz.1 hz.2]
      exact q.now S (.bl _)
    · cases e
  · cases e
theorem r2_notIn : R2F X (rNotInD X.K) gNotIn := fun B env ds σ Hf H d1 d2 d x y Q S r1 r2 e q => by
  unfold gNotIn at e
  split at e
  · split at e
    · rename_i hz
      rw [Bool.and_eq_true] at hz
      cases e
      have r2' := r2.dp (K := X.K) S.sub (eqOk_lay _ _ (list_ok hz.2)).1
      simp only [toPy] at r2'
      refine ⟨_, _, r1.dp S.sub (eqOk_lay _ _ hz.1).1, r2', eqOk_shaped (by decide) hz.1, by have := eqOk_shaped (by decide) (list_ok hz.2); simpa only [toPy] using this, ?_⟩
      rw [any_eqv hz.1 hz.2]
      exact q.now S (.bl _)
    · cases e
  · cases e
theorem Rd1.notNon {B : Bs} {Hf H : Hp} {v : V} {d : D} (r : Rd1 B Hf H v d) (h : d ≠ .none) : v ≠ .non := by
  cases r with
  | fz r => cases r <;> first | exact absurd rfl h | (intro z; cases z)
  | tm _ _ _ => intro z; cases z
theorem r2_isN : R2F X (fun x y H Q => y = .non ∧ Q (.bl (decide (x = .non))) H) gIsN := fun B env ds σ Hf H d1 d2 d x y Q S r1 r2 e q => by
  unfold gIsN at e
  split at e
  · cases e; cases r1.non; cases r2.non
    exact ⟨rfl, q.now S (.bl true)⟩
  all_goals first
    | (cases e
       cases r2.non
       refine ⟨rfl, ?_⟩
       rw [decide_eq_false (r1.notNon (by intro z; cases z))]
       exact q.now S (.bl false))
    | cases e
theorem r2_notN : R2F X (fun x y H Q => y = .non ∧ Q (.bl (!decide (x = .non))) H) gNotN := fun B env ds σ Hf H d1 d2 d x y Q S r1 r2 e q => by
  unfold gNotN at e
  split at e
  · cases e; cases r1.non; cases r2.non
    exact ⟨rfl, q.now S (.bl false)⟩
  all_goals first
    | (cases e
       cases r2.non
       refine ⟨rfl, ?_⟩
       rw [decide_eq_false (r1.notNon (by intro z; cases z))]
       exact q.now S (.bl true))
    | cases e
theorem r2_cat : R2N X rCat gCat := fun B env ds σ Hf H d1 d2 d x y Q S r1 r2 e q => by
  unfold gCat at e
  split at e
  · split at e
    · rename_i hz
      cases e
      obtain ⟨a, vs, rfl, h1, t1⟩ := r1.lst S.sub
      obtain ⟨b, ws, rfl, h2, t2⟩ := r2.lst S.sub
      have l1 := t1.length
      have l2 := t2.length
      exact ⟨a, b, vs, ws, rfl, rfl, h1, h2, sz_ok (by omega), q.lst S (t1.append t2)⟩
    · cases e
  · cases e
theorem RpL.rep {Hf : Hp} {vs : List V} {xs : List D} (t : RpL Hf vs xs) : ∀ n : Nat, RpL Hf (List.replicate n vs).flatten (List.replicate n xs).flatten
  | 0 => .nil
  | n + 1 => by
    rw [List.replicate_succ, List.replicate_succ, List.flatten_cons, List.flatten_cons]
    exact t.append (RpL.rep t n)
theorem r2_rep : R2N X rRep gRep := fun B env ds σ Hf H d1 d2 d x y Q S r1 r2 e q => by
  unfold gRep at e
  split at e
  · split at e
    · rename_i k hz
      cases e
      obtain ⟨a, vs, rfl, h1, t1⟩ := r1.lst S.sub
      cases r2.int
      have l1 := t1.length
      refine ⟨a, _, vs, rfl, rfl, h1, by omega, by omega, ?_, q.lst S (t1.rep _)⟩
      have h3 : vs.length * k.toNat ≤ 1000 * 1000 := Nat.mul_le_mul (by omega) (by omega)
      rw [sizeLine_eq]; omega
    · cases e
  · cases e
end
end L2.Dn
set_option Elab.async false
set_option linter.all false
set_option maxRecDepth 100000
/-! rules of the hand layer's make that it lacks -/
namespace L2.Dn
open PySem PySem.Spec PyProof.Rows PySem.W
/-! ### t[::-1] of a tuple -/
section
variable {prog : Program} {w : World} {A : Around} {E : Value → Shared → Prop} {s : Shared}
theorem adjust_rev (n : Nat) : Builtin.Slice.sliceAdjust none none (-1) (n : Int) = ((n : Int) - 1, -1) := by
  unfold Builtin.Slice.sliceAdjust
  simp
theorem places_rev (n : Nat) : Builtin.Slice.slicePlaces ((n : Int) - 1) (-1) (-1) = n := by
  unfold Builtin.Slice.slicePlaces
  have h1 : ¬ ((-1 : Int) > 0) := by decide
  simp only [h1, if_false, show (- -1 : Int) = 1 by decide, Int.ediv_one]
  split <;> omega
theorem pick_rev (xs : Array Value) : ((List.range xs.size).filterMap fun (m : Nat) => xs[((xs.size : Int) - 1 + (m : Int) * (-1)).toNat]?).toArray = xs.toList.reverse.toArray := by
  have e : ((List.range xs.size).filterMap fun (m : Nat) => xs[((xs.size : Int) - 1 + (m : Int) * (-1)).toNat]?) = ((List.range xs.size).map fun k => xs.size - 1 - k).filterMap (xs[·]?) := by
    rw [List.filterMap_map]
    congr 1
    funext m
    show xs[((xs.size : Int) - 1 + (m : Int) * (-1)).toNat]? = xs[xs.size - 1 - m]?
    by_cases h : m ≤ xs.size - 1
    · rw [show ((xs.size : Int) - 1 + (m : Int) * (-1)).toNat = xs.size - 1 - m by omega]
    · rw [show ((xs.size : Int) - 1 + (m : Int) * (-1)).toNat = xs.size - 1 - m by omega]
  rw [e, krv_range, List.filterMap_reverse, krv_all]
theorem getItem_tuple_rev {t sl : Addr} {items : Array Value} {vl vu vs : Value} {Q : Value → Shared → Prop} (ht : IsTup s.heap t items) (hs : s.heap.IsSliceOf sl vl vu vs) (pl : IsPart vl none) (pu : IsPart vu none) (ps : IsPart vs (some (-1)))
    (h : Q (.ref s.heap.objs.size) { s with heap := s.heap.push { cls := .type "tuple", data := .seq items.toList.reverse.toArray } })
    (hsz : items.size ≤ sizeLine) : wpAny (model prog w) A (getItem (.ref t) (.ref sl)) Q E s := by
  have htake : sizeOk (.seq items.toList.reverse.toArray) := by
    show items.toList.reverse.toArray.size ≤ sizeLine
    rw [List.size_toArray, List.length_reverse, Array.length_toList]
    exact hsz
  obtain ⟨os, hos, hcs, hds⟩ := id hs
  have hTs : s.TypeIs (.ref sl) "slice" := ⟨os, hos, hcs⟩
  unfold getItem
  try with_reducible refine wpAny_holding ?_
  first | refine wpAny_bind (wpAny_pure ?_) | skip
  refine wpAny_bind (wpAny_sequenceKey ht.typeIs (by decide) ?_)
  refine wpAny_bind (wpAny_callSpecial?_slot (name := Str.ofString "__getitem__") ht.typeIs PyProof.Rows.slot_tuple_getitem
    (wpAny_call_entry PyProof.Rows.slot_tuple_getitem ht.typeIs entry_tuple_getitem ?_ (args_tuple_getitem _ _)))
  show wpAny _ _ (Builtin.Tuple.tupleItemsOf (.ref t) >>= _) _ _ s
  refine wpAny_bind (tupleItemsOf_ ht ?_)
  refine wpAny_bind (wpAny_typeOf hTs ?_)
  rw [if_pos (by decide)]
  refine wpAny_bind ?_
  · unfold Builtin.Slice.sliceApplied Builtin.Slice.sliceFields
    refine wpAny_bind (wpAny_bind (wpAny_field hos hds (x := vl) rfl (wpAny_bind (wpAny_field hos hds (x := vu) rfl (wpAny_bind (wpAny_field hos hds (x := vs) rfl (wpAny_pure ?_)))))))
    refine wpAny_bind (HT.slicePart_ ps ?_)
    show wpAny _ _ (if ((-1 : Int) == 0) = true then _ else _) _ _ s
    rw [if_neg (by decide)]
    refine wpAny_bind (HT.slicePart_ pl (wpAny_bind (HT.slicePart_ pu (wpAny_bind (wpAny_pure ?_)))))
    show wpAny _ _ (match Builtin.Slice.sliceAdjust none none (-1) (items.size : Int) with | (lo, hi) => pure (lo, (-1 : Int), Builtin.Slice.slicePlaces lo hi (-1))) _ _ s
    rw [adjust_rev]
    show wpAny _ _ (pure ((items.size : Int) - 1, (-1 : Int), Builtin.Slice.slicePlaces ((items.size : Int) - 1) (-1) (-1))) _ _ s
    rw [places_rev]
    refine wpAny_pure ?_
    have hno : ¬ ((((items.size : Int) - 1) == 0 && (-1 : Int) == 1 && items.size == items.size) = true) := by
      intro q
      rw [Bool.and_eq_true, Bool.and_eq_true] at q
      exact absurd q.1.2 (by decide)
    show wpAny _ _ (if (((items.size : Int) - 1) == 0 && (-1 : Int) == 1 && items.size == items.size) = true then _ else _) _ _ s
    rw [if_neg hno, pick_rev]
    first
      | exact wpAny_bind (m := Builtin.Tuple.tupleExact _) (wpAny_newObj_type (wpAny_pure ⟨_, rfl, wpAny_pure h⟩) htake)
      | exact wpAny_bind (m := Builtin.Tuple.tupleExact _) (wpAny_newObj_type (wpAny_bind (wpAny_pure (wpAny_pure ⟨_, rfl, wpAny_pure h⟩))) htake)
      | exact wpAny_bind (wpAny_bind (m := Builtin.Tuple.tupleExact _) (wpAny_newObj_type (wpAny_pure (wpAny_pure ⟨_, rfl, wpAny_pure h⟩)) htake))
      | exact wpAny_bind (wpAny_bind (m := Builtin.Tuple.tupleExact _) (wpAny_newObj_type (wpAny_pure ⟨_, rfl, wpAny_pure h⟩) htake))
end
section
variable {X : Cx}
def tRevT (K : PySem.W.Frag) (te : TE) : TE := fun σ H Q => te σ H fun x H1 => ∃ a xs, x = .ref a ∧ SqT K H1 a xs ∧ ∀ p, H1 p = none → Q (.ref p) (upd H1 p (.tup xs.reverse))
theorem pe_revT {e : Expr} {te : TE} {k : Nat} {p1 p2 p3 pos : Pos} (he : PE X e te) : PE X (.Subscript e (.Slice none none (some (.UnaryOp .USub (.Constant (.int 1) k p1) p2)) p3) pos) (tRevT X.K te) := by
  refine ⟨fun pins s σ H Q I h => ?_⟩
  refine Subscript_ (thn (he.run pins s σ H _ I h) fun v s1 ⟨x, H1, I1, r1, q1⟩ => ?_)
  obtain ⟨a, xs, ex, hx, q⟩ := q1
  subst ex
  cases r1
  have hst : PO X (some (.UnaryOp .USub (.Constant (.int 1) k p1) p2)) (tPart (tUn (rU fun i => .int (-i)) (tC (.int 1)))) := po_some (pe_un un_neg pe_int)
  refine wpAny_Slice (thn (po_none.run pins s1 σ H1 (fun o H2 => o = none ∧ H2 = H1) I1 ⟨rfl, rfl⟩) fun vl s2 ⟨l, H2, I2, pl, el, e2⟩ => ?_)
  subst el e2
  refine thn (po_none.run pins s2 σ H2 (fun o H3 => o = none ∧ H3 = H2) I2 ⟨rfl, rfl⟩) fun vu s3 ⟨u, H3, I3, pu, eu, e3⟩ => ?_
  subst eu e3
  refine thn (hst.run pins s3 σ H3 (fun o H4 => o = some (-1) ∧ H4 = H3) I3 ⟨1, rfl, -1, rfl, rfl, rfl⟩) fun vs s4 ⟨o, H4, I4, ps, eo, e4⟩ => ?_
  subst eo e4
  have I5 : Inv X pins σ H4 { s4 with heap := s4.heap.push { cls := .type "slice", data := .fields #[vl, vu, vs] } } := I4.kept (t' := s4.toks) fun b ob q => Heap.get?_push_of_some _ q
  obtain ⟨its, r, ht, hz⟩ := I5.tuple hx
  have hlen := r.length
  show wpAny (model X.prog X.w) X.A (subscriptTail e (.Slice none none (some (.UnaryOp .USub (.Constant (.int 1) k p1) p2)) p3) (.ref a) (.ref s4.heap.objs.size)) (EP X pins σ Q) X.xe { s4 with heap := s4.heap.push { cls := .type "slice", data := .fields #[vl, vu, vs] } }
  refine tail_any (ops := [.ref a, .ref s4.heap.objs.size]) ht.typeIs (PyProof.Rows.slot_tuple_getitem.lookup) ?_ (by with_unfolding_all rfl)
  refine getItem_tuple_rev ht (Heap.IsSliceOf.new _ vl vu vs) pl pu ps ?_ (by rw [List.size_toArray]; omega)
  refine ⟨.ref _, _, I5.laid (t' := s4.toks) (o := .tup xs.reverse) (fun b ob q => Heap.get?_push_of_some _ q) (Nat.le_refl _) ?_, rfl, q _ (I5.hok.fresh (Nat.le_refl _))⟩
  exact ⟨by rw [List.length_reverse]; exact hz, _, r.reverse, IsTup.new _ _⟩
end
end L2.Dn
set_option Elab.async false
set_option linter.all false
set_option maxRecDepth 100000
namespace L2.Dn
open PySem PySem.Spec PyProof.Rows
/-! ### keys, tables -/
def beqK : Key → Key → Bool
  | .inl i, .inl j => decide (i = j)
  | .inr x, .inr y => decide (x = y)
  | _, _ => false
def beqKs : List Key → List Key → Bool
  | [], [] => true
  | a :: r, b :: t => beqK a b && beqKs r t
  | _, _ => false
theorem beqK_eq (a b : Key) : beqK a b = decide (a = b) := by
  cases a <;> cases b <;> simp [beqK]
theorem beqKs_eq : ∀ (a b : List Key), beqKs a b = decide (a = b)
  | [], [] => rfl
  | [], _ :: _ => by simp [beqKs]
  | _ :: _, [] => by simp [beqKs]
  | a :: r, b :: t => by
    simp only [beqKs, beqK_eq, beqKs_eq r t]
    by_cases h1 : a = b
    · by_cases h2 : r = t
      · simp [h1, h2]
      · simp [h1, h2]
    · simp [h1]
def lookT (kds : List (List Key × D)) (k : List Key) : Option D := match kds with
  | [] => none
  | (k', d) :: r => match beqKs k' k with
    | true => some d
    | false => lookT r k
def lookK (kds : List (Key × D)) (k : Key) : Option D := match kds with
  | [] => none
  | (k', d) :: r => match beqK k' k with
    | true => some d
    | false => lookK r k
def hasT (kds : List (List Key × D)) (k : List Key) : Bool := match kds with
  | [] => false
  | (k', _) :: r => match beqKs k' k with
    | true => true
    | false => hasT r k
def hasK (kds : List (Key × D)) (k : Key) : Bool := match kds with
  | [] => false
  | (k', _) :: r => match beqK k' k with
    | true => true
    | false => hasK r k
theorem hasT_none : ∀ {kds : List (List Key × D)} {k : List Key}, hasT kds k = false → lookT kds k = none
  | [], _, _ => rfl
  | (k', d) :: r, k, h => by
    unfold hasT at h
    unfold lookT
    cases e : beqKs k' k with
    | true => rw [e] at h; cases h
    | false => rw [e] at h; exact hasT_none h
theorem RpT.look {Hf : Hp} {k : List Key} : ∀ {kvs : List (List Key × V)} {ds : List (List Key × D)}, RpT Hf kvs ds → (∀ d, lookT ds k = some d → ∃ v, valV kvs k = some v ∧ Rp Hf v d) ∧ (lookT ds k = none → valV kvs k = none)
  | _, _, .nil => ⟨fun d h => (by cases h), fun _ => rfl⟩
  | _, _, .cons (k := k') (v := v) (d := d) (kvs := kvs) (ds := ds) h t => by
    have ih := RpT.look (k := k) t
    unfold lookT
    rw [beqKs_eq]
    by_cases e : k' = k
    · rw [decide_eq_true e]
      refine ⟨fun d' hd => ?_, fun hd => (by cases hd)⟩
      cases hd
      exact ⟨v, valV_pos (k := k) e, h⟩
    · rw [decide_eq_false e]
      rw [valV_neg (k := k) (p := (k', v)) e]
      exact ih
theorem RpK.look {Hf : Hp} {k : Key} : ∀ {kvs : List (Key × V)} {ds : List (Key × D)}, RpK Hf kvs ds → (∀ d, lookK ds k = some d → ∃ v, valV kvs k = some v ∧ Rp Hf v d) ∧ (lookK ds k = none → valV kvs k = none)
  | _, _, .nil => ⟨fun d h => (by cases h), fun _ => rfl⟩
  | _, _, .cons (k := k') (v := v) (d := d) (kvs := kvs) (ds := ds) h t => by
    have ih := RpK.look (k := k) t
    unfold lookK
    rw [beqK_eq]
    by_cases e : k' = k
    · rw [decide_eq_true e]
      refine ⟨fun d' hd => ?_, fun hd => (by cases hd)⟩
      cases hd
      exact ⟨v, valV_pos (k := k) e, h⟩
    · rw [decide_eq_false e]
      rw [valV_neg (k := k) (p := (k', v)) e]
      exact ih
def replT (kds : List (List Key × D)) (k : List Key) (x : D) : List (List Key × D) := match kds with
  | [] => []
  | (k', d) :: r => match beqKs k' k with
    | true => (k', x) :: replT r k x
    | false => (k', d) :: replT r k x
def putT (kds : List (List Key × D)) (k : List Key) (x : D) : List (List Key × D) := match hasT kds k with
  | true => replT kds k x
  | false => kds ++ [(k, x)]
def replK (kds : List (Key × D)) (k : Key) (x : D) : List (Key × D) := match kds with
  | [] => []
  | (k', d) :: r => match beqK k' k with
    | true => (k', x) :: replK r k x
    | false => (k', d) :: replK r k x
def putKD (kds : List (Key × D)) (k : Key) (x : D) : List (Key × D) := match hasK kds k with
  | true => replK kds k x
  | false => kds ++ [(k, x)]
theorem RpT.length {Hf : Hp} : ∀ {kvs : List (List Key × V)} {ds : List (List Key × D)}, RpT Hf kvs ds → kvs.length = ds.length
  | _, _, .nil => rfl
  | _, _, .cons _ t => congrArg Nat.succ (RpT.length t)
theorem RpK.length {Hf : Hp} : ∀ {kvs : List (Key × V)} {ds : List (Key × D)}, RpK Hf kvs ds → kvs.length = ds.length
  | _, _, .nil => rfl
  | _, _, .cons _ t => congrArg Nat.succ (RpK.length t)
theorem RpT.has {Hf : Hp} {k : List Key} : ∀ {kvs : List (List Key × V)} {ds : List (List Key × D)}, RpT Hf kvs ds → (kvs.any fun kv => decide (kv.1 = k)) = hasT ds k
  | _, _, .nil => rfl
  | _, _, .cons (k := k') h t => by
    have ih := RpT.has (k := k) t
    unfold hasT
    rw [beqKs_eq, List.any_cons, ih]
    by_cases e : k' = k
    · simp [e]
    · simp [e]
theorem RpK.has {Hf : Hp} {k : Key} : ∀ {kvs : List (Key × V)} {ds : List (Key × D)}, RpK Hf kvs ds → (kvs.any fun kv => decide (kv.1 = k)) = hasK ds k
  | _, _, .nil => rfl
  | _, _, .cons (k := k') h t => by
    have ih := RpK.has (k := k) t
    unfold hasK
    rw [beqK_eq, List.any_cons, ih]
    by_cases e : k' = k
    · simp [e]
    · simp [e]
theorem RpT.append {Hf : Hp} : ∀ {kvs kvs' : List (List Key × V)} {ds ds' : List (List Key × D)}, RpT Hf kvs ds → RpT Hf kvs' ds' → RpT Hf (kvs ++ kvs') (ds ++ ds')
  | _, _, _, _, .nil, h => h
  | _, _, _, _, .cons h t, h2 => .cons h (RpT.append t h2)
theorem RpK.append {Hf : Hp} : ∀ {kvs kvs' : List (Key × V)} {ds ds' : List (Key × D)}, RpK Hf kvs ds → RpK Hf kvs' ds' → RpK Hf (kvs ++ kvs') (ds ++ ds')
  | _, _, _, _, .nil, h => h
  | _, _, _, _, .cons h t, h2 => .cons h (RpK.append t h2)
theorem RpT.repl {Hf : Hp} {k : List Key} {x : D} {y : V} (r : Rp Hf y x) : ∀ {kvs : List (List Key × V)} {ds : List (List Key × D)}, RpT Hf kvs ds → RpT Hf (kvs.map fun kv => if kv.1 = k then (kv.1, y) else kv) (replT ds k x)
  | _, _, .nil => .nil
  | _, _, .cons (k := k') h t => by
    have ih := RpT.repl (k := k) r t
    unfold replT
    rw [beqKs_eq, List.map_cons]
    by_cases e : k' = k
    · rw [decide_eq_true e, if_pos e]; exact .cons r ih
    · rw [decide_eq_false e, if_neg e]; exact .cons h ih
theorem RpK.repl {Hf : Hp} {k : Key} {x : D} {y : V} (r : Rp Hf y x) : ∀ {kvs : List (Key × V)} {ds : List (Key × D)}, RpK Hf kvs ds → RpK Hf (kvs.map fun kv => if kv.1 = k then (kv.1, y) else kv) (replK ds k x)
  | _, _, .nil => .nil
  | _, _, .cons (k := k') h t => by
    have ih := RpK.repl (k := k) r t
    unfold replK
    rw [beqK_eq, List.map_cons]
    by_cases e : k' = k
    · rw [decide_eq_true e, if_pos e]; exact .cons r ih
    · rw [decide_eq_false e, if_neg e]; exact .cons h ih
theorem RpT.put {Hf : Hp} {k : List Key} {x : D} {y : V} {kvs : List (List Key × V)} {ds : List (List Key × D)} (t : RpT Hf kvs ds) (r : Rp Hf y x) : RpT Hf (putK kvs k y) (putT ds k x) := by
  unfold putT putK
  rw [t.has]
  cases hasT ds k with
  | true => rw [if_pos rfl]; exact t.repl r
  | false => rw [if_neg Bool.false_ne_true]; exact t.append (.cons r .nil)
theorem RpK.put {Hf : Hp} {k : Key} {x : D} {y : V} {kvs : List (Key × V)} {ds : List (Key × D)} (t : RpK Hf kvs ds) (r : Rp Hf y x) : RpK Hf (putK kvs k y) (putKD ds k x) := by
  unfold putKD putK
  rw [t.has]
  cases hasK ds k with
  | true => rw [if_pos rfl]; exact t.repl r
  | false => rw [if_neg Bool.false_ne_true]; exact t.append (.cons r .nil)
def key1? : D → Option Key
  | .int i => some (.inl i)
  | .str x => some (.inr x)
  | _ => none
def keys? : List D → Option (List Key)
  | [] => some []
  | d :: r => match key1? d with
    | none => none
    | some k => match keys? r with
      | none => none
      | some ks => some (k :: ks)
def keyOf? : D → Option (List Key)
  | .tuple ds => keys? ds
  | _ => none
theorem key1_rp {Hf : Hp} {v : V} {d : D} {k : Key} (r : Rp Hf v d) (h : key1? d = some k) : v = kV k := by
  cases r <;> first
    | (cases h; rfl)
    | cases h
theorem keys_rp {Hf : Hp} : ∀ {vs : List V} {ds : List D} {k : List Key}, RpL Hf vs ds → keys? ds = some k → vs = k.map kV
  | _, _, _, .nil, h => by cases h; rfl
  | _, _, k, .cons (d := d) (ds := ds) r t, h => by
    unfold keys? at h
    cases e1 : key1? d with
    | none => rw [e1] at h; cases h
    | some k1 =>
      cases e2 : keys? ds with
      | none => rw [e1, e2] at h; cases h
      | some ks =>
        rw [e1, e2] at h
        cases h
        rw [List.map_cons, key1_rp r e1, keys_rp t e2]
/-- a key that may be read: its tuple stays -/
theorem keyOf_rd {B : Bs} {Hf H : Hp} {v : V} {d : D} {k : List Key} (r : Rd1 B Hf H v d) (h : keyOf? d = some k) : ∃ b, v = .ref b ∧ Hf b = some (.tup (k.map kV)) := by
  cases d with
  | tuple ds =>
    obtain ⟨a, vs, rfl, e, t⟩ := r.tup
    have := keys_rp t (show keys? ds = some k from h)
    subst this
    exact ⟨a, rfl, e⟩
  | _ => cases h
theorem key1_rd {B : Bs} {Hf H : Hp} {v : V} {d : D} {k : Key} (r : Rd1 B Hf H v d) (h : key1? d = some k) : v = kV k := by
  cases r with
  | fz r => exact key1_rp r h
  | tm _ _ t => cases t <;> cases h
theorem key_rp {Hf : Hp} : ∀ {k : List Key}, RpL Hf (k.map kV) (k.map keyD)
  | [] => .nil
  | .inl i :: r => .cons (.int i) key_rp
  | .inr x :: r => .cons (.str x) key_rp
/-! ### subscripts -/
def gIx : D → D → Option D
  | .list xs, .int i => atI xs i
  | .tuple xs, .int i => atI xs i
  | .ptup xs, .int i => atI xs i
  | .dT kds, k => match keyOf? k with
    | some k => lookT kds k
    | none => none
  | .dK kds, k => match key1? k with
    | some k => lookK kds k
    | none => none
  | _, _ => none
theorem RpL.at {Hf : Hp} {vs : List V} {ds : List D} {i : Int} {d : D} (t : RpL Hf vs ds) (h : atI ds i = some d) : ∃ v, atI vs i = some v ∧ Rp Hf v d := by
  unfold atI at h ⊢
  rw [t.length]
  cases e : ixN ds.length i with
  | none => rw [e] at h; cases h
  | some j =>
    rw [e] at h
    exact t.get h
section
variable {X : Cx} {a b c : Expr} {pos : Pos} {f h k : Den}
theorem evf_ix (hu : X.A.units + 1 < cLine) (ha : EvR X a f) (hb : EvR X b h) (hs : PlainIx b := by first | exact fun _ _ => rfl | exact fun _ _ => by with_unfolding_all rfl) : EvF X (.Subscript a b pos) (d2 gIx f h) := fun B env ds σ Hf H d ds' S hf Q q => by
  obtain ⟨v1, s1, e1, e⟩ := bnd_eq hf
  obtain ⟨v2, s2, e2, e⟩ := bnd_eq e
  obtain ⟨e3, rfl⟩ := op1_eq e
  unfold gIx at e3
  split at e3
  · refine SE.of (pe_ix (r := rIxL X.K) ix_list (pe_se X a) (pe_se X b) hs) ?_
    refine ha B env ds σ Hf H _ _ S e1 _ fun x Hf1 H1 g1 S1 r1 => hb B env s1 σ Hf1 H1 _ _ S1 e2 _ fun y Hf2 H2 g2 S2 r2 => ?_
    obtain ⟨p, vs, rfl, h1, t⟩ := (r1.up g2).lst S2.sub
    cases r2.int
    obtain ⟨v, hv, rv⟩ := t.at e3
    exact ⟨p, vs, _, v, rfl, rfl, .inl (.inl h1), hv, q _ _ _ (g1.trans g2) S2 rv⟩
  · refine SE.of (pe_ix (r := rIxT X.K) ix_tup (pe_se X a) (pe_se X b) hs) ?_
    refine ha B env ds σ Hf H _ _ S e1 _ fun x Hf1 H1 g1 S1 r1 => hb B env s1 σ Hf1 H1 _ _ S1 e2 _ fun y Hf2 H2 g2 S2 r2 => ?_
    obtain ⟨p, vs, rfl, h1, t⟩ := (r1.up g2).tup
    cases r2.int
    obtain ⟨v, hv, rv⟩ := t.at e3
    exact ⟨p, vs, _, v, rfl, rfl, .inl (.inl (S2.sub _ _ h1)), hv, q _ _ _ (g1.trans g2) S2 rv⟩
  · refine SE.of (pe_ix (r := rIxT X.K) ix_tup (pe_se X a) (pe_se X b) hs) ?_
    refine ha B env ds σ Hf H _ _ S e1 _ fun x Hf1 H1 g1 S1 r1 => hb B env s1 σ Hf1 H1 _ _ S1 e2 _ fun y Hf2 H2 g2 S2 r2 => ?_
    obtain ⟨p, vs, o, rfl, h1, _, t⟩ := (r1.up g2).ptup
    cases r2.int
    obtain ⟨v, hv, rv⟩ := t.at e3
    exact ⟨p, vs, _, v, rfl, rfl, .inl (.inr ⟨o, S2.sub _ _ h1⟩), hv, q _ _ _ (g1.trans g2) S2 rv⟩
  · split at e3
    · rename_i kk hk
      refine SE.of (pe_dget hu (pe_se X a) (pe_se X b) hs) ?_
      refine ha B env ds σ Hf H _ _ S e1 _ fun x Hf1 H1 g1 S1 r1 => hb B env s1 σ Hf1 H1 _ _ S1 e2 _ fun y Hf2 H2 g2 S2 r2 => ?_
      obtain ⟨p, kvs, rfl, h1, t⟩ := (r1.up g2).dT S2.sub
      obtain ⟨bb, rfl, hb⟩ := keyOf_rd r2 hk
      obtain ⟨v, hv, rv⟩ := (t.look (k := kk)).1 _ e3
      exact ⟨p, v, rfl, .inr ⟨kvs, kk, bb, h1, rfl, S2.sub _ _ hb, hv.symm⟩, q _ _ _ (g1.trans g2) S2 rv⟩
    · cases e3
  · split at e3
    · rename_i kk hk
      refine SE.of (pe_dget hu (pe_se X a) (pe_se X b) hs) ?_
      refine ha B env ds σ Hf H _ _ S e1 _ fun x Hf1 H1 g1 S1 r1 => hb B env s1 σ Hf1 H1 _ _ S1 e2 _ fun y Hf2 H2 g2 S2 r2 => ?_
      obtain ⟨p, kvs, rfl, h1, t⟩ := (r1.up g2).dK S2.sub
      have hb := key1_rd r2 hk
      obtain ⟨v, hv, rv⟩ := (t.look (k := kk)).1 _ e3
      exact ⟨p, v, rfl, .inl ⟨kvs, kk, h1, hb, hv.symm⟩, q _ _ _ (g1.trans g2) S2 rv⟩
    · cases e3
  · cases e3
/-! ### slices -/
def cutD (xs : List D) (lo hi : Option Int) : List D := (xs.drop (HT.sIx xs.length 0 lo)).take (HT.sIx xs.length xs.length hi - HT.sIx xs.length 0 lo)
theorem RpL.cut {Hf : Hp} {vs : List V} {ds : List D} (t : RpL Hf vs ds) (lo hi : Option Int) : RpL Hf (cutV vs lo hi) (cutD ds lo hi) := by
  unfold cutV cutD
  rw [t.length]
  exact (t.drop _).take _
def dPart (f : Option Den) : En → DS → Option (Option Int × DS) := match f with
  | none => fun _ ds => some (none, ds)
  | some f => fun env ds => bnd (f env ds) fun a s => match a with
    | .int i => some (some i, s)
    | _ => none
/-- a slice's part -/
def EvP (X : Cx) (e : Option Expr) (f : Option Den) : Prop := ∃ t : TO, PO X e t ∧ ∀ B env ds σ Hf H d ds', SR B X.K env ds σ Hf H → dPart f env ds = some (d, ds') → ∀ Q : Option Int → Hp → Prop,
  (∀ Hf' H', Gr B Hf H Hf' H' → SR B X.K env ds' σ Hf' H' → Q d H') → t σ H Q
theorem evp_none : EvP X none none := ⟨tNoPart, po_none, fun B env ds σ Hf H d ds' S hf Q q => by
  cases hf
  exact q _ _ Gr.refl S⟩
theorem evp_some (ha : EvR X a f) : EvP X (some a) (some f) := ⟨_, po_some (pe_se X a), fun B env ds σ Hf H d ds' S hf Q q => by
  obtain ⟨v1, s1, e1, e⟩ := bnd_eq hf
  refine ha B env ds σ Hf H _ _ S e1 _ fun x Hf1 H1 g1 S1 r1 => ?_
  cases v1 with
  | int i =>
    cases e
    cases r1.int
    exact ⟨i, rfl, q _ _ g1 S1⟩
  | _ => cases e⟩
def dSl (f : Den) (lo hi : Option Den) : Den := fun env ds => bnd (f env ds) fun a s => bnd (dPart lo env s) fun l s1 => bnd (dPart hi env s1) fun u s2 => match a with
  | .tuple xs => some (.tuple (cutD xs l u), s2)
  | .ptup xs => some (if HT.sIx xs.length 0 l = 0 ∧ HT.sIx xs.length xs.length u = xs.length then .ptup xs else .tuple (cutD xs l u), s2)
  | _ => none
def dSlL (f : Den) (lo hi : Option Den) : Den := fun env ds => bnd (f env ds) fun a s => bnd (dPart lo env s) fun l s1 => bnd (dPart hi env s1) fun u s2 => match a with
  | .list xs => some (.list (cutD xs l u), s2)
  | _ => none
theorem evf_slice {lo hi : Option Expr} {fl fh : Option Den} {p2 : Pos} (ha : EvR X a f) (hl : EvP X lo fl) (hh : EvP X hi fh) : EvF X (.Subscript a (.Slice lo hi none p2) pos) (dSl f fl fh) := fun B env ds σ Hf H d ds' S hf Q q => by
  obtain ⟨v1, s1, e1, e⟩ := bnd_eq hf
  obtain ⟨l, s2, e2, e⟩ := bnd_eq e
  obtain ⟨u, s3, e3, e⟩ := bnd_eq e
  obtain ⟨tl, pl, kl⟩ := hl
  obtain ⟨th, ph, kh⟩ := hh
  refine SE.of (pe_slice sl_tupA (pe_se X a) pl ph) ?_
  refine ha B env ds σ Hf H _ _ S e1 _ fun x Hf1 H1 g1 S1 r1 => kl B env s1 σ Hf1 H1 _ _ S1 e2 _ fun Hf2 H2 g2 S2 => kh B env s2 σ Hf2 H2 _ _ S2 e3 _ fun Hf3 H3 g3 S3 => ?_
  cases v1 with
  | tuple xs =>
    cases e
    obtain ⟨p, vs, rfl, h1, t⟩ := ((r1.up g2).up g3).tup
    have g := (g1.trans g2).trans g3
    refine ⟨p, vs, rfl, .inl (.inl (S3.sub _ _ h1)), fun ⟨w1, w2⟩ => ?_, fun _ => ?_⟩
    · have e : cutD xs l u = xs := by
        rw [t.length] at w1 w2
        unfold cutD
        rw [w1, w2]
        simp
      rw [e] at q
      exact q _ _ _ g S3 (.tup h1 t)
    · exact (q.step g).tup S3 (t.cut l u)
  | ptup xs =>
    cases e
    obtain ⟨p, vs, o, rfl, h1, hd, t⟩ := ((r1.up g2).up g3).ptup
    have g := (g1.trans g2).trans g3
    refine ⟨p, vs, rfl, .inl (.inr ⟨o, S3.sub _ _ h1⟩), fun w => ?_, fun w => ?_⟩
    · rw [t.length] at w
      rw [if_pos w] at q
      exact q _ _ _ g S3 (.ptup h1 hd t)
    · rw [t.length] at w
      rw [if_neg w] at q
      exact (q.step g).tup S3 (t.cut l u)
  | _ => cases e
theorem evn_slice {lo hi : Option Expr} {fl fh : Option Den} {p2 : Pos} (ha : EvR X a f) (hl : EvP X lo fl) (hh : EvP X hi fh) : EvN X (.Subscript a (.Slice lo hi none p2) pos) (dSlL f fl fh) := fun B env ds σ Hf H d ds' S hf Q q => by
  obtain ⟨v1, s1, e1, e⟩ := bnd_eq hf
  obtain ⟨l, s2, e2, e⟩ := bnd_eq e
  obtain ⟨u, s3, e3, e⟩ := bnd_eq e
  obtain ⟨tl, pl, kl⟩ := hl
  obtain ⟨th, ph, kh⟩ := hh
  refine SE.of (pe_slice sl_list (pe_se X a) pl ph) ?_
  refine ha B env ds σ Hf H _ _ S e1 _ fun x Hf1 H1 g1 S1 r1 => kl B env s1 σ Hf1 H1 _ _ S1 e2 _ fun Hf2 H2 g2 S2 => kh B env s2 σ Hf2 H2 _ _ S2 e3 _ fun Hf3 H3 g3 S3 => ?_
  cases v1 with
  | list xs =>
    cases e
    obtain ⟨p, vs, rfl, h1, t⟩ := ((r1.up g2).up g3).lst S3.sub
    have g := (g1.trans g2).trans g3
    exact ⟨p, vs, rfl, .inl (.inl h1), (q.step g).lst S3 (t.cut l u)⟩
  | _ => cases e
def gRevT : D → Option D
  | .tuple xs => some (.tuple xs.reverse)
  | .ptup xs => some (.tuple xs.reverse)
  | _ => none
def gRevL : D → Option D
  | .list xs => some (.list xs.reverse)
  | _ => none
theorem evf_rev {j : Nat} {p1 p2 p3 : Pos} (ha : EvR X a f) : EvF X (.Subscript a (.Slice none none (some (.UnaryOp .USub (.Constant (.int 1) j p1) p2)) p3) pos) (d1 gRevT f) := fun B env ds σ Hf H d ds' S hf Q q => by
  obtain ⟨v1, s1, e1, e⟩ := bnd_eq hf
  obtain ⟨e3, rfl⟩ := op1_eq e
  refine SE.of (pe_revT (pe_se X a)) ?_
  refine ha B env ds σ Hf H _ _ S e1 _ fun x Hf1 H1 g1 S1 r1 => ?_
  unfold gRevT at e3
  split at e3
  · cases e3
    obtain ⟨p, vs, rfl, h1, t⟩ := r1.tup
    exact ⟨p, vs, rfl, .inl (.inl (S1.sub _ _ h1)), (q.step g1).tup S1 t.reverse⟩
  · cases e3
    obtain ⟨p, vs, o, rfl, h1, _, t⟩ := r1.ptup
    exact ⟨p, vs, rfl, .inl (.inr ⟨o, S1.sub _ _ h1⟩), (q.step g1).tup S1 t.reverse⟩
  · cases e3
theorem evn_rev {j : Nat} {p1 p2 p3 : Pos} (ha : EvR X a f) : EvN X (.Subscript a (.Slice none none (some (.UnaryOp .USub (.Constant (.int 1) j p1) p2)) p3) pos) (d1 gRevL f) := fun B env ds σ Hf H d ds' S hf Q q => by
  obtain ⟨v1, s1, e1, e⟩ := bnd_eq hf
  obtain ⟨e3, rfl⟩ := op1_eq e
  refine SE.of (pe_revL (pe_se X a)) ?_
  refine ha B env ds σ Hf H _ _ S e1 _ fun x Hf1 H1 g1 S1 r1 => ?_
  unfold gRevL at e3
  split at e3
  · cases e3
    obtain ⟨p, vs, rfl, h1, t⟩ := r1.lst S1.sub
    exact ⟨p, vs, rfl, .inl (.inl h1), (q.step g1).lst S1 t.reverse⟩
  · cases e3
end
/-! ### negation, conditions -/
section
variable {X : Cx} {a b c : Expr} {pos : Pos} {f h k : Den} {t u : DenT} {rest : List Expr}
def gNeg : D → Option D
  | .int i => some (.int (-i))
  | _ => none
theorem evf_neg (ha : EvR X a f) : EvF X (.UnaryOp .USub a pos) (d1 gNeg f) := fun B env ds σ Hf H d ds' S hf Q q => by
  obtain ⟨v1, s1, e1, e⟩ := bnd_eq hf
  obtain ⟨e3, rfl⟩ := op1_eq e
  refine SE.of (pe_un un_neg (pe_se X a)) ?_
  refine ha B env ds σ Hf H _ _ S e1 _ fun x Hf1 H1 g1 S1 r1 => ?_
  unfold gNeg at e3
  split at e3
  · cases e3
    cases r1.int
    exact ⟨_, rfl, q _ _ _ g1 S1 (.int _)⟩
  · cases e3
/-- a value that is a bool, as a test (a name, a call, a subscript ..) -/
theorem evt_val (ha : EvR X a f) (he : ∀ whole, isTrue a X.env whole = (do let v ← whole; standAt a.pos; holding [v] (truthy v)) := by intro _; rfl) : EvT X a (dTest f) := fun B env ds σ Hf H d ds' S hf Q q => by
  refine STt.of (pt_val (pe_se X a) he) ?_
  refine ha B env ds σ Hf H _ _ S (dTest_eq hf) _ fun x Hf1 H1 g1 S1 r1 => ?_
  cases r1.bl
  exact ⟨_, rfl, q _ _ g1 S1⟩
def tNotD (t : DenT) : DenT := fun env ds => bnd (t env ds) fun b s => some (!b, s)
def tAndD (t u : DenT) : DenT := fun env ds => bnd (t env ds) fun b s => match b with
  | true => u env s
  | false => some (false, s)
def tOrD (t u : DenT) : DenT := fun env ds => bnd (t env ds) fun b s => match b with
  | true => some (true, s)
  | false => u env s
theorem evt_not (ha : EvT X a t) : EvT X (.UnaryOp .Not a pos) (tNotD t) := fun B env ds σ Hf H d ds' S hf Q q => by
  obtain ⟨v1, s1, e1, e⟩ := bnd_eq hf
  cases e
  exact STt.of (pt_not (pt_st X a)) (ha B env ds σ Hf H _ _ S e1 _ fun Hf1 H1 g1 S1 => q _ _ g1 S1)
theorem evw_and1 (ha : EvT X a t) : EvW X (.BoolOp .And [a] pos) t := fun B env ds σ Hf H d ds' S hf Q q => SW.of (pw_and1 (pt_st X a)) (ha B env ds σ Hf H _ _ S hf _ q)
theorem evw_or1 (ha : EvT X a t) : EvW X (.BoolOp .Or [a] pos) t := fun B env ds σ Hf H d ds' S hf Q q => SW.of (pw_or1 (pt_st X a)) (ha B env ds σ Hf H _ _ S hf _ q)
theorem evw_and (ha : EvT X a t) (hb : EvW X (.BoolOp .And (b :: rest) pos) u) : EvW X (.BoolOp .And (a :: b :: rest) pos) (tAndD t u) := fun B env ds σ Hf H d ds' S hf Q q => by
  obtain ⟨v1, s1, e1, e⟩ := bnd_eq hf
  refine SW.of (pw_and (pt_st X a) (pw_sw X _)) (ha B env ds σ Hf H _ _ S e1 _ fun Hf1 H1 g1 S1 => ?_)
  cases v1 with
  | true => rw [if_pos rfl]; exact hb B env s1 σ Hf1 H1 _ _ S1 e _ (q.step g1)
  | false => rw [if_neg Bool.false_ne_true]; cases e; exact q _ _ g1 S1
theorem evw_or (ha : EvT X a t) (hb : EvW X (.BoolOp .Or (b :: rest) pos) u) : EvW X (.BoolOp .Or (a :: b :: rest) pos) (tOrD t u) := fun B env ds σ Hf H d ds' S hf Q q => by
  obtain ⟨v1, s1, e1, e⟩ := bnd_eq hf
  refine SW.of (pw_or (pt_st X a) (pw_sw X _)) (ha B env ds σ Hf H _ _ S e1 _ fun Hf1 H1 g1 S1 => ?_)
  cases v1 with
  | true => rw [if_pos rfl]; cases e; exact q _ _ g1 S1
  | false => rw [if_neg Bool.false_ne_true]; exact hb B env s1 σ Hf1 H1 _ _ S1 e _ (q.step g1)
theorem EvW.toT (h : EvW X a t) : EvT X a t := fun B env ds σ Hf H d ds' S hf Q q pins s I => h B env ds σ Hf H d ds' S hf Q q (eval a X.env) pins s I
/-- .. as values, bools all -/
def dNot (f : Den) : Den := d1 (fun x => match x with | .bool b => some (.bool (!b)) | _ => none) f
def dAnd (f h : Den) : Den := fun env ds => bnd (f env ds) fun x s => match x with
  | .bool true => h env s
  | .bool false => some (.bool false, s)
  | _ => none
def dOr (f h : Den) : Den := fun env ds => bnd (f env ds) fun x s => match x with
  | .bool true => some (.bool true, s)
  | .bool false => h env s
  | _ => none
theorem evf_not (ha : EvR X a f) : EvF X (.UnaryOp .Not a pos) (dNot f) := fun B env ds σ Hf H d ds' S hf Q q => by
  obtain ⟨v1, s1, e1, e⟩ := bnd_eq hf
  obtain ⟨e3, rfl⟩ := op1_eq e
  refine SE.of (pe_not (pe_se X a)) (ha B env ds σ Hf H _ _ S e1 _ fun x Hf1 H1 g1 S1 r1 => ?_)
  cases v1 with
  | bool b => cases e3; cases r1.bl; exact ⟨_, rfl, q _ _ _ g1 S1 (.bl _)⟩
  | _ => cases e3
theorem evf_one {op : BoolOp} (ha : EvF X a f) : EvF X (.BoolOp op [a] pos) f := fun B env ds σ Hf H d ds' S hf Q q => SE.of (pe_one (pe_se X a)) (ha B env ds σ Hf H _ _ S hf _ q)
theorem evf_and (ha : EvR X a f) (hb : EvF X (.BoolOp .And (b :: rest) pos) h) : EvF X (.BoolOp .And (a :: b :: rest) pos) (dAnd f h) := fun B env ds σ Hf H d ds' S hf Q q => by
  obtain ⟨v1, s1, e1, e⟩ := bnd_eq hf
  refine SE.of (pe_and (pe_se X a) (pe_se X _)) (ha B env ds σ Hf H _ _ S e1 _ fun x Hf1 H1 g1 S1 r1 => ?_)
  cases v1 with
  | bool b =>
    cases r1.bl
    refine ⟨b, rfl, ?_⟩
    cases b with
    | true => rw [if_pos rfl]; exact hb B env s1 σ Hf1 H1 _ _ S1 e _ (q.step g1)
    | false => rw [if_neg Bool.false_ne_true]; cases e; exact q _ _ _ g1 S1 (.bl _)
  | _ => cases e
theorem evf_or (ha : EvR X a f) (hb : EvF X (.BoolOp .Or (b :: rest) pos) h) : EvF X (.BoolOp .Or (a :: b :: rest) pos) (dOr f h) := fun B env ds σ Hf H d ds' S hf Q q => by
  obtain ⟨v1, s1, e1, e⟩ := bnd_eq hf
  refine SE.of (pe_or (pe_se X a) (pe_se X _)) (ha B env ds σ Hf H _ _ S e1 _ fun x Hf1 H1 g1 S1 r1 => ?_)
  cases v1 with
  | bool b =>
    cases r1.bl
    refine ⟨b, rfl, ?_⟩
    cases b with
    | true => rw [if_pos rfl]; cases e; exact q _ _ _ g1 S1 (.bl _)
    | false => rw [if_neg Bool.false_ne_true]; exact hb B env s1 σ Hf1 H1 _ _ S1 e _ (q.step g1)
  | _ => cases e
def dIf (t : DenT) (f h : Den) : Den := fun env ds => bnd (t env ds) fun b s => match b with
  | true => f env s
  | false => h env s
theorem evf_if (hc : EvT X c t) (ha : EvF X a f) (hb : EvF X b h) : EvF X (.IfExp c a b pos) (dIf t f h) := fun B env ds σ Hf H d ds' S hf Q q => by
  obtain ⟨v1, s1, e1, e⟩ := bnd_eq hf
  refine SE.of (pe_ifExp (pt_st X c) (pe_se X a) (pe_se X b)) (hc B env ds σ Hf H _ _ S e1 _ fun Hf1 H1 g1 S1 => ?_)
  cases v1 with
  | true => rw [if_pos rfl]; exact ha B env s1 σ Hf1 H1 _ _ S1 e _ (q.step g1)
  | false => rw [if_neg Bool.false_ne_true]; exact hb B env s1 σ Hf1 H1 _ _ S1 e _ (q.step g1)
end
/-! ### lists of arguments, displays -/
section
variable {X : Cx} {a b c e : Expr} {es : List Expr} {pos : Pos} {f h k : Den} {g : DenA}
def aNil : DenA := fun _ ds => some ([], ds)
def aCons (f : Den) (g : DenA) : DenA := fun env ds => bnd (f env ds) fun a s => bnd (g env s) fun r s' => some (a :: r, s')
theorem eva_nil : EvA X [] aNil := fun B env ds σ Hf H d ds' S hf Q q => by
  cases hf
  exact SA.of pa_nil (q _ _ _ Gr.refl S .nil)
theorem eva_cons (ha : EvF X e f) (hr : EvA X es g) (hs : starEach (e :: es) X.env = (false, eval e X.env) :: starEach es X.env := by rfl) : EvA X (e :: es) (aCons f g) := fun B env ds σ Hf H d ds' S hf Q q => by
  obtain ⟨v1, s1, e1, e⟩ := bnd_eq hf
  obtain ⟨v2, s2, e2, e⟩ := bnd_eq e
  cases e
  refine SA.of (pa_cons (pe_se X _) (pa_sa X es) hs) ?_
  exact ha B env ds σ Hf H _ _ S e1 _ fun x Hf1 H1 g1 S1 r1 => hr B env s1 σ Hf1 H1 _ _ S1 e2 _ fun xs Hf2 H2 g2 S2 r2 => q _ _ _ (g1.trans g2) S2 (.cons (r1.up g2.ff) r2)
/-- *e at the head -/
def aStar (f : Den) (g : DenA) : DenA := fun env ds => bnd (f env ds) fun a s => bnd (g env s) fun r s' => match a with
  | .tuple xs => some (xs ++ r, s')
  | .ptup xs => some (xs ++ r, s')
  | .list xs => some (xs ++ r, s')
  | _ => none
theorem eva_star {p : Pos} (ha : EvR X e f) (hr : EvA X es g) (hs : starEach (.Starred e p :: es) X.env = (true, eval e X.env) :: starEach es X.env := by rfl) : EvA X (.Starred e p :: es) (aStar f g) := fun B env ds σ Hf H d ds' S hf Q q => by
  obtain ⟨v1, s1, e1, e⟩ := bnd_eq hf
  obtain ⟨v2, s2, e2, e⟩ := bnd_eq e
  refine SA.of (StX.pa_star (pe_se X _) (pa_sa X es) hs) ?_
  refine ha B env ds σ Hf H _ _ S e1 _ fun x Hf1 H1 g1 S1 r1 => ?_
  cases v1 with
  | tuple xs =>
    cases e
    obtain ⟨p, vs, rfl, h1, t⟩ := r1.tup
    exact ⟨p, vs, rfl, .inl (.inl (.inl (S1.sub _ _ h1))), hr B env s1 σ Hf1 H1 _ _ S1 e2 _ fun ws Hf2 H2 g2 S2 r2 => q _ _ _ (g1.trans g2) S2 ((t.up g2.ff).append r2)⟩
  | ptup xs =>
    cases e
    obtain ⟨p, vs, o, rfl, h1, _, t⟩ := r1.ptup
    exact ⟨p, vs, rfl, .inl (.inl (.inr ⟨o, S1.sub _ _ h1⟩)), hr B env s1 σ Hf1 H1 _ _ S1 e2 _ fun ws Hf2 H2 g2 S2 r2 => q _ _ _ (g1.trans g2) S2 ((t.up g2.ff).append r2)⟩
  | list xs =>
    cases e
    obtain ⟨p, vs, rfl, h1, t⟩ := r1.lst S1.sub
    exact ⟨p, vs, rfl, .inr (.inl (.inl h1)), hr B env s1 σ Hf1 H1 _ _ S1 e2 _ fun ws Hf2 H2 g2 S2 r2 => q _ _ _ (g1.trans g2) S2 ((t.up g2.ff).append r2)⟩
  | _ => cases e
def dTup (g : DenA) : Den := fun env ds => bnd (g env ds) fun r s => if r.length ≤ 100000 then some (.tuple r, s) else none
def dLst (g : DenA) : Den := fun env ds => bnd (g env ds) fun r s => if r.length ≤ 100000 then some (.list r, s) else none
theorem evf_tup {x1} (h : EvA X es g) : EvF X (.Tuple es x1 pos) (dTup g) := fun B env ds σ Hf H d ds' S hf Q q => by
  obtain ⟨v1, s1, e1, e⟩ := bnd_eq hf
  split at e
  · rename_i hz
    cases e
    refine SE.of (pe_tup (pa_sa X es)) (h B env ds σ Hf H _ _ S e1 _ fun xs Hf1 H1 g1 S1 r1 => ⟨by rw [r1.length]; exact sz_ok hz, (q.step g1).tup S1 r1⟩)
  · cases e
theorem evn_lst (h : EvA X es g) : EvN X (.List es pos) (dLst g) := fun B env ds σ Hf H d ds' S hf Q q => by
  obtain ⟨v1, s1, e1, e⟩ := bnd_eq hf
  split at e
  · rename_i hz
    cases e
    refine SE.of (pe_lst (pa_sa X es)) (h B env ds σ Hf H _ _ S e1 _ fun xs Hf1 H1 g1 S1 r1 => ⟨by rw [r1.length]; exact sz_ok hz, (q.step g1).lst S1 r1⟩)
  · cases e
theorem evn_dT : EvN X (.Dict [] [] pos) (dC (.dT [])) := fun B env ds σ Hf H d ds' S hf Q q => by
  cases hf
  exact SE.of pe_dnewT (q.dT S .nil)
theorem evn_dK : EvN X (.Dict [] [] pos) (dC (.dK [])) := fun B env ds σ Hf H d ds' S hf Q q => by
  cases hf
  exact SE.of pe_dnewK (q.dK S .nil)
/-! ### readable arguments, built-ins by name -/
abbrev RdL (B : Bs) (Hf H : Hp) : List V → List D → Prop := Paired (Rd1 B Hf H)
def CB (B : Bs) (K : PySem.W.Frag) (env : En) (ds : DS) (σ : St) (Hf H : Hp) (d : List D) (Q : List V → Hp → Prop) : Prop := ∀ vs Hf' H', Gr B Hf H Hf' H' → SR B K env ds σ Hf' H' → RdL B Hf' H' vs d → Q vs H'
def EvB (X : Cx) (es : List Expr) (f : DenA) : Prop := ∀ B env ds σ Hf H d ds', SR B X.K env ds σ Hf H → f env ds = some (d, ds') → ∀ Q : List V → Hp → Prop, CB B X.K env ds' σ Hf H d Q → SA X es σ H Q
theorem RdL.up {B : Bs} {Hf H Hf' H' : Hp} (g : Gr B Hf H Hf' H') : ∀ {vs : List V} {ds : List D}, RdL B Hf H vs ds → RdL B Hf' H' vs ds
  | _, _, .nil => .nil
  | _, _, .cons r t => .cons (r.up g) (RdL.up g t)
theorem evb_nil : EvB X [] aNil := fun B env ds σ Hf H d ds' S hf Q q => by
  cases hf
  exact SA.of pa_nil (q _ _ _ Gr.refl S .nil)
theorem evb_cons (ha : EvR X e f) (hr : EvB X es g) (hs : starEach (e :: es) X.env = (false, eval e X.env) :: starEach es X.env := by rfl) : EvB X (e :: es) (aCons f g) := fun B env ds σ Hf H d ds' S hf Q q => by
  obtain ⟨v1, s1, e1, e⟩ := bnd_eq hf
  obtain ⟨v2, s2, e2, e⟩ := bnd_eq e
  cases e
  refine SA.of (pa_cons (pe_se X _) (pa_sa X es) hs) ?_
  exact ha B env ds σ Hf H _ _ S e1 _ fun x Hf1 H1 g1 S1 r1 => hr B env s1 σ Hf1 H1 _ _ S1 e2 _ fun xs Hf2 H2 g2 S2 r2 => q _ _ _ (g1.trans g2) S2 (.cons (r1.up g2) r2)
/-- a built-in function by what it does to data -/
def RCF (X : Cx) (r : List V → Hp → VK → Prop) (p : List D → Option D) : Prop := ∀ B env ds σ Hf H args d vs Q, SR B X.K env ds σ Hf H → RdL B Hf H vs args → p args = some d → CF B X.K env ds σ Hf H d Q → r vs H Q
def RCN (X : Cx) (r : List V → Hp → VK → Prop) (p : List D → Option D) : Prop := ∀ B env ds σ Hf H args d vs Q, SR B X.K env ds σ Hf H → RdL B Hf H vs args → p args = some d → CN B X.K env ds σ Hf H d Q → r vs H Q
def dB (p : List D → Option D) (g : DenA) : Den := fun env ds => bnd (g env ds) fun r s => op1 (p r) s
theorem evf_callB {id : String} {x : Str} {r : List V → Hp → VK → Prop} {p0 : List D → Option D} {p : Pos} (hc : CallR X (.builtin id) r) (hr : RCF X r p0) (hm : X.mg x = none) (hv : bootBuiltins x = some (.builtin id)) (ha : EvB X (e :: es) g) (hg : Gl X x := by rfl)
    (hn : x ≠ "__name__" := by decide) (hdb : (x == ("__debug__" : Str)) = false := by decide) (hs : starEach (e :: es) X.env = (false, eval e X.env) :: starEach es X.env := by rfl) (hpl : (backTo pos (starEach es X.env)).any (·.1) = false := by rfl) : EvF X (.Call (.Name x p) (e :: es) [] pos) (dB p0 g) := fun B env ds σ Hf H d ds' S hf Q q => by
  obtain ⟨v1, s1, e1, e⟩ := bnd_eq hf
  obtain ⟨e3, rfl⟩ := op1_eq e
  exact SE.of (pe_callB hc hg hm hv (pa_sa X _) hn hdb hs hpl) (ha B env ds σ Hf H _ _ S e1 _ fun vs Hf1 H1 g1 S1 r1 => hr _ _ _ _ _ _ _ _ _ _ S1 r1 e3 (q.step g1))
theorem evf_callTy {T : String} {x : Str} {r : List V → Hp → VK → Prop} {p0 : List D → Option D} {p : Pos} (hc : CallR X (.type T) r) (hr : RCF X r p0) (hm : X.mg x = none) (hv : bootBuiltins x = some (.type T)) (ha : EvB X (e :: es) g) (hg : Gl X x := by rfl)
    (hn : x ≠ "__name__" := by decide) (hdb : (x == ("__debug__" : Str)) = false := by decide) (hs : starEach (e :: es) X.env = (false, eval e X.env) :: starEach es X.env := by rfl) (hpl : (backTo pos (starEach es X.env)).any (·.1) = false := by rfl) : EvF X (.Call (.Name x p) (e :: es) [] pos) (dB p0 g) := fun B env ds σ Hf H d ds' S hf Q q => by
  obtain ⟨v1, s1, e1, e⟩ := bnd_eq hf
  obtain ⟨e3, rfl⟩ := op1_eq e
  exact SE.of (pe_callTy hc hg hm hv (pa_sa X _) hn hdb hs hpl) (ha B env ds σ Hf H _ _ S e1 _ fun vs Hf1 H1 g1 S1 r1 => hr _ _ _ _ _ _ _ _ _ _ S1 r1 e3 (q.step g1))
theorem evn_callB {id : String} {x : Str} {r : List V → Hp → VK → Prop} {p0 : List D → Option D} {p : Pos} (hc : CallR X (.builtin id) r) (hr : RCN X r p0) (hm : X.mg x = none) (hv : bootBuiltins x = some (.builtin id)) (ha : EvB X (e :: es) g) (hg : Gl X x := by rfl)
    (hn : x ≠ "__name__" := by decide) (hdb : (x == ("__debug__" : Str)) = false := by decide) (hs : starEach (e :: es) X.env = (false, eval e X.env) :: starEach es X.env := by rfl) (hpl : (backTo pos (starEach es X.env)).any (·.1) = false := by rfl) : EvN X (.Call (.Name x p) (e :: es) [] pos) (dB p0 g) := fun B env ds σ Hf H d ds' S hf Q q => by
  obtain ⟨v1, s1, e1, e⟩ := bnd_eq hf
  obtain ⟨e3, rfl⟩ := op1_eq e
  exact SE.of (pe_callB hc hg hm hv (pa_sa X _) hn hdb hs hpl) (ha B env ds σ Hf H _ _ S e1 _ fun vs Hf1 H1 g1 S1 r1 => hr _ _ _ _ _ _ _ _ _ _ S1 r1 e3 (q.step g1))
theorem evn_callTy {T : String} {x : Str} {r : List V → Hp → VK → Prop} {p0 : List D → Option D} {p : Pos} (hc : CallR X (.type T) r) (hr : RCN X r p0) (hm : X.mg x = none) (hv : bootBuiltins x = some (.type T)) (ha : EvB X (e :: es) g) (hg : Gl X x := by rfl)
    (hn : x ≠ "__name__" := by decide) (hdb : (x == ("__debug__" : Str)) = false := by decide) (hs : starEach (e :: es) X.env = (false, eval e X.env) :: starEach es X.env := by rfl) (hpl : (backTo pos (starEach es X.env)).any (·.1) = false := by rfl) : EvN X (.Call (.Name x p) (e :: es) [] pos) (dB p0 g) := fun B env ds σ Hf H d ds' S hf Q q => by
  obtain ⟨v1, s1, e1, e⟩ := bnd_eq hf
  obtain ⟨e3, rfl⟩ := op1_eq e
  exact SE.of (pe_callTy hc hg hm hv (pa_sa X _) hn hdb hs hpl) (ha B env ds σ Hf H _ _ S e1 _ fun vs Hf1 H1 g1 S1 r1 => hr _ _ _ _ _ _ _ _ _ _ S1 r1 e3 (q.step g1))
end
end L2.Dn
set_option Elab.async false
set_option linter.all false
set_option maxRecDepth 100000
set_option maxHeartbeats 4000000
namespace L2.Dn
open PySem PySem.Spec PyProof.Rows PySem.W
/-! ### sorted(t), t a tuple of ints -/
section
variable {prog : Program} {w : World} {A : Around} {E : Value → Shared → Prop} {s : Shared}
theorem collect_tup {l : Addr} {vs : List Value} {Q : List Value → Shared → Prop} (hl : IsTup s.heap l vs.toArray)
    (h : Q vs { s with heap := (s.heap.push (seqObj "list" #[] 0)).update s.heap.objs.size (Obj.mapSeq (· ++ vs.toArray)) }) (hsz : vs.length ≤ sizeLine) :
    wpAny (model prog w) A (collect (.ref l)) Q E s := by
  obtain ⟨o, ho, hc, n, hd⟩ := id hl
  unfold collect
  refine wpAny_bind (wpAny_runValue (codeAny_builtin entry_proto_collect' ?_))
  show wpAny _ _ (do again (.builtin "list.__iadd__" ⟨[← newList [], .ref l], []⟩)) _ _ s
  refine wpAny_bind (wpAny_newList (wpAny_pure ⟨Code.quiet_builtin _ (by decide +kernel), codeAny_builtin entry_list_iadd' ?_⟩))
  show wpAny _ _ (Builtin.List.listExtendWith (.ref s.heap.objs.size) (.ref l) (.ref s.heap.objs.size)) _ _ { s with heap := s.heap.push (seqObj "list" #[] 0) }
  unfold Builtin.List.listExtendWith
  have ho' : (s.heap.push (seqObj "list" #[] 0)).get? l = some o := Heap.get?_push_of_some _ ho
  refine wpAny_bind (wpAny_typeOf (T := "tuple") ⟨o, ho', hc⟩ ?_)
  have ht : (Value.type "tuple" == Value.type "tuple") = true := by rfl
  rw [if_pos (by rw [ht]; simp)]
  refine wpAny_bind (listItems_at ho' hd ?_)
  refine wpAny_bind (listItems_at (xs := #[]) (n := 0) (Heap.get?_push_size _ rfl) rfl ?_)
  rw [if_neg (by simp)]
  refine wpAny_bind (listUpdate_at (xs := #[]) (n := 0) (Heap.get?_push_size _ rfl) rfl ?_ (Nat.zero_le _) (by show (#[] ++ vs.toArray).size ≤ sizeLine + 1; simp only [Array.size_append, List.size_toArray, List.length_nil]; omega))
  refine wpAny_pure ?_
  show wpAny (model prog w) A (do
      let o ← load s.heap.objs.size
      match o.data with
      | .seq xs _ => pure xs.toList
      | _ => unsupported "internal:collect") Q E { s with heap := (s.heap.push (seqObj "list" #[] 0)).update s.heap.objs.size (Obj.mapSeq (· ++ vs.toArray)) }
  refine wpAny_bind (wpAny_load (get?_update_seq (Heap.get?_push_size _ rfl) _) ?_)
  show wpAny _ _ (pure ((#[] : Array Value) ++ vs.toArray).toList) Q E _
  rw [show ((#[] : Array Value) ++ vs.toArray).toList = vs by simp]
  exact wpAny_pure h
theorem sorted_ordT {l : Addr} {vs : List Value} {ltv : Value → Value → Bool} {Q : Value → Shared → Prop} (O : SrtO.Swo ltv) (hl : IsTup s.heap l vs.toArray) (hz : vs.length ≤ sizeLine)
    (hS : 2 ≤ vs.length → ∀ (h₁ : Heap) (a : Addr), h₁.get? a = some (seqObj "list" vs.toArray 0) → (∀ b o, s.heap.get? b = some o → b ≠ a ∧ h₁.get? b = some o) → SrtO.SortableO prog w A.in1.in1 { s with heap := h₁ } a vs ltv)
    (h : ∀ out : List Value, SrtO.Srtd ltv out → SrtO.Stb ltv out vs → Q (.ref (s.heap.objs.size + 1)) { s with heap := sortedAll s.heap vs out.toArray }) :
    wpAny (model prog w) A (call (.builtin "sorted") [.ref l]) Q E s := by
  refine Calls.call_function_entry kind_sorted plain_sorted entry_sorted (args_sorted1 _) ?_
  unfold Builtin.«sorted»
  refine wpAny_bind (m := checkCount "sorted" 1 1 _) (wpAny_pure ?_)
  refine wpAny_bind (collect_tup hl ?_ hz)
  refine wpAny_bind (wpAny_newList ?_ hz)
  have hsz : ((s.heap.push (seqObj "list" #[] 0)).update s.heap.objs.size (Obj.mapSeq (· ++ vs.toArray))).objs.size = s.heap.objs.size + 1 := by
    rw [Heap.size_update, size_push']
  have hoL : (((s.heap.push (seqObj "list" #[] 0)).update s.heap.objs.size (Obj.mapSeq (· ++ vs.toArray))).push (seqObj "list" vs.toArray 0)).get? (s.heap.objs.size + 1) = some (seqObj "list" vs.toArray 0) := by
    rw [← hsz]; exact Heap.get?_push_size _ rfl
  have keep : ∀ b o, s.heap.get? b = some o → b ≠ s.heap.objs.size + 1 ∧ (((s.heap.push (seqObj "list" #[] 0)).update s.heap.objs.size (Obj.mapSeq (· ++ vs.toArray))).push (seqObj "list" vs.toArray 0)).get? b = some o := fun b o q => by
    have hlt : b < s.heap.objs.size := Heap.lt_size q
    refine ⟨Nat.ne_of_lt (Nat.lt_succ_of_lt hlt), Heap.get?_push_of_some _ ?_⟩
    rw [Heap.get?_update_ne _ _ _ _ (Nat.ne_of_lt hlt)]
    exact Heap.get?_push_of_some _ q
  show wpAny _ _ _ _ _ { s with heap := ((s.heap.push (seqObj "list" #[] 0)).update s.heap.objs.size (Obj.mapSeq (· ++ vs.toArray))).push (seqObj "list" vs.toArray 0) }
  rw [hsz]
  refine wpAny_bind (wpAny_holding (wpAny_call_entry slot_list_sort ⟨_, hoL, rfl⟩ entry_list_sort (SrtO.list_sort_ord O hoL hz (fun h2 => hS h2 _ _ hoL keep) fun out hs hb => ⟨_, rfl, ?_⟩) (args_list_sort _)))
  exact wpAny_pure ⟨_, rfl, h out hs hb⟩
end
section
variable {X : Cx}
def rSortedA (K : PySem.W.Frag) : List V → Hp → VK → Prop := fun vs H Q => ∃ (a : Addr) (ns : List Int), vs = [V.ref a] ∧ SqT K H a (ns.map V.int) ∧
  ∀ (ns' : List Int) (p : Addr), ns'.Perm ns → ns'.Pairwise (· ≤ ·) → H p = none → Q (.ref p) (upd H p (.lst (ns'.map V.int)))
theorem cr_sortedA : CallR X (.builtin "sorted") (rSortedA X.K) := by
  intro pins s σ H vs us Q I r h
  obtain ⟨a, ns, rfl, hs, q⟩ := h
  obtain ⟨its, rv, hl, hz⟩ := I.tuple hs
  rw [Vals.ref1 r]
  have hi := rv.ints
  refine sorted_ordT SrtO.swo_int hl (by rw [← rv.length]; exact hz) (fun h2 h₁ a' _ _ => SrtO.ints_sortable hi h2) fun out h1 h2 => ?_
  obtain ⟨k1, k2, k3⟩ := SrtO.ints_out hi h1 h2
  obtain ⟨ep, he'⟩ := PyProof.Rows.sortedAll_at s.heap its out.toArray
  have hlen : ((out.map SrtO.iv).map V.int).length ≤ sizeLine := by
    rw [List.length_map, k2.length_eq]
    rw [List.length_map] at hz
    exact hz
  exact ⟨.ref _, upd H (s.heap.objs.size + 1) (.lst ((out.map SrtO.iv).map V.int)), I.laid (t' := s.toks) (fun _ _ => PyProof.Rows.sortedAll_old) (Nat.le_succ _) ⟨hlen, out, ep, vals_of_ints k1, he'⟩, rfl, q _ _ k2 k3 (I.hok.fresh (Nat.le_succ _))⟩
/-! ### len of a dict, read -/
def rLenTR : List V → Hp → VK → Prop := fun xs H Q => ∃ (p : Addr) (kvs : List (List Key × V)), xs = [.ref p] ∧ Rd H p (.dT kvs) ∧ Q (.int ((kvs.length : Nat) : Int)) H
theorem call_len_dTR : CallR X (.builtin "len") rLenTR := by
  intro pins s σ H xs us Q I r h
  obtain ⟨p, kvs, rfl, hp, q⟩ := h
  obtain ⟨u, rfl, rx⟩ := vals1 r
  obtain rfl : u = .ref p := rx
  obtain ⟨z, hd, ys, rel, dd⟩ := dt_rd I.hok hp
  have hl : kvs.length = ys.length := Paired.length rel
  refine call_len_dictH hd dd (by rw [← hl]; rw [sizeLine_eq] at z; omega) ?_
  rw [← hl]
  exact ⟨.int ((kvs.length : Nat) : Int), H, I.tok _, ⟨_, rfl⟩, q⟩
def rLenKR : List V → Hp → VK → Prop := fun xs H Q => ∃ (p : Addr) (kvs : List (Key × V)), xs = [.ref p] ∧ Rd H p (.dK kvs) ∧ Q (.int ((kvs.length : Nat) : Int)) H
theorem call_len_dKR : CallR X (.builtin "len") rLenKR := by
  intro pins s σ H xs us Q I r h
  obtain ⟨p, kvs, rfl, hp, q⟩ := h
  obtain ⟨u, rfl, rx⟩ := vals1 r
  obtain rfl : u = .ref p := rx
  exact d_len I hp fun t s' I' => ⟨.int ((kvs.length : Nat) : Int), H, I', ⟨_, rfl⟩, q⟩
/-! ### isinstance of a dict -/
def rIsiD (K : PySem.W.Frag) : List V → Hp → VK → Prop := fun xs H Q => ∃ (a : Addr) (c : V) (u : Value) (b : Bool), xs = [.ref a, c] ∧ ClsV c u ∧ ((∃ kvs, Rd H a (.dT kvs)) ∨ ∃ kvs, Rd H a (.dK kvs)) ∧ PySem.W.kitOne K (.type "dict") u = some b ∧ Q (.bl b) H
theorem call_isiD : CallR X (.builtin "isinstance") (rIsiD X.K) := by
  intro pins s σ H xs us Q I r h
  obtain ⟨a, c, u, b, rfl, k, hd, e, q⟩ := h
  obtain ⟨u1, u2, rfl, r1, r2⟩ := vals2 r
  have e2 := k.eq r2
  subst e2
  cases r1
  have hx : ∃ o, s.heap.get? a = some o ∧ o.cls = .type "dict" := by
    rcases hd with ⟨kvs, h⟩ | ⟨kvs, h⟩
    · obtain ⟨_, _, xs, _, o, es, ep, h1, h2, _⟩ := dt_rd I.hok h
      exact ⟨o, h1, h2.1⟩
    · obtain ⟨_, _, xs, _, o, es, ep, h1, h2, _⟩ := dk_rd I.hok h
      exact ⟨o, h1, h2.1⟩
  exact PySem.W.kia_one PySem.W.kitx_dict I.kIn hx e (fun z => nomatch z) fun tk => ⟨.bl b, H, I.tok tk, rfl, q⟩
end
end L2.Dn
set_option Elab.async false
set_option linter.all false
set_option maxRecDepth 100000
namespace L2.Dn
open PySem PySem.Spec PyProof.Rows
/-! ### moving on -/
section
variable {B : Bs} {K : PySem.W.Frag} {env env' : En} {ds ds' : DS} {σ σ' : St} {Hf H Hf' H' : Hp}
theorem SR.move (S : SR B K env ds σ Hf H) (g : Gr B Hf H Hf' H') (sub : Same Hf' H') (dr : DrawR B.dr ds' Hf' H') : SR B K env ds' σ Hf' H' where
  sub := sub
  base := fun a o e => by
    obtain ⟨o1, e1, n1⟩ := S.base a o e
    obtain ⟨o2, e2, n2⟩ := g.hh a o1 e1
    exact ⟨o2, e2, fun n => (n1 n).trans (n2 n)⟩
  fbase := S.fbase.trans g.ff
  fnew := fun a h => by
    rcases g.nw a h with h1 | h1 | ⟨nd, xs, h1⟩
    · exact S.fnew a h1
    · refine .inr (.inl ?_)
      cases q : B.H0 a with
      | none => rfl
      | some o =>
        obtain ⟨o1, e1, _⟩ := S.base a o q
        rw [h1] at e1; cases e1
    · cases q : B.H0 a with
      | none => exact .inr (.inl rfl)
      | some o =>
        obtain ⟨o1, e1, n1⟩ := S.base a o q
        rw [h1] at e1; cases e1
        exact .inr (.inr ⟨nd, xs, by rw [(n1 nd).bk (by intro _ z; cases z)]⟩)
  slots := fun i s e => by
    have h := S.slots i s e
    cases s with
    | val d =>
      obtain ⟨v, e1, r⟩ := h
      exact ⟨v, e1, r.up g.ff⟩
    | own d =>
      obtain ⟨a, e1, n1, n2, n3, t⟩ := h
      exact ⟨a, e1, g.noF n1 t.ne t.nt, n2, n3, t.up g n3⟩
    | draw => exact h
    | scr ns => exact h
  apart := S.apart
  draw := dr
  len := S.len
  tk := S.tk.trans g.tk
  tab0 := S.tab0
  tabf := by
    cases q : Hf' (PTb K) with
    | none => rfl
    | some o =>
      obtain ⟨ps, h, _⟩ := S.tk _ S.tab0
      rcases g.nw _ (by rw [q]; simp) with h1 | h1 | ⟨_, xs, h1⟩
      · exact absurd S.tabf h1
      · rw [h] at h1; cases h1
      · rw [h] at h1; cases h1
theorem SR.moveTo (S : SR B K env ds σ Hf H) (g : Gr B Hf H Hf' H') (S' : SR B K env' ds' σ' Hf' H') : SR B K env ds' σ Hf' H' := S.move g S'.sub S'.draw
def wipeE (env : En) : List Nat → En
  | [] => env
  | v :: vs => (wipeE env vs).set v none
theorem SR.unset (S : SR B K env ds σ Hf H) (i : Nat) : SR B K (env.set i none) ds (σ.set i none) Hf H where
  sub := S.sub
  tk := S.tk
  tab0 := S.tab0
  tabf := S.tabf
  base := S.base
  fbase := S.fbase
  fnew := S.fnew
  slots := fun j s e => by
    by_cases h : i = j
    · subst h
      rw [List.getElem?_set_self'] at e
      cases q : env[i]? with
      | none => rw [q] at e; cases e
      | some x => rw [q] at e; cases e
    · rw [List.getElem?_set_ne h] at e
      have := S.slots j s e
      cases s <;> (simp only [SlotR] at this ⊢; rw [List.getElem?_set_ne h]; exact this)
  apart := fun j l d e a hne h1 h2 h3 h4 => by
    by_cases hj : i = j
    · subst hj
      rw [List.getElem?_set_self'] at h1
      cases q : env[i]? with
      | none => rw [q] at h1; cases h1
      | some x => rw [q] at h1; cases h1
    · by_cases hl : i = l
      · subst hl
        rw [List.getElem?_set_self'] at h2
        cases q : env[i]? with
        | none => rw [q] at h2; cases h2
        | some x => rw [q] at h2; cases h2
      · rw [List.getElem?_set_ne hj] at h1 h3
        rw [List.getElem?_set_ne hl] at h2 h4
        exact S.apart j l d e a hne h1 h2 h3 h4
  draw := S.draw
  len := by rw [List.length_set, List.length_set]; exact S.len
theorem SR.wipe (S : SR B K env ds σ Hf H) : ∀ vs : List Nat, SR B K (wipeE env vs) ds (L2.wipe σ vs) Hf H
  | [] => S
  | v :: vs => (SR.wipe S vs).unset v
theorem SR.set (S : SR B K env ds σ Hf H) {i : Nat} {v : V} {d : D} (r : Rp Hf v d) : SR B K (env.set i (some (.val d))) ds (σ.set i (some v)) Hf H where
  sub := S.sub
  tk := S.tk
  tab0 := S.tab0
  tabf := S.tabf
  base := S.base
  fbase := S.fbase
  fnew := S.fnew
  slots := fun j s e => by
    by_cases h : i = j
    · subst h
      rw [List.getElem?_set_self'] at e
      cases q : env[i]? with
      | none => rw [q] at e; cases e
      | some x =>
        rw [q] at e
        cases e
        have hl : i < σ.length := by
          rw [← S.len]
          exact (List.getElem?_eq_some_iff.mp q).1
        exact ⟨v, by rw [List.getElem?_set_self hl], r⟩
    · rw [List.getElem?_set_ne h] at e
      have := S.slots j s e
      cases s <;> (simp only [SlotR] at this ⊢; rw [List.getElem?_set_ne h]; exact this)
  apart := fun j l d e a hne h1 h2 h3 h4 => by
    by_cases hj : i = j
    · subst hj
      rw [List.getElem?_set_self'] at h1
      cases q : env[i]? with
      | none => rw [q] at h1; cases h1
      | some x => rw [q] at h1; cases h1
    · by_cases hl : i = l
      · subst hl
        rw [List.getElem?_set_self'] at h2
        cases q : env[i]? with
        | none => rw [q] at h2; cases h2
        | some x => rw [q] at h2; cases h2
      · rw [List.getElem?_set_ne hj] at h1 h3
        rw [List.getElem?_set_ne hl] at h2 h4
        exact S.apart j l d e a hne h1 h2 h3 h4
  draw := S.draw
  len := by rw [List.length_set, List.length_set]; exact S.len
/-- a new object is a slot's own -/
theorem SR.setOwn (S : SR B K env ds σ Hf H) {i : Nat} {a : Addr} {d : D} (F : Fre B env σ a) (nf : Hf a = none) (t : Tp Hf H a d) : SR B K (env.set i (some (.own d))) ds (σ.set i (some (.ref a))) Hf H where
  sub := S.sub
  tk := S.tk
  tab0 := S.tab0
  tabf := S.tabf
  base := S.base
  fbase := S.fbase
  fnew := S.fnew
  slots := fun j s e => by
    by_cases h : i = j
    · subst h
      rw [List.getElem?_set_self'] at e
      cases q : env[i]? with
      | none => rw [q] at e; cases e
      | some x =>
        rw [q] at e
        cases e
        have hl : i < σ.length := by
          rw [← S.len]
          exact (List.getElem?_eq_some_iff.mp q).1
        exact ⟨a, by rw [List.getElem?_set_self hl], nf, F.h0, F.nd, t⟩
    · rw [List.getElem?_set_ne h] at e
      have := S.slots j s e
      cases s <;> (simp only [SlotR] at this ⊢; rw [List.getElem?_set_ne h]; exact this)
  apart := fun j l d e b hne h1 h2 h3 h4 => by
    by_cases hj : i = j
    · subst hj
      rw [List.getElem?_set_ne hne] at h2 h4
      rw [List.getElem?_set_self'] at h3
      cases q : σ[i]? with
      | none => rw [q] at h3; cases h3
      | some x =>
        rw [q] at h3
        cases h3
        exact F.no l e h2 h4
    · by_cases hl : i = l
      · subst hl
        rw [List.getElem?_set_ne hj] at h1 h3
        rw [List.getElem?_set_self'] at h4
        cases q : σ[i]? with
        | none => rw [q] at h4; cases h4
        | some x =>
          rw [q] at h4
          cases h4
          exact F.no j d h1 h3
      · rw [List.getElem?_set_ne hj] at h1 h3
        rw [List.getElem?_set_ne hl] at h2 h4
        exact S.apart j l d e b hne h1 h2 h3 h4
  draw := S.draw
  len := by rw [List.length_set, List.length_set]; exact S.len
/-- a slot's own object is changed -/
theorem SR.chg (S : SR B K env ds σ Hf H) {i : Nat} {a : Addr} {d0 d : D} {o : HO} (e0 : env[i]? = some (some (.own d0))) (ea : σ[i]? = some (some (.ref a))) (t : Tp Hf (upd H a o) a d) : SR B K (env.set i (some (.own d))) ds σ Hf (upd H a o) where
  sub := fun b x e => by
    obtain ⟨a', e1, n1, _, _, _⟩ := S.slots i _ e0
    rw [ea] at e1; cases e1
    rw [upd_ne (ne_of_none e n1)]; exact S.sub b x e
  base := fun b x e => by
    obtain ⟨a', e1, _, n2, _, _⟩ := S.slots i _ e0
    rw [ea] at e1; cases e1
    rw [upd_ne (ne_of_none e n2)]; exact S.base b x e
  fbase := S.fbase
  fnew := S.fnew
  slots := fun j s e => by
    by_cases h : i = j
    · subst h
      rw [List.getElem?_set_self', e0] at e
      cases e
      obtain ⟨a', e1, n1, n2, n3, _⟩ := S.slots i _ e0
      rw [ea] at e1; cases e1
      exact ⟨a, ea, n1, n2, n3, t⟩
    · rw [List.getElem?_set_ne h] at e
      exact (S.slots j s e).hp fun d' q => by
        subst q
        exact fun z => S.apart i j d0 d' a h e0 e ea z
  apart := fun j l d' e b hne h1 h2 h3 h4 => by
    have f : ∀ {m : Nat} {x : D}, (env.set i (some (.own d)))[m]? = some (some (.own x)) → ∃ y, env[m]? = some (some (.own y)) := fun {m x} h => by
      by_cases hm : i = m
      · subst hm; exact ⟨d0, e0⟩
      · rw [List.getElem?_set_ne hm] at h; exact ⟨x, h⟩
    obtain ⟨y1, k1⟩ := f h1
    obtain ⟨y2, k2⟩ := f h2
    exact S.apart j l y1 y2 b hne k1 k2 h3 h4
  draw := fun x l c e => by
    obtain ⟨a', e1, _, _, n3, _⟩ := S.slots i _ e0
    rw [ea] at e1; cases e1
    obtain ⟨h1, h2, h3, h4, h5⟩ := S.draw x l c e
    refine ⟨?_, ?_, h3, h4, h5⟩
    · rw [upd_ne]
      · exact h1
      · intro z; subst z; exact n3 ⟨_, _, _, e, .inl rfl⟩
    · rw [upd_ne]
      · exact h2
      · intro z; subst z; exact n3 ⟨_, _, _, e, .inr rfl⟩
  len := by rw [List.length_set]; exact S.len
  tk := by
    obtain ⟨a', e1, _, _, _, t0⟩ := S.slots i _ e0
    rw [ea] at e1; cases e1
    exact S.tk.trans (.upd fun u e => by cases t0 with
      | lst h _ => rw [h] at e; cases e; exact ⟨(by intro _ z; cases z), (by intro _ z; cases z)⟩
      | dT h _ => rw [h] at e; cases e; exact ⟨(by intro _ z; cases z), (by intro _ z; cases z)⟩
      | dK h _ => rw [h] at e; cases e; exact ⟨(by intro _ z; cases z), (by intro _ z; cases z)⟩)
  tab0 := S.tab0
  tabf := S.tabf
end
/-! ### targets -/
def SG (X : Cx) (tg : Expr) (v : V) (σ : St) (H : Hp) (Q : St → Hp → Prop) : Prop := ∀ pins s u, Inv X pins σ H s → RelV v u → wpAny (model X.prog X.w) X.A (assign tg X.env u) (fun _ s' => ∃ σ' H', Inv X pins σ' H' s' ∧ Q σ' H') X.xe s
theorem pg_sg (X : Cx) (tg : Expr) : PG X tg (SG X tg) := ⟨fun pins s σ H v u Q I r h => h pins s u I r⟩
theorem SG.of {X : Cx} {tg : Expr} {t : TG} (p : PG X tg t) {v : V} {σ : St} {H : Hp} {Q : St → Hp → Prop} (h : t v σ H Q) : SG X tg v σ H Q := fun pins s u I r => p.run pins s σ H v u Q I r h
abbrev DenG := D → En → Option En
/-- a target: the slots ts alone -/
def EvG (X : Cx) (tg : Expr) (ts : List Nat) (g : DenG) : Prop := ∀ B env env' ds σ Hf H d v, SR B X.K env ds σ Hf H → Rp Hf v d → g d env = some env' → ∀ Q : St → Hp → Prop,
  (∀ σ', SR B X.K env' ds σ' Hf H → σ'.length = σ.length → (∀ j, j ∉ ts → σ'[j]? = σ[j]?) → Q σ' H) → SG X tg v σ H Q
def EvGs (X : Cx) (tgs : List Expr) (ts : List Nat) (g : List D → En → Option En) : Prop := ∃ t : TGs, PGs X tgs t ∧ ∀ B env env' ds σ Hf H d vs, SR B X.K env ds σ Hf H → RpL Hf vs d → g d env = some env' → ∀ Q : St → Hp → Prop,
  (∀ σ', SR B X.K env' ds σ' Hf H → σ'.length = σ.length → (∀ j, j ∉ ts → σ'[j]? = σ[j]?) → Q σ' H) → t vs σ H Q
def gNm (i : Nat) : DenG := fun d env => some (env.set i (some (.val d)))
def gsNil : List D → En → Option En
  | [], env => some env
  | _, _ => none
def gsCons (g : DenG) (gs : List D → En → Option En) : List D → En → Option En
  | d :: r, env => match g d env with
    | none => none
    | some env' => gs r env'
  | _, _ => none
def gTp (gs : List D → En → Option En) : DenG := fun d env => match d with
  | .tuple ds => gs ds env
  | _ => none
section
variable {X : Cx} {pos : Pos}
theorem evg_nm (i : Nat) {x : Str} (hN : X.N.Nodup) (hi : X.N[i]? = some x := by rfl) (hx : Loc X.env.scope x := by first | exact Or.inl rfl | exact Or.inr rfl) (hf : X.fn x = true ∨ X.env.scope.names.lookup x = some .local := by first | exact .inl rfl | exact .inr rfl) : EvG X (.Name x pos) [i] (gNm i) := fun B env env' ds σ Hf H d v S r e Q q => by
  cases e
  refine SG.of (pg_name hN hi hx hf) (q _ (S.set r) (List.length_set ..) fun j hj => ?_)
  rw [List.getElem?_set_ne]
  simp at hj
  omega
theorem evgs_nil : EvGs X [] [] gsNil := ⟨_, pgs_nil, fun B env env' ds σ Hf H d vs S r e Q q => by
  cases r with
  | nil => cases e; exact ⟨rfl, q σ S rfl fun _ _ => rfl⟩
  | cons _ _ => cases e⟩
theorem evgs_cons {tg : Expr} {tgs : List Expr} {ts us : List Nat} {g : DenG} {gs : List D → En → Option En} (h : EvG X tg ts g) (hs : EvGs X tgs us gs)
    (he : (assignEach (tg :: tgs) X.env).map (·.2) = assign tg X.env :: (assignEach tgs X.env).map (·.2) := by rfl) : EvGs X (tg :: tgs) (ts ++ us) (gsCons g gs) := by
  obtain ⟨t, pt, k⟩ := hs
  refine ⟨_, pgs_cons (pg_sg X tg) pt he, fun B env env' ds σ Hf H d vs S r e Q q => ?_⟩
  cases r with
  | nil => cases e
  | cons r rr =>
    rename_i v vs d ds
    have e : (match g d env with | none => none | some env' => gs ds env') = some env' := e
    cases e1 : g d env with
    | none => rw [e1] at e; cases e
    | some env1 =>
      rw [e1] at e
      refine ⟨v, vs, rfl, h B env env1 _ σ Hf H d v S r e1 _ fun σ1 S1 l1 o1 => ?_⟩
      refine k B env1 env' _ σ1 Hf H ds vs S1 rr e Q fun σ2 S2 l2 o2 => ?_
      refine q σ2 S2 (l2.trans l1) fun j hj => ?_
      rw [o2 j fun z => hj (List.mem_append_right _ z), o1 j fun z => hj (List.mem_append_left _ z)]
theorem evg_tp {es : List Expr} {k : Nat} {ts : List Nat} {gs : List D → En → Option En} {n : Nat} (hc : X.calm = true) (h : EvGs X es ts gs) (hn : (assignEach es X.env).length = n) (hgn : ∀ d env env', gs d env = some env' → d.length = n)
    (hst : (assignEach es X.env).findIdx? (·.1) = none := by rfl) : EvG X (.Tuple es k pos) ts (gTp gs) := fun B env env' ds σ Hf H d v S r e Q q => by
  obtain ⟨t, pt, kk⟩ := h
  refine SG.of (pg_tup hc pt hn hst) ?_
  unfold gTp at e
  cases r with
  | tup h1 r =>
    exact ⟨_, _, rfl, .inl (.inl (S.sub _ _ h1)), by rw [r.length]; exact hgn _ _ _ e, kk B env env' _ σ Hf H _ _ S r e Q q⟩
  | _ => cases e
theorem gs2 {g h : DenG} : ∀ d env env', gsCons g (gsCons h gsNil) d env = some env' → d.length = 2 := by
  intro d env env' e
  match d, e with
  | [], e => cases e
  | [a], e =>
    have e : (match g a env with | none => none | some env' => gsCons h gsNil [] env') = some env' := e
    cases q : g a env <;> (rw [q] at e; cases e)
  | [a, b], _ => rfl
  | a :: b :: c :: r, e =>
    have e : (match g a env with | none => none | some env' => gsCons h gsNil (b :: c :: r) env') = some env' := e
    cases q : g a env with
    | none => rw [q] at e; cases e
    | some x =>
      rw [q] at e
      have e : (match h b x with | none => none | some env' => gsNil (c :: r) env') = some env' := e
      cases q2 : h b x <;> (rw [q2] at e; cases e)
theorem gs3 {g h l : DenG} : ∀ d env env', gsCons g (gsCons h (gsCons l gsNil)) d env = some env' → d.length = 3 := by
  intro d env env' e
  cases d with
  | nil => cases e
  | cons a r =>
    have e : (match g a env with | none => none | some env' => gsCons h (gsCons l gsNil) r env') = some env' := e
    cases q : g a env with
    | none => rw [q] at e; cases e
    | some x =>
      rw [q] at e
      have := gs2 _ _ _ e
      rw [List.length_cons, this]
end
theorem wipe_eq {σ σ' : St} {ts : List Nat} : ∀ {vs : List Nat}, σ'.length = σ.length → (∀ j, j ∉ ts → σ'[j]? = σ[j]?) → (∀ j ∈ ts, j ∈ vs) → L2.wipe σ' vs = L2.wipe σ vs := by
  intro vs hl ho hv
  apply List.ext_getElem?
  intro j
  by_cases hj : j ∈ vs
  · have f : ∀ (τ : St) (us : List Nat), j ∈ us → (L2.wipe τ us)[j]? = if j < τ.length then some none else none := by
      intro τ us
      induction us with
      | nil => intro h; cases h
      | cons u us ih =>
        intro h
        show ((L2.wipe τ us).set u none)[j]? = _
        by_cases e : u = j
        · subst e
          rw [List.getElem?_set_self', ← wipe_length τ us]
          by_cases hlt : u < (L2.wipe τ us).length
          · rw [if_pos hlt, List.getElem?_eq_getElem hlt]; rfl
          · rw [if_neg hlt, List.getElem?_eq_none (by omega)]; rfl
        · rw [List.getElem?_set_ne e]
          exact ih ((List.mem_cons.mp h).elim (fun z => absurd z.symm e) id)
    rw [f σ' vs hj, f σ vs hj, hl]
  · rw [wipe_out hj, wipe_out hj]
    exact ho j fun z => hj (hv j z)
/-! ### what is walked -/
def SI (X : Cx) (tg iter : Expr) (σ : St) (H : Hp) (R : It → Hp → Prop) : Prop := ∀ pins s, Inv X pins σ H s →
  wpAny (model X.prog X.w) X.A (eval iter X.env) (fun v s1 => wpAny (model X.prog X.w) X.A (pyIter v) (PIE X pins σ tg R) X.xe s1) X.xe s
theorem pi_si (X : Cx) (tg iter : Expr) : PI X tg iter (SI X tg iter) := ⟨fun pins s σ H R I h => h pins s I⟩
theorem SI.of {X : Cx} {tg iter : Expr} {wi : TI} (p : PI X tg iter wi) {σ : St} {H : Hp} {R : It → Hp → Prop} (h : wi σ H R) : SI X tg iter σ H R := fun pins s I => p.run pins s σ H R I h
/-- the items, in their order -/
def Yl (B : Bs) (K : PySem.W.Frag) (J : It) (items : List D) (Hf0 : Hp) : Prop := ∀ i env ds σ Hf H, Same Hf0 Hf → SR B K env ds σ Hf H →
  (i < items.length → J.go i H ∧ ∀ x H', J.yld i H x H' → ∀ d, items[i]? = some d → ∃ Hf', Gr B Hf H Hf' H' ∧ SR B K env ds σ Hf' H' ∧ Rp Hf' x d) ∧ (items.length ≤ i → J.stop i H)
def EvI (X : Cx) (tg iter : Expr) (g : DenA) : Prop := ∀ B env ds σ Hf H items ds', SR B X.K env ds σ Hf H → g env ds = some (items, ds') → ∀ R : It → Hp → Prop,
  (∀ J Hf' H', Gr B Hf H Hf' H' → SR B X.K env ds' σ Hf' H' → Yl B X.K J items Hf' → R J H') → SI X tg iter σ H R
section
variable {X : Cx} {tg e : Expr} {f : Den}
theorem yl_list {B : Bs} {K : PySem.W.Frag} {a : Addr} {vs : List V} {items : List D} {Hf0 : Hp} (h : Hf0 a = some (.lst vs)) (r : RpL Hf0 vs items) : Yl B K (Itl K a) items Hf0 := fun i env ds σ Hf H s S => by
  have hq : SqL K H a vs := .inl (.inl (S.sub _ _ (s _ _ h)))
  refine ⟨fun hi => ?_, fun hi => ⟨vs, hq, by rw [r.length]; exact hi⟩⟩
  obtain ⟨v, e1, r1⟩ := r.get (List.getElem?_eq_getElem hi)
  refine ⟨⟨vs, v, hq, e1⟩, fun x H' y d hd => ?_⟩
  obtain ⟨rfl, y⟩ := y
  have := y vs hq
  rw [e1] at this
  cases this
  rw [List.getElem?_eq_getElem hi] at hd
  cases hd
  exact ⟨Hf, Gr.refl, S, r1.up s⟩
theorem yl_tup {B : Bs} {K : PySem.W.Frag} {a : Addr} {vs : List V} {items : List D} {Hf0 : Hp} (h : Hf0 a = some (.tup vs)) (r : RpL Hf0 vs items) : Yl B K (Itt K a) items Hf0 := fun i env ds σ Hf H s S => by
  have hq : SqT K H a vs := .inl (.inl (S.sub _ _ (s _ _ h)))
  refine ⟨fun hi => ?_, fun hi => ⟨vs, hq, by rw [r.length]; exact hi⟩⟩
  obtain ⟨v, e1, r1⟩ := r.get (List.getElem?_eq_getElem hi)
  refine ⟨⟨vs, v, hq, e1⟩, fun x H' y d hd => ?_⟩
  obtain ⟨rfl, y⟩ := y
  have := y vs hq
  rw [e1] at this
  cases this
  rw [List.getElem?_eq_getElem hi] at hd
  cases hd
  exact ⟨Hf, Gr.refl, S, r1.up s⟩
theorem yl_ptup {B : Bs} {K : PySem.W.Frag} {a : Addr} {vs : List V} {items : List D} {Hf0 : Hp} {o : Obj} (h : Hf0 a = some (.frz o (.tup vs))) (r : RpL Hf0 vs items) : Yl B K (Itt K a) items Hf0 := fun i env ds σ Hf H s S => by
  have hq : SqT K H a vs := .inl (.inr ⟨o, S.sub _ _ (s _ _ h)⟩)
  refine ⟨fun hi => ?_, fun hi => ⟨vs, hq, by rw [r.length]; exact hi⟩⟩
  obtain ⟨v, e1, r1⟩ := r.get (List.getElem?_eq_getElem hi)
  refine ⟨⟨vs, v, hq, e1⟩, fun x H' y d hd => ?_⟩
  obtain ⟨rfl, y⟩ := y
  have := y vs hq
  rw [e1] at this
  cases this
  rw [List.getElem?_eq_getElem hi] at hd
  cases hd
  exact ⟨Hf, Gr.refl, S, r1.up s⟩
def rgD (a : Int) : Nat → List D
  | 0 => []
  | n + 1 => .int a :: rgD (a + 1) n
theorem rgD_len : ∀ (a : Int) (n : Nat), (rgD a n).length = n
  | _, 0 => rfl
  | a, n + 1 => congrArg Nat.succ (rgD_len (a + 1) n)
theorem rgD_get : ∀ (a : Int) (n i : Nat), i < n → (rgD a n)[i]? = some (.int (a + i))
  | _, 0, _, h => absurd h (Nat.not_lt_zero _)
  | a, n + 1, 0, _ => by simp [rgD]
  | a, n + 1, i + 1, h => by
    show (rgD (a + 1) n)[i]? = _
    rw [rgD_get (a + 1) n i (by omega)]
    congr 2
    omega
theorem yl_rng {B : Bs} {K : PySem.W.Frag} {lo : Int} {n : Nat} {Hf0 : Hp} : Yl B K (Itr lo n) (rgD lo n) Hf0 := fun i env ds σ Hf H s S => by
  rw [rgD_len]
  refine ⟨fun hi => ⟨hi, fun x H' y d hd => ?_⟩, fun hi => hi⟩
  obtain ⟨rfl, rfl⟩ := y
  rw [rgD_get lo n i hi] at hd
  cases hd
  exact ⟨Hf, Gr.refl, S, .int _⟩
theorem yl_keysT {B : Bs} {K : PySem.W.Frag} {a : Addr} {o : Obj} {kvs : List (List Key × V)} {items : List (List Key × D)} {Hf0 : Hp} (h : Hf0 a = some (.frz o (.dT kvs))) (r : RpT Hf0 kvs items) : Yl B K (Itkt a o kvs) (items.map fun p => keyT p.1) Hf0 := fun i env ds σ Hf H s S => by
  have hq : H a = some (.frz o (.dT kvs)) := S.sub _ _ (s _ _ h)
  have keys : ∀ {kvs : List (List Key × V)} {items : List (List Key × D)}, RpT Hf0 kvs items → kvs.map (·.1) = items.map (·.1) := by
    intro kvs items r
    induction items generalizing kvs with
    | nil => cases r; rfl
    | cons p ps ih => cases r with
      | cons h t => rw [List.map_cons, List.map_cons, ih t]
  have hk := keys r
  have hl := r.length
  rw [List.length_map]
  refine ⟨fun hi => ⟨⟨hq, by omega⟩, fun x H' y d hd => ?_⟩, fun hi => ⟨hq, by omega⟩⟩
  obtain ⟨rfl, k, v, q, e1, rfl, e2⟩ := y
  rw [List.getElem?_map, List.getElem?_eq_getElem hi] at hd
  cases hd
  have e3 : (kvs.map (·.1))[i]? = some k := by rw [List.getElem?_map, e1]; rfl
  rw [hk, List.getElem?_map, List.getElem?_eq_getElem hi] at e3
  have e4 : (items[i]).1 = k := Option.some.inj e3
  show ∃ Hf', Gr B Hf H' Hf' H' ∧ SR B K env ds σ Hf' H' ∧ Rp Hf' (V.ref q) (keyT (items[i]).1)
  rw [e4]
  cases hq2 : Hf q with
  | none => exact ⟨upd Hf q (.tup (k.map kV)), ⟨fun a o e => ⟨o, e, fun _ => .refl o⟩, same_fz hq2, fun b hb => by
      by_cases h : b = q
      · subst h; exact .inr (.inr ⟨S.noDrT e2, _, e2⟩)
      · rw [upd_ne h] at hb; exact .inl hb, .refl _⟩, S.fzT hq2 e2, .tup upd_same key_rp⟩
  | some o2 =>
    have := S.sub _ _ hq2
    rw [e2] at this
    cases this
    exact ⟨Hf, Gr.refl, S, .tup hq2 key_rp⟩
end
end L2.Dn
set_option Elab.async false
set_option linter.all false
set_option maxRecDepth 100000
namespace L2.Dn
open PySem PySem.Spec PyProof.Rows
/-! ### iteration sources -/
/-- what a value that stays gives, walked -/
def itemsOf : D → Option (List D)
  | .list xs => some xs
  | .tuple xs => some xs
  | .ptup xs => some xs
  | .dT kvs => some (kvs.map fun p => keyT p.1)
  | _ => none
def dItems (f : Den) : DenA := fun env ds => bnd (f env ds) fun a s => op1 (itemsOf a) s
/-- range(a) | range(a, b) -/
def dRg1 (f : Den) : DenA := fun env ds => bnd (f env ds) fun a s => match a with
  | .int n => if n < 100000 ∧ -100000 < n then some (rgD 0 n.toNat, s) else none
  | _ => none
def dRg2 (f h : Den) : DenA := fun env ds => bnd (f env ds) fun a s => bnd (h env s) fun b s1 => match a, b with
  | .int i, .int j => if -100000 < i ∧ i < 100000 ∧ -100000 < j ∧ j < 100000 then some (rgD i (j - i).toNat, s1) else none
  | _, _ => none
section
variable {X : Cx} {tg e a b : Expr} {f h : Den}
theorem evi_val (hf : EvF X e f) (hs : ∀ x, foldedSetIterable e X.env x = pure x := by intro _; rfl) (hk : ∀ elts kk tpos, tg = .Tuple elts kk tpos → True := fun _ _ _ _ => trivial) : EvI X tg e (dItems f) := fun B env ds σ Hf H items ds' S he R q => by
  obtain ⟨v1, s1, e1, e⟩ := bnd_eq he
  obtain ⟨e3, rfl⟩ := op1_eq e
  unfold itemsOf at e3
  split at e3
  · cases e3
    refine SI.of (pi_list (pe_se X _)) (hf B env ds σ Hf H _ _ S e1 _ fun v Hf1 H1 g1 S1 r1 => ?_)
    cases r1 with
    | lst h1 r => exact ⟨_, rfl, ⟨_, .inl (.inl (S1.sub _ _ h1))⟩, q _ _ _ g1 S1 (yl_list h1 r)⟩
  · cases e3
    refine SI.of (pi_tup (pe_se X _)) (hf B env ds σ Hf H _ _ S e1 _ fun v Hf1 H1 g1 S1 r1 => ?_)
    cases r1 with
    | tup h1 r => exact ⟨_, rfl, ⟨_, .inl (.inl (S1.sub _ _ h1))⟩, q _ _ _ g1 S1 (yl_tup h1 r)⟩
  · cases e3
    refine SI.of (pi_tup (pe_se X _)) (hf B env ds σ Hf H _ _ S e1 _ fun v Hf1 H1 g1 S1 r1 => ?_)
    cases r1 with
    | ptup h1 hd r => exact ⟨_, rfl, ⟨_, .inl (.inr ⟨_, S1.sub _ _ h1⟩)⟩, q _ _ _ g1 S1 (yl_ptup h1 r)⟩
  · cases e3
    refine SI.of (pi_keys (pe_se X _)) (hf B env ds σ Hf H _ _ S e1 _ fun v Hf1 H1 g1 S1 r1 => ?_)
    cases r1 with
    | dT h1 r => exact ⟨_, _, rfl, .inr ⟨_, S1.sub _ _ h1, q _ _ _ g1 S1 (yl_keysT h1 r)⟩⟩
  · cases e3
theorem evi_rg1 {p pos : Pos} (hm : X.mg "range" = none) (ha : EvR X a f) (hg : Gl X "range" := by rfl) (hs : starEach [a] X.env = [(false, eval a X.env)] := by rfl) : EvI X tg (.Call (.Name "range" p) [a] [] pos) (dRg1 f) := fun B env ds σ Hf H items ds' S he R q => by
  obtain ⟨v1, s1, e1, e⟩ := bnd_eq he
  cases v1 with
  | int n =>
    have e : (if n < 100000 ∧ -100000 < n then some (rgD 0 n.toNat, s1) else none) = some (items, ds') := e
    split at e
    · rename_i hn
      cases e
      refine SI.of (pi_range1 hg hm (pa_cons (pe_se X _) pa_nil hs) hs) ?_
      refine ha B env ds σ Hf H _ _ S e1 _ fun v Hf1 H1 g1 S1 r1 => ?_
      cases r1.int
      exact ⟨n, rfl, by omega, by omega, q _ _ _ g1 S1 yl_rng⟩
    · cases e
  | _ => cases e
theorem evi_rg2 {p pos : Pos} (hm : X.mg "range" = none) (ha : EvR X a f) (hb : EvR X b h) (hg : Gl X "range" := by rfl) (hs : starEach [a, b] X.env = [(false, eval a X.env), (false, eval b X.env)] := by rfl) (hs2 : starEach [b] X.env = [(false, eval b X.env)] := by rfl) :
    EvI X tg (.Call (.Name "range" p) [a, b] [] pos) (dRg2 f h) := fun B env ds σ Hf H items ds' S he R q => by
  obtain ⟨v1, s1, e1, e⟩ := bnd_eq he
  obtain ⟨v2, s2, e2, e⟩ := bnd_eq e
  cases v1 with
  | int i =>
    cases v2 with
    | int j =>
      have e : (if -100000 < i ∧ i < 100000 ∧ -100000 < j ∧ j < 100000 then some (rgD i (j - i).toNat, s2) else none) = some (items, ds') := e
      split at e
      · rename_i hn
        cases e
        refine SI.of (pi_range2 hg hm (pa_cons (pe_se X _) (pa_cons (pe_se X _) pa_nil hs2) (by rw [hs, hs2])) hs hs2) ?_
        refine ha B env ds σ Hf H _ _ S e1 _ fun v Hf1 H1 g1 S1 r1 => hb B env s1 σ Hf1 H1 _ _ S1 e2 _ fun v2 Hf2 H2 g2 S2 r2 => ?_
        cases r1.int
        cases r2.int
        exact ⟨i, j, rfl, by omega, q _ _ _ (g1.trans g2) S2 yl_rng⟩
      · cases e
    | _ => cases e
  | _ => cases e
end
/-! ### list comprehensions -/
def tYesD : DenT := fun _ ds => some (true, ds)
/-- the tests of a comprehension's clause -/
def EvTs (X : Cx) (ifs : List Expr) (t : DenT) : Prop := ∃ tt : TT, PTs X ifs tt ∧ ∀ B env ds σ Hf H d ds', SR B X.K env ds σ Hf H → t env ds = some (d, ds') → ∀ Q : Bool → Hp → Prop, CT B X.K env ds' σ Hf H d Q → tt σ H Q
theorem evts_nil {X : Cx} : EvTs X [] tYesD := ⟨_, pts_nil, fun B env ds σ Hf H d ds' S e Q q => by
  cases e
  exact q _ _ Gr.refl S⟩
theorem evts_one {X : Cx} {c : Expr} {t : DenT} (h : EvT X c t) : EvTs X [c] t := ⟨_, pts_one (pt_st X c), fun B env ds σ Hf H d ds' S e Q q => h B env ds σ Hf H d ds' S e Q q⟩
def lcLoop (gg : DenG) (t : DenT) (fe : Den) (env0 : En) : List D → DS → Option (List D × DS)
  | [], s => some ([], s)
  | d :: r, s => match gg d env0 with
    | none => none
    | some env' => bnd (t env' s) fun b s1 => match b with
      | false => lcLoop gg t fe env0 r s1
      | true => bnd (fe env' s1) fun y s2 => bnd (lcLoop gg t fe env0 r s2) fun ys s3 => some (y :: ys, s3)
def dLc (gi : DenA) (own : List Nat) (gg : DenG) (t : DenT) (fe : Den) : Den := fun env ds => bnd (gi env ds) fun items s => bnd (lcLoop gg t fe (wipeE env own) items s) fun r s' => if r.length ≤ 100000 then some (.list r, s') else none
theorem lcLoop_cons {gg : DenG} {t : DenT} {fe : Den} {env0 : En} {d : D} {r : List D} {s s' : DS} {ys : List D} (h : lcLoop gg t fe env0 (d :: r) s = some (ys, s')) :
    ∃ env' b s1, gg d env0 = some env' ∧ t env' s = some (b, s1) ∧ ((b = false ∧ lcLoop gg t fe env0 r s1 = some (ys, s')) ∨ (b = true ∧ ∃ y s2 zs, fe env' s1 = some (y, s2) ∧ lcLoop gg t fe env0 r s2 = some (zs, s') ∧ ys = y :: zs)) := by
  unfold lcLoop at h
  split at h
  · cases h
  · rename_i env' e1
    obtain ⟨b, s1, e2, h⟩ := bnd_eq h
    refine ⟨env', b, s1, e1, e2, ?_⟩
    cases b with
    | false => exact .inl ⟨rfl, h⟩
    | true =>
      obtain ⟨y, s2, e3, h⟩ := bnd_eq h
      obtain ⟨zs, s3, e4, h⟩ := bnd_eq h
      cases h
      exact .inr ⟨rfl, y, s2, zs, e3, e4, rfl⟩
theorem drop_at {items : List D} {i : Nat} {d : D} {r : List D} (h : items.drop i = d :: r) : i < items.length ∧ items[i]? = some d ∧ items.drop (i + 1) = r := by
  have h1 : i < items.length := by
    rcases Nat.lt_or_ge i items.length with q | q
    · exact q
    · rw [List.drop_eq_nil_of_le q] at h; cases h
  rw [List.drop_eq_getElem_cons h1] at h
  cases h
  exact ⟨h1, List.getElem?_eq_getElem h1, rfl⟩
/-- the readings that a block's parts have in every block of that kind -/
def SGb (X : Cx) (scope : Scope) (tg : Expr) (v : V) (σ : St) (H : Hp) (Q : St → Hp → Prop) : Prop := ∀ (s : Shared) (H0 : Hp) (C : Addr) (cl : List (Str × Addr)) (fp : List Addr), SG (X.blk s H0 scope (compEnvC scope cl C X.env) fp) tg v σ H Q
def SEb (X : Cx) (scope : Scope) (e : Expr) (σ : St) (H : Hp) (Q : VK) : Prop := ∀ (s : Shared) (H0 : Hp) (C : Addr) (cl : List (Str × Addr)) (fp : List Addr), SE (X.blk s H0 scope (compEnvC scope cl C X.env) fp) e σ H Q
def STb (X : Cx) (scope : Scope) (e : Expr) (σ : St) (H : Hp) (Q : Bool → Hp → Prop) : Prop := ∀ (s : Shared) (H0 : Hp) (C : Addr) (cl : List (Str × Addr)) (fp : List Addr), STt (X.blk s H0 scope (compEnvC scope cl C X.env) fp) e σ H Q
/-- all blocks of a comprehension -/
abbrev Blks (X : Cx) (scope : Scope) (p : Cx → Prop) : Prop := ∀ (s : Shared) (H : Hp) (C : Addr) (cl : List (Str × Addr)) (fp : List Addr), p (X.blk s H scope (compEnvC scope cl C X.env) fp)
/-- a clause's tests, in all blocks -/
def EvTb (X : Cx) (scope : Scope) (ifs : List Expr) (t : DenT) : Prop := ∃ tt : TT, Blks X scope (fun Y => PTs Y ifs tt) ∧
  ∀ B env ds σ Hf H d ds', SR B X.K env ds σ Hf H → t env ds = some (d, ds') → ∀ Q : Bool → Hp → Prop, CT B X.K env ds' σ Hf H d Q → tt σ H Q
theorem evtb_nil {X : Cx} {scope : Scope} : EvTb X scope [] tYesD := ⟨_, fun _ _ _ _ _ => pts_nil, fun B env ds σ Hf H d ds' S e Q q => by
  cases e
  exact q _ _ Gr.refl S⟩
theorem evtb_one {X : Cx} {scope : Scope} {c : Expr} {t : DenT} (h : Blks X scope fun Y => EvT Y c t) : EvTb X scope [c] t := ⟨STb X scope c, fun s H C cl fp => pts_one ⟨fun pins s' σ H' Q I hh => hh s H C cl fp pins s' I⟩, fun B env ds σ Hf H d ds' S e Q q s H0 C cl fp => h s H0 C cl fp B env ds σ Hf H d ds' S e Q q⟩
section
variable {X : Cx} {tg iter elt : Expr} {ifs : List Expr} {scope : Scope} {own : List (Str × Nat)} {pos : Pos} {gi : DenA} {ts : List Nat} {gg : DenG} {t : DenT} {fe : Den}
theorem lc_reading {tt : TT} (hi : EvI X tg iter gi) (hg : Blks X scope fun Y => EvG Y tg ts gg)
    (ht : ∀ B env ds σ Hf H d ds', SR B X.K env ds σ Hf H → t env ds = some (d, ds') → ∀ Q : Bool → Hp → Prop, CT B X.K env ds' σ Hf H d Q → tt σ H Q)
    (he : Blks X scope fun Y => EvF Y elt fe) (hts : ∀ j ∈ ts, j ∈ own.map (·.2)) {B : Bs} {env : En} {ds ds' : DS} {σ : St} {Hf H : Hp} {d : D} (S : SR B X.K env ds σ Hf H) (hf : dLc gi (own.map (·.2)) gg t fe env ds = some (d, ds')) {Q : VK} (q : CN B X.K env ds' σ Hf H d Q) :
    tLc (SI X tg iter) (SGb X scope tg) tt (SEb X scope elt) (own.map (·.2)) σ H Q := by
  obtain ⟨items, s1, e1, e⟩ := bnd_eq hf
  obtain ⟨r, s2, e2, e⟩ := bnd_eq e
  have e : (if r.length ≤ 100000 then some (D.list r, s2) else none) = some (d, ds') := e
  split at e
  · rename_i hz
    cases e
    refine hi B env ds σ Hf H _ _ S e1 _ fun J Hf1 H1 g1 S1 y1 => ?_
    intro Dd nD
    have nD0 : H Dd = none := g1.fresh nD
    have nfD1 : Hf1 Dd = none := sub_none S1 nD
    have ndD : ¬ B.isDr Dd := S1.noDr nD
    refine ⟨fun i m H' => m = items.length - i ∧ i ≤ items.length ∧ ∃ Hf' si accV acc ys, Gr B Hf1 H1 Hf' H' ∧ Hf' Dd = none ∧ SR B X.K env si σ Hf' H' ∧ H' Dd = some (.lst accV) ∧ RpL Hf' accV acc ∧ lcLoop gg t fe (wipeE env (own.map (·.2))) (items.drop i) si = some (ys, ds') ∧ acc ++ ys = r,
      ⟨items.length, by simp, Nat.zero_le _, Hf1, s1, [], [], r, Gr.refl.hp nD, nfD1, S1.hp nfD1 (S1.fre nD), upd_same, .nil, by rw [List.drop_zero]; exact e2, by simp⟩, ?_⟩
    rintro i m H' ⟨rfl, hi', Hf', si, accV, acc, ys, g2, nfD, S2, hD, rD, el, ea⟩
    obtain ⟨yg, ys0⟩ := y1 i env si σ Hf' H' g2.ff S2
    cases hd : items.drop i with
    | nil =>
      have hl : items.length ≤ i := by
        rcases Nat.lt_or_ge i items.length with z | z
        · rw [List.drop_eq_getElem_cons z] at hd; cases hd
        · exact z
      rw [hd] at el
      cases el
      rw [List.append_nil] at ea
      subst ea
      exact .inl ⟨ys0 hl, q Dd Hf' H' (g1.trans g2) S2 nD0 nfD (.lst hD rD)⟩
    | cons it rest =>
      obtain ⟨hlt, hit, hrest⟩ := drop_at hd
      rw [hd] at el
      obtain ⟨env', b, s3, k1, k2, k3⟩ := lcLoop_cons el
      obtain ⟨yg1, yg2⟩ := yg hlt
      refine .inr ⟨yg1, fun H2 => ∃ m', m' < items.length - i ∧ (m' = items.length - (i + 1) ∧ i + 1 ≤ items.length ∧ ∃ Hf' si accV acc ys, Gr B Hf1 H1 Hf' H2 ∧ Hf' Dd = none ∧ SR B X.K env si σ Hf' H2 ∧ H2 Dd = some (.lst accV) ∧ RpL Hf' accV acc ∧ lcLoop gg t fe (wipeE env (own.map (·.2))) (items.drop (i + 1)) si = some (ys, ds') ∧ acc ++ ys = r), fun H2 h2 => h2, fun x H3 yx => ?_⟩
      obtain ⟨Hf3, g3, S3, r3⟩ := yg2 x H3 yx it hit
      intro bs bH bC bcl bfp
      refine hg bs bH bC bcl bfp B _ env' si _ Hf3 H3 it x (S3.wipe _) r3 k1 _ fun σ4 S4 l4 o4 => ?_
      refine ⟨wipe_eq (ts := ts) l4 o4 hts |>.trans ?_, ?_⟩
      · -- wiping twice
        have idem : ∀ (vs : List Nat) (τ : St), (∀ j ∈ vs, j ∈ own.map (·.2)) → L2.wipe (L2.wipe τ (own.map (·.2))) vs = L2.wipe τ (own.map (·.2)) := by
          intro vs τ hv
          apply List.ext_getElem?
          intro j
          by_cases hj : j ∈ vs
          · have f : ∀ (τ : St) (us : List Nat), j ∈ us → (L2.wipe τ us)[j]? = if j < τ.length then some none else none := by
              intro τ us
              induction us with
              | nil => intro h; cases h
              | cons u us ih =>
                intro h
                show ((L2.wipe τ us).set u none)[j]? = _
                by_cases e : u = j
                · subst e
                  rw [List.getElem?_set_self', ← wipe_length τ us]
                  by_cases hlt : u < (L2.wipe τ us).length
                  · rw [if_pos hlt, List.getElem?_eq_getElem hlt]; rfl
                  · rw [if_neg hlt, List.getElem?_eq_none (by omega)]; rfl
                · rw [List.getElem?_set_ne e]
                  exact ih ((List.mem_cons.mp h).elim (fun z => absurd z.symm e) id)
            rw [f _ vs hj, f τ _ (hv j hj), wipe_length]
          · rw [wipe_out hj]
        exact idem _ σ fun j h => h
      · refine ht B env' si σ4 Hf3 H3 b s3 S4 k2 _ fun Hf5 H5 g5 S5 => ?_
        have gA := (g2.trans g3).trans g5
        have hD5 : H5 Dd = some (.lst accV) := g5.at (g3.at hD ndD) ndD
        have rD5 : RpL Hf5 accV acc := (rD.up g3.ff).up g5.ff
        have So := (S2.moveTo g3 S3).moveTo g5 S5
        have nfD3 : Hf3 Dd = none := g3.noF nfD (by rw [hD]; simp) (by intro xs z; rw [hD] at z; cases z)
        have nfD5 : Hf5 Dd = none := g5.noF nfD3 (by rw [g3.at hD ndD]; simp) (by intro xs z; rw [g3.at hD ndD] at z; cases z)
        rcases k3 with ⟨rfl, k3⟩ | ⟨rfl, y, s6, zs, k4, k5, rfl⟩
        · rw [if_neg Bool.false_ne_true]
          exact ⟨items.length - (i + 1), by omega, rfl, hlt, Hf5, s3, accV, acc, ys, gA, nfD5, So, hD5, rD5, by rw [hrest]; exact k3, ea⟩
        · rw [if_pos rfl]
          intro cs cH cC ccl cfp
          refine he cs cH cC ccl cfp B env' s3 σ4 Hf5 H5 y s6 S5 k4 _ fun v Hf7 H7 g7 S7 r7 => ?_
          have hD7 : H7 Dd = some (.lst accV) := g7.at hD5 ndD
          have rD7 : RpL Hf7 accV acc := rD5.up g7.ff
          have nfD7 : Hf7 Dd = none := g7.noF nfD5 (by rw [hD5]; simp) (by intro xs z; rw [hD5] at z; cases z)
          have la : accV.length < sizeLine := by
            have h1 := rD.length
            have h2 : (acc ++ y :: zs).length ≤ 100000 := by rw [ea]; exact hz
            rw [List.length_append, List.length_cons] at h2
            rw [sizeLine_eq]; omega
          have F : Fre B env σ Dd := S1.fre nD
          have S8 := (So.moveTo g7 S7).hp (o := .lst (accV ++ [v])) nfD7 F
          exact ⟨accV, hD7, la, items.length - (i + 1), by omega, rfl, hlt, Hf7, s6, accV ++ [v], acc ++ [y], zs, (gA.trans g7).hp nD, nfD7, S8, upd_same, rD7.append (.cons r7 .nil), by rw [hrest]; exact k5, by rw [List.append_assoc]; exact ea⟩
  · cases e
/-- [elt for tg in iter if ..] -/
theorem evn_lc (hc : X.calm = true) (hN : X.N.Nodup) (ok : BlkOk X.N X.env.scope scope own) (hi : EvI X tg iter gi) (hg : Blks X scope fun Y => EvG Y tg ts gg) (ht : EvTb X scope ifs t) (he : Blks X scope fun Y => EvF Y elt fe)
    (hts : ∀ j ∈ ts, j ∈ own.map (·.2)) (hs : ∀ x, foldedSetIterable iter X.env x = pure x := by intro _; rfl) : EvN X (.ListComp elt [⟨tg, iter, ifs, 0⟩] scope pos) (dLc gi (own.map (·.2)) gg t fe) := fun B env ds σ Hf H d ds' S hf Q q => by
  obtain ⟨tt, pt, kt⟩ := ht
  exact SE.of (pe_lc (wi := SI X tg iter) (g := SGb X scope tg) (tt := tt) (te := SEb X scope elt) hc hN (pi_si X tg iter) ok (fun s H C cl fp => ⟨fun pins s' σ' H' v u Q' I r h => h s H C cl fp pins s' u I r⟩) pt (fun s H C cl fp => ⟨fun pins s' σ' H' Q' I h => h s H C cl fp pins s' I⟩) hs)
    (lc_reading hi hg kt he hts S hf q)
end
end L2.Dn
set_option Elab.async false
set_option linter.all false
set_option maxRecDepth 100000
namespace L2.Dn
open PySem PySem.Spec PyProof.Rows
/-! ### statements -/
inductive Out where
  | nx (env : En) | rt (d : D) | bk (env : En) | ct (env : En)
abbrev DenS := En → DS → Option (Out × DS)
/-- what follows a statement -/
def CS (B : Bs) (K : PySem.W.Frag) (Hf : Hp) (o : Out) (ds' : DS) (Dd : Ends) : Prop := match o with
  | .nx env' => ∀ σ' Hf' H', Same Hf Hf' → SR B K env' ds' σ' Hf' H' → Dd.nx σ' H'
  | .bk env' => ∀ σ' Hf' H', Same Hf Hf' → SR B K env' ds' σ' Hf' H' → Dd.bk σ' H'
  | .ct env' => ∀ σ' Hf' H', Same Hf Hf' → SR B K env' ds' σ' Hf' H' → Dd.ct σ' H'
  | .rt d => ∀ v env' σ' Hf' H', Same Hf Hf' → SR B K env' ds' σ' Hf' H' → Rp Hf' v d → Dd.rt v H'
theorem CS.step {B : Bs} {K : PySem.W.Frag} {Hf Hf1 : Hp} {o : Out} {ds' : DS} {Dd : Ends} (c : CS B K Hf o ds' Dd) (s : Same Hf Hf1) : CS B K Hf1 o ds' Dd := by
  cases o with
  | nx e => exact fun σ' Hf' H' s' S => c σ' Hf' H' (s.trans s') S
  | bk e => exact fun σ' Hf' H' s' S => c σ' Hf' H' (s.trans s') S
  | ct e => exact fun σ' Hf' H' s' S => c σ' Hf' H' (s.trans s') S
  | rt d => exact fun v e σ' Hf' H' s' S r => c v e σ' Hf' H' (s.trans s') S r
def EvS (X : Cx) (st : Stmt) (f : DenS) : Prop := ∀ B env ds σ Hf H o ds', SR B X.K env ds σ Hf H → f env ds = some (o, ds') → ∀ Dd : Ends, CS B X.K Hf o ds' Dd → SS X st Dd σ H
def EvSs (X : Cx) (st : List Stmt) (f : DenS) : Prop := ∀ B env ds σ Hf H o ds', SR B X.K env ds σ Hf H → f env ds = some (o, ds') → ∀ Dd : Ends, CS B X.K Hf o ds' Dd → SSs X st Dd σ H
def dNx : DenS := fun env ds => some (.nx env, ds)
def dDead : DenS := fun _ _ => none
def dSeq (f g : DenS) : DenS := fun env ds => match f env ds with
  | none => none
  | some (.nx e, s) => g e s
  | some r => some r
def mkSl (k : Bool) (d : D) : Sl := match k with
  | false => .val d
  | true => .own d
/-- a value that stays, or a new object -/
def Nw (B : Bs) (env : En) (σ : St) (H0 Hf H : Hp) (v : V) (d : D) (k : Bool) : Prop := match k with
  | false => Rp Hf v d
  | true => ∃ a, v = .ref a ∧ H0 a = none ∧ Fre B env σ a ∧ Hf a = none ∧ Tp Hf H a d
def EvU (X : Cx) (e : Expr) (k : Bool) (f : Den) : Prop := ∀ B env ds σ Hf H d ds', SR B X.K env ds σ Hf H → f env ds = some (d, ds') → ∀ Q : VK,
  (∀ v Hf' H', Gr B Hf H Hf' H' → SR B X.K env ds' σ Hf' H' → Nw B env σ H Hf' H' v d k → Q v H') → SE X e σ H Q
section
variable {X : Cx} {e : Expr} {f : Den}
theorem EvF.u (h : EvF X e f) : EvU X e false f := fun B env ds σ Hf H d ds' S hf Q q => h B env ds σ Hf H d ds' S hf Q fun v Hf' H' g S' r => q v Hf' H' g S' r
theorem EvN.u (h : EvN X e f) : EvU X e true f := fun B env ds σ Hf H d ds' S hf Q q => h B env ds σ Hf H d ds' S hf Q fun a Hf' H' g S' n nf t => q _ Hf' H' g S' ⟨a, rfl, n, S.fre n, nf, t⟩
end
section
variable {B : Bs} {K : PySem.W.Frag} {env : En} {ds ds' : DS} {σ : St} {H0 Hf H Hf' H' : Hp} {v w : V} {d c : D} {k l : Bool} {i j : Nat}
theorem Nw.up (n : Nw B env σ H0 Hf H v d k) (g : Gr B Hf H Hf' H') : Nw B env σ H0 Hf' H' v d k := by
  cases k with
  | false => exact Rp.up n g.ff
  | true =>
    obtain ⟨a, e, h0, F, nf, t⟩ := n
    exact ⟨a, e, h0, F, g.noF nf t.ne t.nt, t.up g F.nd⟩
theorem SR.setU (S : SR B K env ds σ Hf H) (n : Nw B env σ H0 Hf H v d k) (i : Nat) : SR B K (env.set i (some (mkSl k d))) ds (σ.set i (some v)) Hf H := by
  cases k with
  | false => exact S.set n
  | true =>
    obtain ⟨a, rfl, _, F, nf, t⟩ := n
    exact S.setOwn F nf t
/-- another new object stands apart -/
theorem Nw.over {H1 Hf1 : Hp} (n : Nw B env σ H0 Hf1 H1 v d k) (m : Nw B env σ H1 Hf H w c l) (i : Nat) : Nw B (env.set i (some (mkSl k d))) (σ.set i (some v)) H1 Hf H w c l := by
  cases l with
  | false => exact m
  | true =>
    obtain ⟨b, e, h0, F, nf, t⟩ := m
    refine ⟨b, e, h0, ⟨F.h0, F.nd, fun j x h1 h2 => ?_⟩, nf, t⟩
    by_cases h : i = j
    · subst h
      rw [List.getElem?_set_self'] at h2
      cases q : σ[i]? with
      | none => rw [q] at h2; cases h2
      | some y =>
        rw [q] at h2
        cases h2
        cases k with
        | false =>
          rw [List.getElem?_set_self'] at h1
          cases q2 : env[i]? with
          | none => rw [q2] at h1; cases h1
          | some z => rw [q2] at h1; cases h1
        | true =>
          obtain ⟨a, e2, _, _, _, t2⟩ := n
          cases e2
          exact t2.ne h0
    · rw [List.getElem?_set_ne h] at h1 h2
      exact F.no j x h1 h2
theorem SR.own (S : SR B K env ds σ Hf H) (e : env[i]? = some (some (.own d))) : ∃ a, σ[i]? = some (some (.ref a)) ∧ Hf a = none ∧ ¬ B.isDr a ∧ Tp Hf H a d := by
  obtain ⟨a, h1, h2, _, h4, h5⟩ := S.slots i _ e
  exact ⟨a, h1, h2, h4, h5⟩
/-- an own list stays from now on -/
theorem SR.frzL {a : Addr} {o : HO} (S : SR B K env ds σ Hf H) (e : env[i]? = some (some (.own d))) (ea : σ[i]? = some (some (.ref a))) (ho : H a = some o) (r : Rp (upd Hf a o) (.ref a) d) : SR B K (env.set i (some (.val d))) ds σ (upd Hf a o) H := by
  obtain ⟨a', h1, nf, h0, nd, t⟩ := S.slots i _ e
  rw [ea] at h1; cases h1
  have F : Fre B (env.set i none) σ a := ⟨h0, nd, fun j x h1 h2 => by
    by_cases h : i = j
    · subst h
      rw [List.getElem?_set_self', e] at h1
      cases h1
    · rw [List.getElem?_set_ne h] at h1
      exact S.apart i j d x a h e h1 ea h2⟩
  have S1 : SR B K (env.set i none) ds (σ.set i none) Hf H := S.unset i
  have F1 : Fre B (env.set i none) (σ.set i none) a := ⟨h0, nd, fun j x h1 h2 => by
    by_cases h : i = j
    · subst h
      rw [List.getElem?_set_self', e] at h1
      cases h1
    · rw [List.getElem?_set_ne h] at h2
      exact F.no j x h1 h2⟩
  have S2 := (S1.fz nf ho F1).set (i := i) (v := .ref a) r
  rw [List.set_set, List.set_set] at S2
  have e3 : σ.set i (some (.ref a)) = σ := by
    apply List.ext_getElem?
    intro j
    by_cases h : i = j
    · subst h
      rw [List.getElem?_set_self', ea]; rfl
    · rw [List.getElem?_set_ne h]
  rw [e3] at S2
  exact S2
/-- an own dict is locked and stays -/
theorem SR.chgLock {a : Addr} {o : HO} (S : SR B K env ds σ Hf H) (e : env[i]? = some (some (.own d))) (ea : σ[i]? = some (some (.ref a))) (r : Rp (upd Hf a o) (.ref a) d) : SR B K (env.set i (some (.val d))) ds σ (upd Hf a o) (upd H a o) := by
  obtain ⟨a', h1, nf, h0, nd, t⟩ := S.slots i _ e
  rw [ea] at h1; cases h1
  have S1 : SR B K (env.set i none) ds (σ.set i none) Hf H := S.unset i
  have F1 : Fre B (env.set i none) (σ.set i none) a := ⟨h0, nd, fun j x h1 h2 => by
    by_cases h : i = j
    · subst h
      rw [List.getElem?_set_self', e] at h1
      cases h1
    · rw [List.getElem?_set_ne h] at h1 h2
      exact S.apart i j d x a h e h1 ea h2⟩
  have S2 := ((S1.hp (o := o) nf F1 t.nx).fz nf upd_same F1).set (i := i) (v := .ref a) r
  rw [List.set_set, List.set_set] at S2
  have e3 : σ.set i (some (.ref a)) = σ := by
    apply List.ext_getElem?
    intro j
    by_cases h : i = j
    · subst h
      rw [List.getElem?_set_self', ea]; rfl
    · rw [List.getElem?_set_ne h]
  rw [e3] at S2
  exact S2
end
section
variable {X : Cx} {st : Stmt} {rest : List Stmt} {f g : DenS}
theorem evss_nil : EvSs X [] dNx := fun B env ds σ Hf H o ds' S hf Dd c => by
  cases hf
  exact SSs.of pss_nil (c σ Hf H (fun _ _ e => e) S)
theorem evss_cons (h1 : EvS X st f) (h2 : EvSs X rest g) : EvSs X (st :: rest) (dSeq f g) := fun B env ds σ Hf H o ds' S hf Dd c => by
  refine SSs.of (pss_cons (ps_ss X st) (pss_ss X rest)) ?_
  unfold dSeq at hf
  cases e : f env ds with
  | none => rw [e] at hf; cases hf
  | some p =>
    obtain ⟨o1, s1⟩ := p
    rw [e] at hf
    cases o1 with
    | nx env1 => exact h1 B env ds σ Hf H _ _ S e _ fun σ' Hf' H' s S' => h2 B env1 s1 σ' Hf' H' o ds' S' hf Dd (c.step s)
    | bk env1 => cases hf; exact h1 B env ds σ Hf H _ _ S e _ c
    | ct env1 => cases hf; exact h1 B env ds σ Hf H _ _ S e _ c
    | rt d => cases hf; exact h1 B env ds σ Hf H _ _ S e _ c
theorem evs_dead : EvS X st dDead := fun B env ds σ Hf H o ds' S hf Dd c => by cases hf
theorem evss_dead {sts : List Stmt} : EvSs X sts dDead := fun B env ds σ Hf H o ds' S hf Dd c => by cases hf
theorem evs_pass {pos : Pos} : EvS X (.Pass pos) dNx := fun B env ds σ Hf H o ds' S hf Dd c => by
  cases hf
  exact SS.of ps_pass (c σ Hf H (fun _ _ e => e) S)
def dBk : DenS := fun env ds => some (.bk env, ds)
def dCt : DenS := fun env ds => some (.ct env, ds)
theorem evs_bk {pos : Pos} : EvS X (.Break pos) dBk := fun B env ds σ Hf H o ds' S hf Dd c => by
  cases hf
  exact SS.of ps_break (c σ Hf H (fun _ _ e => e) S)
theorem evs_ct {pos : Pos} : EvS X (.Continue pos) dCt := fun B env ds σ Hf H o ds' S hf Dd c => by
  cases hf
  exact SS.of ps_continue (c σ Hf H (fun _ _ e => e) S)
/-! ### an own object stays from now on (no step) -/
def dFrz (i : Nat) (f : DenS) : DenS := fun env ds => match env[i]? with
  | some (some (.own d)) => f (env.set i (some (.val d))) ds
  | _ => f env ds
theorem frz_core {C : St → Hp → Prop} {i : Nat} {B env ds σ Hf H d} (S : SR B X.K env ds σ Hf H) (e : env[i]? = some (some (.own d)))
    (lock : ∀ a u, H a = some u → Mut (some u) → (∀ o, C σ (upd H a (.frz o u))) → C σ H)
    (k : ∀ Hf' H', Same Hf Hf' → SR B X.K (env.set i (some (.val d))) ds σ Hf' H' → C σ H') : C σ H := by
  obtain ⟨a, ea, nf, nd, t⟩ := S.own e
  cases t with
  | lst h1 r => exact k _ _ (same_fz nf) (S.frzL e ea h1 (.lst upd_same (r.up (same_fz nf))))
  | dT h1 r => exact lock a _ h1 True.intro fun o => k _ _ (same_fz nf) (S.chgLock e ea (.dT upd_same (r.up (same_fz nf))))
  | dK h1 r => exact lock a _ h1 True.intro fun o => k _ _ (same_fz nf) (S.chgLock e ea (.dK upd_same (r.up (same_fz nf))))
theorem evs_frz (i : Nat) (h : EvS X st f) : EvS X st (dFrz i f) := fun B env ds σ Hf H o ds' S hf Dd c => by
  unfold dFrz at hf
  split at hf
  · rename_i d e
    refine frz_core (C := fun σ H => SS X st Dd σ H) S e (fun a u h1 m k pins s I => ?_) fun Hf' H' s S' => h B _ ds σ Hf' H' o ds' S' hf Dd (c.step s)
    obtain ⟨o2, I2⟩ := I.lock h1 m
    exact k o2 pins s I2
  · exact h B env ds σ Hf H o ds' S hf Dd c
theorem evss_frz (i : Nat) {sts : List Stmt} (h : EvSs X sts f) : EvSs X sts (dFrz i f) := fun B env ds σ Hf H o ds' S hf Dd c => by
  unfold dFrz at hf
  split at hf
  · rename_i d e
    refine frz_core (C := fun σ H => SSs X sts Dd σ H) S e (fun a u h1 m k pins s I => ?_) fun Hf' H' s S' => h B _ ds σ Hf' H' o ds' S' hf Dd (c.step s)
    obtain ⟨o2, I2⟩ := I.lock h1 m
    exact k o2 pins s I2
  · exact h B env ds σ Hf H o ds' S hf Dd c
end
/-! ### assignments -/
def dSet (i : Nat) (k : Bool) (f : Den) : DenS := fun env ds => bnd (f env ds) fun d s => some (.nx (env.set i (some (mkSl k d))), s)
def dPar (i j : Nat) (k l : Bool) (f h : Den) : DenS := fun env ds => bnd (f env ds) fun a s => bnd (h env s) fun b s1 => some (.nx ((env.set i (some (mkSl k a))).set j (some (mkSl l b))), s1)
def dPar3 (i j p : Nat) (k l m : Bool) (f h u : Den) : DenS := fun env ds => bnd (f env ds) fun a s => bnd (h env s) fun b s1 => bnd (u env s1) fun c s2 => some (.nx (((env.set i (some (mkSl k a))).set j (some (mkSl l b))).set p (some (mkSl m c))), s2)
def dAsg (f : Den) (g : DenG) : DenS := fun env ds => bnd (f env ds) fun d s => match g d env with
  | none => none
  | some env' => some (.nx env', s)
section
variable {X : Cx} {e a b c : Expr} {f h u : Den} {k l m : Bool} {pos : Pos}
theorem evs_set (i : Nat) {x : Str} {p : Pos} (hN : X.N.Nodup) (he : EvU X e k f) (hi : X.N[i]? = some x := by rfl) (hx : Loc X.env.scope x := by first | exact Or.inl rfl | exact Or.inr rfl) (hs : swapsWith e (some (.Name x p)) pos.line X.env = pure false := by rfl)
    (hf : X.fn x = true ∨ X.env.scope.names.lookup x = some .local := by first | exact .inl rfl | exact .inr rfl) : EvS X (.Assign [.Name x p] e pos) (dSet i k f) := fun B env ds σ Hf H o ds' S hd Dd cc => by
  obtain ⟨d, s1, e1, e2⟩ := bnd_eq hd
  cases e2
  exact SS.of (ps_set hN hi hx (pe_se X e) hs hf) (he B env ds σ Hf H _ _ S e1 _ fun v Hf' H' g S' n => cc _ _ _ g.ff (S'.setU n i))
theorem evs_par (i j : Nat) {x y : Str} {px py pt : Pos} {kt k2 pt2} (hc : X.calm = true) (hN : X.N.Nodup) (ha : EvU X a k f) (hb : EvU X b l h) (hij : i ≠ j) (hi : X.N[i]? = some x := by rfl) (hj : X.N[j]? = some y := by rfl)
    (hx : X.env.scope.names.lookup x = some .local := by rfl) (hy : X.env.scope.names.lookup y = some .local := by rfl)
    (hw : swappedStores [.Tuple [.Name x px, .Name y py] kt pt] (.Tuple [a, b] k2 pt2) X.env = pure (some [x, y]) := by rfl)
    (hs : swapsWithSole [.Tuple [.Name x px, .Name y py] kt pt] (.Tuple [a, b] k2 pt2) pos.line X.env = pure false := by rfl) (h1 : starEach [a, b] X.env = (false, eval a X.env) :: starEach [b] X.env := by rfl) (h2 : starEach [b] X.env = (false, eval b X.env) :: starEach [] X.env := by rfl) :
    EvS X (.Assign [.Tuple [.Name x px, .Name y py] kt pt] (.Tuple [a, b] k2 pt2) pos) (dPar i j k l f h) := fun B env ds σ Hf H o ds' S hd Dd cc => by
  obtain ⟨d1, s1, e1, hd⟩ := bnd_eq hd
  obtain ⟨d2, s2, e2, e3⟩ := bnd_eq hd
  cases e3
  refine SS.of (ps_par hc hN hi hj hij hx hy (pa_cons (pe_se X a) (pa_cons (pe_se X b) pa_nil h2) h1) hw hs) ?_
  refine ha B env ds σ Hf H _ _ S e1 _ fun v Hf1 H1 g1 S1 n1 => hb B env s1 σ Hf1 H1 _ _ S1 e2 _ fun w Hf2 H2 g2 S2 n2 => ?_
  exact ⟨v, w, rfl, cc _ _ _ (g1.ff.trans g2.ff) ((S2.setU (n1.up g2) i).setU (n1.over n2 i) j)⟩
theorem evs_par3 (i j p : Nat) {x y z : Str} {px py pz pt : Pos} {kt k2 pt2} (hc : X.calm = true) (hN : X.N.Nodup) (ha : EvU X a k f) (hb : EvU X b l h) (hcc : EvU X c m u) (hij : i ≠ j) (hil : i ≠ p) (hjl : j ≠ p) (hi : X.N[i]? = some x := by rfl) (hj : X.N[j]? = some y := by rfl) (hl : X.N[p]? = some z := by rfl)
    (hx : X.env.scope.names.lookup x = some .local := by rfl) (hy : X.env.scope.names.lookup y = some .local := by rfl) (hz : X.env.scope.names.lookup z = some .local := by rfl)
    (hw : swappedStores [.Tuple [.Name x px, .Name y py, .Name z pz] kt pt] (.Tuple [a, b, c] k2 pt2) X.env = pure (some [x, y, z]) := by rfl)
    (hs : swapsWithSole [.Tuple [.Name x px, .Name y py, .Name z pz] kt pt] (.Tuple [a, b, c] k2 pt2) pos.line X.env = pure false := by rfl) (h1 : starEach [a, b, c] X.env = (false, eval a X.env) :: starEach [b, c] X.env := by rfl) (h2 : starEach [b, c] X.env = (false, eval b X.env) :: starEach [c] X.env := by rfl) (h3 : starEach [c] X.env = (false, eval c X.env) :: starEach [] X.env := by rfl) :
    EvS X (.Assign [.Tuple [.Name x px, .Name y py, .Name z pz] kt pt] (.Tuple [a, b, c] k2 pt2) pos) (dPar3 i j p k l m f h u) := fun B env ds σ Hf H o ds' S hd Dd cc => by
  obtain ⟨d1, s1, e1, hd⟩ := bnd_eq hd
  obtain ⟨d2, s2, e2, hd⟩ := bnd_eq hd
  obtain ⟨d3, s3, e3, e4⟩ := bnd_eq hd
  cases e4
  refine SS.of (ps_par3 hc hN hi hj hl hij hil hjl hx hy hz (pa_cons (pe_se X a) (pa_cons (pe_se X b) (pa_cons (pe_se X c) pa_nil h3) h2) h1) hw hs) ?_
  refine ha B env ds σ Hf H _ _ S e1 _ fun v Hf1 H1 g1 S1 n1 => hb B env s1 σ Hf1 H1 _ _ S1 e2 _ fun w Hf2 H2 g2 S2 n2 => hcc B env s2 σ Hf2 H2 _ _ S2 e3 _ fun t Hf3 H3 g3 S3 n3 => ?_
  have n1' := n1.up g2
  exact ⟨v, w, t, rfl, cc _ _ _ ((g1.ff.trans g2.ff).trans g3.ff) (((S3.setU (n1'.up g3) i).setU ((n1.over n2 i).up g3) j).setU ((n1.over n2 i).over (n1'.over n3 i) j) p)⟩
theorem evs_asg {tg : Expr} {ts : List Nat} {g : DenG} (he : EvF X e f) (hg : EvG X tg ts g) (hs : swapsWithSole [tg] e pos.line X.env = pure false := by rfl) (hw : swappedStores [tg] e X.env = pure none := by rfl)
    (h1 : (assignEach [tg] X.env).map (·.2) = [assign tg X.env] := by rfl) : EvS X (.Assign [tg] e pos) (dAsg f g) := fun B env ds σ Hf H o ds' S hd Dd cc => by
  obtain ⟨d, s1, e1, e2⟩ := bnd_eq hd
  cases e3 : g d env with
  | none => rw [e3] at e2; cases e2
  | some env' =>
    rw [e3] at e2
    cases e2
    exact SS.of (ps_asg (pe_se X e) (pg_sg X tg) hs hw h1) (he B env ds σ Hf H _ _ S e1 _ fun v Hf' H' g' S' r => hg B env env' _ σ Hf' H' d v S' r e3 _ fun σ' S2 _ _ => cc _ _ _ g'.ff S2)
end
section
variable {X : Cx} {tg iter elt : Expr} {ifs : List Expr} {scope : Scope} {own : List (Str × Nat)} {pos spos : Pos} {gi : DenA} {ts : List Nat} {gg : DenG} {t : DenT} {fe : Den}
/-- name = [..] on one line -/
theorem evs_setLc (i : Nat) (k : Bool) {y : Str} {py : Pos} (hc : X.calm = true) (hN : X.N.Nodup) (ok : BlkOk X.N X.env.scope scope own) (hi : EvI X tg iter gi) (hg : Blks X scope fun Y => EvG Y tg ts gg) (ht : EvTb X scope ifs t) (he : Blks X scope fun Y => EvF Y elt fe)
    (hts : ∀ j ∈ ts, j ∈ own.map (·.2)) (hsw : swapsWith (.ListComp elt [⟨tg, iter, ifs, 0⟩] scope pos) (some (.Name y py)) spos.line X.env = pure true) (hy : X.N[i]? = some y := by rfl) (hyl : X.env.scope.names.lookup y = some .local := by rfl) (hs : ∀ x, foldedSetIterable iter X.env x = pure x := by intro _; rfl) :
    EvS X (.Assign [.Name y py] (.ListComp elt [⟨tg, iter, ifs, 0⟩] scope pos) spos) (dSet i k (dLc gi (own.map (·.2)) gg t fe)) := fun B env ds σ Hf H o ds' S hd Dd cc => by
  obtain ⟨d, s1, e1, e2⟩ := bnd_eq hd
  cases e2
  obtain ⟨tt, pt, kt⟩ := ht
  refine SS.of (ps_setLc (wi := SI X tg iter) (g := SGb X scope tg) (tt := tt) (te := SEb X scope elt) hc hN hy hyl hsw (pi_si X tg iter) ok (fun s H C cl fp => ⟨fun pins s' σ' H' v u Q' I r h => h s H C cl fp pins s' u I r⟩) pt (fun s H C cl fp => ⟨fun pins s' σ' H' Q' I h => h s H C cl fp pins s' I⟩) hs) ?_
  refine lc_reading hi hg kt he hts S e1 fun a Hf' H' g S' n nf tp => ?_
  cases k with
  | true => exact cc _ _ _ g.ff (S'.setOwn (S.fre n) nf tp)
  | false =>
    cases tp with
    | lst h1 r => exact cc _ _ _ (g.ff.trans (same_fz nf)) ((S'.fz nf h1 (S.fre n)).set (.lst upd_same (r.up (same_fz nf))))
    | _ => 
      obtain ⟨items, s1, _, e⟩ := bnd_eq e1
      obtain ⟨r, s2, _, e⟩ := bnd_eq e
      have e : (if r.length ≤ 100000 then some (D.list r, s2) else none) = some (_, _) := e
      split at e <;> cases e
end
/-! ### branches and loops -/
def dIfS (t : DenT) (f g : DenS) : DenS := fun env ds => bnd (t env ds) fun b s => match b with
  | true => f env s
  | false => g env s
def forLoop (g : DenG) (f : DenS) : List D → DenS
  | [], env, s => some (.nx env, s)
  | d :: r, env, s => match g d env with
    | none => none
    | some env' => match f env' s with
      | none => none
      | some (.nx e, s') => forLoop g f r e s'
      | some (.ct e, s') => forLoop g f r e s'
      | some (.bk e, s') => some (.nx e, s')
      | some (.rt d, s') => some (.rt d, s')
def dFor (gi : DenA) (g : DenG) (f : DenS) : DenS := fun env ds => bnd (gi env ds) fun items s => forLoop g f items env s
def whLoop (c : DenT) (f : DenS) : Nat → DenS
  | 0, _, _ => none
  | n + 1, env, s => bnd (c env s) fun b s1 => match b with
    | false => some (.nx env, s1)
    | true => match f env s1 with
      | none => none
      | some (.nx e, s') => whLoop c f n e s'
      | some (.ct e, s') => whLoop c f n e s'
      | some (.bk e, s') => some (.nx e, s')
      | some (.rt d, s') => some (.rt d, s')
section
variable {X : Cx} {pos : Pos}
theorem evs_if {c : Expr} {a b : List Stmt} {t : DenT} {f g : DenS} (hc : EvT X c t) (ha : EvSs X a f) (hb : EvSs X b g) : EvS X (.If c a b pos) (dIfS t f g) := fun B env ds σ Hf H o ds' S hd Dd cc => by
  obtain ⟨v, s1, e1, e2⟩ := bnd_eq hd
  refine SS.of (ps_if (pt_st X c) (pss_ss X a) (pss_ss X b)) (hc B env ds σ Hf H _ _ S e1 _ fun Hf' H' gr S' => ?_)
  cases v with
  | true =>
    rw [if_pos rfl]
    exact ha B env s1 σ Hf' H' o ds' S' e2 Dd (cc.step gr.ff)
  | false =>
    rw [if_neg Bool.false_ne_true]
    exact hb B env s1 σ Hf' H' o ds' S' e2 Dd (cc.step gr.ff)
theorem evs_for {tg iter : Expr} {body : List Stmt} {gi : DenA} {ts : List Nat} {g : DenG} {f : DenS} (hp : PassesOwn (model X.prog X.w) X.A X.env X.xe) (hc : X.calm = true) (hi : EvI X tg iter gi) (hg : EvG X tg ts g) (hb : EvSs X body f)
    (hs : ∀ x, foldedSetIterable iter X.env x = pure x := by intro _; rfl) : EvS X (.For tg iter body [] pos) (dFor gi g f) := fun B env ds σ Hf H o ds' S hd Dd cc => by
  obtain ⟨items, s1, e1, e2⟩ := bnd_eq hd
  refine SS.of (ps_for hp hc (pi_si X tg iter) (pg_sg X tg) (pss_ss X body) hs) (hi B env ds σ Hf H _ _ S e1 _ fun J Hf1 H1 g1 S1 y1 => ?_)
  refine ⟨fun i m σ' H' => m = items.length - i ∧ i ≤ items.length ∧ ∃ env' s' Hf', Same Hf1 Hf' ∧ SR B X.K env' s' σ' Hf' H' ∧ forLoop g f (items.drop i) env' s' = some (o, ds'),
    ⟨items.length, by simp, Nat.zero_le _, env, s1, Hf1, fun _ _ q => q, S1, by rw [List.drop_zero]; exact e2⟩, ?_⟩
  rintro i m σ' H' ⟨rfl, hi', env', s', Hf', sm, S', el⟩
  obtain ⟨yg, ys⟩ := y1 i env' s' σ' Hf' H' sm S'
  cases hd : items.drop i with
  | nil =>
    have hl : items.length ≤ i := by
      rcases Nat.lt_or_ge i items.length with z | z
      · rw [List.drop_eq_getElem_cons z] at hd; cases hd
      · exact z
    rw [hd] at el
    cases el
    exact .inl ⟨ys hl, cc _ _ _ (g1.ff.trans sm) S'⟩
  | cons it rest =>
    obtain ⟨hlt, hit, hrest⟩ := drop_at hd
    rw [hd] at el
    obtain ⟨yg1, yg2⟩ := yg hlt
    refine .inr ⟨yg1, fun σ2 H2 => (items.length - (i + 1) = items.length - (i + 1) ∧ i + 1 ≤ items.length ∧ ∃ env' s' Hf', Same Hf1 Hf' ∧ SR B X.K env' s' σ2 Hf' H2 ∧ forLoop g f (items.drop (i + 1)) env' s' = some (o, ds')), fun σ2 H2 h2 => ⟨_, by omega, h2⟩, fun x H3 yx => ?_⟩
    obtain ⟨Hf3, g3, S3, r3⟩ := yg2 x H3 yx it hit
    unfold forLoop at el
    cases eg : g it env' with
    | none => rw [eg] at el; cases el
    | some env2 =>
      rw [eg] at el
      refine hg B env' env2 s' σ' Hf3 H3 it x S3 r3 eg _ fun σ4 S4 _ _ => ?_
      cases eb : f env2 s' with
      | none => simp only [eb] at el; cases el
      | some p =>
        obtain ⟨o5, s5⟩ := p
        simp only [eb] at el
        have st := (g1.ff.trans sm).trans g3.ff
        refine hb B env2 s' σ4 Hf3 H3 o5 s5 S4 eb _ ?_
        cases o5 with
        | nx e5 => exact fun σ6 Hf6 H6 s6 S6 => ⟨rfl, hlt, e5, s5, Hf6, (sm.trans g3.ff).trans s6, S6, by rw [hrest]; exact el⟩
        | ct e5 => exact fun σ6 Hf6 H6 s6 S6 => ⟨rfl, hlt, e5, s5, Hf6, (sm.trans g3.ff).trans s6, S6, by rw [hrest]; exact el⟩
        | bk e5 =>
          cases el
          exact fun σ6 Hf6 H6 s6 S6 => cc _ _ _ (st.trans s6) S6
        | rt d5 =>
          cases el
          exact fun v e6 σ6 Hf6 H6 s6 S6 r6 => cc v e6 _ _ _ (st.trans s6) S6 r6
theorem evs_while (n : Nat) {c : Expr} {body : List Stmt} {t : DenT} {f : DenS} (hp : PassesOwn (model X.prog X.w) X.A X.env X.xe) (hc : EvT X c t) (hb : EvSs X body f) : EvS X (.While c body [] pos) (whLoop t f n) := fun B env ds σ Hf H o ds' S hd Dd cc => by
  refine SS.of (ps_while hp (pt_st X c) (pss_ss X body)) ?_
  refine ⟨fun m σ' H' => ∃ env' s' Hf', Same Hf Hf' ∧ SR B X.K env' s' σ' Hf' H' ∧ whLoop t f m env' s' = some (o, ds'), ⟨n, env, ds, Hf, fun _ _ q => q, S, hd⟩, ?_⟩
  rintro m σ' H' ⟨env', s', Hf', sm, S', el⟩
  cases m with
  | zero => cases el
  | succ m =>
    obtain ⟨b, s1, e1, e2⟩ := bnd_eq (show bnd (t env' s') _ = _ from el)
    refine hc B env' s' σ' Hf' H' _ _ S' e1 _ fun Hf2 H2 g2 S2 => ?_
    cases b with
    | false =>
      rw [if_neg Bool.false_ne_true]
      cases e2
      exact cc _ _ _ (sm.trans g2.ff) S2
    | true =>
      rw [if_pos rfl]
      refine ⟨fun σ3 H3 => ∃ env' s' Hf', Same Hf Hf' ∧ SR B X.K env' s' σ3 Hf' H3 ∧ whLoop t f m env' s' = some (o, ds'), fun σ3 H3 h3 => ⟨m, Nat.lt_succ_self m, h3⟩, ?_⟩
      cases eb : f env' s1 with
      | none => simp only [eb] at e2; cases e2
      | some p =>
        obtain ⟨o5, s5⟩ := p
        simp only [eb] at e2
        have st := sm.trans g2.ff
        refine hb B env' s1 σ' Hf2 H2 o5 s5 S2 eb _ ?_
        cases o5 with
        | nx e5 => exact fun σ6 Hf6 H6 s6 S6 => ⟨e5, s5, Hf6, st.trans s6, S6, e2⟩
        | ct e5 => exact fun σ6 Hf6 H6 s6 S6 => ⟨e5, s5, Hf6, st.trans s6, S6, e2⟩
        | bk e5 =>
          cases e2
          exact fun σ6 Hf6 H6 s6 S6 => cc _ _ _ (st.trans s6) S6
        | rt d5 =>
          cases e2
          exact fun v e6 σ6 Hf6 H6 s6 S6 r6 => cc v e6 _ _ _ (st.trans s6) S6 r6
end
/-! ### returns -/
def dRet (f : Den) : DenS := fun env ds => bnd (f env ds) fun d s => some (.rt d, s)
def dRetN : DenS := fun _ ds => some (.rt .none, ds)
section
variable {X : Cx} {e : Expr} {f : Den} {pos : Pos}
theorem evs_ret (he : EvF X e f) : EvS X (.Return (some e) pos) (dRet f) := fun B env ds σ Hf H o ds' S hd Dd cc => by
  obtain ⟨d, s1, e1, e2⟩ := bnd_eq hd
  cases e2
  exact SS.of (ps_ret (pe_se X e)) (he B env ds σ Hf H _ _ S e1 _ fun v Hf' H' g S' r => cc v _ _ _ _ g.ff S' r)
theorem evs_retN : EvS X (.Return none pos) dRetN := fun B env ds σ Hf H o ds' S hd Dd cc => by
  cases hd
  exact SS.of ps_retN (cc .non _ _ _ _ (fun _ _ q => q) S .non)
end
/-! ### changes of own objects -/
def dApp (i : Nat) (f : Den) : DenS := fun env ds => bnd (f env ds) fun d s => match env[i]? with
  | some (some (.own (.list xs))) => if xs.length < 100000 then some (.nx (env.set i (some (.own (.list (xs ++ [d]))))), s) else none
  | _ => none
def dExt (i : Nat) (f : Den) : DenS := fun env ds => bnd (f env ds) fun d s => match env[i]?, d with
  | some (some (.own (.list xs))), .list ys => if xs.length + ys.length < 100000 then some (.nx (env.set i (some (.own (.list (xs ++ ys))))), s) else none
  | _, _ => none
/-- xs.append(ys.pop(e)) -/
def dAppPop (i j : Nat) (f : Den) : DenS := fun env ds => bnd (f env ds) fun d s => match env[i]?, env[j]?, d with
  | some (some (.own (.list xs))), some (some (.own (.list ys))), .int n => if (xs.length < 100000 ∧ ys.length < 100000) ∧ 0 ≤ n ∧ n < ys.length then (match ys[n.toNat]? with
    | some y => some (.nx ((env.set j (some (.own (.list (ys.eraseIdx n.toNat))))).set i (some (.own (.list (xs ++ [y]))))), s)
    | none => none) else none
  | _, _, _ => none
/-- d[k] = v -/
def dPut (i : Nat) (fv fk : Den) : DenS := fun env ds => bnd (fv env ds) fun v s => bnd (fk env s) fun k s1 => match env[i]? with
  | some (some (.own (.dT kvs))) => (match keyOf? k with
    | some ks => if kvs.length < 100000 then some (.nx (env.set i (some (.own (.dT (putT kvs ks v))))), s1) else none
    | none => none)
  | some (some (.own (.dK kvs))) => (match key1? k with
    | some ks => if kvs.length < 100000 then some (.nx (env.set i (some (.own (.dK (putKD kvs ks v))))), s1) else none
    | none => none)
  | _ => none
/-- xs[k] = v -/
def dSetI (i : Nat) (fv fk : Den) : DenS := fun env ds => bnd (fv env ds) fun v s => bnd (fk env s) fun k s1 => match env[i]?, k with
  | some (some (.own (.list xs))), .int n => (match ixN xs.length n with
    | some j => some (.nx (env.set i (some (.own (.list (xs.set j v))))), s1)
    | none => none)
  | _, _ => none
section
variable {X : Cx} {e c : Expr} {f h : Den} {pos : Pos} {st : Expr} {ss : Stmt}
theorem evs_app (i : Nat) (pm : PE X st (tBM X.K "list" rAppend (tVar i) (tCons (SE X e) tNil))) (he : EvF X e f) (hs : swapsWith st none pos.line X.env = pure false := by rfl) : EvS X (.Expr st pos) (dApp i f) := fun B env ds σ Hf H o ds' S hD Dd cc => by
  obtain ⟨d, s1, e1, e2⟩ := bnd_eq hD
  split at e2
  · rename_i xs ei
    split at e2
    · rename_i hz
      cases e2
      obtain ⟨a, ea, nf, nd, t⟩ := S.own ei
      refine SS.of (ps_expr pm hs) ?_
      refine ⟨_, ea, ?_⟩
      cases t with
      | lst h1 r =>
        refine ⟨Or.inl ⟨rfl, _, Or.inl (Or.inl h1)⟩, ?_⟩
        refine he B env ds σ Hf H _ _ S e1 _ fun v Hf' H' g S' rv => ?_
        refine ⟨a, _, v, rfl, rfl, g.at h1 nd, by rw [sizeLine_eq, r.length]; omega, ?_⟩
        exact cc _ _ _ g.ff (S'.chg ei ea (.lst upd_same ((r.up g.ff).append (.cons rv .nil))))
    · cases e2
  · cases e2
theorem evs_ext (i : Nat) (pm : PE X st (tBM X.K "list" rExtend (tVar i) (tCons (SE X e) tNil))) (he : EvR X e f) (hs : swapsWith st none pos.line X.env = pure false := by rfl) : EvS X (.Expr st pos) (dExt i f) := fun B env ds σ Hf H o ds' S hD Dd cc => by
  obtain ⟨d, s1, e1, e2⟩ := bnd_eq hD
  split at e2
  · rename_i xs ys ei
    split at e2
    · rename_i hz
      cases e2
      obtain ⟨a, ea, nf, nd, t⟩ := S.own ei
      refine SS.of (ps_expr pm hs) ?_
      refine ⟨_, ea, ?_⟩
      cases t with
      | lst h1 r =>
        refine ⟨Or.inl ⟨rfl, _, Or.inl (Or.inl h1)⟩, ?_⟩
        refine he B env ds σ Hf H _ _ S e1 _ fun v Hf' H' g S' rv => ?_
        obtain ⟨b, zs, rfl, hb, rb⟩ := rv.lst S'.sub
        refine ⟨a, b, _, zs, rfl, rfl, g.at h1 nd, hb, by rw [sizeLine_eq, r.length, rb.length]; omega, ?_⟩
        exact cc _ _ _ g.ff (S'.chg ei ea (.lst upd_same ((r.up g.ff).append rb)))
    · cases e2
  · cases e2
theorem seqIx {n : Int} {l : Nat} (h1 : 0 ≤ n) (h2 : n < l) : seqIndex? n l = some n.toNat := by
  unfold seqIndex?
  first
    | (simp only []; split <;> simp <;> omega)
    | (simp [h1]; omega)
theorem evs_appPop (i j : Nat) (hij : i ≠ j) (pm : PE X st (tBM X.K "list" rAppend (tVar i) (tCons (tBM X.K "list" rPopAt (tVar j) (tCons (SE X e) tNil)) tNil))) (he : EvR X e f) (hs : swapsWith st none pos.line X.env = pure false := by rfl) : EvS X (.Expr st pos) (dAppPop i j f) := fun B env ds σ Hf H o ds' S hD Dd cc => by
  obtain ⟨d, s1, e1, e2⟩ := bnd_eq hD
  split at e2
  · rename_i xs ys n ei ej
    split at e2
    · rename_i hz
      split at e2
      · rename_i y ey
        cases e2
        obtain ⟨a, ea, nf, nd, t⟩ := S.own ei
        obtain ⟨b, eb, nfb, ndb, tb⟩ := S.own ej
        have hab : b ≠ a := fun z => S.apart i j _ _ a hij ei ej ea (z ▸ eb)
        refine SS.of (ps_expr pm hs) ?_
        refine ⟨_, ea, ?_⟩
        cases t with
        | lst h1 r =>
          cases tb with
          | lst h2 rb =>
            refine ⟨Or.inl ⟨rfl, _, Or.inl (Or.inl h1)⟩, ?_⟩
            refine ⟨_, eb, Or.inl ⟨rfl, _, Or.inl (Or.inl h2)⟩, ?_⟩
            refine he B env ds σ Hf H _ _ S e1 _ fun v Hf' H' g S' rv => ?_
            cases rv.int
            obtain ⟨w, ew, rw'⟩ := rb.get ey
            refine ⟨b, _, n, n.toNat, w, rfl, rfl, g.at h2 ndb, by omega, ?_, ?_, ew, ?_⟩
            · have := hz.2.2
              have := hz.1.2
              omega
            · rw [rb.length]; exact seqIx hz.2.1 hz.2.2
            have S2 := S'.chg ej eb (.lst upd_same ((rb.up g.ff).erase n.toNat))
            have ei2 : (env.set j (some (.own (.list (ys.eraseIdx n.toNat)))))[i]? = some (some (.own (.list xs))) := by
              rw [List.getElem?_set_ne (Ne.symm hij)]; exact ei
            have h1' : ∀ o : HO, (upd H' b o) a = some (.lst _) := fun o => (upd_ne (Ne.symm hab)).trans (g.at h1 nd)
            refine ⟨a, _, w, rfl, rfl, h1' _, by rw [sizeLine_eq, r.length]; omega, ?_⟩
            exact cc _ _ _ g.ff (S2.chg ei2 ea (.lst upd_same ((r.up g.ff).append (.cons (rw'.up g.ff) .nil))))
      · cases e2
    · cases e2
  · cases e2
theorem evs_put (i : Nat) (pm : PS X ss (sDPut (tVar i) (SE X c) (SE X e))) (he : EvF X e f) (hk : EvR X c h) : EvS X ss (dPut i f h) := fun B env ds σ Hf H o ds' S hD Dd cc => by
  obtain ⟨d, s1, e1, e2⟩ := bnd_eq hD
  obtain ⟨k, s2, e3, e4⟩ := bnd_eq e2
  refine SS.of pm ?_
  refine he B env ds σ Hf H _ _ S e1 _ fun v Hf1 H1 g1 S1 rv => ?_
  split at e4
  · rename_i kvs ei
    obtain ⟨a, ea, nf, nd, t⟩ := S.own ei
    refine ⟨_, ea, hk B env s1 σ Hf1 H1 _ _ S1 e3 _ fun w Hf2 H2 g2 S2 rw' => ?_⟩
    split at e4
    · rename_i ks ek
      split at e4
      · rename_i hz
        cases e4
        cases t with
        | dT h1 r =>
          obtain ⟨b, rfl, hb⟩ := keyOf_rd rw' ek
          have gg := g1.trans g2
          refine ⟨a, _, rfl, DPut.t (gg.at h1 nd) (S2.sub _ _ hb) (by rw [sizeLine_eq, r.length]; omega), ?_⟩
          exact cc _ _ _ gg.ff (S2.chg ei ea (.dT upd_same ((r.up gg.ff).put (rv.up g2.ff))))
      · cases e4
    · cases e4
  · rename_i kvs ei
    obtain ⟨a, ea, nf, nd, t⟩ := S.own ei
    refine ⟨_, ea, hk B env s1 σ Hf1 H1 _ _ S1 e3 _ fun w Hf2 H2 g2 S2 rw' => ?_⟩
    split at e4
    · rename_i ks ek
      split at e4
      · rename_i hz
        cases e4
        cases t with
        | dK h1 r =>
          cases key1_rd rw' ek
          have gg := g1.trans g2
          refine ⟨a, _, rfl, DPut.k (gg.at h1 nd) (by rw [sizeLine_eq, r.length]; omega), ?_⟩
          exact cc _ _ _ gg.ff (S2.chg ei ea (.dK upd_same ((r.up gg.ff).put (rv.up g2.ff))))
      · cases e4
    · cases e4
  · cases e4
theorem evs_seti (i : Nat) (pm : PS X ss (tAsg (SE X e) (L2.gSub (tVar i) (SE X c) rSetL))) (he : EvF X e f) (hk : EvR X c h) : EvS X ss (dSetI i f h) := fun B env ds σ Hf H o ds' S hD Dd cc => by
  obtain ⟨d, s1, e1, e2⟩ := bnd_eq hD
  obtain ⟨k, s2, e3, e4⟩ := bnd_eq e2
  refine SS.of pm ?_
  refine he B env ds σ Hf H _ _ S e1 _ fun v Hf1 H1 g1 S1 rv => ?_
  split at e4
  · rename_i xs n ei
    obtain ⟨a, ea, nf, nd, t⟩ := S.own ei
    refine ⟨_, ea, hk B env s1 σ Hf1 H1 _ _ S1 e3 _ fun w Hf2 H2 g2 S2 rw' => ?_⟩
    cases rw'.int
    split at e4
    · rename_i j ej
      cases e4
      cases t with
      | lst h1 r =>
        have gg := g1.trans g2
        refine ⟨a, _, n, j, rfl, rfl, gg.at h1 nd, by rw [r.length]; exact ej, ?_⟩
        exact cc _ _ _ gg.ff (S2.chg ei ea (.lst upd_same (RpL.set (rv.up g2.ff) j (r.up gg.ff))))
    · cases e4
  · cases e4
end
end L2.Dn
set_option Elab.async false
set_option linter.all false
set_option maxRecDepth 100000
namespace L2.Dn
open PySem PySem.Spec PyProof.Rows C8
/-! ### defs -/
/-- a def that computes f of its arguments -/
def spP (K : PySem.W.Frag) (n : Nat) (f : List D → Option D) : Sp := fun vs H Q _ => vs.length = n ∧ ∃ Hf args r, Same Hf H ∧ LamX.TabS H (PTb K) QN ∧ Hf (PTb K) = none ∧ RpL Hf vs args ∧ f args = some r ∧
  ∀ v Hf' H', Gr ⟨H, Hf, none⟩ Hf H Hf' H' → Same Hf' H' → Rp Hf' v r → Q v H'
/-- a def that draws: the draws' dict is its first argument -/
def spD (K : PySem.W.Frag) (n : Nat) (f : List D → DS → Option (D × DS)) : Sp := fun vs H Q _ => vs.length = n + 1 ∧ ∃ Hf x l c vs' args ds r ds', vs = .ref x :: vs' ∧ Same Hf H ∧ LamX.TabS H (PTb K) QN ∧ Hf (PTb K) = none ∧ DrawR (some (x, l, c)) ds Hf H ∧ RpL Hf vs' args ∧ f args ds = some (r, ds') ∧
  ∀ v Hf' H', Gr ⟨H, Hf, some (x, l, c)⟩ Hf H Hf' H' → Same Hf' H' → DrawR (some (x, l, c)) ds' Hf' H' → Rp Hf' v r → Q v H'
def envP (n : Nat) (args : List D) : En := args.map (fun d => some (Sl.val d)) ++ List.replicate (n - args.length) none
def envD (n : Nat) (args : List D) : En := some Sl.draw :: (args.map (fun d => some (Sl.val d)) ++ List.replicate (n - (args.length + 1)) none)
def outD : Option (Out × DS) → Option (D × DS)
  | some (.rt d, s) => some (d, s)
  | some (.nx _, s) => some (.none, s)
  | _ => none
def ds0 : DS := ⟨[], 0, [], 0⟩
/-- n: the names of the body -/
def fnP (n : Nat) (b : DenS) : List D → Option D := fun args => (outD (b (envP n args) ds0)).map (·.1)
def fnD (n : Nat) (b : DenS) : List D → DS → Option (D × DS) := fun args ds => outD (b (envD n args) ds)
theorem nodr {H0 Hf0 : Hp} {a : Addr} : ¬ (Bs.mk H0 Hf0 none).isDr a := fun ⟨_, _, _, e, _⟩ => by cases e
theorem Gr.of0 {B : Bs} {H0 Hf0 Hf H Hf' H' : Hp} (g : Gr ⟨H0, Hf0, none⟩ Hf H Hf' H') (nd : ∀ a xs, H a = some (.tup xs) → ¬ B.isDr a) : Gr B Hf H Hf' H' where
  hh := fun a o e => by
    obtain ⟨o', e', n⟩ := g.hh a o e
    exact ⟨o', e', fun _ => n nodr⟩
  tk := g.tk
  ff := g.ff
  nw := fun a h => by
    rcases g.nw a h with h1 | h1 | ⟨_, xs, h1⟩
    · exact .inl h1
    · exact .inr (.inl h1)
    · exact .inr (.inr ⟨nd a xs h1, xs, h1⟩)
theorem Gr.same0 {H0 Hf0 Hf H Hf' H' : Hp} (g : Gr ⟨H0, Hf0, none⟩ Hf H Hf' H') : ∀ a o, H a = some o → (∀ ps, o ≠ .tbl ps) → H' a = some o := fun a o e t => g.at e nodr t
theorem get_append_some {α : Type} {xs : List α} {n i : Nat} {s : α} (h : (xs.map some ++ List.replicate n none)[i]? = some (some s)) : xs[i]? = some s := by
  rcases Nat.lt_or_ge i xs.length with q | q
  · rw [List.getElem?_append_left (by rw [List.length_map]; exact q), List.getElem?_map] at h
    cases e : xs[i]? with
    | none => rw [e] at h; cases h
    | some y => rw [e] at h; cases h; rfl
  · rw [List.getElem?_append_right (by rw [List.length_map]; exact q), List.length_map] at h
    rw [List.getElem?_replicate] at h
    split at h <;> cases h
theorem slots_vals {B : Bs} {K : PySem.W.Frag} {Hf H : Hp} {vs : List V} {args : List D} {n m i : Nat} {s : Sl} (r : RpL Hf vs args) (h : (args.map (fun d => some (Sl.val d)) ++ List.replicate n none)[i]? = some (some s)) : SlotR B K Hf H (vs.map some ++ List.replicate m none) i s := by
  have h2 : ((args.map Sl.val).map some ++ List.replicate n none)[i]? = some (some s) := by rw [List.map_map]; exact h
  have h3 := get_append_some h2
  rw [List.getElem?_map] at h3
  cases e : args[i]? with
  | none => rw [e] at h3; cases h3
  | some d =>
    rw [e] at h3
    cases h3
    obtain ⟨v, e2, rv⟩ := r.get e
    refine ⟨v, ?_, rv⟩
    have hl : i < (vs.map some).length := by
      rw [List.length_map]
      exact (List.getElem?_eq_some_iff.mp e2).1
    rw [List.getElem?_append_left hl, List.getElem?_map, e2]
    rfl
theorem sr_start {K : PySem.W.Frag} {Hf H : Hp} {vs : List V} {args : List D} {ds : DS} (N : List Str) (s : Same Hf H) (tb : LamX.TabS H (PTb K) QN) (tf : Hf (PTb K) = none) (r : RpL Hf vs args) : SR ⟨H, Hf, none⟩ K (envP N.length args) ds (start N vs) Hf H where
  sub := s
  tk := .refl _
  tab0 := tb
  tabf := tf
  base := fun a o e => ⟨o, e, fun _ => .refl o⟩
  fbase := fun _ _ e => e
  fnew := fun a h => .inl h
  slots := fun i sl e => by
    have hl := r.length
    unfold envP at e
    unfold start
    exact slots_vals r e
  apart := fun i j d e a _ h1 => by
    have h2 : ((args.map Sl.val).map some ++ List.replicate (N.length - args.length) none)[i]? = some (some (.own d)) := by rw [List.map_map]; exact h1
    have h3 := get_append_some h2
    rw [List.getElem?_map] at h3
    cases e : args[i]? <;> (rw [e] at h3; cases h3)
  draw := fun x l c e => by cases e
  len := by
    unfold envP start
    simp [r.length]
theorem sr_startD {K : PySem.W.Frag} {Hf H : Hp} {vs : List V} {args : List D} {ds : DS} {x l c : Addr} (N : List Str) (s : Same Hf H) (tb : LamX.TabS H (PTb K) QN) (tf : Hf (PTb K) = none) (r : RpL Hf vs args) (dr : DrawR (some (x, l, c)) ds Hf H) : SR ⟨H, Hf, some (x, l, c)⟩ K (envD N.length args) ds (start N (.ref x :: vs)) Hf H where
  sub := s
  tk := .refl _
  tab0 := tb
  tabf := tf
  base := fun a o e => ⟨o, e, fun _ => .refl o⟩
  fbase := fun _ _ e => e
  fnew := fun a h => .inl h
  slots := fun i sl e => by
    unfold envD at e
    cases i with
    | zero => cases e; exact ⟨x, l, c, rfl, rfl⟩
    | succ i =>
      have e : (args.map (fun d => some (Sl.val d)) ++ List.replicate (N.length - (args.length + 1)) none)[i]? = some (some sl) := e
      have := slots_vals (B := ⟨H, Hf, some (x, l, c)⟩) (K := K) (H := H) (m := N.length - (V.ref x :: vs).length) r e
      cases sl with
      | val d => exact this
      | own d => exact this
      | draw => exact this
      | scr ns => exact this
  apart := fun i j d e a _ h1 => by
    unfold envD at h1
    cases i with
    | zero => cases h1
    | succ i =>
      have h2 : ((args.map Sl.val).map some ++ List.replicate (N.length - (args.length + 1)) none)[i]? = some (some (.own d)) := by rw [List.map_map]; exact h1
      have h3 := get_append_some h2
      rw [List.getElem?_map] at h3
      cases e : args[i]? <;> (rw [e] at h3; cases h3)
  draw := dr
  len := by
    unfold envD start
    simp [r.length]
theorem SR.gr {B : Bs} {K : PySem.W.Frag} {env env' : En} {ds ds' : DS} {σ σ' : St} {Hf H : Hp} (S : SR B K env ds σ Hf H) (e0 : B.H0 = H → True) : Gr B B.Hf0 B.H0 Hf H where
  hh := S.base
  ff := S.fbase
  nw := S.fnew
  tk := S.tk
section
variable {P : Program} {w : World} {K : PySem.W.Frag} {mg : Str → Option Value} {base : Heap} {x : Str} {params : Arguments} {body : List Stmt} {scope : Scope} {f : Addr} {fd : FuncData} {N ps : List Str} {k : Nat}
abbrev cxB (P : Program) (w : World) (K : PySem.W.Frag) (mg : Str → Option Value) (base : Heap) (N : List Str) (x : Str) (scope : Scope) (f : Addr) (cdv : Value) (A : Around) (outer : List Env) (s : Shared) (H : Hp) (E : XK) : Cx := (cxOf CX0 P w K mg base N x scope f cdv A outer s H E).nox
/-- a def that computes -/
theorem calP {b : DenS} (n : Nat) (F : FunD K x x params body scope [] [] f fd) (hm : mg x = some (.ref f)) (S : FnScope N ps scope) (hn : ps.length = n) (hb : Binds K fd ps [])
    (h : ∀ (cdv : Value) (A : Around) (outer : List Env) (s : Shared) (H : Hp) (E : XK), Room k (A.deeper (envOfC x scope s.heap.objs.size f cdv)) → EvSs (cxB P w K mg base N x scope f cdv A outer s H E) body b) : Cal P w K mg base (k + 1) x (spP K n (fnP N.length b)) [] :=
  ⟨f, fd, ps, [], F.ok S (fun vs H Q E h => h.1.trans hn.symm) (fun cdv A outer s H vs Q E hr hsp => ⟨SSs (cxB P w K mg base N x scope f cdv A outer s H E) body, PSs.nox (pss_ss _ body), by
    obtain ⟨_, Hf, args, r, sm, tb, tf, ra, e, q⟩ := hsp
    unfold fnP at e
    cases eb : b (envP N.length args) ds0 with
    | none => rw [eb] at e; cases e
    | some p =>
      obtain ⟨o, ds'⟩ := p
      rw [eb] at e
      refine h cdv A outer s H E hr ⟨H, Hf, none⟩ (envP N.length args) ds0 (start N vs) Hf H o ds' (sr_start N sm tb tf ra) eb _ ?_
      cases o with
      | nx env' =>
        cases e
        exact fun σ' Hf' H' s' S' => q _ Hf' H' ⟨S'.base, S'.fbase, S'.fnew, S'.tk⟩ S'.sub .non
      | rt d =>
        cases e
        exact fun v env' σ' Hf' H' s' S' rv => q v Hf' H' ⟨S'.base, S'.fbase, S'.fnew, S'.tk⟩ S'.sub rv
      | bk env' => cases e
      | ct env' => cases e⟩), hm, F.kp, hb, .nil⟩
/-- a def that draws -/
theorem calD {b : DenS} (n : Nat) (F : FunD K x x params body scope [] [] f fd) (hm : mg x = some (.ref f)) (S : FnScope N ps scope) (hn : ps.length = n + 1) (hb : Binds K fd ps [])
    (h : ∀ (cdv : Value) (A : Around) (outer : List Env) (s : Shared) (H : Hp) (E : XK), Room k (A.deeper (envOfC x scope s.heap.objs.size f cdv)) → EvSs (cxB P w K mg base N x scope f cdv A outer s H E) body b) : Cal P w K mg base (k + 1) x (spD K n (fnD N.length b)) [] :=
  ⟨f, fd, ps, [], F.ok S (fun vs H Q E h => h.1.trans hn.symm) (fun cdv A outer s H vs Q E hr hsp => ⟨SSs (cxB P w K mg base N x scope f cdv A outer s H E) body, PSs.nox (pss_ss _ body), by
    obtain ⟨_, Hf, y, l, c, vs', args, ds, r, ds', rfl, sm, tb, tf, dr, ra, e, q⟩ := hsp
    unfold fnD at e
    cases eb : b (envD N.length args) ds with
    | none => rw [eb] at e; cases e
    | some p =>
      obtain ⟨o, ds2⟩ := p
      rw [eb] at e
      refine h cdv A outer s H E hr ⟨H, Hf, some (y, l, c)⟩ (envD N.length args) ds (start N (.ref y :: vs')) Hf H o ds2 (sr_startD N sm tb tf ra dr) eb _ ?_
      cases o with
      | nx env' =>
        cases e
        exact fun σ' Hf' H' s' S' => q _ Hf' H' ⟨S'.base, S'.fbase, S'.fnew, S'.tk⟩ S'.sub S'.draw .non
      | rt d =>
        cases e
        exact fun v env' σ' Hf' H' s' S' rv => q v Hf' H' ⟨S'.base, S'.fbase, S'.fnew, S'.tk⟩ S'.sub S'.draw rv
      | bk env' => cases e
      | ct env' => cases e⟩), hm, F.kp, hb, .nil⟩
end
/-! ### calls -/
def dCallP (n : Nat) (f : List D → Option D) (g : DenA) : Den := fun env ds => bnd (g env ds) fun as s => if as.length = n then op1 (f as) s else none
def dCallD (i : Nat) (n : Nat) (f : List D → DS → Option (D × DS)) (g : DenA) : Den := fun env ds => match env[i]? with
  | some (some .draw) => bnd (g env ds) fun as s => if as.length = n then f as s else none
  | _ => none
section
variable {X : Cx} {k j n : Nat} {x : Str} {f : List D → Option D} {p pos : Pos} {e : Expr} {es : List Expr} {g : DenA}
theorem evf_callP (c : Cal X.prog X.w X.K X.mg X.base k x (spP X.K n f) []) (hr : Room j X.A) (hk : k ≤ j) (ha : EvA X (e :: es) g) (hg : Gl X x := by rfl)
    (hdb : (x == ("__debug__" : Str)) = false := by decide) (he : starEach (e :: es) X.env = (false, eval e X.env) :: starEach es X.env := by rfl) (hpl : (backTo pos (starEach es X.env)).any (·.1) = false := by rfl) :
    EvF X (.Call (.Name x p) (e :: es) [] pos) (dCallP n f g) := fun B env ds σ Hf H d ds' S hf Q q => by
  obtain ⟨as, s1, e1, e2⟩ := bnd_eq hf
  split at e2
  · rename_i hn
    obtain ⟨e3, rfl⟩ := op1_eq e2
    refine SE.of (pe_c c hr hk hg (pa_sa X _) hdb he hpl) (ha B env ds σ Hf H _ _ S e1 _ fun vs Hf1 H1 g1 S1 rv => ?_)
    rw [List.append_nil]
    refine ⟨rv.length.trans hn, Hf1, as, d, S1.sub, S1.tk _ S1.tab0, S1.tabf, rv, e3, fun v Hf' H' g' sm r => ?_⟩
    have gB : Gr B Hf1 H1 Hf' H' := g'.of0 fun a xs h => S1.noDrT h
    refine q v Hf' H' (g1.trans gB) (S1.move gB sm fun y l c ed => ?_) r
    obtain ⟨h1, h2, h3, h4, h5⟩ := S1.draw y l c ed
    have sH := g'.same0
    exact ⟨sH _ _ h1 (by intro _ z; cases z), sH _ _ h2 (by intro _ z; cases z), g'.noF h3 (by rw [h1]; simp) (by intro xs z; rw [h1] at z; cases z), g'.noF h4 (by rw [h2]; simp) (by intro xs z; rw [h2] at z; cases z), g'.ff _ _ h5⟩
  · cases e2
theorem evf_callD (i : Nat) {fD : List D → DS → Option (D × DS)} {y : Str} {py : Pos} (c : Cal X.prog X.w X.K X.mg X.base k x (spD X.K n fD) []) (hr : Room j X.A) (hk : k ≤ j) (hv : PE X (.Name y py) (tVar i)) (ha : EvA X es g) (hg : Gl X x := by rfl)
    (hdb : (x == ("__debug__" : Str)) = false := by decide) (he : starEach (.Name y py :: es) X.env = (false, eval (.Name y py) X.env) :: starEach es X.env := by rfl) (hpl : (backTo pos (starEach es X.env)).any (·.1) = false := by rfl) :
    EvF X (.Call (.Name x p) (.Name y py :: es) [] pos) (dCallD i n fD g) := fun B env ds σ Hf H d ds' S hf Q q => by
  unfold dCallD at hf
  split at hf
  · rename_i ei
    obtain ⟨as, s1, e1, e2⟩ := bnd_eq hf
    split at e2
    · rename_i hn
      obtain ⟨xa, l, c', edr, ea⟩ := S.slots i _ ei
      refine SE.of (pe_c c hr hk hg (pa_cons hv (pa_sa X es) he) hdb he hpl) ⟨_, ea, ?_⟩
      refine ha B env ds σ Hf H _ _ S e1 _ fun vs Hf1 H1 g1 S1 rv => ?_
      show spD X.K n fD (V.ref xa :: vs ++ []) H1 Q C8.E0
      rw [List.append_nil]
      have dr1 := S1.draw
      rw [edr] at dr1
      refine ⟨by rw [List.length_cons, rv.length, hn], Hf1, xa, l, c', vs, as, s1, d, ds', rfl, S1.sub, S1.tk _ S1.tab0, S1.tabf, dr1, rv, e2, fun v Hf' H' g' sm dr' r => ?_⟩
      have gB : Gr B Hf1 H1 Hf' H' := by
        have hi : ∀ a, B.isDr a ↔ (Bs.mk H1 Hf1 (some (xa, l, c'))).isDr a := fun a => by
          constructor
          · rintro ⟨y1, y2, y3, e4, h4⟩; rw [edr] at e4; cases e4; exact ⟨_, _, _, rfl, h4⟩
          · rintro ⟨y1, y2, y3, e4, h4⟩; cases e4; exact ⟨_, _, _, edr, h4⟩
        exact ⟨fun a o e => by
          obtain ⟨o', e', n'⟩ := g'.hh a o e
          exact ⟨o', e', fun nd => n' fun z => nd ((hi a).2 z)⟩, g'.ff, fun a h => by
          rcases g'.nw a h with h1 | h1 | ⟨nd, xs, h1⟩
          · exact .inl h1
          · exact .inr (.inl h1)
          · exact .inr (.inr ⟨fun z => nd ((hi a).1 z), xs, h1⟩), g'.tk⟩
      exact q v Hf' H' (g1.trans gB) (S1.move gB sm (by rw [edr]; exact dr')) r
    · cases e2
  · cases hf
end
end L2.Dn
set_option Elab.async false
set_option linter.all false
set_option maxRecDepth 100000
/-! walks over the pairs and the values of dicts with tuple keys -/
namespace L2.Dn
open PySem PySem.Spec PyProof.Rows
section
variable {X : Cx} {pins : List (Addr × Obj)} {σ : St} {H : Hp} {s : Shared} {d : Addr} {o : Obj}
theorem frzTV {kvs : List (List Key × V)} (I : Inv X pins σ H s) (h : H d = some (.frz o (.dT kvs))) :
    (d == sysModules) = false ∧ s.heap.get? d = some o ∧ o.ExactDict ∧ ∃ (es : Array DictEntry) (ep : Nat), o.data = .dict es ep ∧ es.size = kvs.length ∧
      ∀ (i : Nat) (k : List Key) (v : V), kvs[i]? = some (k, v) → ∃ (hi : i < es.size) (q : Addr), es[i].key = .ref q ∧ H q = some (.tup (k.map kV)) ∧ RelV v es[i].val := by
  obtain ⟨hd, z, hs, xs, pr, o', es, ep, ho, hx, hdt, he, _⟩ := I.hok d _ h
  rw [hd] at ho
  cases ho
  have l1 : es.size = xs.length := size_of_entries he
  have l2 : kvs.length = xs.length := Paired.length pr
  refine ⟨hs, hd, hx, es, ep, hdt, l1.trans l2.symm, fun i k v e => ?_⟩
  obtain ⟨b, hb, e1, e2, e3⟩ := paired_get pr e
  have q := entry_at he i
  rw [hb] at q
  have hi : i < es.size := by
    rw [l1]
    exact (List.getElem?_eq_some_iff.mp hb).1
  rw [Array.getElem?_eq_getElem hi] at q
  have q := Option.some.inj q
  exact ⟨hi, b.2.1, by rw [q]; rfl, e2, by rw [q]; exact e3⟩
end
/-- the pairs of the locked dict at d, each a new tuple -/
def Itit (d : Addr) (o : Obj) (kvs : List (List Key × V)) : It :=
  ⟨fun i H => H d = some (.frz o (.dT kvs)) ∧ i < kvs.length, fun i H x H' => ∃ (T : Addr) (k : List Key) (v : V) (q : Addr), kvs[i]? = some (k, v) ∧ x = .ref T ∧ H q = some (.tup (k.map kV)) ∧ H T = none ∧ H' = upd H T (.tup [.ref q, v]), fun i H => H d = some (.frz o (.dT kvs)) ∧ kvs.length ≤ i⟩
/-- its values -/
def Itdt (d : Addr) (o : Obj) (kvs : List (List Key × V)) : It :=
  ⟨fun i H => H d = some (.frz o (.dT kvs)) ∧ i < kvs.length, fun i H x H' => H' = H ∧ ∃ k, kvs[i]? = some (k, x), fun i H => H d = some (.frz o (.dT kvs)) ∧ kvs.length ≤ i⟩
section
variable {P : Program} {w : World} {K : PySem.W.Frag} {tg : Expr} {d : Addr} {o : Obj} {es : Array DictEntry} {ep : Nat}
theorem turn_itemsT {kvs : List (List Key × V)} {elts : List Expr} {kk : Nat} {tpos : Pos} (it : Addr) (hod : o.data = .dict es ep) :
    Turn P w K (.Tuple elts kk tpos) (Itit d o kvs) [it] it (fun i h => ∃ ok ov, IsItemIter h it d i es.size ep ok ov) where
  mem := by simp
  obj := fun i h st b hb => by
    obtain rfl : b = it := by simpa using hb
    obtain ⟨ok, ov, e⟩ := st
    exact ⟨_, e, fun v z => nomatch z⟩
  keep := fun i h h' st k => let ⟨ok, ov, e⟩ := st; ⟨ok, ov, k it (by simp) _ e⟩
  item := by
    intro X hP hw hK hc i pins s σ H E I hf st ⟨hd, hi⟩
    subst hP hw hK
    obtain ⟨hs, hgd, hx, es', ep', hdt, hsz, ent⟩ := frzTV I hd
    obtain ⟨rfl, rfl⟩ := dict_ep hod hdt
    obtain ⟨⟨k, v⟩, hkv⟩ : ∃ p, kvs[i]? = some p := ⟨kvs[i], List.getElem?_eq_getElem hi⟩
    obtain ⟨hi', q, hkey, hq, ru⟩ := ent i k v hkv
    obtain ⟨ok, ov, he⟩ := st
    have hlt : it < s.heap.objs.size := Heap.lt_size he
    refine wpAny_pyNext_items_item_raw he ⟨o, hgd, hx, hdt⟩ hi' fun h' ho hT hz hk => ?_
    refine ⟨_, rfl, wpAny_letOwnedTupleGo_items (s := { s with heap := h' }) ho fun h'' he' sb => ?_⟩
    have hT2 : h''.get? s.heap.objs.size = some { cls := .type "tuple", data := .seq #[es'[i].key, es'[i].val] } := (sb.2 _ (Nat.ne_of_gt hlt)).trans hT
    have new : ObjOk X.prog X.w (upd H s.heap.objs.size (.tup [.ref q, v])) h'' s.heap.objs.size (.tup [.ref q, v]) :=
      ⟨by show 2 ≤ sizeLine; decide, [es'[i].key, es'[i].val], .cons hkey (.cons ru .nil), ⟨_, hT2, rfl, _, rfl⟩⟩
    have I1 : Inv X pins σ (upd H s.heap.objs.size (.tup [.ref q, v])) { s with heap := h'' } :=
      I.turnedNew (t' := s.toks) (ch := [it]) (fun b ob hb e => (sb.2 b (by simpa using hb)).trans (hk b ob (by simpa using hb) e)) hf (Nat.le_refl _) new
    refine ⟨.ref s.heap.objs.size, _, I1, rfl, ⟨_, k, v, q, hkv, rfl, hq, I.hok.fresh (Nat.le_refl _), rfl⟩, ⟨_, _, he'⟩, fun b hb => ?_⟩
    obtain rfl : b = it := by simpa using hb
    rw [upd_ne (Nat.ne_of_lt hlt)]
    exact (hf b (by simp)).1
  done := by
    intro X hP hw hK hc i pins s σ H E I hf st ⟨hd, hi⟩
    subst hP hw hK
    obtain ⟨f0, f1, f2, f3, f4, f5⟩ := hf it (by simp)
    obtain ⟨hs, hgd, hx, es', ep', hdt, hsz, ent⟩ := frzTV I hd
    obtain ⟨rfl, rfl⟩ := dict_ep hod hdt
    obtain ⟨ok, ov, he⟩ := st
    exact wpAny_pyNext_items_end_raw (I.ok.hd hc) he ⟨o, hgd, hx, hdt⟩ (by omega) fun h' eb => ⟨rfl, I.turned (t' := s.toks) (fun b ob hb e => eb b ob hb e) f0 f1 f3 f4 f5⟩
  self := fun A i s Q E st h => let ⟨_, _, e⟩ := st; PySem.W.kcp_self e h
theorem turn_valsT {kvs : List (List Key × V)} (it : Addr) (hod : o.data = .dict es ep) : Turn P w K tg (Itdt d o kvs) [it] it (fun i h => h.IsValIter it d i es.size ep) where
  mem := by simp
  obj := fun i h st b hb => by
    obtain rfl : b = it := by simpa using hb
    obtain ⟨oi, e, c, dd⟩ := st
    exact ⟨oi, e, fun v z => by rw [dd] at z; cases z⟩
  keep := fun i h h' st k => st.at fun oi e => k it (by simp) oi e
  item := by
    intro X hP hw hK hc i pins s σ H E I hf st ⟨hd, hi⟩
    subst hP hw hK
    obtain ⟨f0, f1, f2, f3, f4, f5⟩ := hf it (by simp)
    obtain ⟨hs, hgd, hx, es', ep', hdt, hsz, ent⟩ := frzTV I hd
    obtain ⟨rfl, rfl⟩ := dict_ep hod hdt
    obtain ⟨⟨k, v⟩, hkv⟩ : ∃ p, kvs[i]? = some p := ⟨kvs[i], List.getElem?_eq_getElem hi⟩
    obtain ⟨hi', q, hkey, hq, ru⟩ := ent i k v hkv
    refine wpAny_pyNext_values_item_raw st ⟨o, hgd, hx, hdt⟩ hi' fun h' st' sb => ?_
    have I1 : Inv X pins σ H { s with heap := h' } := I.turned (t' := s.toks) (fun b ob hb e => (sb.2 b hb).trans e) f0 f1 f3 f4 f5
    obtain ⟨oi, e, c, dd⟩ := id st'
    exact ⟨_, rfl, go_of (s := { s with heap := h' }) e c dd (by decide) ⟨v, H, I1, ru, ⟨rfl, k, hkv⟩, st', fun b hb => (hf b hb).1⟩⟩
  done := by
    intro X hP hw hK hc i pins s σ H E I hf st ⟨hd, hi⟩
    subst hP hw hK
    obtain ⟨f0, f1, f2, f3, f4, f5⟩ := hf it (by simp)
    obtain ⟨hs, hgd, hx, es', ep', hdt, hsz, ent⟩ := frzTV I hd
    obtain ⟨rfl, rfl⟩ := dict_ep hod hdt
    exact wpAny_pyNext_values_end_raw (I.ok.hd hc) st ⟨o, hgd, hx, hdt⟩ (by omega) fun h' eb => ⟨rfl, I.turned (t' := s.toks) (fun b ob hb e => eb b ob hb e) f0 f1 f3 f4 f5⟩
  self := fun A i s Q E st h => wpAny_pyIter_valiter st h
end
def iItemsT (td : TE) : TI := fun σ H R => td σ H fun x H1 => ∃ d o kvs, x = .ref d ∧ H1 d = some (.frz o (.dT kvs)) ∧ R (Itit d o kvs) H1
def iValsT (td : TE) : TI := fun σ H R => td σ H fun x H1 => ∃ d o kvs, x = .ref d ∧ H1 d = some (.frz o (.dT kvs)) ∧ R (Itdt d o kvs) H1
section
variable {X : Cx} {tg e : Expr} {td : TE} {apos cpos : Pos}
theorem noDictD {s : Shared} {d : Addr} {o : Obj} (h : s.heap.get? d = some o) (hx : o.ExactDict) : ∀ a, Value.ref d = .ref a → ∃ ob, s.heap.get? a = some ob ∧ ob.dict = none := fun a e => by
  cases e
  exact ⟨o, h, hx.2.1⟩
theorem pi_itemsT {elts : List Expr} {kk : Nat} {tpos : Pos} (he : PE X e td) (hbase : attributeBase e "items" X.env (eval e X.env) = eval e X.env := by rfl) (hline : (apos.endLine == cpos.line) = true := by rfl) :
    PI X (.Tuple elts kk tpos) (.Call (.Attribute e "items" apos) [] [] cpos) (iItemsT td) := by
  refine ⟨fun pins s σ H R I h => ?_⟩
  refine wpAny_Call_method (T := "dict") (id := "dict.items") hbase rfl hline F.plainAttrs_dict F.slot_dict_items F.type_dict_items (thn (he.run pins s σ H _ I h) fun u s1 ⟨x, H1, I1, rx, d, o, kvs, ex, hd, q⟩ => ?_)
  subst ex
  obtain rfl : u = Value.ref d := rx
  obtain ⟨hs, hgd, hx, es, ep, hdt, hsz, ent⟩ := frzTV I1 hd
  have hr : s1.heap.DictRaw d es ep := ⟨o, hgd, hx, hdt⟩
  refine ⟨hr.typeIs, noDictD hgd hx, ?_⟩
  have I2 : Inv X pins σ H1 { s1 with heap := s1.heap.push { cls := .type "dict_items", data := .fields #[.ref d] } } := I1.kept (t' := s1.toks) fun b ob q => Heap.get?_push_of_some _ q
  have fin : wpAny (model X.prog X.w) X.A (pyIter (.ref s1.heap.objs.size)) (PIE X pins σ (.Tuple elts kk tpos) R) X.xe { s1 with heap := s1.heap.push { cls := .type "dict_items", data := .fields #[.ref d] } } := by
    refine wpAny_pyIter_items_raw (d := d) ⟨_, Heap.get?_push_size _ rfl, rfl, rfl⟩ (hr.at fun ob q => Heap.get?_push_of_some _ q) (pi_one (tk := s1.toks) I2 _ (turn_itemsT _ hdt) ⟨.none, .none, ?_⟩ q)
    exact Heap.get?_push_size _ rfl
  show wpAny _ _ (callWith cpos (.builtin "dict.items") [.ref d] [] []) _ X.xe s1
  exact method_meetsIn F.slot_dict_items F.entry_dict_items rfl (PySem.evalArgs_none ⟨rfl, hr.typeIs, F.args_dict_items_1 _, _, meets_dict_items_raw d hs, ⟨_, _, hr⟩, fin⟩)
theorem pi_valuesT (he : PE X e td) (hbase : attributeBase e "values" X.env (eval e X.env) = eval e X.env := by rfl) (hline : (apos.endLine == cpos.line) = true := by rfl) : PI X tg (.Call (.Attribute e "values" apos) [] [] cpos) (iValsT td) := by
  refine ⟨fun pins s σ H R I h => ?_⟩
  refine wpAny_Call_method (T := "dict") (id := "dict.values") hbase rfl hline F.plainAttrs_dict F.slot_dict_values F.type_dict_values (thn (he.run pins s σ H _ I h) fun u s1 ⟨x, H1, I1, rx, d, o, kvs, ex, hd, q⟩ => ?_)
  subst ex
  obtain rfl : u = Value.ref d := rx
  obtain ⟨hs, hgd, hx, es, ep, hdt, hsz, ent⟩ := frzTV I1 hd
  have hr : s1.heap.DictRaw d es ep := ⟨o, hgd, hx, hdt⟩
  refine ⟨hr.typeIs, noDictD hgd hx, ?_⟩
  have I2 : Inv X pins σ H1 { s1 with heap := s1.heap.push { cls := .type "dict_values", data := .fields #[.ref d] } } := I1.kept (t' := s1.toks) fun b ob q => Heap.get?_push_of_some _ q
  have fin : wpAny (model X.prog X.w) X.A (pyIter (.ref s1.heap.objs.size)) (PIE X pins σ tg R) X.xe { s1 with heap := s1.heap.push { cls := .type "dict_values", data := .fields #[.ref d] } } := by
    refine wpAny_pyIter_values_raw (d := d) ⟨_, Heap.get?_push_size _ rfl, rfl, rfl⟩ (hr.at fun ob q => Heap.get?_push_of_some _ q) (pi_one (tk := s1.toks) I2 _ (turn_valsT _ hdt) ?_ q)
    exact ⟨_, Heap.get?_push_size _ rfl, rfl, rfl⟩
  show wpAny _ _ (callWith cpos (.builtin "dict.values") [.ref d] [] []) _ X.xe s1
  exact method_meetsIn F.slot_dict_values F.entry_dict_values rfl (PySem.evalArgs_none ⟨rfl, hr.typeIs, F.args_dict_values_1 _, _, meets_dict_values_raw d hs, ⟨_, _, hr⟩, fin⟩)
end
/-! ### as walks over data -/
theorem RpT.keys {Hf : Hp} : ∀ {kvs : List (List Key × V)} {items : List (List Key × D)}, RpT Hf kvs items → kvs.map (·.1) = items.map (·.1) := by
  intro kvs items r
  induction items generalizing kvs with
  | nil => cases r; rfl
  | cons p ps ih => cases r with
    | cons h t => rw [List.map_cons, List.map_cons, ih t]
theorem RpT.at {Hf : Hp} : ∀ {kvs : List (List Key × V)} {items : List (List Key × D)} {i : Nat} {k : List Key} {v : V} {p : List Key × D}, RpT Hf kvs items → kvs[i]? = some (k, v) → items[i]? = some p → p.1 = k ∧ Rp Hf v p.2 := by
  intro kvs items i k v p r h1 h2
  induction items generalizing kvs i with
  | nil => cases h2
  | cons q qs ih => cases r with
    | cons h t =>
      cases i with
      | zero => cases h1; cases h2; exact ⟨rfl, h⟩
      | succ i => exact ih t (by simpa using h1) (by simpa using h2)
theorem yl_valsT {B : Bs} {K : PySem.W.Frag} {a : Addr} {o : Obj} {kvs : List (List Key × V)} {items : List (List Key × D)} {Hf0 : Hp} (h : Hf0 a = some (.frz o (.dT kvs))) (r : RpT Hf0 kvs items) : Yl B K (Itdt a o kvs) (items.map (·.2)) Hf0 := fun i env ds σ Hf H s S => by
  have hq : H a = some (.frz o (.dT kvs)) := S.sub _ _ (s _ _ h)
  have hl := r.length
  rw [List.length_map]
  refine ⟨fun hi => ⟨⟨hq, by omega⟩, fun x H' y d hd => ?_⟩, fun hi => ⟨hq, by omega⟩⟩
  obtain ⟨rfl, k, e1⟩ := y
  rw [List.getElem?_map, List.getElem?_eq_getElem hi] at hd
  cases hd
  exact ⟨Hf, Gr.refl, S, (r.at e1 (List.getElem?_eq_getElem hi)).2.up s⟩
/-- a tuple of keys may stay -/
theorem fz_key {B : Bs} {K : PySem.W.Frag} {env : En} {ds : DS} {σ : St} {Hf H : Hp} {q : Addr} {k : List Key} (S : SR B K env ds σ Hf H) (e : H q = some (.tup (k.map kV))) : ∃ Hf', Gr B Hf H Hf' H ∧ SR B K env ds σ Hf' H ∧ Rp Hf' (.ref q) (keyT k) := by
  cases hq2 : Hf q with
  | none => exact ⟨upd Hf q (.tup (k.map kV)), ⟨fun a o e => ⟨o, e, fun _ => .refl o⟩, same_fz hq2, fun b hb => by
      by_cases h : b = q
      · subst h; exact .inr (.inr ⟨S.noDrT e, _, e⟩)
      · rw [upd_ne h] at hb; exact .inl hb, .refl _⟩, S.fzT hq2 e, .tup upd_same key_rp⟩
  | some o2 =>
    have := S.sub _ _ hq2
    rw [e] at this
    cases this
    exact ⟨Hf, Gr.refl, S, .tup hq2 key_rp⟩
theorem yl_itemsT {B : Bs} {K : PySem.W.Frag} {a : Addr} {o : Obj} {kvs : List (List Key × V)} {items : List (List Key × D)} {Hf0 : Hp} (h : Hf0 a = some (.frz o (.dT kvs))) (r : RpT Hf0 kvs items) : Yl B K (Itit a o kvs) (items.map fun p => .tuple [keyT p.1, p.2]) Hf0 := fun i env ds σ Hf H s S => by
  have hq : H a = some (.frz o (.dT kvs)) := S.sub _ _ (s _ _ h)
  have hl := r.length
  rw [List.length_map]
  refine ⟨fun hi => ⟨⟨hq, by omega⟩, fun x H' y d hd => ?_⟩, fun hi => ⟨hq, by omega⟩⟩
  obtain ⟨T, k, v, q, e1, rfl, e2, nT, rfl⟩ := y
  rw [List.getElem?_map, List.getElem?_eq_getElem hi] at hd
  cases hd
  obtain ⟨ek, rv⟩ := r.at e1 (List.getElem?_eq_getElem hi)
  show ∃ Hf', Gr B Hf H Hf' (upd H T (HO.tup [V.ref q, v])) ∧ SR B K env ds σ Hf' (upd H T (HO.tup [V.ref q, v])) ∧ Rp Hf' (V.ref T) (D.tuple [keyT items[i].1, items[i].2])
  rw [ek]
  obtain ⟨Hf1, g1, S1, r1⟩ := fz_key S e2
  have nf := sub_none S1 nT
  have F := S1.fre nT
  exact ⟨_, (g1.hp nT).fz nT nf, (S1.hp nf F).fz nf upd_same F, .tup upd_same ((RpL.cons r1 (.cons (rv.up (s.trans g1.ff)) .nil)).up (same_fz nf))⟩
def itemsD : D → Option (List D)
  | .dT kvs => some (kvs.map fun p => .tuple [keyT p.1, p.2])
  | _ => none
def valsD : D → Option (List D)
  | .dT kvs => some (kvs.map (·.2))
  | _ => none
def dIt (g : D → Option (List D)) (f : Den) : DenA := fun env ds => bnd (f env ds) fun a s => op1 (g a) s
section
variable {X : Cx} {tg e : Expr} {f : Den} {apos cpos : Pos}
theorem evi_items {elts : List Expr} {kk : Nat} {tpos : Pos} (hf : EvF X e f) (hbase : attributeBase e "items" X.env (eval e X.env) = eval e X.env := by rfl) (hline : (apos.endLine == cpos.line) = true := by rfl) :
    EvI X (.Tuple elts kk tpos) (.Call (.Attribute e "items" apos) [] [] cpos) (dIt itemsD f) := fun B env ds σ Hf H items ds' S he R q => by
  obtain ⟨v1, s1, e1, e⟩ := bnd_eq he
  obtain ⟨e3, rfl⟩ := op1_eq e
  unfold itemsD at e3
  split at e3
  · cases e3
    refine SI.of (pi_itemsT (pe_se X _) hbase hline) (hf B env ds σ Hf H _ _ S e1 _ fun v Hf1 H1 g1 S1 r1 => ?_)
    cases r1 with
    | dT h1 r => exact ⟨_, _, _, rfl, S1.sub _ _ h1, q _ _ _ g1 S1 (yl_itemsT h1 r)⟩
  · cases e3
theorem evi_vals (hf : EvF X e f) (hbase : attributeBase e "values" X.env (eval e X.env) = eval e X.env := by rfl) (hline : (apos.endLine == cpos.line) = true := by rfl) :
    EvI X tg (.Call (.Attribute e "values" apos) [] [] cpos) (dIt valsD f) := fun B env ds σ Hf H items ds' S he R q => by
  obtain ⟨v1, s1, e1, e⟩ := bnd_eq he
  obtain ⟨e3, rfl⟩ := op1_eq e
  unfold valsD at e3
  split at e3
  · cases e3
    refine SI.of (pi_valuesT (pe_se X _) hbase hline) (hf B env ds σ Hf H _ _ S e1 _ fun v Hf1 H1 g1 S1 r1 => ?_)
    cases r1 with
    | dT h1 r => exact ⟨_, _, _, rfl, S1.sub _ _ h1, q _ _ _ g1 S1 (yl_valsT h1 r)⟩
  · cases e3
end
end L2.Dn
set_option Elab.async false
set_option linter.all false
set_option maxRecDepth 100000
/-! dict comprehensions whose keys are tuples (after HandS.DictComp) -/
namespace L2.Dn
open PySem PySem.Spec PyProof.Rows
/-- d[k] = v by a comprehension, the key a tuple -/
theorem d_dictSetT {X : Cx} {pins : List (Addr × Obj)} {σ : St} {H : Hp} {s : Shared} {E : Value → Shared → Prop} {D b : Addr} {kvs : List (List Key × V)} {k : List Key} {v : V} {r : Value} {Q : Unit → Shared → Prop} (hu : X.A.units + 8 < cLine) (I : Inv X pins σ H s) (hD : H D = some (.dT kvs)) (hz : kvs.length < sizeLine)
    (eb : H b = some (.tup (k.map kV))) (rv : RelV v r) (h : ∀ s', Inv X pins σ (upd H D (.dT (putK kvs k v))) s' → Q () s') : wpAny (model X.prog X.w) X.A (dictSet D (.ref b) r) Q E s := by
  obtain ⟨z, hd, xs, rel, dd⟩ := dt_of I.hok hD
  have hzx : xs.length ≤ sizeLine := by rw [← Paired.length rel]; exact z
  have hl : (putK kvs k v).length ≤ sizeLine := by have := length_putK kvs k v; omega
  refine wpAny_dictSet_heap (hsz := hzx) (knd := tupleKind (mixKind X.prog X.w)) (show X.A.units < cLine by omega) (key_of I.hok eb) dd fun h' dd' hs => h _ ?_
  obtain ⟨q, es, ep, hq, h2, h3, h4, _, h5⟩ := dd'
  refine d_write I (by rw [hD]; exact True.intro) hs ⟨q, hq⟩ ⟨hl, hd, _, (rel.put k eb rv).keeps fun c ys ec => ?_, q, es, ep, hq, h2, h3, h4, h5⟩
  rw [upd_ne (ne_of ec hD (fun z => nomatch z))]
  exact ec
section
variable {X : Cx}
def tDcT (wi : TI) (g : TG) (tt : TT) (tk tv : TE) (vs : List Nat) : TE := fun σ H Q => wi σ H fun J H1 => ∀ D, H1 D = none → ∃ W : Nat → Nat → Hp → Prop, (∃ m, W 0 m (upd H1 D (.dT []))) ∧ ∀ i m H, W i m H →
  (J.stop i H ∧ Q (.ref D) H) ∨ (J.go i H ∧ ∃ Nx : Hp → Prop, (∀ H', Nx H' → ∃ m', m' < m ∧ W (i + 1) m' H') ∧ ∀ x H', J.yld i H x H' → g x (wipe σ vs) H' fun σ2 H2 => wipe σ2 vs = wipe σ vs ∧ tt σ2 H2 fun b H3 =>
    if b = true then tk σ2 H3 fun y H4 => tv σ2 H4 fun z H5 => ∃ (kvs : List (List Key × V)) (k : List Key) (b : Addr), (y = V.ref b ∧ H5 b = some (.tup (k.map kV))) ∧ H5 D = some (.dT kvs) ∧ kvs.length < sizeLine ∧ Nx (upd H5 D (.dT (putK kvs k z))) else Nx H3)
theorem dcT_core {pins : List (Addr × Obj)} {s : Shared} {σ : St} {H : Hp} {Q : VK} {kx vx tg iter : Expr} {ifs : List Expr} {scope : Scope} {own : List (Str × Nat)} {pos pos' : Pos} {wi : TI} {g : TG} {tt : TT} {tk tv : TE} {use : Option (Value → Sem Unit)} {Qf : Value → Shared → Prop}
    (hu : X.A.units + 8 < cLine) (hc : X.calm = true) (hN : X.N.Nodup) (I : Inv X pins σ H s) (hi : PI X tg iter wi) (ok : BlkOk X.N X.env.scope scope own)
    (hg : ∀ (s : Shared) (H : Hp) (C : Addr) (cl : List (Str × Addr)) (fp : List Addr), PG (X.blk s H scope (compEnvC scope cl C X.env) fp) tg g) (ht : ∀ (s : Shared) (H : Hp) (C : Addr) (cl : List (Str × Addr)) (fp : List Addr), PTs (X.blk s H scope (compEnvC scope cl C X.env) fp) ifs tt)
    (hk : ∀ (s : Shared) (H : Hp) (C : Addr) (cl : List (Str × Addr)) (fp : List Addr), PE (X.blk s H scope (compEnvC scope cl C X.env) fp) kx tk)
    (he : ∀ (s : Shared) (H : Hp) (C : Addr) (cl : List (Str × Addr)) (fp : List Addr), PE (X.blk s H scope (compEnvC scope cl C X.env) fp) vx tv) (hs : ∀ x, foldedSetIterable iter X.env x = pure x)
    (h : tDcT wi g tt tk tv (own.map (·.2)) σ H Q)
    (hRR : ∀ D C s' m H', Inv X pins σ H' s' → Q (.ref D) H' → s'.heap.Ns C m → FpOk X pins H' C → compPost (model X.prog X.w) X.A X.xe use Qf (.ref D) C (.ok .next) s') :
    wpAny (model X.prog X.w) X.A (comprehension (.DictComp kx vx [⟨tg, iter, ifs, 0⟩] scope pos) scope X.env pos' newDict false (eval iter X.env) use) Qf X.xe s := by
  have hfree : ∀ y ∈ scope.names, y.2 = .free → ∃ c, X.env.cells.lookup y.1 = some c := fun y hy e => by
    rcases ok.free y hy e with k | k
    · exact I.ok.has _ (.inl k)
    · exact I.ok.has _ (.inr k)
  refine wpAny_comprehension_free (use := use) rfl hs (closure_ok hfree) ok.kind (fun y hy e => by rw [ok.uniq y hy, e])
    (thn (hi.run pins s σ H _ I h) fun xv s1 hx => thn hx fun itv s2 h2 => ?_)
  obtain ⟨it, fp, tn, J, H2, e, I2, T, st2, f2, q⟩ := h2
  subst e
  refine wpAny_newObj_type (newEnv_comp ?_)
  generalize hD : s2.heap.objs.size = D
  have hDn : H2 D = none := I2.hok.fresh (Nat.le_of_eq hD)
  obtain ⟨W, ⟨m0, w0⟩, turn⟩ := q D hDn
  -- the new list
  generalize hs3 : ({ s2 with heap := s2.heap.push { cls := .type "dict", data := .dict #[] } } : Shared) = s3
  have I3 : Inv X pins σ (upd H2 D (.dT [])) s3 := by
    rw [← hs3]
    refine I2.laid (t' := s2.toks) (fun b o e => Heap.get?_push_of_some _ e) (Nat.le_of_eq hD) ?_
    rw [← hD]
    exact dt_empty s2.heap I2.big
  have h3 : s3.heap = s2.heap.push { cls := .type "dict", data := .dict #[] } := by rw [← hs3]
  have sz : ∀ b ∈ fp, b < s2.heap.objs.size := fun b hb => by
    obtain ⟨o, e, _⟩ := T.obj _ _ st2 b hb
    exact Heap.lt_size e
  have f3 : ∀ b ∈ fp, FpOk X pins (upd H2 D (.dT [])) b ∧ b < s3.heap.objs.size := fun b hb => by
    have hlt := sz b hb
    refine ⟨⟨?_, (f2 b hb).2⟩, by rw [h3, Heap.size_push]; exact Nat.lt_succ_of_lt hlt⟩
    rw [upd_ne (by rw [← hD]; exact Nat.ne_of_lt hlt)]
    exact (f2 b hb).1
  have st3 : tn 0 s3.heap := T.keep _ _ _ st2 fun b _ o e => by rw [h3]; exact Heap.get?_push_of_some _ e
  have I4 := block_start I3 ok hN f3
  have pg := hg s3 (upd H2 D (.dT [])) s3.heap.objs.size (cellsFrom (s3.heap.objs.size + 1) scope.names (cloFrom X.env.cells scope.names [])) fp
  have pt := ht s3 (upd H2 D (.dT [])) s3.heap.objs.size (cellsFrom (s3.heap.objs.size + 1) scope.names (cloFrom X.env.cells scope.names [])) fp
  have pk := hk s3 (upd H2 D (.dT [])) s3.heap.objs.size (cellsFrom (s3.heap.objs.size + 1) scope.names (cloFrom X.env.cells scope.names [])) fp
  have pe := he s3 (upd H2 D (.dT [])) s3.heap.objs.size (cellsFrom (s3.heap.objs.size + 1) scope.names (cloFrom X.env.cells scope.names [])) fp
  show codeAny _ _ (.compStart (.DictComp kx vx [⟨tg, iter, ifs, 0⟩] scope pos) 0 (.ref it) (.ref D) (compEnvC scope (cellsFrom (s3.heap.objs.size + 1) scope.names (cloFrom X.env.cells scope.names [])) s3.heap.objs.size X.env)) (compPost (model X.prog X.w) X.A X.xe use Qf (.ref D) s3.heap.objs.size) { s3 with heap := pushCells (s3.heap.push { cls := .type "dict", data := .dict #[] }) scope.names }
  have nfp : ∀ b ∈ fp, (upd H2 D (.dT [])) b = none := fun b hb => (f3 b hb).1.1
  generalize hce : compEnvC scope (cellsFrom (s3.heap.objs.size + 1) scope.names (cloFrom X.env.cells scope.names [])) s3.heap.objs.size X.env = ce at I4 pg pt pk pe ⊢
  have cL : ce.locals = s3.heap.objs.size := by subst hce; rfl
  generalize hH3 : upd H2 D (.dT []) = H3 at I3 I4 pg pt pk pe w0 nfp f3
  generalize hs4 : ({ s3 with heap := pushCells (s3.heap.push { cls := .type "dict", data := .dict #[] }) scope.names } : Shared) = s4 at I4 ⊢
  have st4 : tn 0 s4.heap := T.keep _ _ _ st3 fun b _ o e => by rw [← hs4]; exact pushCells_keeps _ _ _ _ (Heap.get?_push_of_some _ e)
  have stat : ∀ {σ' : St} {H' : Hp} {s' : Shared}, Inv (X.blk s3 H3 scope ce fp) [] σ' H' s' → (∀ b ∈ fp, H' b = none) → ∀ b ∈ fp, FpOk (X.blk s3 H3 scope ce fp) [] H' b := fun {σ' H' s'} I' hn b hb =>
    ⟨hn b hb, (I'.ok.exf b hb).1, I'.ok.exfs b hb, .inl hb, fun x c e => (I'.ok.exf b hb).2 x c e, fun p hp => absurd (show p ∈ ([] : List (Addr × Obj)) ++ [] from hp) (by simp)⟩
  have loop : codeAny (model X.prog X.w) X.A (.compLoop (.DictComp kx vx [⟨tg, iter, ifs, 0⟩] scope pos) 0 (.ref it) (.ref D) ce) (compPost (model X.prog X.w) X.A X.xe use Qf (.ref D) s3.heap.objs.size) s4 := by
    refine compLoop_anyD (fun n s' => ∃ i H', Inv (X.blk s3 H3 scope ce fp) [] (wipe σ (own.map (·.2))) H' s' ∧ tn i s'.heap ∧ (∀ b ∈ fp, H' b = none) ∧ W i n H') ?_ m0 ⟨0, H3, I4, st4, nfp, w0⟩
    rintro n s5 ⟨i, H5, I5, st5, n5, w5⟩
    rcases turn i n H5 w5 with ⟨stop, qq⟩ | ⟨go, Nx, hNx, step⟩
    · have td := T.done (X.blk s3 H3 scope ce fp) rfl rfl rfl hc i [] s5 _ H5 (fun _ _ => False) I5 (stat I5 n5) st5 stop
      refine thnF td fun r s6 ⟨hr, I6⟩ => ?_
      subst hr
      -- back in the def's context
      have I7 : Inv X pins σ H5 s6 := I3.call' (ch := fp) I6.os I6.base I6.hok I6.bare fun b hb => ⟨(f3 b hb).1.2.2.2.1, (f3 b hb).1.2.1, (f3 b hb).1.2.2.2.2.1, (f3 b hb).1.2.2.2.2.2⟩
      have nC : H5 s3.heap.objs.size = none := by
        have z : H5 ce.locals = none := I6.free
        rw [cL] at z
        exact z
      obtain ⟨m, hn, _⟩ := I6.loc
      have hn : s6.heap.Ns ce.locals m := hn
      rw [cL] at hn
      exact hRR D s3.heap.objs.size s6 m H5 I7 qq hn (I3.fpOk (Nat.le_refl _) nC)
    · have ti := T.item (X.blk s3 H3 scope ce fp) rfl rfl rfl hc i [] s5 _ H5 (fun _ _ => False) I5 (stat I5 n5) st5 go
      refine thnF ti fun r s6 ⟨u, hr, h6⟩ => ?_
      subst hr
      refine thnF h6 fun _ s7 ⟨x, H7, I7, r7, y7, st7, n7⟩ => ?_
      have I7' := I7.pinned (stat I7 n7) (T.obj _ _ st7)
      refine thnF (pg.run _ s7 _ H7 x u _ I7' r7 (step x H7 y7)) fun _ s8 ⟨σ8, H8, I8, hw8, q8⟩ => ?_
      refine thnF (pt.run _ s8 σ8 H8 _ I8 q8) fun b s9 ⟨H9, I9, q9⟩ => ?_
      -- the turn's end
      have fin : ∀ {s' : Shared} {H' : Hp}, Inv (X.blk s3 H3 scope ce fp) ([] ++ pinsAt fp s7.heap) σ8 H' s' → Nx H' → ∃ m, m < n ∧ ∃ i H', Inv (X.blk s3 H3 scope ce fp) [] (wipe σ (own.map (·.2))) H' s' ∧ tn i s'.heap ∧ (∀ b ∈ fp, H' b = none) ∧ W i m H' := fun {s' H'} I' nx => by
        obtain ⟨m', hm, w'⟩ := hNx H' nx
        have pin' : ∀ b ∈ fp, ∀ o, s7.heap.get? b = some o → s'.heap.get? b = some o ∧ H' b = none := fun b hb o e =>
          let z := I'.pin (b, o) (List.mem_append_right _ (List.mem_append_right _ (mem_pinsAt hb e)))
          ⟨z.1, z.2.1⟩
        have hl : (wipe σ (own.map (·.2))).length = σ8.length := by rw [← hw8, wipe_length]
        refine ⟨m', hm, i + 1, H', (I'.unpinned (pins := [])).weak hl (fun j v e => ?_), T.keep _ _ _ st7 fun b hb o e => (pin' b hb o e).1, fun b hb => ?_, w'⟩
        · rw [← hw8] at e
          exact (wipe_some e).1
        · obtain ⟨o, e, _⟩ := T.obj _ _ st7 b hb
          exact (pin' b hb o e).2
      cases b with
      | false =>
        simp only [Bool.false_eq_true, if_false] at q9 ⊢
        exact fin I9 q9
      | true =>
        simp only [if_true] at q9 ⊢
        refine thnF (pk.run _ s9 σ8 H9 _ I9 q9) fun z s10 ⟨yk, H10, I10, r10, q10⟩ => ?_
        refine thnF (pe.run _ s10 σ8 H10 _ I10 q10) fun z2 s11 ⟨yv, H11, I11, r11, kvs, k, b11, ek, hD11, hz11, nx⟩ => ?_
        obtain ⟨ek, hb11⟩ := ek
        subst ek
        cases (show z = Value.ref _ from r10)
        exact d_dictSetT (X := X.blk s3 H3 scope ce fp) hu I11 hD11 hz11 hb11 r11 fun s12 I12 => fin I12 nx
  exact codeAny_compStart_dict loop (T.self X.A 0 _ _ _ st4 loop)
theorem pe_dcT {kx vx tg iter : Expr} {ifs : List Expr} {scope : Scope} {own : List (Str × Nat)} {pos : Pos} {wi : TI} {g : TG} {tt : TT} {tk tv : TE} (hu : X.A.units + 8 < cLine) (hc : X.calm = true) (hN : X.N.Nodup) (hi : PI X tg iter wi) (ok : BlkOk X.N X.env.scope scope own)
    (hg : Blks X scope fun Y => PG Y tg g) (ht : Blks X scope fun Y => PTs Y ifs tt) (hk : Blks X scope fun Y => PE Y kx tk) (he : Blks X scope fun Y => PE Y vx tv) (hs : ∀ x, foldedSetIterable iter X.env x = pure x := by intro _; rfl) :
    PE X (.DictComp kx vx [⟨tg, iter, ifs, 0⟩] scope pos) (tDcT wi g tt tk tv (own.map (·.2))) := by
  refine ⟨fun pins s σ H Q I h => ?_⟩
  rw [arm_eval_DictComp]
  refine dcT_core hu hc hN I hi ok hg ht hk he hs h fun D C s' m H' I' q hn f => ⟨m, hn, fun h'' sb => ?_⟩
  obtain ⟨f0, f1, f2, f3, f4, f5⟩ := f
  exact ⟨.ref D, H', I'.turned (t' := s'.toks) (fun b o hb e => (sb.2 b hb).trans e) f0 f1 f3 f4 f5, rfl, q⟩
end
end L2.Dn
set_option Elab.async false
set_option linter.all false
set_option maxRecDepth 100000
namespace L2.Dn
open PySem PySem.Spec PyProof.Rows
def dcLoop (gg : DenG) (t : DenT) (fk fv : Den) (env0 : En) : List D → DS → List (List Key × D) → Option (List (List Key × D) × DS)
  | [], s, acc => some (acc, s)
  | d :: r, s, acc => match gg d env0 with
    | none => none
    | some env' => bnd (t env' s) fun b s1 => match b with
      | false => dcLoop gg t fk fv env0 r s1 acc
      | true => bnd (fk env' s1) fun k s2 => bnd (fv env' s2) fun v s3 => match keyOf? k with
        | none => none
        | some ks => if acc.length < 100000 then dcLoop gg t fk fv env0 r s3 (putT acc ks v) else none
def dDc (gi : DenA) (own : List Nat) (gg : DenG) (t : DenT) (fk fv : Den) : Den := fun env ds => bnd (gi env ds) fun items s => bnd (dcLoop gg t fk fv (wipeE env own) items s []) fun r s' => some (.dT r, s')
theorem dcLoop_cons {gg : DenG} {t : DenT} {fk fv : Den} {env0 : En} {d : D} {r : List D} {s s' : DS} {acc ys : List (List Key × D)} (h : dcLoop gg t fk fv env0 (d :: r) s acc = some (ys, s')) :
    ∃ env' b s1, gg d env0 = some env' ∧ t env' s = some (b, s1) ∧ ((b = false ∧ dcLoop gg t fk fv env0 r s1 acc = some (ys, s')) ∨ (b = true ∧ ∃ k s2 v s3 ks, fk env' s1 = some (k, s2) ∧ fv env' s2 = some (v, s3) ∧ keyOf? k = some ks ∧ acc.length < 100000 ∧ dcLoop gg t fk fv env0 r s3 (putT acc ks v) = some (ys, s'))) := by
  unfold dcLoop at h
  split at h
  · cases h
  · rename_i env' e1
    obtain ⟨b, s1, e2, h⟩ := bnd_eq h
    refine ⟨env', b, s1, e1, e2, ?_⟩
    cases b with
    | false => exact .inl ⟨rfl, h⟩
    | true =>
      obtain ⟨k, s2, e3, h⟩ := bnd_eq h
      obtain ⟨v, s3, e4, h⟩ := bnd_eq h
      cases e5 : keyOf? k with
      | none => simp only [e5] at h; cases h
      | some ks =>
        simp only [e5] at h
        split at h
        · rename_i hz
          exact .inr ⟨rfl, k, s2, v, s3, ks, e3, e4, e5, hz, h⟩
        · cases h
theorem wipe_idem (own : List Nat) (σ : St) : L2.wipe (L2.wipe σ own) own = L2.wipe σ own := by
  have idem : ∀ (vs : List Nat) (τ : St), (∀ j ∈ vs, j ∈ own) → L2.wipe (L2.wipe τ own) vs = L2.wipe τ own := by
    intro vs τ hv
    apply List.ext_getElem?
    intro j
    by_cases hj : j ∈ vs
    · have f : ∀ (τ : St) (us : List Nat), j ∈ us → (L2.wipe τ us)[j]? = if j < τ.length then some none else none := by
        intro τ us
        induction us with
        | nil => intro h; cases h
        | cons u us ih =>
          intro h
          show ((L2.wipe τ us).set u none)[j]? = _
          by_cases e : u = j
          · subst e
            rw [List.getElem?_set_self', ← wipe_length τ us]
            by_cases hlt : u < (L2.wipe τ us).length
            · rw [if_pos hlt, List.getElem?_eq_getElem hlt]; rfl
            · rw [if_neg hlt, List.getElem?_eq_none (by omega)]; rfl
          · rw [List.getElem?_set_ne e]
            exact ih ((List.mem_cons.mp h).elim (fun z => absurd z.symm e) id)
      rw [f _ vs hj, f τ _ (hv j hj), wipe_length]
    · rw [wipe_out hj]
  exact idem own σ fun j h => h
section
variable {X : Cx} {tg iter kx vx : Expr} {ifs : List Expr} {scope : Scope} {own : List (Str × Nat)} {pos : Pos} {gi : DenA} {ts : List Nat} {gg : DenG} {t : DenT} {fk fv : Den}
theorem dc_reading {tt : TT} (hi : EvI X tg iter gi) (hg : Blks X scope fun Y => EvG Y tg ts gg)
    (ht : ∀ B env ds σ Hf H d ds', SR B X.K env ds σ Hf H → t env ds = some (d, ds') → ∀ Q : Bool → Hp → Prop, CT B X.K env ds' σ Hf H d Q → tt σ H Q)
    (hk : Blks X scope fun Y => EvF Y kx fk) (hv : Blks X scope fun Y => EvF Y vx fv) (hts : ∀ j ∈ ts, j ∈ own.map (·.2)) {B : Bs} {env : En} {ds ds' : DS} {σ : St} {Hf H : Hp} {d : D} (S : SR B X.K env ds σ Hf H) (hf : dDc gi (own.map (·.2)) gg t fk fv env ds = some (d, ds')) {Q : VK} (q : CN B X.K env ds' σ Hf H d Q) :
    tDcT (SI X tg iter) (SGb X scope tg) tt (SEb X scope kx) (SEb X scope vx) (own.map (·.2)) σ H Q := by
  obtain ⟨items, s1, e1, e⟩ := bnd_eq hf
  obtain ⟨r, s2, e2, e⟩ := bnd_eq e
  cases e
  refine hi B env ds σ Hf H _ _ S e1 _ fun J Hf1 H1 g1 S1 y1 => ?_
  intro Dd nD
  have nD0 : H Dd = none := g1.fresh nD
  have nfD1 : Hf1 Dd = none := sub_none S1 nD
  have ndD : ¬ B.isDr Dd := S1.noDr nD
  refine ⟨fun i m H' => m = items.length - i ∧ i ≤ items.length ∧ ∃ Hf' si accV acc, Gr B Hf1 H1 Hf' H' ∧ Hf' Dd = none ∧ SR B X.K env si σ Hf' H' ∧ H' Dd = some (.dT accV) ∧ RpT Hf' accV acc ∧ dcLoop gg t fk fv (wipeE env (own.map (·.2))) (items.drop i) si acc = some (r, ds'),
    ⟨items.length, by simp, Nat.zero_le _, Hf1, s1, [], [], Gr.refl.hp nD, nfD1, S1.hp nfD1 (S1.fre nD), upd_same, .nil, by rw [List.drop_zero]; exact e2⟩, ?_⟩
  rintro i m H' ⟨rfl, hi', Hf', si, accV, acc, g2, nfD, S2, hD, rD, el⟩
  obtain ⟨yg, ys0⟩ := y1 i env si σ Hf' H' g2.ff S2
  cases hd : items.drop i with
  | nil =>
    have hl : items.length ≤ i := by
      rcases Nat.lt_or_ge i items.length with z | z
      · rw [List.drop_eq_getElem_cons z] at hd; cases hd
      · exact z
    rw [hd] at el
    cases el
    exact .inl ⟨ys0 hl, q Dd Hf' H' (g1.trans g2) S2 nD0 nfD (.dT hD rD)⟩
  | cons it rest =>
    obtain ⟨hlt, hit, hrest⟩ := drop_at hd
    rw [hd] at el
    obtain ⟨env', b, s3, k1, k2, k3⟩ := dcLoop_cons el
    obtain ⟨yg1, yg2⟩ := yg hlt
    refine .inr ⟨yg1, fun H2 => (items.length - (i + 1) = items.length - (i + 1) ∧ i + 1 ≤ items.length ∧ ∃ Hf' si accV acc, Gr B Hf1 H1 Hf' H2 ∧ Hf' Dd = none ∧ SR B X.K env si σ Hf' H2 ∧ H2 Dd = some (.dT accV) ∧ RpT Hf' accV acc ∧ dcLoop gg t fk fv (wipeE env (own.map (·.2))) (items.drop (i + 1)) si acc = some (r, ds')), fun H2 h2 => ⟨_, by omega, h2⟩, fun x H3 yx => ?_⟩
    obtain ⟨Hf3, g3, S3, r3⟩ := yg2 x H3 yx it hit
    intro bs bH bC bcl bfp
    refine hg bs bH bC bcl bfp B _ env' si _ Hf3 H3 it x (S3.wipe _) r3 k1 _ fun σ4 S4 l4 o4 => ?_
    refine ⟨(wipe_eq (ts := ts) l4 o4 hts).trans (wipe_idem _ _), ?_⟩
    refine ht B env' si σ4 Hf3 H3 b s3 S4 k2 _ fun Hf5 H5 g5 S5 => ?_
    have gA := (g2.trans g3).trans g5
    have ne3 : ∀ {Hx : Hp}, Hx Dd = some (.dT accV) → Hx Dd ≠ none := fun h => by rw [h]; simp
    have nt3 : ∀ {Hx : Hp}, Hx Dd = some (.dT accV) → ∀ xs, Hx Dd ≠ some (.tup xs) := fun h xs z => by rw [h] at z; cases z
    have hD3 : H3 Dd = some (.dT accV) := g3.at hD ndD
    have hD5 : H5 Dd = some (.dT accV) := g5.at hD3 ndD
    have rD5 : RpT Hf5 accV acc := (rD.up g3.ff).up g5.ff
    have So := (S2.moveTo g3 S3).moveTo g5 S5
    have nfD3 : Hf3 Dd = none := g3.noF nfD (ne3 hD) (nt3 hD)
    have nfD5 : Hf5 Dd = none := g5.noF nfD3 (ne3 hD3) (nt3 hD3)
    rcases k3 with ⟨rfl, k3⟩ | ⟨rfl, k, s6, v, s7, ks, k4, k5, k6, hz, k7⟩
    · rw [if_neg Bool.false_ne_true]
      exact ⟨rfl, hlt, Hf5, s3, accV, acc, gA, nfD5, So, hD5, rD5, by rw [hrest]; exact k3⟩
    · rw [if_pos rfl]
      intro cs cH cC ccl cfp
      refine hk cs cH cC ccl cfp B env' s3 σ4 Hf5 H5 k s6 S5 k4 _ fun kv Hf7 H7 g7 S7 r7 => ?_
      intro es eH eC ecl efp
      refine hv es eH eC ecl efp B env' s6 σ4 Hf7 H7 v s7 S7 k5 _ fun vv Hf8 H8 g8 S8 r8 => ?_
      obtain ⟨kb, rfl, hkb⟩ := keyOf_rd (B := B) (H := H7) (.fz r7) k6
      have hD7 : H7 Dd = some (.dT accV) := g7.at hD5 ndD
      have hD8 : H8 Dd = some (.dT accV) := g8.at hD7 ndD
      have rD8 : RpT Hf8 accV acc := (rD5.up g7.ff).up g8.ff
      have nfD7 : Hf7 Dd = none := g7.noF nfD5 (ne3 hD5) (nt3 hD5)
      have nfD8 : Hf8 Dd = none := g8.noF nfD7 (ne3 hD7) (nt3 hD7)
      have F : Fre B env σ Dd := S1.fre nD
      have S9 := ((So.moveTo g7 S7).moveTo g8 S8).hp (o := .dT (putK accV ks vv)) nfD8 F
      exact ⟨accV, ks, kb, ⟨rfl, S8.sub _ _ (g8.ff _ _ hkb)⟩, hD8, by rw [sizeLine_eq, rD.length]; omega, rfl, hlt, Hf8, s7, putK accV ks vv, putT acc ks v, ((gA.trans g7).trans g8).hp nD, nfD8, S9, upd_same, rD8.put r8, by rw [hrest]; exact k7⟩
/-- {k: v for tg in iter if ..}, the keys tuples -/
theorem evn_dc (hu : X.A.units + 8 < cLine) (hc : X.calm = true) (hN : X.N.Nodup) (ok : BlkOk X.N X.env.scope scope own) (hi : EvI X tg iter gi) (hg : Blks X scope fun Y => EvG Y tg ts gg) (ht : EvTb X scope ifs t) (hk : Blks X scope fun Y => EvF Y kx fk) (hv : Blks X scope fun Y => EvF Y vx fv)
    (hts : ∀ j ∈ ts, j ∈ own.map (·.2)) (hs : ∀ x, foldedSetIterable iter X.env x = pure x := by intro _; rfl) : EvN X (.DictComp kx vx [⟨tg, iter, ifs, 0⟩] scope pos) (dDc gi (own.map (·.2)) gg t fk fv) := fun B env ds σ Hf H d ds' S hf Q q => by
  obtain ⟨tt, pt, kt⟩ := ht
  exact SE.of (pe_dcT (wi := SI X tg iter) (g := SGb X scope tg) (tt := tt) (tk := SEb X scope kx) (tv := SEb X scope vx) hu hc hN (pi_si X tg iter) ok (fun s H C cl fp => ⟨fun pins s' σ' H' v u Q' I r h => h s H C cl fp pins s' u I r⟩) pt (fun s H C cl fp => ⟨fun pins s' σ' H' Q' I h => h s H C cl fp pins s' I⟩) (fun s H C cl fp => ⟨fun pins s' σ' H' Q' I h => h s H C cl fp pins s' I⟩) hs)
    (dc_reading hi hg kt hk hv hts S hf q)
end
end L2.Dn
set_option Elab.async false
set_option linter.all false
set_option maxRecDepth 100000
/-! dict(d) of a dict with tuple keys -/
namespace L2.Dn
open PySem PySem.Spec PyProof.Rows
section
variable {prog : Program} {w : World} {A : Around} {E : Value → Shared → Prop} {s : Shared} {K : Type} [DecidableEq K] {knd : HeapKind prog w K}
theorem call_dictH {o : Addr} {more : List (K × Addr × Value)} {Q : Value → Shared → Prop} (hu : knd.room A.in1.in1) (hoS : (o == sysModules) = false) (ho : s.heap.DictOfH knd o more) (hsz : more.length ≤ sizeLine) (his : ∀ x ∈ more, knd.is (s.heap.push { cls := .type "dict", data := .dict #[] }) x.1 x.2.1)
    (hty : ∀ x ∈ more, s.TypeIs (.ref x.2.1) "tuple") (hh : (more.map fun x => knd.hash x.1).Nodup)
    (h : ∀ h', h'.DictOfH knd s.heap.objs.size more → Heap.SameBut s.heap.objs.size (s.heap.push { cls := .type "dict", data := .dict #[] }) h' → Q (.ref s.heap.objs.size) { s with heap := h' }) :
    wpAny (model prog w) A (call (.type "dict") [.ref o]) Q E s := by
  refine callType_codes (Q₁ := fun obj s₁ => obj = .ref s.heap.objs.size ∧ s₁ = { s with heap := s.heap.push { cls := .type "dict", data := .dict #[] } }) F.kt_called_dict (F.kt_typeCall_dict_1 _) F.entry_dict_init (kt_code_dict_new _ ⟨rfl, rfl⟩) ?_
  rintro obj s₁ ⟨rfl, rfl⟩
  have hnew : (s.heap.push { cls := .type "dict", data := .dict #[] }).DictOfH knd s.heap.objs.size [] := Heap.DictOfH.new s.heap
  have ho' : (s.heap.push { cls := .type "dict", data := .dict #[] }).DictOfH knd o more := ho.at' (fun _ e => Heap.get?_push_of_some _ e) his
  have hn := ho.nodup
  have hdo : s.heap.objs.size ≠ o := fun e => absurd ho.lt_size (by rw [e]; exact Nat.lt_irrefl _)
  refine ⟨hnew.typeIs, F.args_dict_init_2 _ _, ?_⟩
  unfold Builtin.«dict.__init__»
  refine wpAny_bind ?_
  unfold Builtin.Dict.selfAndRest
  refine wpAny_bind (wpAny_notOrdered_dict hnew.typeIs ?_)
  show wpAny _ _ (pure (s.heap.objs.size, [Value.ref o])) _ _ _
  refine wpAny_pure ?_
  show wpAny _ _ (Builtin.Dict.updateFrom "dict.__init__" s.heap.objs.size (.ref o) [] .none) _ _ _
  refine updateFrom_dictH .none hu hdo hoS hnew ho' (.inr ⟨fun x hx => ?_, hh⟩) (by simpa using hsz) fun h' hd' _ hs' => ?_
  · obtain ⟨ob, e, c⟩ := hty x hx
    exact ⟨ob, Heap.get?_push_of_some _ e, c⟩
  · rw [storedAllH_nil_of_nodup more hn] at hd'
    exact ⟨rfl, h h' hd' hs'⟩
end
/-! the hash of a tuple of ints -/
def hT (ks : List Int) : Int := reduceHash (Builtin.Tuple.tupleHashOf (ks.map hashInt))
def kInts : List Key → Option (List Int)
  | [] => some []
  | .inl i :: r => (match kInts r with
    | some l => some (i :: l)
    | none => none)
  | .inr _ :: _ => none
theorem kInts_eq : ∀ {k : List Key} {ns : List Int}, kInts k = some ns → k = ns.map Sum.inl
  | [], _, h => by cases h; rfl
  | .inl i :: r, ns, h => by
    unfold kInts at h
    cases e : kInts r with
    | none => rw [e] at h; cases h
    | some l => rw [e] at h; cases h; rw [kInts_eq e]; rfl
  | .inr _ :: _, _, h => by cases h
theorem hash_ints {P : Program} {w : World} : ∀ {ns : List Int}, (tupleKind (mixKind P w)).hash (ns.map Sum.inl) = hT ns := fun {ns} => by
  show reduceHash (Builtin.Tuple.tupleHashOf ((ns.map Sum.inl).map (keyH w))) = _
  rw [List.map_map]
  rfl
def hashes? : List (List Key × D) → Option (List Int)
  | [] => some []
  | (k, _) :: r => (match kInts k with
    | some ns => (match hashes? r with
      | some l => some (hT ns :: l)
      | none => none)
    | none => none)
def memI (x : Int) : List Int → Bool
  | [] => false
  | y :: r => (match decide (x = y) with
    | true => true
    | false => memI x r)
def nodupI : List Int → Bool
  | [] => true
  | x :: r => (match memI x r with
    | true => false
    | false => nodupI r)
theorem memI_not {x : Int} : ∀ {l : List Int}, memI x l = false → x ∉ l
  | [], _ => by simp
  | y :: r, h => by
    unfold memI at h
    split at h
    · cases h
    · rename_i e
      intro m
      rcases List.mem_cons.mp m with q | q
      · exact of_decide_eq_false e q
      · exact memI_not h q
theorem nodupI_ok : ∀ {l : List Int}, nodupI l = true → l.Nodup
  | [], _ => List.nodup_nil
  | x :: r, h => by
    unfold nodupI at h
    split at h
    · cases h
    · rename_i e
      exact List.nodup_cons.mpr ⟨memI_not e, nodupI_ok h⟩
theorem hashes_eq {P : Program} {w : World} {Hf : Hp} : ∀ {ds : List (List Key × D)} {kvs : List (List Key × V)} {l : List Int}, RpT Hf kvs ds → hashes? ds = some l → kvs.map (fun kv => (tupleKind (mixKind P w)).hash kv.1) = l := by
  intro ds
  induction ds with
  | nil => intro kvs l r h; cases r; cases h; rfl
  | cons p ps ih =>
    intro kvs l r h
    cases r with
    | cons r t =>
      unfold hashes? at h
      split at h
      · rename_i ns e1
        split at h
        · rename_i l' e2
          cases h
          rw [List.map_cons, ih t e2]
          show (tupleKind (mixKind P w)).hash _ :: _ = _
          rw [kInts_eq e1, hash_ints]
        · cases h
      · cases h
def gDict : List D → Option D
  | [.dT kvs] => (match hashes? kvs with
    | some l => if nodupI l = true then some (.dT kvs) else none
    | none => none)
  | [.dK kvs] => some (.dK kvs)
  | _ => none
section
variable {X : Cx}
def rDictT (X : Cx) : List V → Hp → VK → Prop := fun xs H Q => ∃ (a : Addr) (kvs : List (List Key × V)), xs = [.ref a] ∧ Rd H a (.dT kvs) ∧ (kvs.map fun kv => (tupleKind (mixKind X.prog X.w)).hash kv.1).Nodup ∧ ∀ p, H p = none → Q (.ref p) (upd H p (.dT kvs))
theorem call_dictT (hu : X.A.units + 8 < cLine) : CallR X (.type "dict") (rDictT X) := by
  intro pins s σ H xs us Q I r ⟨a, kvs, ex, hd, hh, q⟩
  subst ex
  obtain ⟨u, eu, rx⟩ := vals1 r
  subst eu
  cases rx
  obtain ⟨z, lo, ws, rel, dd⟩ := dt_rd I.hok hd
  have hzw : ws.length ≤ sizeLine := by rw [← Paired.length rel]; exact z
  have hx : ∀ y ∈ ws, IsTupleKey (mixKind X.prog X.w) s.heap y.1 y.2.1 := let ⟨_, _, _, _, _, _, _, his, _⟩ := dd; his
  have push : ∀ {h' : Heap}, (∀ b o, s.heap.get? b = some o → h'.get? b = some o) → ∀ y ∈ ws, IsTupleKey (mixKind X.prog X.w) h' y.1 y.2.1 := fun k y hy => by
    obtain ⟨o, items, n, e1, e2, e3, e4⟩ := hx y hy
    exact ⟨o, items, n, k _ _ e1, e2, e3, e4⟩
  have e1 : ws.map (fun y => (tupleKind (mixKind X.prog X.w)).hash y.1) = kvs.map fun kv => (tupleKind (mixKind X.prog X.w)).hash kv.1 := by
    clear dd hx push hzw z q hh hd
    induction rel with
    | nil => rfl
    | cons h t ih => rw [List.map_cons, List.map_cons, ih, h.1]
  refine call_dictH (knd := tupleKind (mixKind X.prog X.w)) (show X.A.in1.in1.units < cLine by show X.A.units + 1 + 1 < cLine; omega) lo dd hzw (push fun b o e => Heap.get?_push_of_some _ e) (fun y hy => (hx y hy).typeIs) (by rw [e1]; exact hh) fun h' d' hs => ?_
  have hm : (s.heap.objs.size == sysModules) = false := beq_eq_false_iff_ne.mpr (Nat.ne_of_gt I.big)
  obtain ⟨ob, es, ep, hq, h2, h3, h4, _, h5⟩ := d'
  have kp : ∀ b o, s.heap.get? b = some o → h'.get? b = some o := fun b u e => (hs.2 b (Nat.ne_of_lt (Heap.lt_size e))).trans (Heap.get?_push_of_some _ e)
  refine ⟨.ref s.heap.objs.size, upd H s.heap.objs.size (.dT kvs), I.laid (t' := s.toks) kp (Nat.le_refl _) ⟨z, hm, ws, rel.keeps fun c ys ec => ?_, ob, es, ep, hq, h2, h3, h4, h5⟩, rfl, q _ I.fresh⟩
  rw [upd_ne (ne_of_none ec I.fresh)]
  exact ec
def rDict (X : Cx) : List V → Hp → VK → Prop := fun xs H Q => rDictT X xs H Q ∨ ∃ (a : Addr) (kvs : List (Key × V)), xs = [.ref a] ∧ Rd H a (.dK kvs) ∧ ∀ p, H p = none → Q (.ref p) (upd H p (.dK kvs))
theorem call_dict (hu : X.A.units + 8 < cLine) : CallR X (.type "dict") (rDict X) := CallR.or (call_dictT hu) call_dictD
theorem rc_dict : RCN X (rDict X) gDict := fun B env ds σ Hf H args d vs Q S r e q => by
  unfold gDict at e
  split at e
  · rename_i kvs
    cases r with
    | cons r t =>
      cases t
      obtain ⟨a, kv, rfl, h1, h2⟩ := r.dT S.sub
      split at e
      · rename_i l el
        split at e
        · rename_i hn
          cases e
          exact .inl ⟨a, kv, rfl, h1, by rw [hashes_eq h2 el]; exact nodupI_ok hn, q.dT S h2⟩
        · cases e
      · cases e
  · rename_i kvs
    cases r with
    | cons r t =>
      cases t
      obtain ⟨a, kv, rfl, h1, h2⟩ := r.dK S.sub
      cases e
      exact .inr ⟨a, kv, rfl, h1, q.dK S h2⟩
  · cases e
end
end L2.Dn
set_option Elab.async false
set_option linter.all false
set_option maxRecDepth 100000
/-! == of dicts with tuple keys (after HandS.DictEq) -/
namespace L2.Dn
open PySem PySem.Spec PyProof.Rows
section
variable {prog : Program} {w : World} {K : Type} [DecidableEq K] {knd : HeapKind prog w K} {A : Around} {E : Value → Shared → Prop} {s : Shared}
inductive HitsH {K : Type} [DecidableEq K] (prog : Program) (w : World) (A : Around) (s : Shared) (kb : List (K × Addr × Value)) : List (K × Addr × Value) → Bool → Prop
  | nil : HitsH prog w A s kb [] true
  | miss {k : K} {q : Addr} {v : Value} {r : List (K × Addr × Value)} : atKey kb k = none → HitsH prog w A s kb ((k, q, v) :: r) false
  | hit {k : K} {q : Addr} {v : Value} {y : Addr × Value} {r : List (K × Addr × Value)} {e b : Bool} : atKey kb k = some y → SeqAt.EqP prog w A s v y.2 e → HitsH prog w A s kb r b → HitsH prog w A s kb ((k, q, v) :: r) (e && b)
theorem HitsH.inv {kb : List (K × Addr × Value)} {k : K} {q : Addr} {v : Value} {r : List (K × Addr × Value)} {b : Bool} (h : HitsH prog w A s kb ((k, q, v) :: r) b) :
    (atKey kb k = none ∧ b = false) ∨ ∃ y e b', atKey kb k = some y ∧ SeqAt.EqP prog w A s v y.2 e ∧ HitsH prog w A s kb r b' ∧ b = (e && b') := by
  cases h with
  | miss hn => exact .inl ⟨hn, rfl⟩
  | hit hy he hr => exact .inr ⟨_, _, _, hy, he, hr, rfl⟩
theorem samePairsH {nm : String} {a b : Addr} {ka kb : List (K × Addr × Value)} {r : Bool} {Q : Bool → Shared → Prop} (ha : (a == sysModules) = false) (hb : (b == sysModules) = false)
    (hu : knd.room A) (da : s.heap.DictOfH knd a ka) (db : s.heap.DictOfH knd b kb) (hits : ka.length = kb.length → HitsH prog w A s kb ka r) (h : Q (ka.length == kb.length && r) s) :
    wpAny (model prog w) A (Builtin.Dict.samePairs nm a b) Q E s := by
  obtain ⟨oa, es, ep, hoa, _, hda, hea, hisa, hna⟩ := da
  obtain ⟨ob, es', ep', hob, _, hdb, heb, hisb, hnb⟩ := db
  have hla : ka.length = es.size := (size_of_entries hea).symm
  have hlb : kb.length = es'.size := (size_of_entries heb).symm
  rw [hla, hlb] at h
  unfold Builtin.Dict.samePairs Builtin.Dict.showsAll
  rw [if_neg (show ¬ (a == sysModules) = true by rw [ha]; exact Bool.false_ne_true), if_neg (show ¬ (b == sysModules) = true by rw [hb]; exact Bool.false_ne_true)]
  refine wpAny_bind (wpAny_pure (wpAny_bind (wpAny_pure ?_)))
  refine wpAny_bind (wpAny_dictEntries hoa hda ?_)
  dsimp only
  refine wpAny_bind (wpAny_dictEntries hob hdb ?_)
  by_cases hsz : es.size = es'.size
  case neg =>
    rw [if_pos (by simpa using hsz)]
    have hbf : (es.size == es'.size) = false := by simpa using hsz
    rw [hbf, Bool.false_and] at h
    exact wpAny_bind (wpAny_rule (wpAny_pure h))
  case pos =>
    have h' : Q r s := by simpa [hsz] using h
    have hits' := hits (by rw [hla, hlb]; exact hsz)
    rw [if_neg (by rw [hsz]; simp)]
    refine wpAny_bind (wpAny_dictEpoch hoa hda ?_)
    refine wpAny_bind ?_
    rw [Std.Legacy.Range.forIn_eq_forIn_range']
    simp only [Std.Legacy.Range.size, Nat.sub_zero, Nat.add_sub_cancel, Nat.div_one]
    refine wpAny_forIn_list _
      (fun rest q s' => s' = s ∧ q = (none, ()) ∧ ∃ i, rest = List.range' i (es.size - i) ∧ i ≤ es.size ∧ HitsH prog w A s kb (ka.drop i) r)
      _ ?_ ?_ _ _ ⟨rfl, rfl, 0, by simp, Nat.zero_le _, hits'⟩
    · rintro x rest q s' ⟨rfl, rfl, i, hr, hi, hpre⟩
      have hlt : i < es.size := by
        rcases Nat.lt_or_ge i es.size with h | h
        · exact h
        · rw [Nat.sub_eq_zero_of_le h] at hr; simp at hr
      obtain ⟨rfl, hrest⟩ : x = i ∧ rest = List.range' (i + 1) (es.size - (i + 1)) := by
        have e : es.size - i = (es.size - (i + 1)) + 1 := by omega
        rw [e, List.range'_succ] at hr
        injection hr with h1 h2
        exact ⟨h1, h2⟩
      refine wpAny_bind (wpAny_dictEntries hoa hda ?_)
      rw [Array.getElem?_eq_getElem hlt]
      have hlt' : x < ka.length := by rw [hla]; exact hlt
      obtain ⟨k, qa, v, hkv⟩ : ∃ k qa v, ka[x] = (k, qa, v) := ⟨_, _, _, rfl⟩
      have hdrop : ka.drop x = (k, qa, v) :: ka.drop (x + 1) := by rw [← hkv]; exact List.drop_eq_getElem_cons hlt'
      have een : es[x] = entryOfKey knd (k, qa, v) := by
        have e := entry_at hea x
        rw [Array.getElem?_eq_getElem hlt, List.getElem?_eq_getElem hlt', hkv] at e
        exact Option.some.inj e
      have hk : knd.is s'.heap k qa := by
        have := hisa (ka[x]) (List.getElem_mem hlt')
        rw [hkv] at this
        exact this
      rw [hdrop] at hpre
      show wpAny _ _ (holding [es[x].key, es[x].val] _ >>= _) _ _ _
      rw [een]
      show wpAny _ _ (holding [Value.ref qa, v] (dictFind b (.ref qa) (knd.hash k) >>= _) >>= _) _ _ _
      refine wpAny_bind (wpAny_holding (wpAny_bind (wpAny_dictFind_heap hu hk hob hdb heb hisb hnb (fun hno => ?_) (fun j p hj => ?_))))
      · have hn : atKey kb k = none := atKey_none_of_get hno
        rcases hpre.inv with ⟨_, er⟩ | ⟨y, _, _, hy, _⟩
        · rw [er] at h'
          refine wpAny_pure ?_
          show wpAny _ _ (if (!false) = true then _ else _) _ _ _
          rw [if_pos (by decide)]
          exact wpAny_pure (wpAny_pure h')
        · rw [hn] at hy; exact nomatch hy
      · have hv' : atKey kb k = some p := atKey_of_get hnb hj
        have ej := entry_at heb j
        rw [hj] at ej
        refine wpAny_bind (wpAny_dictEntries hob hdb ?_)
        rw [ej]
        rcases hpre.inv with ⟨hn, _⟩ | ⟨y, e, b', hy, he, hrr, er⟩
        · rw [hv'] at hn; exact nomatch hn
        · obtain rfl : p = y := Option.some.inj (hv'.symm.trans hy)
          show wpAny _ _ (holding [p.2] (eqBool v p.2)) _ _ _
          refine wpAny_holding (he _ _ ?_)
          cases e with
          | false =>
            rw [er, Bool.false_and] at h'
            show wpAny _ _ (if (!false) = true then _ else _) _ _ _
            rw [if_pos (by decide)]
            exact wpAny_pure (wpAny_pure h')
          | true =>
            rw [Bool.true_and] at er
            rw [← er] at hrr
            show wpAny _ _ (if (!true) = true then _ else _) _ _ _
            rw [if_neg (by decide)]
            refine wpAny_bind (wpAny_dictEpoch hoa hda ?_)
            rw [if_neg (by simp)]
            exact wpAny_pure ⟨rfl, rfl, x + 1, hrest, hlt, hrr⟩
    · rintro q s' ⟨rfl, rfl, i, hr, hi, hpre⟩
      have hin : i = es.size := by
        rcases Nat.lt_or_ge i es.size with h | h
        · have e : es.size - i = (es.size - (i + 1)) + 1 := by omega
          rw [e, List.range'_succ] at hr; exact nomatch hr
        · exact Nat.le_antisymm hi h
      refine wpAny_pure ?_
      rw [hin, ← hla, List.drop_length] at hpre
      cases hpre
      exact h'
theorem eqDH (ne : Bool) {a b : Addr} {ka kb : List (K × Addr × Value)} {r : Bool} (hr : knd.room A.in1) (ha : (a == sysModules) = false) (hb : (b == sysModules) = false)
    (da : s.heap.DictOfH knd a ka) (db : s.heap.DictOfH knd b kb) (hu : A.units < cLine) (hits : ka.length = kb.length → HitsH prog w A.in1 s kb ka r) {Q : Value → Shared → Prop} (h : Q (.bool (xor ne (ka.length == kb.length && r))) s) :
    wpAny (model prog w) A (compareOp (if ne then .NotEq else .Eq) (.ref a) (.ref b)) Q E s := by
  cases ne with
  | false =>
    refine wpAny_richCompare_same_room (op := .Eq) da.typeIs db.typeIs PySem.F.slot_dict_eq (wpAny_call_entry PySem.F.slot_dict_eq da.typeIs PySem.F.entry_dict_eq ?_ (PySem.F.args_dict_eq_2 _ _)) hu
    show wpAny _ _ (Builtin.Dict.dictSlotArgs "__eq__" ⟨[.ref a, .ref b], []⟩ >>= _) _ _ s
    refine wpAny_bind ?_
    unfold Builtin.Dict.dictSlotArgs
    refine wpAny_bind (wpAny_notOrdered_dict da.typeIs ?_)
    show wpAny _ _ (pure (Value.ref a, Value.ref b)) _ _ s
    refine wpAny_pure ?_
    refine wpAny_bind (wpAny_isInstance (T := "dict") db.typeIs PySem.F.sub_dict_dict ?_)
    simp only [Bool.not_true, Bool.false_eq_true, if_false]
    refine wpAny_bind (wpAny_pure (wpAny_bind (wpAny_pure ?_)))
    refine wpAny_bind (samePairsH ha hb hr da db hits ?_)
    refine wpAny_pure ⟨_, rfl, ?_, ?_⟩
    · exact fun x => nomatch x
    · simpa using h
  | true =>
    refine wpAny_richCompare_same_room (op := .NotEq) da.typeIs db.typeIs PySem.F.slot_dict_ne (wpAny_call_entry PySem.F.slot_dict_ne da.typeIs PySem.F.entry_dict_ne ?_ (PySem.F.args_dict_ne_2 _ _)) hu
    show wpAny _ _ (Builtin.Dict.dictSlotArgs "__ne__" ⟨[.ref a, .ref b], []⟩ >>= _) _ _ s
    refine wpAny_bind ?_
    unfold Builtin.Dict.dictSlotArgs
    refine wpAny_bind (wpAny_notOrdered_dict da.typeIs ?_)
    show wpAny _ _ (pure (Value.ref a, Value.ref b)) _ _ s
    refine wpAny_pure ?_
    refine wpAny_bind (wpAny_isInstance (T := "dict") db.typeIs PySem.F.sub_dict_dict ?_)
    simp only [Bool.not_true, Bool.false_eq_true, if_false]
    refine wpAny_bind (wpAny_pure (wpAny_bind (wpAny_pure ?_)))
    refine wpAny_bind (samePairsH ha hb hr da db hits ?_)
    refine wpAny_pure ⟨_, rfl, ?_, ?_⟩
    · exact fun x => nomatch x
    · simpa using h
end
/-! ### on data -/
def eqEnt (ls : List (List Key × D)) : List (List Key × D) → Option Bool
  | [] => some true
  | (k, .int i) :: r => (match lookT ls k with
    | none => some false
    | some (.int j) => (match eqEnt ls r with
      | some b => some ((i == j) && b)
      | none => none)
    | some _ => none)
  | _ => none
def eqDT (ks ls : List (List Key × D)) : Option Bool := match Nat.beq ks.length ls.length with
  | false => some false
  | true => eqEnt ls ks
def gEqM (ne : Bool) : D → D → Option D
  | .dT ks, .dT ls => (match eqDT ks ls with
    | some b => some (.bool (xor ne b))
    | none => none)
  | _, _ => none
theorem eqEnt_hits {prog : Program} {w : World} {A : Around} {s : Shared} {Hf Hl H H2 : Hp} {ls : List (List Key × D)} {lvs : List (List Key × V)} {lxs : List (List Key × Addr × Value)} (rl : RpT Hl lvs ls) (kl : KT H2 lvs lxs) : ∀ {ks : List (List Key × D)} {kvs : List (List Key × V)} {kxs : List (List Key × Addr × Value)} {b : Bool},
    RpT Hf kvs ks → KT H kvs kxs → eqEnt ls ks = some b → HitsH prog w A s lxs kxs b := by
  intro ks
  induction ks with
  | nil => intro kvs kxs b r k e; cases r; cases k; cases e; exact .nil
  | cons p ps ih =>
    intro kvs kxs b r k e
    obtain ⟨kk, pd⟩ := p
    cases r with
    | cons rv rt =>
      cases k with
      | @cons _ kx _ kxr kh kt =>
      obtain ⟨k1, k2, k3⟩ := kh
      obtain ⟨k9, qa, vv⟩ := kx
      obtain rfl : kk = k9 := k1
      unfold eqEnt at e
      split at e
      · rename_i e0; cases e0
      · rename_i k' i' r' e0
        obtain ⟨⟨rfl, rfl⟩, rfl⟩ : (kk = k' ∧ pd = .int i') ∧ ps = r' := by cases e0; exact ⟨⟨rfl, rfl⟩, rfl⟩
        cases rv
        obtain ⟨t, rfl⟩ := k3
        split at e
        · rename_i hl
          cases e
          refine .miss ?_
          have h1 := (rl.look (k := kk)).2 hl
          have h2 := kl.val kk
          rw [h1] at h2
          cases q : atKey lxs kk with
          | none => rfl
          | some z => rw [q] at h2; exact h2.elim
        · rename_i j hl
          split at e
          · rename_i b' eb
            cases e
            obtain ⟨v2, h1, h3⟩ := (rl.look (k := kk)).1 _ hl
            cases h3
            have h2 := kl.val kk
            rw [h1] at h2
            cases q : atKey lxs kk with
            | none => rw [q] at h2; exact h2.elim
            | some z =>
              rw [q] at h2
              obtain ⟨t2, h4⟩ := (show RelV (.int j) z.2 from h2)
              refine .hit q ?_ (ih rt kt eb)
              rw [h4]
              exact (SeqAt.EqAt.int_int _ _ _ _).eqP
          · cases e
        · cases e
      · cases e
section
variable {X : Cx}
def rEqM (X : Cx) (ne : Bool) : R2 := fun x y H Q => ∃ a b ks ls Hf k' l' r, x = .ref a ∧ y = .ref b ∧ Rd H a (.dT ks) ∧ Rd H b (.dT ls) ∧ RpT Hf ks k' ∧ RpT Hf ls l' ∧ eqDT k' l' = some r ∧ Q (.bl (xor ne r)) H
theorem op_eqM (ne : Bool) (hu : X.A.units + 8 < cLine) : OpR X (compareOp (if ne then .NotEq else .Eq)) (rEqM X ne) := by
  intro pins s σ H x y v u Q I rx ry ⟨a, b, ks, ls, Hf, k', l', r, ex, ey, ha, hb, hk, hl, er, q⟩
  subst ex ey
  obtain rfl : v = Value.ref a := rx
  obtain rfl : u = Value.ref b := ry
  obtain ⟨_, ya, xa, ra, da⟩ := dt_rd I.hok ha
  obtain ⟨_, yb, xb, rb, db⟩ := dt_rd I.hok hb
  have e1 : xa.length = k'.length := (Paired.length ra).symm.trans hk.length
  have e2 : xb.length = l'.length := (Paired.length rb).symm.trans hl.length
  unfold eqDT at er
  cases hq : Nat.beq k'.length l'.length with
  | false =>
    rw [hq] at er
    cases er
    have hne : xa.length ≠ xb.length := fun z => by
      rw [e1, e2] at z
      rw [z, Nat.beq_refl] at hq
      cases hq
    refine eqDH (knd := tupleKind (mixKind X.prog X.w)) (r := false) ne (show X.A.in1.units < cLine by show X.A.units + 1 < cLine; omega) ya yb da db (by omega) (fun z => absurd z hne) ⟨.bl _, H, I.tok _, rfl, ?_⟩
    have : (xa.length == xb.length && false) = false := by simp
    rw [this]
    exact q
  | true =>
    rw [hq] at er
    have heq : xa.length = xb.length := by rw [e1, e2]; exact Nat.eq_of_beq_eq_true hq
    refine eqDH (knd := tupleKind (mixKind X.prog X.w)) (r := r) ne (show X.A.in1.units < cLine by show X.A.units + 1 < cLine; omega) ya yb da db (by omega) (fun _ => eqEnt_hits hl rb hk ra er) ⟨.bl _, H, I.tok _, rfl, ?_⟩
    have : (xa.length == xb.length && r) = r := by rw [heq]; simp
    rw [this]
    exact q
theorem op_eqT (hu : X.A.units + 8 < cLine) : OpR X (compareOp .Eq) (rEqM X false) := op_eqM false hu
theorem op_neT (hu : X.A.units + 8 < cLine) : OpR X (compareOp .NotEq) (rEqM X true) := op_eqM true hu
theorem r2_eqM (ne : Bool) : R2F X (rEqM X ne) (gEqM ne) := fun B env ds σ Hf H d1 d2 d x y Q S r1 r2 e q => by
  unfold gEqM at e
  split at e
  · rename_i ks ls
    split at e
    · rename_i b eb
      cases e
      obtain ⟨a, kv, rfl, h1, h2⟩ := r1.dT S.sub
      obtain ⟨c, lv, rfl, h3, h4⟩ := r2.dT S.sub
      exact ⟨a, c, kv, lv, Hf, ks, ls, b, rfl, rfl, h1, h3, h2, h4, eb, q.now S (.bl _)⟩
    · cases e
  · cases e
end
end L2.Dn
set_option Elab.async false
set_option linter.all false
set_option maxRecDepth 100000
/-! dict displays: one pair, the key a tuple; pairs with ints or texts as keys -/
namespace L2.Dn
open PySem PySem.Spec PyProof.Rows
section
variable {X : Cx} {pos : Pos} {k v : Expr} {tk tv : TE}
def tDisp1T (tk tv : TE) : TE := fun σ H Q => ∀ p, H p = none → tk σ (upd H p (.dT [])) fun x H1 => tv σ H1 fun y H2 => ∃ (ks : List Key) (b : Addr), x = .ref b ∧ H2 b = some (.tup (ks.map kV)) ∧ H2 p = some (.dT []) ∧ Q (.ref p) (upd H2 p (.dT [(ks, y)]))
theorem pe_disp1T (hu : X.A.units + 8 < cLine) (hk : PE X k tk) (hv : PE X v tv) : PE X (.Dict [some k] [v] pos) (tDisp1T tk tv) := by
  refine ⟨fun pins s σ H Q I q => ?_⟩
  have hn := I.hok.fresh (Nat.le_refl s.heap.objs.size)
  have I1 := I.laid (a := s.heap.objs.size) (o := .dT []) (h' := s.heap.push { cls := .type "dict", data := .dict #[] }) (t' := s.toks) (fun _ _ q => Heap.get?_push_of_some _ q) (Nat.le_refl _) (dt_empty s.heap I.big)
  rw [arm_eval_Dict, zip_pairTrees [some k] [v] X.env pos rfl rfl, dictDisplay_pairs (pairTrees [some k] [v] X.env pos) (by simp [pairTrees]) (by simp [pairTrees])]
  refine wpAny_bind (wpAny_standAt (wpAny_bind (wpAny_subDictH (knd := tupleKind (mixKind X.prog X.w)) (show X.A.units < cLine by omega) (by simp [pairTrees]) ?_)))
  refine pairTrees_cons_walk (thn (hk.run pins _ σ _ _ I1 (q _ hn)) fun u s1 ⟨x, H1, I2, rx, q1⟩ => thn (hv.run pins s1 σ H1 _ I2 q1) fun u2 s2 ⟨y, H2, I3, ry, ks, b, ex, hb, hp, q2⟩ => pairTrees_nil_walk ?_)
  subst ex
  cases (show u = Value.ref b from rx)
  obtain ⟨z, hd, vs0, r0, dd⟩ := dt_of I3.hok hp
  cases r0
  refine ⟨[(ks, b, u2)], ⟨rfl, rfl, key_of I3.hok hb, True.intro⟩, dd, fun h' tk' dd' hs => wpAny_pure ⟨.ref s.heap.objs.size, _, ?_, rfl, q2⟩⟩
  have e1 : storedAllH ([] : List (List Key × Addr × Value)) [(ks, b, u2)] = [(ks, b, u2)] := by simp [storedAllH, storedH, atKey]
  rw [e1] at dd'
  obtain ⟨ob, es, ep, hq, h2, h3, h4, _, h5⟩ := dd'
  refine d_write I3 (by rw [hp]; exact True.intro) hs ⟨ob, hq⟩ ⟨by show 1 ≤ sizeLine; decide, hd, [(ks, b, u2)], .cons ⟨rfl, ?_, ry⟩ .nil, ob, es, ep, hq, h2, h3, h4, h5⟩
  show (upd H2 _ _) b = _
  rw [upd_ne (ne_of hb hp (fun z => nomatch z))]
  exact hb
def dDisp1 (fk fv : Den) : Den := fun env ds => bnd (fk env ds) fun k s => bnd (fv env s) fun v s1 => match keyOf? k with
  | some ks => some (.dT [(ks, v)], s1)
  | none => none
theorem evn_disp1 {fk fv : Den} (hu : X.A.units + 8 < cLine) (hk : EvF X k fk) (hv : EvF X v fv) : EvN X (.Dict [some k] [v] pos) (dDisp1 fk fv) := fun B env ds σ Hf H d ds' S hf Q q => by
  obtain ⟨a, s1, e1, hf⟩ := bnd_eq hf
  obtain ⟨b, s2, e2, hf⟩ := bnd_eq hf
  split at hf
  · rename_i ks ek
    cases hf
    refine SE.of (pe_disp1T hu (pe_se X k) (pe_se X v)) fun p np => ?_
    have nf := sub_none S np
    have F := S.fre np
    refine hk B env ds σ Hf (upd H p (.dT [])) _ _ (S.hp nf F) e1 _ fun x Hf1 H1 g1 S1 r1 => hv B env s1 σ Hf1 H1 _ _ S1 e2 _ fun y Hf2 H2 g2 S2 r2 => ?_
    obtain ⟨b2, rfl, hb⟩ := keyOf_rd (B := B) (H := H1) (.fz r1) ek
    have gg := g1.trans g2
    have hp2 : H2 p = some (.dT []) := gg.at upd_same F.nd
    have nf2 : Hf2 p = none := gg.noF nf (by rw [upd_same]; simp) (by intro xs z; rw [upd_same] at z; cases z)
    refine ⟨ks, b2, rfl, S2.sub _ _ (g2.ff _ _ hb), hp2, q p Hf2 _ ?_ (S2.hp nf2 F) np nf2 (.dT upd_same (.cons r2 .nil))⟩
    exact ((Gr.refl.hp np).trans gg).hp np
  · cases hf
end
/-! ints or texts -/
def dPairs : List (Den × Den) → En → DS → Option (List (Key × D) × DS)
  | [], _, s => some ([], s)
  | (fk, fv) :: r, env, s => bnd (fk env s) fun k s1 => bnd (fv env s1) fun v s2 => bnd (dPairs r env s2) fun l s3 => match key1? k with
    | some kk => some ((kk, v) :: l, s3)
    | none => none
def mergeD (kvs more : List (Key × D)) : List (Key × D) := match more with
  | [] => kvs
  | p :: r => mergeD (putKD kvs p.1 p.2) r
def dDispK (ps : List (Den × Den)) : Den := fun env ds => bnd (dPairs ps env ds) fun l s => some (.dK (mergeD [] l), s)
theorem merge_rp {Hf : Hp} : ∀ {l : List (Key × D)} {lv : List (Key × V)} {acc : List (Key × D)} {av : List (Key × V)}, RpK Hf lv l → RpK Hf av acc → RpK Hf (mergeK av lv) (mergeD acc l) := by
  intro l
  induction l with
  | nil => intro lv acc av r a; cases r; exact a
  | cons p ps ih =>
    obtain ⟨pk, pd⟩ := p
    intro lv acc av r a
    cases r with
    | cons r t =>
      have z := ih t (a.put (k := pk) r)
      exact z
/-- pairs of a display: the readings -/
inductive EvPs (X : Cx) : List (Option Expr) → List Expr → List (Den × Den) → Prop
  | nil : EvPs X [] [] []
  | cons {k v : Expr} {ks : List (Option Expr)} {vs : List Expr} {fk fv : Den} {ps : List (Den × Den)} : EvF X k fk → EvF X v fv → EvPs X ks vs ps → EvPs X (some k :: ks) (v :: vs) ((fk, fv) :: ps)
def trsOf (X : Cx) : List (Option Expr) → List Expr → List (TE × TE)
  | some k :: ks, v :: vs => (SE X k, SE X v) :: trsOf X ks vs
  | _, _ => []
theorem EvPs.pps {X : Cx} {pos : Pos} {ks : List (Option Expr)} {vs : List Expr} {ps : List (Den × Den)} (h : EvPs X ks vs ps) : PPs X pos ks vs (trsOf X ks vs) := by
  induction h with
  | nil => exact pps_nil
  | cons _ _ _ ih => exact pps_cons (pe_se X _) (pe_se X _) ih
theorem EvPs.len {X : Cx} {ks : List (Option Expr)} {vs : List Expr} {ps : List (Den × Den)} (h : EvPs X ks vs ps) : ks.length = vs.length ∧ ks.length = ps.length ∧ ks.all (·.isSome) = true := by
  induction h with
  | nil => exact ⟨rfl, rfl, rfl⟩
  | cons _ _ _ ih => exact ⟨by simp [ih.1], by simp [ih.2.1], by simpa using ih.2.2⟩
theorem dPairs_len : ∀ {ps : List (Den × Den)} {env : En} {s s' : DS} {l : List (Key × D)}, dPairs ps env s = some (l, s') → l.length = ps.length
  | [], _, _, _, _, h => by cases h; rfl
  | (fk, fv) :: r, env, s, s', l, h => by
    obtain ⟨a, s1, e1, h⟩ := bnd_eq h
    obtain ⟨b, s2, e2, h⟩ := bnd_eq h
    obtain ⟨c, s3, e3, h⟩ := bnd_eq h
    split at h
    · cases h
      rw [List.length_cons, List.length_cons, dPairs_len e3]
    · cases h
theorem evPs_run {X : Cx} {ks : List (Option Expr)} {vs : List Expr} {ps : List (Den × Den)} (h : EvPs X ks vs ps) : ∀ {B : Bs} {env : En} {ds ds' : DS} {σ : St} {Hf H : Hp} {l : List (Key × D)}, SR B X.K env ds σ Hf H → dPairs ps env ds = some (l, ds') → ∀ Q : List (V × V) → Hp → Prop,
    (∀ lv Hf' H', Gr B Hf H Hf' H' → SR B X.K env ds' σ Hf' H' → RpK Hf' lv l → Q (lv.map fun kv => (kV kv.1, kv.2)) H') → tPairs (trsOf X ks vs) σ H Q := by
  induction h with
  | nil => intro B env ds ds' σ Hf H l S e Q q; cases e; exact q [] _ _ Gr.refl S .nil
  | cons hk hv _ ih =>
    intro B env ds ds' σ Hf H l S e Q q
    obtain ⟨a, s1, e1, e⟩ := bnd_eq e
    obtain ⟨b, s2, e2, e⟩ := bnd_eq e
    obtain ⟨c, s3, e3, e⟩ := bnd_eq e
    split at e
    · rename_i kk ek
      cases e
      refine hk B env ds σ Hf H _ _ S e1 _ fun x Hf1 H1 g1 S1 r1 => hv B env s1 σ Hf1 H1 _ _ S1 e2 _ fun y Hf2 H2 g2 S2 r2 => ?_
      refine ih S2 e3 _ fun lv Hf3 H3 g3 S3 r3 => ?_
      cases key1_rp r1 ek
      exact q ((kk, y) :: lv) _ _ ((g1.trans g2).trans g3) S3 (.cons (r2.up g3.ff) r3)
    · cases e
section
variable {X : Cx} {pos : Pos}
theorem evn_dispK {ks : List (Option Expr)} {vs : List Expr} {ps : List (Den × Den)} (h : EvPs X ks vs ps) (h0 : ks ≠ []) (h15 : ks.length ≤ 15) : EvN X (.Dict ks vs pos) (dDispK ps) := fun B env ds σ Hf H d ds' S hf Q q => by
  obtain ⟨l, s1, e1, e2⟩ := bnd_eq hf
  cases e2
  obtain ⟨l1, l2, l3⟩ := h.len
  refine SE.of (pe_disp h.pps l3 l1 h0 h15) fun p np => ?_
  have nf := sub_none S np
  have F := S.fre np
  refine evPs_run h (S.hp nf F) e1 _ fun lv Hf1 H1 g1 S1 r1 => ?_
  have hp2 : H1 p = some (.dK []) := g1.at upd_same F.nd
  have nf2 : Hf1 p = none := g1.noF nf (by rw [upd_same]; simp) (by intro xs z; rw [upd_same] at z; cases z)
  refine ⟨hp2, lv, rfl, ?_, q p Hf1 _ (((Gr.refl.hp np).trans g1).hp np) (S1.hp nf2 F) np nf2 (.dK upd_same (merge_rp r1 .nil))⟩
  have := dPairs_len e1
  have e3 := r1.length
  omega
end
end L2.Dn
set_option Elab.async false
set_option linter.all false
set_option maxRecDepth 100000
/-! max(d, key=f) over the keys of a dict with tuple keys, f a def of the text that gives tuples of ints (after KE.DataMinKey) -/
namespace L2.Dn
open PySem PySem.Spec PyProof.Rows C8
section
variable {prog : Program} {w : World} {A : Around} {R : Result → Shared → Prop} {E : Value → Shared → Prop} {I S q : Addr} {fp wr : List Addr} {G : Array GenState → Array GenState → Prop} {n : Nat} {P : Nat → Value → Prop} {St : Nat → Shared → Prop} {bt : Nat → Nat → Bool}
abbrev lstO (xs : Array Value) (c : Nat) : Obj := { cls := .type "list", dict := none, data := .seq xs c, slots := #[] }
/-- what the keys' def does: T0 holds at the start, T b kb with kb the key of the best one, T2 i k b kb with the i-th's key k beside -/
structure KeyT (prog : Program) (w : World) (A : Around) (q S : Addr) (wr : List Addr) (G : Array GenState → Array GenState → Prop) (n : Nat) (P : Nat → Value → Prop) (St : Nat → Shared → Prop) (bt : Nat → Nat → Bool)
    (T0 : Shared → Prop) (T : Nat → Value → Shared → Prop) (T2 : Nat → Value → Nat → Value → Shared → Prop) : Prop where
  k0 : ∀ s s', T0 s → Moved (S :: wr) G s s' → T0 s'
  k1 : ∀ b kb s s', T b kb s → Moved (S :: wr) G s s' → T b kb s'
  t0 : ∀ v (s : Shared) (xs : Array Value) (c : Nat) (Q : Value → Shared → Prop) (E : Value → Shared → Prop), 0 < n → P 0 v → T0 s → St 1 s → s.heap.get? S = some (lstO xs c) →
    (∀ k s', T 0 k s' → St 1 s' → s'.heap.get? S = some (lstO xs c) → Q k s') → wpAny (model prog w) A (call (.ref q) [v]) Q E s
  t1 : ∀ i b kb v (s : Shared) (xs : Array Value) (c : Nat) (Q : Value → Shared → Prop) (E : Value → Shared → Prop), i < n → P i v → T b kb s → St (i + 1) s → s.heap.get? S = some (lstO xs c) →
    (∀ k s', T2 i k b kb s' → St (i + 1) s' → s'.heap.get? S = some (lstO xs c) → Q k s') → wpAny (model prog w) A (call (.ref q) [v]) Q E s
  cmp : ∀ i k b kb (s : Shared) (Q : Value → Shared → Prop) (E : Value → Shared → Prop), T2 i k b kb s → Q (.bool (bt i b)) s → wpAny (model prog w) A (richCompare .Gt k kb) Q E s
  l : ∀ i k b kb s, T2 i k b kb s → T i k s
  r : ∀ i k b kb s, T2 i k b kb s → T b kb s
variable {T0 : Shared → Prop} {T : Nat → Value → Shared → Prop} {T2 : Nat → Value → Nat → Value → Shared → Prop}
theorem maxT_loop (W : WalksS prog w A.in1 I fp wr G n P St) (hSf : S ∉ fp) (Y : KeyT prog w A.in1 q S wr G n P St bt T0 T T2) (kw : List (Str × Value)) :
    ∀ (k j : Nat) (s : Shared) (vb kb : Value) (c : Nat), n - (j + 1) = k → j + 1 ≤ n → St (j + 1) s → P (argBest bt j) vb → T (argBest bt j) kb s →
    s.heap.get? S = some (lstO #[vb, kb] c) →
    (∀ v b kb s', P (argBest bt (n - 1)) v → T b kb s' → R (.ok (.ret v)) s') → codeAny (model prog w) A (.builtin "max.loop" ⟨[.ref I, (.ref q), .ref S], kw⟩) R s := by
  have hSw : S ∉ wr := fun h => hSf (W.sub _ h)
  have hsub : ∀ b ∈ wr, b ∈ S :: wr := fun b hb => List.mem_cons_of_mem _ hb
  have hname : (toString "max" ++ toString ".loop" : String) = "max.loop" := by decide
  have notS : ∀ {b : Addr}, b ∉ S :: wr → S ≠ b := fun hb h => hb (by rw [h]; exact List.mem_cons_self)
  intro k
  induction k with
  | zero =>
    intro j s vb kb c hk hj hst hPb hT hS hR
    have hin : j + 1 = n := by omega
    refine codeAny_builtin F.entry_max_loop ?_
    rw [Around.under_plainId F.plain_max_loop _]
    show wpAny _ A.in1 (seqItems? (.ref S) >>= _) _ _ s
    refine wpAny_bind (wpAny_seqItems hS rfl ?_)
    show wpAny _ A.in1 (tryCatch (pyNext (.ref I)) _ >>= _) _ _ s
    refine wpAny_bind (wpAny_tryCatch (W.done s _ _ (hin ▸ hst) fun s' hm => ?_))
    have hS' := hm.heap S _ hSw hS
    show wpAny _ A.in1 (updateSeq S (fun _ => #[]) >>= _) _ _ _
    refine wpAny_bind ?_
    refine wpAny_updateSeq hS' rfl (wpAny_bind (wpAny_letGo (wpAny_pure ?_)))
    exact hR vb _ kb _ (by rw [← hin]; exact hPb) (Y.k1 _ _ _ _ hT ((hm.mono hsub).then_heap (tk := s'.toks) (Nat.le_refl _) fun b o hb e => (Heap.get?_update_other _ _ (notS hb)).trans e))
  | succ k ih =>
    intro j s vb kb c hk hj hst hPb hT hS hR
    have hlt : j + 1 < n := by omega
    refine codeAny_builtin F.entry_max_loop ?_
    rw [Around.under_plainId F.plain_max_loop _]
    show wpAny _ A.in1 (seqItems? (.ref S) >>= _) _ _ s
    refine wpAny_bind (wpAny_seqItems hS rfl ?_)
    show wpAny _ A.in1 (tryCatch (pyNext (.ref I)) _ >>= _) _ _ s
    refine wpAny_bind (wpAny_tryCatch (W.item (j + 1) s _ _ hlt hst fun v s' hP hst' hm => ?_))
    have hS' := hm.heap S _ hSw hS
    have hT' := Y.k1 _ _ _ _ hT (hm.mono hsub)
    show wpAny _ A.in1 (tryCatch (holding [v] (call (.ref q) [v])) _ >>= _) _ _ _
    refine wpAny_bind (wpAny_tryCatch (wpAny_holding (Y.t1 (j + 1) _ _ v s' _ _ _ _ hlt hP hT' hst' hS' fun kx s'' hT2 hst2 hS2 => ?_)))
    show wpAny _ A.in1 (tryCatch (holding [v, kx] (richCompare .Gt kx kb >>= _)) _ >>= _) _ _ _
    refine wpAny_bind (wpAny_tryCatch (wpAny_holding (wpAny_bind (Y.cmp (j + 1) kx (argBest bt j) kb s'' _ _ hT2 ?_))))
    refine wpAny_bind (wpAny_holding (wpAny_truthy_bool ?_))
    refine wpAny_bind (wpAny_letGo (wpAny_pure ?_))
    cases hb : bt (j + 1) (argBest bt j) with
    | true =>
      simp only [if_true]
      refine wpAny_bind ?_
      refine wpAny_updateSeq hS2 rfl (wpAny_bind (wpAny_letGo ?_))
      rw [hname]
      have hm2 : Moved (S :: wr) G s'' { s'' with heap := s''.heap.update S (Obj.mapSeq fun _ => #[v, kx]), toks := s''.toks } := (Moved.refl W.grefl).then_heap (tk := s''.toks) (Nat.le_refl _) fun b o hb e => (Heap.get?_update_other _ _ (notS hb)).trans e
      refine wpAny_pure ⟨plainId_quiet F.plain_max_loop _, ih (j + 1) _ v kx _ (by omega) hlt (W.frame _ s'' _ s''.toks hst2 (Nat.le_refl _) fun b hbf o e => ?_) (by simp only [argBest, hb, if_true]; exact hP) (by simp only [argBest, hb, if_true]; exact Y.k1 _ _ _ _ (Y.l _ _ _ _ _ hT2) hm2) (Heap.get?_update_self _ hS2 rfl) hR⟩
      exact (Heap.get?_update_other _ _ (fun h : S = b => hSf (by rw [h]; exact hbf))).trans e
    | false =>
      simp only [Bool.false_eq_true, if_false]
      refine wpAny_bind (wpAny_letGo ?_)
      rw [hname]
      exact wpAny_pure ⟨plainId_quiet F.plain_max_loop _, ih (j + 1) _ vb kb c (by omega) hlt hst2 (by simp only [argBest, hb, Bool.false_eq_true, if_false]; exact hPb) (by simp only [argBest, hb, Bool.false_eq_true, if_false]; exact Y.r _ _ _ _ _ hT2) hS2 hR⟩
theorem maxT_first (W : WalksS prog w A.in1 I fp wr G n P St) (hSf : S ∉ fp) (Y : KeyT prog w A.in1 q S wr G n P St bt T0 T T2) (kw : List (Str × Value)) (hn : 0 < n) {s : Shared} {c : Nat} (h0 : T0 s) (hst : St 0 s)
    (hS : s.heap.get? S = some (lstO #[] c)) (hR : ∀ v b kb s', P (argBest bt (n - 1)) v → T b kb s' → R (.ok (.ret v)) s') : codeAny (model prog w) A (.builtin "max.loop" ⟨[.ref I, (.ref q), .ref S], kw⟩) R s := by
  have hSw : S ∉ wr := fun h => hSf (W.sub _ h)
  have hsub : ∀ b ∈ wr, b ∈ S :: wr := fun b hb => List.mem_cons_of_mem _ hb
  have hname : (toString "max" ++ toString ".loop" : String) = "max.loop" := by decide
  have notS : ∀ {b : Addr}, b ∉ S :: wr → S ≠ b := fun hb h => hb (by rw [h]; exact List.mem_cons_self)
  refine codeAny_builtin F.entry_max_loop ?_
  rw [Around.under_plainId F.plain_max_loop _]
  show wpAny _ A.in1 (seqItems? (.ref S) >>= _) _ _ s
  refine wpAny_bind (wpAny_seqItems hS rfl ?_)
  show wpAny _ A.in1 (tryCatch (pyNext (.ref I)) _ >>= _) _ _ s
  refine wpAny_bind (wpAny_tryCatch (W.item 0 s _ _ hn hst fun v s' hP hst' hm => ?_))
  have hS' := hm.heap S _ hSw hS
  have h0' := Y.k0 _ _ h0 (hm.mono hsub)
  show wpAny _ A.in1 (tryCatch (holding [v] (call (.ref q) [v])) _ >>= _) _ _ _
  refine wpAny_bind (wpAny_tryCatch (wpAny_holding (Y.t0 v s' _ _ _ _ hn hP h0' hst' hS' fun kx s'' hT hst2 hS2 => ?_)))
  show wpAny _ A.in1 (updateSeq S (fun _ => #[v, kx]) >>= _) _ _ _
  refine wpAny_bind ?_
  refine wpAny_updateSeq hS2 rfl ?_
  rw [hname]
  have hm2 : Moved (S :: wr) G s'' { s'' with heap := s''.heap.update S (Obj.mapSeq fun _ => #[v, kx]), toks := s''.toks } := (Moved.refl W.grefl).then_heap (tk := s''.toks) (Nat.le_refl _) fun b o hb e => (Heap.get?_update_other _ _ (notS hb)).trans e
  refine wpAny_pure ⟨plainId_quiet F.plain_max_loop _, maxT_loop W hSf Y kw _ 0 _ v kx _ rfl hn (W.frame _ s'' _ s''.toks hst2 (Nat.le_refl _) fun b hbf o e => ?_) hP (Y.k1 _ _ _ _ hT hm2) (Heap.get?_update_self _ hS2 rfl) hR⟩
  exact (Heap.get?_update_other _ _ (fun h : S = b => hSf (by rw [h]; exact hbf))).trans e
theorem call_maxT {x : Value} {s : Shared} {Q : Value → Shared → Prop}
    (h : wpAny (model prog w) A.in1 (pyIter x) (fun it s₂ => ∃ I fp wr G n P St bt T0 T T2, it = .ref I ∧ WalksS prog w A.in1 I fp wr G n P St ∧ St 0 s₂ ∧ (∀ b ∈ fp, b < s₂.heap.objs.size) ∧ 0 < n ∧ (∀ a, G a a) ∧
      KeyT prog w A.in1 q s₂.heap.objs.size wr G n P St bt T0 T T2 ∧ T0 s₂ ∧ ∀ v b kb s', P (argBest bt (n - 1)) v → T b kb s' → Q v s') E s) :
    wpAny (model prog w) A (call (.builtin "max") [x] [(Str.ofString "key", .ref q)]) Q E s := by
  have hname : (toString "max" ++ toString ".loop" : String) = "max.loop" := by decide
  refine PyProof.Rows.kmk_tree F.kind_max F.plain_max F.entry_max (PyProof.Rows.kmk_max_key _ _) ?_
  show wpAny _ A.in1 (Builtin.Builtins.bindParams "max" ["key", "default"] 0 ⟨[], [(Str.ofString "key", .ref q)]⟩ >>= _) _ _ s
  refine wpAny_bind (wpAny_of_eq (show Builtin.Builtins.bindParams "max" ["key", "default"] 0 ⟨[], [(Str.ofString "key", .ref q)]⟩ = pure [some (.ref q), none] from rfl) ?_)
  refine wpAny_bind (wpAny_pure ?_)
  refine wpAny_bind (wpAny_mono h (fun it s₂ h₂ => ?_) fun _ _ e => e)
  obtain ⟨I, fp, wr, G, n, P, St, bt, T0, T, T2, rfl, W, hst, hfp, hn, hg, Y, h0, hQ⟩ := h₂
  refine wpAny_bind (wpAny_newObj_type ?_)
  have hSf : s₂.heap.objs.size ∉ fp := fun hm => Nat.lt_irrefl _ (hfp _ hm)
  rw [hname]
  have hm0 : Moved (s₂.heap.objs.size :: wr) G s₂ { s₂ with heap := s₂.heap.push { cls := .type "list", data := .seq #[] 0 }, toks := s₂.toks } := (Moved.refl W.grefl).then_heap (tk := s₂.toks) (Nat.le_refl _) fun b o _ e => Heap.get?_push_of_some _ e
  have hst' := W.frame 0 s₂ (s₂.heap.push { cls := .type "list", data := .seq #[] 0 }) s₂.toks hst (Nat.le_refl _) fun b _ o e => Heap.get?_push_of_some _ e
  exact wpAny_pure ⟨plainId_quiet F.plain_max_loop _, maxT_first W hSf Y _ hn (Y.k0 _ _ h0 hm0) hst' (Heap.get?_push_size _ rfl) hQ⟩
end
/-! ### a def called from within a built-in -/
theorem run_in {X : Cx} {k : Nat} {f : Addr} {fd : FuncData} {ps : List Str} {sp : Sp} {A' : Around} {pins : List (Addr × Obj)} {σ : St} {H : Hp} {s : Shared} {Q : VK} {us : List Value} {vs : List V} {E' : Value → Shared → Prop} (F : FnOk X.prog X.w X.K X.mg X.base CX0 k f fd ps sp) (hr : Room k A')
    (e0 : Env0 X.prog X.w X.K X.mg X.base A' X.stack s H) (hb : Binds X.K fd ps []) (I : Inv X pins σ H s) (r : Vals vs us) (h : sp vs H Q E0) : wpAny (model X.prog X.w) A' (call (.ref f) us) (EP X pins σ Q) E' s := by
  have hl : (us ++ []).length = ps.length := by rw [List.append_nil, ← r.length]; exact F.len _ _ _ _ h
  have hb' := hb s us I.kIn hl
  rw [List.append_nil] at hb'
  refine wpAny_call (codeAny_mono (F.run A' X.stack s H ⟨us, []⟩ us vs Q E0 hr e0 hb' r h) fun r s' hq => ?_)
  cases r with
  | error e => exact hq.elim
  | ok fl =>
    cases fl with
    | ret u => exact I.after hq
    | next => exact False.elim hq
    | brk => exact False.elim hq
    | cont => exact False.elim hq
/-! ### on data -/
def gtI : List Int → List Int → Bool
  | [], _ => false
  | _ :: _, [] => true
  | x :: xs, y :: ys => (match decide (x = y) with
    | true => gtI xs ys
    | false => decide (y < x))
theorem gtI_lex : ∀ (ns ms : List Int) (i : Nat), Ob.lexAt (fun j => decide (ns.getD (j - i) 0 = ms.getD (j - i) 0)) (fun j => decide (ms.getD (j - i) 0 < ns.getD (j - i) 0)) (decide (ns.length > ms.length)) i (min ns.length ms.length) = gtI ns ms
  | [], ms, i => by
    simp [gtI, Ob.lexAt]
  | x :: xs, [], i => by
    simp [gtI, Ob.lexAt]
  | x :: xs, y :: ys, i => by
    have e : min (x :: xs).length (y :: ys).length = min xs.length ys.length + 1 := by simp [Nat.succ_min_succ]
    rw [e, Ob.lexAt_succ]
    have ih := gtI_lex xs ys (i + 1)
    have c : ∀ (f g f' g' : Nat → Bool) (z : Bool) (k i : Nat), (∀ j, i ≤ j → f j = f' j) → (∀ j, i ≤ j → g j = g' j) → Ob.lexAt f g z i k = Ob.lexAt f' g' z i k := by
      intro f g f' g' z k
      induction k with
      | zero => intro i _ _; rfl
      | succ k ih =>
        intro i h1 h2
        rw [Ob.lexAt_succ, Ob.lexAt_succ, h1 i (Nat.le_refl _), h2 i (Nat.le_refl _), ih (i + 1) (fun j hj => h1 j (by omega)) fun j hj => h2 j (by omega)]
    simp only [Nat.sub_self, List.getD_cons_zero, decide_eq_true_eq]
    unfold gtI
    by_cases q : x = y
    · rw [if_pos q, decide_eq_true q]
      simp only []
      rw [← ih]
      have z : decide ((x :: xs).length > (y :: ys).length) = decide (xs.length > ys.length) := by simp
      rw [z]
      refine c _ _ _ _ _ _ _ (fun j hj => ?_) fun j hj => ?_
      · have : j - i = (j - (i + 1)) + 1 := by omega
        rw [this, List.getD_cons_succ, List.getD_cons_succ]
      · have : j - i = (j - (i + 1)) + 1 := by omega
        rw [this, List.getD_cons_succ, List.getD_cons_succ]
    · rw [if_neg q, decide_eq_false q]
def tupI? : D → Option (List Int)
  | .tuple ds => ints? ds
  | _ => none
def rowsK (f : List D → Option D) : List (List Key × D) → Option (List (List Key × List Int))
  | [] => some []
  | (k, _) :: r => (match f [keyT k] with
    | some d => (match tupI? d with
      | some ns => (match rowsK f r with
        | some l => some ((k, ns) :: l)
        | none => none)
      | none => none)
    | none => none)
def maxL (k : List Key) (r : List Int) : List (List Key × List Int) → List Key
  | [] => k
  | (k', r') :: l => (match gtI r' r with
    | true => maxL k' r' l
    | false => maxL k r l)
theorem rowsK_at {f : List D → Option D} : ∀ {ds : List (List Key × D)} {l : List (List Key × List Int)} {i : Nat} {k : List Key} {d : D}, rowsK f ds = some l → ds[i]? = some (k, d) → ∃ ns, f [keyT k] = some (.tuple (ns.map D.int)) ∧ l[i]? = some (k, ns)
  | [], _, _, _, _, h, e => by cases e
  | (k0, d0) :: r, l, i, k, d, h, e => by
    unfold rowsK at h
    split at h
    · rename_i x e1
      split at h
      · rename_i ns e2
        split at h
        · rename_i l' e3
          cases h
          cases i with
          | zero =>
            cases e
            refine ⟨ns, ?_, rfl⟩
            rw [e1]
            unfold tupI? at e2
            split at e2
            · rw [ints_eq e2]
            · cases e2
          | succ i => exact rowsK_at (i := i) e3 (by simpa using e)
        · cases h
      · cases h
    · cases h
theorem rowsK_len {f : List D → Option D} : ∀ {ds : List (List Key × D)} {l : List (List Key × List Int)}, rowsK f ds = some l → l.length = ds.length
  | [], _, h => by cases h; rfl
  | (k0, d0) :: r, l, h => by
    unfold rowsK at h
    split at h
    · split at h
      · split at h
        · rename_i l' e3
          cases h
          rw [List.length_cons, List.length_cons, rowsK_len e3]
        · cases h
      · cases h
    · cases h
def btL (l : List (List Key × List Int)) (i j : Nat) : Bool := gtI (l.getD i ([], [])).2 (l.getD j ([], [])).2
theorem maxL_arg (l : List (List Key × List Int)) : ∀ (k j : Nat), l.length - (j + 1) = k → j + 1 ≤ l.length → maxL (l.getD (argBest (btL l) j) ([], [])).1 (l.getD (argBest (btL l) j) ([], [])).2 (l.drop (j + 1)) = (l.getD (argBest (btL l) (l.length - 1)) ([], [])).1 := by
  intro k
  induction k with
  | zero =>
    intro j h1 h2
    have : j + 1 = l.length := by omega
    rw [this, List.drop_length]
    have : l.length - 1 = j := by omega
    rw [this]
    rfl
  | succ k ih =>
    intro j h1 h2
    have hlt : j + 1 < l.length := by omega
    rw [List.drop_eq_getElem_cons hlt]
    have e : l.getD (j + 1) ([], []) = l[j + 1] := by rw [List.getD_eq_getElem?_getD, List.getElem?_eq_getElem hlt]; rfl
    have ih' := ih (j + 1) (by omega) (by omega)
    show (match gtI (l[j + 1]).2 _ with | true => _ | false => _) = _
    have eb : gtI (l[j + 1]).2 (l.getD (argBest (btL l) j) ([], [])).2 = btL l (j + 1) (argBest (btL l) j) := by unfold btL; rw [e]
    rw [eb]
    cases hb : btL l (j + 1) (argBest (btL l) j) with
    | true =>
      simp only [argBest, hb, if_true] at ih'
      rw [e] at ih'
      exact ih'
    | false =>
      simp only [argBest, hb, Bool.false_eq_true, if_false] at ih'
      exact ih'
end L2.Dn
set_option Elab.async false
set_option linter.all false
set_option maxRecDepth 100000
namespace L2.Dn
open PySem PySem.Spec PyProof.Rows C8
/-- a state in which the call of the key's def may happen -/
structure Js (X : Cx) (pins : List (Addr × Obj)) (σ : St) (S it : Addr) (B : Bs) (env : En) (ds : DS) (σ' : St) (Hf H : Hp) (Hf' H' : Hp) (s : Shared) : Prop where
  I : Inv X pins σ H' s
  fS : FpOk X pins H' S
  fI : FpOk X pins H' it
  g : Gr B Hf H Hf' H'
  S : SR B X.K env ds σ' Hf' H'
theorem Js.moved {X : Cx} {pins : List (Addr × Obj)} {σ : St} {S it : Addr} {B : Bs} {env : En} {ds : DS} {σ' : St} {Hf H Hf' H' : Hp} {s s' : Shared} (j : Js X pins σ S it B env ds σ' Hf H Hf' H' s) (m : Moved (S :: [it]) (fun a b => b = a) s s') : Js X pins σ S it B env ds σ' Hf H Hf' H' s' := by
  obtain ⟨h', g', d', t', o'⟩ := s'
  have e1 : g' = s.gens := m.gens
  have e2 : d' = s.drawn := m.drawn
  have e3 : o' = s.os := m.os
  subst e1 e2 e3
  refine ⟨j.I.turnedL (t' := t') (ch := S :: [it]) (fun b o hb e => m.heap b o hb e) (fun b hb => ?_), j.fS, j.fI, j.g, j.S⟩
  rcases List.mem_cons.mp hb with rfl | hb
  · exact j.fS
  · rw [List.mem_singleton.mp hb]; exact j.fI
theorem fpStill {X : Cx} {pins : List (Addr × Obj)} {H H' : Hp} {b : Addr} (f : FpOk X pins H b) (n : H' b = none) : FpOk X pins H' b := ⟨n, f.2⟩
theorem SqTok {X : Cx} {pins : List (Addr × Obj)} {σ : St} {H : Hp} {s : Shared} {a : Addr} {xs : List V} (I : Inv X pins σ H s) (h : H a = some (.tup xs)) : xs.length ≤ sizeLine ∧ ∃ its : List Value, Vals xs its ∧ IsTup s.heap a its.toArray := by
  obtain ⟨its, r, p, z⟩ := I.tuple (.inl (.inl h))
  exact ⟨z, its, r, p⟩
theorem gt_tups {A : Around} {s : Shared} {a b : Addr} {its its2 : List Value} {ns ms : List Int} (i1 : IntsAre its ns) (i2 : IntsAre its2 ms) (p1 : IsTup s.heap a its.toArray) (p2 : IsTup s.heap b its2.toArray) (hu : A.units < cLine) : Ob.RcOp .Gt A s (.ref a) (.ref b) (gtI ns ms) := by
  have e1 : its.toArray.size = ns.length := by rw [List.size_toArray]; exact i1.length
  have e2 : its2.toArray.size = ms.length := by rw [List.size_toArray]; exact i2.length
  have at1 : ∀ j (h1 : j < its.toArray.size), ∃ t, its.toArray[j] = .int (ns.getD j 0) t := fun j h1 => PyProof.Rows.IntsAre.int_at i1 _ _ (by simp at h1; simp [h1])
  have at2 : ∀ j (h1 : j < its2.toArray.size), ∃ t, its2.toArray[j] = .int (ms.getD j 0) t := fun j h1 => PyProof.Rows.IntsAre.int_at i2 _ _ (by simp at h1; simp [h1])
  have R := Ob.RcOp.tuples_gt (A := A) (s := s) (e := fun j => decide (ns.getD j 0 = ms.getD j 0)) (r := fun j => decide (ms.getD j 0 < ns.getD j 0)) p1 p2 hu (fun j h1 h2 => by
    obtain ⟨t, et⟩ := at1 j h1
    obtain ⟨t', et'⟩ := at2 j h2
    rw [et, et']
    have z : (ns.getD j 0 == ms.getD j 0) = decide (ns.getD j 0 = ms.getD j 0) := by
      by_cases q : ns.getD j 0 = ms.getD j 0
      · rw [decide_eq_true q]; exact beq_iff_eq.mpr q
      · rw [decide_eq_false q]; exact beq_eq_false_iff_ne.mpr q
    rw [← z]
    exact SeqAt.EqAt.int_int _ _ _ _) (fun j h1 h2 _ => by
    obtain ⟨t, et⟩ := at1 j h1
    obtain ⟨t', et'⟩ := at2 j h2
    rw [et, et']
    exact Ob.RcOp.gt_int _ _ _ _)
  rw [e1, e2] at R
  have := gtI_lex ns ms 0
  simp only [Nat.sub_zero] at this
  rw [this] at R
  exact R
section
variable {X : Cx} {k j : Nat} {fa : Addr} {fd : FuncData} {ps : List Str} {fk : List D → Option D}
def rMaxK (X : Cx) (fa : Addr) (fk : List D → Option D) : List V → List V → Hp → VK → Prop := fun xs zs H Q => zs = [.ref fa] ∧ ∃ (a : Addr) (o : Obj) (kvs : List (List Key × V)) (ds : List (List Key × D)) (B : Bs) (env : En) (dst : DS) (σ' : St) (Hf : Hp) (k0 : List Key) (r0 : List Int) (rest : List (List Key × List Int)),
  xs = [.ref a] ∧ SR B X.K env dst σ' Hf H ∧ Hf a = some (.frz o (.dT kvs)) ∧ RpT Hf kvs ds ∧ rowsK fk ds = some ((k0, r0) :: rest) ∧
  ∀ q Hf' H', Gr B Hf H Hf' H' → SR B X.K env dst σ' Hf' H' → Rp Hf' (.ref q) (keyT (maxL k0 r0 rest)) → Q (.ref q) H'
theorem cr_maxK (hc : X.calm = true) (hu : X.A.units + 8 < cLine) (F : FnOk X.prog X.w X.K X.mg X.base CX0 k fa fd ps (spP X.K 1 fk)) (hb : Binds X.K fd ps []) (hr : Room (k + 1) X.A) : CallRK X (.builtin "max") ["key"] (rMaxK X fa fk) := by
  intro pins s σ H xs zs us ws Q I rx rz ⟨ez, a, o, kvs, ds, B, env, dst, σ', Hf, k0, r0, rest, ex, S, ha, hk, hl, q⟩
  subst ex ez
  obtain ⟨u, eu, rx'⟩ := vals1 rx
  subst eu
  obtain rfl : u = Value.ref a := rx'
  obtain ⟨u2, eu2, rz'⟩ := vals1 rz
  subst eu2
  obtain rfl : u2 = Value.ref fa := rz'
  obtain ⟨hs, hgd, hx, es, ep, hdt, hsz, ent⟩ := frzTV I (S.sub _ _ ha)
  have hh : X.A.handled = none := I.ok.hd hc
  have lend := hk.length
  have lenl := rowsK_len hl
  have hfr : H s.heap.objs.size = none := I.fresh
  have hane : a ≠ s.heap.objs.size := Nat.ne_of_lt (Heap.lt_size hgd)
  show wpAny (model X.prog X.w) X.A (call (.builtin "max") [.ref a] [(Str.ofString "key", .ref fa)]) _ _ _
  refine call_maxT (q := fa) (iter_keys hs hgd hx hdt ?_)
  generalize hs2 : ({ s with heap := s.heap.push { cls := .type "dict_keyiterator", data := .fields #[.ref a, .int 0 0, .int es.size 0, .int ep 0] } } : Shared) = s2
  have I2 : Inv X pins σ H s2 := by
    rw [← hs2]
    exact I.kept (t' := s.toks) fun b ob e => Heap.get?_push_of_some _ e
  have z2 : s2.heap.objs.size = s.heap.objs.size + 1 := by rw [← hs2]; exact Heap.size_push _ _
  generalize hS : s2.heap.objs.size = So at z2 ⊢
  generalize hit : s.heap.objs.size = it at hane hfr z2 hs2 ⊢
  have hSn : H So = none := by rw [← hS]; exact I2.fresh
  have fS : FpOk X pins H So := I2.fpOk (Nat.le_of_eq hS) hSn
  have fI : FpOk X pins H it := I.fpOk (Nat.le_of_eq hit) hfr
  have hSI : So ≠ it := by omega
  have itO : s2.heap.get? it = some { cls := .type "dict_keyiterator", data := .fields #[.ref a, .int 0 0, .int es.size 0, .int ep 0] } := by
    rw [← hs2, ← hit]; exact Heap.get?_push_size _ rfl
  have W := (Walks.rawKeys (prog := X.prog) (w := X.w) (A := X.A.in1) (show X.A.in1.handled = none from hh) it a hane es ep).toS
  -- the call
  have run : ∀ (i : Nat) (hi : i < es.size) {Hf' H' : Hp} {s' : Shared} {xs : Array Value} {c : Nat} {Q' : Value → Shared → Prop} {E' : Value → Shared → Prop}, Js X pins σ So it B env dst σ' Hf H Hf' H' s' → s'.heap.IsKeyIter it a (i + 1) es.size ep → s'.heap.get? So = some (lstO xs c) →
      (∀ kq Hf'' H'' s'', Js X pins σ So it B env dst σ' Hf H Hf'' H'' s'' → Same Hf' Hf'' → Rp Hf'' (.ref kq) (.tuple ((((k0, r0) :: rest).getD i ([], [])).2.map D.int)) → (s''.heap.IsKeyIter it a (i + 1) es.size ep ∧ s''.heap.DictRaw a es ep) → s''.heap.get? So = some (lstO xs c) → Q' (.ref kq) s'') →
      wpAny (model X.prog X.w) X.A.in1 (call (.ref fa) [es[i].key]) Q' E' s' := by
    intro i hi Hf' H' s' xs c Q' E' j hki hSo hq
    obtain ⟨⟨kk, vv⟩, hkv⟩ : ∃ p, kvs[i]? = some p := ⟨kvs[i]'(by omega), List.getElem?_eq_getElem (by omega)⟩
    obtain ⟨_, qa, hkey, hqa, _⟩ := ent i kk vv hkv
    obtain ⟨⟨dk, dv⟩, hd⟩ : ∃ p, ds[i]? = some p := ⟨ds[i]'(by omega), List.getElem?_eq_getElem (by omega)⟩
    have ekk : dk = kk := (hk.at hkv hd).1
    subst ekk
    obtain ⟨ns, ef, el⟩ := rowsK_at hl hd
    have hq1 : H' qa = some (.tup (dk.map kV)) := j.g.at hqa (S.noDrT hqa)
    obtain ⟨Hf1, g1, S1, r1⟩ := fz_key j.S hq1
    obtain ⟨oi, e1, e2, e3⟩ := id hki
    have Ip : Inv X (pins ++ [(So, lstO xs c), (it, oi)]) σ H' s' := j.I.pins_of fun p hp => by
      rcases List.mem_append.mp hp with hp | hp
      · exact j.I.pin p (List.mem_append_right _ hp)
      · rcases List.mem_cons.mp hp with rfl | hp
        · exact ⟨hSo, j.fS.1, j.fS.2.1, j.fS.2.2.1, fun v z => nomatch z⟩
        · rw [List.mem_singleton.mp hp]
          exact ⟨e1, j.fI.1, j.fI.2.1, j.fI.2.2.1, fun v z => by rw [e3] at z; cases z⟩
    rw [hkey]
    refine thnF (run_in (vs := [V.ref qa]) F (hr.in1) Ip.env0.in1 hb Ip (.cons rfl .nil) ⟨rfl, Hf1, [keyT dk], .tuple (ns.map D.int), S1.sub, S1.tk _ S1.tab0, S1.tabf, .cons r1 .nil, ef, fun v Hf2 H2 g2 sm2 r2 => (⟨Hf2, g2, sm2, r2⟩ : ∃ Hf2, Gr ⟨H', Hf1, none⟩ Hf1 H' Hf2 H2 ∧ Same Hf2 H2 ∧ Rp Hf2 v (.tuple (ns.map D.int)))⟩) fun u3 s3 ⟨v, H3, I3, rv, Hf3, g3, sm3, r3⟩ => ?_
    have gB : Gr B Hf1 H' Hf3 H3 := g3.of0 fun b xs h => S1.noDrT h
    have p1 := I3.pin (So, lstO xs c) (List.mem_append_right _ (List.mem_append_right _ (List.mem_cons_self ..)))
    have p2 := I3.pin (it, oi) (List.mem_append_right _ (List.mem_append_right _ (List.mem_cons_of_mem _ (List.mem_cons_self ..))))
    have S3 : SR B X.K env dst σ' Hf3 H3 := S1.move gB sm3 fun y l c' ed => by
      obtain ⟨h1, h2, h3, h4, h5⟩ := S1.draw y l c' ed
      have sH := g3.same0
      exact ⟨sH _ _ h1 (by intro _ z; cases z), sH _ _ h2 (by intro _ z; cases z), g3.noF h3 (by rw [h1]; simp) (by intro xs z; rw [h1] at z; cases z), g3.noF h4 (by rw [h2]; simp) (by intro xs z; rw [h2] at z; cases z), g3.ff _ _ h5⟩
    have I4 : Inv X pins σ H3 s3 := I3.pins_of fun p hp => I3.pin p (List.mem_append_right _ (List.mem_append_left _ hp))
    have ed : s3.heap.DictRaw a es ep := by
      obtain ⟨_, hgd3, _⟩ := frzTV I4 (S3.sub _ _ ((j.g.ff.trans (g1.ff.trans gB.ff)) _ _ ha))
      exact ⟨o, hgd3, hx, hdt⟩
    cases r3 with
    | @tup kq vs0 ds0 h3 h3' =>
      cases rv
      have el2 : (((k0, r0) :: rest).getD i ([], [])).2 = ns := by rw [List.getD_eq_getElem?_getD, el]; rfl
      exact hq kq Hf3 H3 s3 ⟨I4, fpStill j.fS p1.2.1, fpStill j.fI p2.2.1, (j.g.trans g1).trans gB, S3⟩ (g1.ff.trans gB.ff) (by rw [el2]; exact .tup h3 h3') ⟨⟨oi, p2.1, e2, e3⟩, ed⟩ p1.1
  let Rw : Nat → D := fun b => .tuple ((((k0, r0) :: rest).getD b ([], [])).2.map D.int)
  refine ⟨it, [it, a], [it], _, es.size, _, _, btL ((k0, r0) :: rest), fun s' => ∃ Hf' H', Js X pins σ So it B env dst σ' Hf H Hf' H' s',
    fun b kb s' => ∃ kq Hf' H', kb = .ref kq ∧ Js X pins σ So it B env dst σ' Hf H Hf' H' s' ∧ Rp Hf' (.ref kq) (Rw b),
    fun i kx b kb s' => ∃ q1 q2 Hf' H', kx = .ref q1 ∧ kb = .ref q2 ∧ Js X pins σ So it B env dst σ' Hf H Hf' H' s' ∧ Rp Hf' (.ref q1) (Rw i) ∧ Rp Hf' (.ref q2) (Rw b), rfl, W, ?_, ?_, ?_, fun _ => rfl, ?_, ⟨Hf, H, I2, fS, fI, Gr.refl, S⟩, ?_⟩
  · refine ⟨⟨_, itO, rfl, rfl⟩, ⟨o, ?_, hx, hdt⟩⟩
    rw [← hs2]; exact Heap.get?_push_of_some _ hgd
  · intro b hb
    have la := Heap.lt_size hgd
    rw [z2]
    rcases List.mem_cons.mp hb with eb | hb
    · rw [eb]; exact Nat.lt_succ_self _
    · rw [List.mem_singleton.mp hb]
      rw [hit] at la
      exact Nat.lt_succ_of_lt la
  · rw [hsz, lend, ← lenl]; simp
  · refine ⟨?_, ?_, ?_, ?_, ?_, ?_, ?_⟩
    · rintro s' s'' ⟨Hf', H', j⟩ m
      exact ⟨Hf', H', j.moved m⟩
    · rintro b kb s' s'' ⟨kq, Hf', H', e, j, r⟩ m
      exact ⟨kq, Hf', H', e, j.moved m, r⟩
    · rintro v s' xs c Q' E' hn ⟨hi, rfl⟩ ⟨Hf', H', j⟩ st hSo hq
      exact run 0 hi j st.1 hSo fun kq Hf2 H2 s2 j2 _ r2 st2 hS2 => hq _ _ ⟨kq, Hf2, H2, rfl, j2, r2⟩ st2 hS2
    · rintro i b kb v s' xs c Q' E' hn ⟨hi, rfl⟩ ⟨kq, Hf', H', rfl, j, r⟩ st hSo hq
      exact run i hi j st.1 hSo fun kq2 Hf2 H2 s2 j2 ff r2 st2 hS2 => hq _ _ ⟨kq2, kq, Hf2, H2, rfl, rfl, j2, r2, r.up ff⟩ st2 hS2
    · rintro i kx b kb s' Q' E' ⟨q1, q2, Hf', H', rfl, rfl, j, r1, r2⟩ hq
      cases r1 with
      | tup h1 h1' =>
        cases r2 with
        | tup h2 h2' =>
          obtain ⟨_, its1, v1, t1⟩ := SqTok (X := X) j.I (j.S.sub _ _ h1)
          obtain ⟨_, its2, v2, t2⟩ := SqTok (X := X) j.I (j.S.sub _ _ h2)
          rw [rpl_ints h1'] at v1
          rw [rpl_ints h2'] at v2
          have R := gt_tups (A := X.A.in1) (s := s') (Vals.ints v1) (Vals.ints v2) t1 t2 (by show X.A.units + 1 < cLine; omega)
          exact R X.prog X.w E' Q' hq
    · rintro i kx b kb s' ⟨q1, q2, Hf', H', rfl, rfl, j, r1, r2⟩
      exact ⟨q1, Hf', H', rfl, j, r1⟩
    · rintro i kx b kb s' ⟨q1, q2, Hf', H', rfl, rfl, j, r1, r2⟩
      exact ⟨q2, Hf', H', rfl, j, r2⟩
  · rintro v b kb s' ⟨hi, rfl⟩ ⟨kq, Hf', H', _, j, _⟩
    generalize hbi : argBest (btL ((k0, r0) :: rest)) (es.size - 1) = bi at hi ⊢
    obtain ⟨⟨kk, vv⟩, hkv⟩ : ∃ p, kvs[bi]? = some p := ⟨kvs[bi]'(by omega), List.getElem?_eq_getElem (by omega)⟩
    obtain ⟨_, qa, hkey, hqa, _⟩ := ent bi kk vv hkv
    obtain ⟨⟨dk, dv⟩, hd⟩ : ∃ p, ds[bi]? = some p := ⟨ds[bi]'(by omega), List.getElem?_eq_getElem (by omega)⟩
    have ekk : dk = kk := (hk.at hkv hd).1
    subst ekk
    obtain ⟨ns, ef, el⟩ := rowsK_at hl hd
    have hq1 : H' qa = some (.tup (dk.map kV)) := j.g.at hqa (S.noDrT hqa)
    obtain ⟨Hf1, g1, S1, r1⟩ := fz_key j.S hq1
    have em : maxL k0 r0 rest = dk := by
      have h1 := maxL_arg ((k0, r0) :: rest) _ 0 rfl (by simp)
      have h2 : ((k0, r0) :: rest).length - 1 = es.size - 1 := by rw [lenl, ← lend, hsz]
      rw [h2, hbi] at h1
      have h3 : (((k0, r0) :: rest).getD bi ([], [])).1 = dk := by rw [List.getD_eq_getElem?_getD, el]; rfl
      rw [h3] at h1
      exact h1
    rw [hkey]
    exact ⟨.ref qa, H', j.I, rfl, q qa Hf1 H' (j.g.trans g1) S1 (by rw [em]; exact r1)⟩
def dMaxK (fk : List D → Option D) (f : Den) : Den := fun env ds => bnd (f env ds) fun a s => match a with
  | .dT kvs => (match rowsK fk kvs with
    | some ((k0, r0) :: rest) => some (keyT (maxL k0 r0 rest), s)
    | _ => none)
  | _ => none
theorem evf_maxK {x : Str} {e : Expr} {f : Den} {p p2 kpos pos : Pos} (hm : X.mg "max" = none) (hc : X.calm = true) (c : Cal X.prog X.w X.K X.mg X.base k x (spP X.K 1 fk) []) (hr : Room j X.A) (hk : k + 1 ≤ j) (he : EvF X e f) (hgx : Gl X x := by rfl) (hg : Gl X "max" := by rfl)
    (hdb : (x == ("__debug__" : Str)) = false := by decide) (hs : starEach [e] X.env = [(false, eval e X.env)] := by rfl) (h1 : backTo pos (starEach (e :: []) X.env) = (false, eval e X.env) :: backTo pos (starEach [] X.env) := by rfl)
    (h3 : (backToKw pos (keywordEach [⟨some "key", .Name x p2, kpos⟩] X.env)).all (·.1.isSome) = true := by rfl) (h4 : (backToKw pos (keywordEach [⟨some "key", .Name x p2, kpos⟩] X.env)).any (·.1.isNone) = false := by rfl) (h5 : (backToKw pos (keywordEach [⟨some "key", .Name x p2, kpos⟩] X.env)).filterMap (·.1) = [("key" : Str)] := by rfl) :
    EvF X (.Call (.Name "max" p) [e] [⟨some "key", .Name x p2, kpos⟩] pos) (dMaxK fk f) := fun B env ds σ Hf H d ds' S hf Q q => by
  obtain ⟨fa, fd, ps, dd, F, hmx, kp, hb, hd⟩ := c.ex
  cases hd
  obtain ⟨a, s1, e1, e2⟩ := bnd_eq hf
  split at e2
  · rename_i kvs
    split at e2
    · rename_i k0 r0 rest hl
      cases e2
      have hr' : Room (k + 1) X.A := hr.mono hk
      refine SE.of (pe_callBK (cr_maxK (fk := fk) hc (by have := hr'.units; omega) F hb hr') hg hm boot_max (pa_cons (pe_se X e) pa_nil hs) (pk_cons (pe_glob (v := .ref fa) hgx hmx rfl hdb) pk_nil) (by decide) (by decide) h1 (by rw [h1]; rfl) h3 h4 h5) ?_
      refine he B env ds σ Hf H _ _ S e1 _ fun v Hf1 H1 g1 S1 r1 => ?_
      cases r1 with
      | @dT a o kv _ h1 h2 =>
        exact ⟨rfl, a, o, kv, kvs, B, env, _, σ, Hf1, k0, r0, rest, rfl, S1, h1, h2, hl, fun q' Hf' H' g' S' r' => q _ _ _ (g1.trans g') S' r'⟩
    · cases e2
  · cases e2
end
end L2.Dn
set_option Elab.async false
set_option linter.all false
set_option maxRecDepth 100000
/-! enumerate(v), enumerate(v, k) over lists and tuples (after HandS.Iter, KE.GoesEnum) -/
namespace L2.Dn
open PySem PySem.Spec PyProof.Rows
set_option maxHeartbeats 1000000 in
theorem meets_enumB1 {v : Value} {o : Obj} {H : Heap → Prop} (B : Begins v o H) :
    Meets (Builtin.«enumerate.__new__» ⟨[.type "enumerate", v], []⟩) (fun _ R s => H s.heap ∧
      R (.ok (.ret (.ref (s.heap.push o).objs.size))) { s with heap := (s.heap.push o).push { cls := .type "enumerate", data := .fields #[.none, .bool false, .ref s.heap.objs.size, rawInt 0, .none, .none] } }) :=
  .of_wp fun prog w A R s h => by
    obtain ⟨hp, g, d, tk, os⟩ := s; obtain ⟨h1, h⟩ := h
    have hsub := sub_enumerate
    have q1 : ∀ {A' : Around} {E : Value → Shared → Prop} {Q : Value → Shared → Prop}, Q (.ref hp.objs.size) ⟨hp.push o, g, d, tk, os⟩ → wpAny (model prog w) A' (pyIter v) Q E ⟨hp, g, d, tk, os⟩ :=
      fun q => B.iter prog w _ _ ⟨hp, g, d, tk, os⟩ _ h1 q
    wp_walk using q1
    refine wpAny_stack_any fun st => wpAny_pure ?_
    split
    · rename_i c _ _ _ _ _
      cases (c == Value.type "enumerate")
      · wp_walk using q1
        exact ⟨_, rfl, h⟩
      · wp_walk using q1
        exact ⟨_, rfl, h⟩
    · wp_walk using q1
      exact ⟨_, rfl, h⟩
section
variable {prog : Program} {w : World} {A : Around} {E : Value → Shared → Prop} {s : Shared}
theorem enum_begins1 {v : Value} {o : Obj} {H : Heap → Prop} {Q : Value → Shared → Prop} (B : Begins v o H) (h1 : H s.heap)
    (h : ∀ h', IsEnum h' (s.heap.objs.size + 1) s.heap.objs.size 0 .none → h'.get? s.heap.objs.size = some o → h'.objs.size = s.heap.objs.size + 2 →
      (∀ b o, s.heap.get? b = some o → h'.get? b = some o) → Q (.ref (s.heap.objs.size + 1)) { s with heap := h' }) :
    wpAny (model prog w) A (call (.type "enumerate") [v]) Q E s := by
  refine callType_new F.called_enumerate (by decide) (F.typeCall_enumerate_1 _) (F.newCall_enumerate_1 _) (fun obj => F.args_object_init_2 obj _) F.entry_enumerate_new
    (meets_enumB1 B) ⟨h1, ?_⟩
  have hz : (s.heap.push o).objs.size = s.heap.objs.size + 1 := Heap.size_push ..
  show _ ∧ _
  rw [hz]
  have he : IsEnum ((s.heap.push o).push { cls := .type "enumerate", data := .fields #[.none, .bool false, .ref s.heap.objs.size, rawInt 0, .none, .none] }) (s.heap.objs.size + 1) s.heap.objs.size 0 .none := by
    have := Heap.get?_push_size (s.heap.push o) (o := { cls := .type "enumerate", data := .fields #[.none, .bool false, .ref s.heap.objs.size, rawInt 0, .none, .none] }) rfl
    rw [hz] at this; exact this
  exact ⟨⟨_, he, rfl⟩, h _ he (Heap.get?_push_of_some _ (Heap.get?_push_size _ B.free)) (by rw [Heap.size_push, hz]) fun b o x => Heap.get?_push_of_some _ (Heap.get?_push_of_some _ x)⟩
end
/-- a list (false) or a tuple (true) -/
def SqX (t : Bool) (K : PySem.W.Frag) (H : Hp) (a : Addr) (xs : List V) : Prop := match t with
  | false => SqL K H a xs
  | true => SqT K H a xs
def ItX (t : Bool) (h : Heap) (it a : Addr) (i : Nat) : Prop := match t with
  | false => h.IsListIter it a i
  | true => h.IsTupleIter it a i
def IsX (t : Bool) (h : Heap) (a : Addr) (items : Array Value) : Prop := match t with
  | false => h.IsList a items
  | true => h.IsTuple a items
theorem ItX.at {t : Bool} {h h' : Heap} {it a : Addr} {i : Nat} (x : ItX t h it a i) (k : ∀ o, h.get? it = some o → h'.get? it = some o) : ItX t h' it a i := by
  cases t with
  | false => exact Heap.IsListIter.at x k
  | true => exact Heap.IsTupleIter.at x k
theorem ItX.lt {t : Bool} {h : Heap} {it a : Addr} {i : Nat} (x : ItX t h it a i) : it < h.objs.size := by
  cases t with
  | false => obtain ⟨_, q, _⟩ := x; exact Heap.lt_size q
  | true => obtain ⟨_, q, _⟩ := x; exact Heap.lt_size q
theorem drawsX (t : Bool) {prog : Program} {w : World} {A : Around} (hh : A.handled = none) (it a : Addr) (hne : a ≠ it) (items : Array Value) :
    Draws prog w A it [it, a] items.size (fun i v => items[i]? = some v) (fun i h => ItX t h it a i ∧ IsX t h a items) := by
  cases t with
  | false => exact Draws.list hh it a hne items
  | true => exact Draws.tuple hh it a hne items
theorem beginsX (t : Bool) (a : Addr) (items : Array Value) : ∃ o, Begins (.ref a) o (fun h => IsX t h a items) ∧ ∀ (h : Heap) (it : Addr), h.get? it = some o → ItX t h it a 0 := by
  cases t with
  | false => exact ⟨_, begins_list a items, fun h it e => ⟨_, e, rfl, rfl⟩⟩
  | true => exact ⟨_, begins_tuple a items, fun h it e => ⟨_, e, rfl, rfl⟩⟩
theorem seqX {t : Bool} {X : Cx} {pins : List (Addr × Obj)} {σ : St} {H : Hp} {s : Shared} {a : Addr} {xs : List V} (I : Inv X pins σ H s) (h : SqX t X.K H a xs) : ∃ its : List Value, Vals xs its ∧ IsX t s.heap a its.toArray := by
  cases t with
  | false => obtain ⟨its, r, p, _⟩ := I.list h; exact ⟨its, r, p.isList⟩
  | true => obtain ⟨its, r, p, _⟩ := I.tuple h; exact ⟨its, r, p⟩
theorem IsX.ne {t : Bool} {h : Heap} {a e : Addr} {items : Array Value} {it : Addr} {c : Int} {old : Value} (x : IsX t h a items) (he : IsEnum h e it c old) : e ≠ a := fun z => by
  subst z
  unfold IsEnum at he
  cases t with
  | false => obtain ⟨o, ho, hc, _⟩ := x; rw [he] at ho; cases ho; exact absurd (show Value.type "enumerate" = .type "list" from hc) (fun z => absurd (Value.type.inj z) (by decide))
  | true => obtain ⟨o, ho, hc, _⟩ := x; rw [he] at ho; cases ho; exact absurd (show Value.type "enumerate" = .type "tuple" from hc) (fun z => absurd (Value.type.inj z) (by decide))
theorem IsX.neIt {t : Bool} {h : Heap} {a it : Addr} {items : Array Value} {i : Nat} (x : IsX t h a items) (y : ItX t h it a i) : a ≠ it := fun z => by
  subst z
  cases t with
  | false => obtain ⟨o, ho, hc, _⟩ := x; obtain ⟨o', ho', hc', _⟩ := y; rw [ho] at ho'; cases ho'; rw [hc] at hc'; exact absurd (Value.type.inj hc') (by decide)
  | true => obtain ⟨o, ho, hc, _⟩ := x; obtain ⟨o', ho', hc', _⟩ := y; rw [ho] at ho'; cases ho'; rw [hc] at hc'; exact absurd (Value.type.inj hc') (by decide)
theorem enumX_end (t : Bool) {prog : Program} {w : World} {A : Around} {E : Value → Shared → Prop} {s : Shared} {e it a : Addr} {c : Int} {old : Value} {i : Nat} {items : Array Value} {Q : Option Value → Shared → Prop}
    (hh : A.handled = none) (he : IsEnum s.heap e it c old) (hit : ItX t s.heap it a i) (p : IsX t s.heap a items) (hge : items.size ≤ i)
    (hQ : ∀ h', Heap.ExtBut it s.heap h' → Q none { s with heap := h' }) : wpAny (model prog w) A (pyNext (.ref e)) Q E s := by
  have hT : s.TypeIs (.ref e) "enumerate" := ⟨_, he, rfl⟩
  have hx : items[i]? = none := Array.getElem?_eq_none hge
  unfold pyNext
  refine wpAny_bind (wpAny_attempt (wpAny_callSpecial?_slot (name := Str.ofString "__next__") hT F.slot_enumerate_next
    (wpAny_call_entry F.slot_enumerate_next hT F.entry_enumerate_next ?_ (F.args_enumerate_next_1 _))))
  show wpAny _ _ (field (.ref e) 2 >>= _) _ _ _
  refine wpAny_bind (wpAny_field he rfl (x := .ref it) rfl ?_)
  cases t with
  | false => exact wpAny_bind (wpAny_nextOf_list_end (show A.in1.handled = none from hh) hit p hx fun h' x he' hx' => by
      obtain ⟨o, ho, hc⟩ := hx'
      refine wpAny_bind (wpAny_isInstance (T := "StopIteration") (b := true) ⟨o, ho, hc⟩ isSubtype_stop ?_)
      exact wpAny_pure (hQ _ he'))
  | true => exact wpAny_bind (wpAny_nextOf_tuple_end (show A.in1.handled = none from hh) hit p hx fun h' x he' hx' => by
      obtain ⟨o, ho, hc⟩ := hx'
      refine wpAny_bind (wpAny_isInstance (T := "StopIteration") (b := true) ⟨o, ho, hc⟩ isSubtype_stop ?_)
      exact wpAny_pure (hQ _ he'))
/-- the items of the list or tuple at a, counted from k, each in a new pair -/
def IteX (t : Bool) (K : PySem.W.Frag) (a : Addr) (xs : List V) (k : Int) : It :=
  ⟨fun i H => i < xs.length ∧ SqX t K H a xs, fun i H v H' => ∃ T x, v = .ref T ∧ H T = none ∧ xs[i]? = some x ∧ H' = upd H T (.tup [.int (k + (i : Nat)), x]), fun i H => xs.length ≤ i ∧ SqX t K H a xs⟩
theorem turn_enumX (t : Bool) {P : Program} {w : World} {K : PySem.W.Frag} {elts : List Expr} {kk : Nat} {tpos : Pos} (a e it : Addr) (xs : List V) (k : Int) :
    Turn P w K (.Tuple elts kk tpos) (IteX t K a xs k) [e, it] e (fun i h => (∃ old, IsEnum h e it (k + ((i : Nat) : Int)) old) ∧ ItX t h it a i ∧ e ≠ it) where
  mem := by simp
  obj := fun i h st b hb => by
    obtain ⟨⟨old, he⟩, hi, _⟩ := st
    have e' : b = e ∨ b = it := by simpa using hb
    rcases e' with z | z
    · rw [z]; exact ⟨_, he, fun v q => nomatch q⟩
    · rw [z]
      cases t with
      | false => obtain ⟨o, ho, hc, hd⟩ := hi; exact ⟨o, ho, fun v q => by rw [hd] at q; cases q⟩
      | true => obtain ⟨o, ho, hc, hd⟩ := hi; exact ⟨o, ho, fun v q => by rw [hd] at q; cases q⟩
  keep := fun i h h' st kp => let ⟨⟨old, he⟩, hi, hne⟩ := st; ⟨⟨old, kp e (by simp) _ he⟩, hi.at fun o q => kp it (by simp) o q, hne⟩
  item := by
    intro X hP hw hK hc i pins s σ H E I hf st ⟨hi, hq⟩
    subst hP hw hK
    obtain ⟨⟨old, he⟩, hit, hne⟩ := st
    obtain ⟨its, rv, p⟩ := seqX I hq
    obtain ⟨u, hu, ru⟩ := rv.get (List.getElem?_eq_getElem hi)
    have hel : e < s.heap.objs.size := Heap.lt_size he
    have hil := hit.lt
    have hli := rv.length
    refine wpAny_pyNext_enum_itemC (drawsX t (A := X.A.in1) (show X.A.in1.handled = none from I.ok.hd hc) it a (p.neIt hit) its.toArray) he ⟨hit, p⟩ (by rw [List.size_toArray]; omega) hne (by simp [hne, p.ne he]) fun x h' tk hx ho hst hT hsz hk => ?_
    have ex : x = u := by
      have h1 : its.toArray[i]? = some x := hx
      have h2 : its.toArray[i]? = some u := by simpa using hu
      rw [h2] at h1
      exact (Option.some.inj h1).symm
    subst ex
    refine ⟨_, rfl, wpAny_letOwnedTupleGo_enum (s := { s with heap := h', toks := tk + 1 }) ho fun h'' he' sb => ?_⟩
    have hT2 : h''.get? s.heap.objs.size = some { cls := .type "tuple", data := .seq #[.int (k + ((i : Nat) : Int)) tk, x] } := (sb.2 _ (Nat.ne_of_gt hel)).trans hT
    have new : ObjOk X.prog X.w (upd H s.heap.objs.size (.tup [.int (k + ((i : Nat) : Int)), xs[i]])) h'' s.heap.objs.size (.tup [.int (k + ((i : Nat) : Int)), xs[i]]) :=
      ⟨by show 2 ≤ sizeLine; decide, [.int (k + ((i : Nat) : Int)) tk, x], .cons ⟨_, rfl⟩ (.cons ru .nil), ⟨_, hT2, rfl, _, rfl⟩⟩
    have I1 : Inv X pins σ (upd H s.heap.objs.size (.tup [.int (k + ((i : Nat) : Int)), xs[i]])) { s with heap := h'', toks := tk + 1 } :=
      I.turnedNew (ch := [e, it]) (fun b ob hb q => (sb.2 b (fun z => hb (by simp [z]))).trans (hk b ob (fun z => hb (by simp [z])) (fun z => hb (by simp [z])) q)) hf (Nat.le_refl _) new
    refine ⟨.ref s.heap.objs.size, _, I1, rfl, ⟨_, xs[i], rfl, I.fresh, List.getElem?_eq_getElem hi, rfl⟩, ⟨⟨x, ?_⟩, hst.1.at fun o q => (sb.2 it (Ne.symm hne)).trans q, hne⟩, fun b hb => ?_⟩
    · have e1 : k + ((i + 1 : Nat) : Int) = k + ((i : Nat) : Int) + 1 := by omega
      rw [e1]; exact he'
    · have hb' : b < s.heap.objs.size := by
        have e' : b = e ∨ b = it := by simpa using hb
        rcases e' with z | z
        · rw [z]; exact hel
        · rw [z]; exact hil
      rw [upd_ne (Nat.ne_of_lt hb')]
      exact (hf b hb).1
  done := by
    intro X hP hw hK hc i pins s σ H E I hf st ⟨hi, hq⟩
    subst hP hw hK
    obtain ⟨⟨old, he⟩, hit, hne⟩ := st
    obtain ⟨its, rv, p⟩ := seqX I hq
    obtain ⟨f0, f1, f2, f3, f4, f5⟩ := hf it (by simp)
    have hl := rv.length
    exact enumX_end t (I.ok.hd hc) he hit p (by rw [List.size_toArray]; omega) fun h' eb => ⟨rfl, I.turned (t' := s.toks) (fun b o hb q => eb b o hb q) f0 f1 f3 f4 f5⟩
  self := fun A i s Q E st h => let ⟨⟨_, he⟩, _⟩ := st; wpAny_pyIter_enum he h
def iEnX (t : Bool) (K : PySem.W.Frag) (ta : TA) : TI := fun σ H R => ta σ H fun vs H1 => ∃ a xs, (vs = [.ref a] ∧ SqX t K H1 a xs ∧ R (IteX t K a xs 0) H1) ∨ ∃ k : Int, vs = [.ref a, .int k] ∧ (-(2 ^ 62) ≤ k ∧ k < 2 ^ 62) ∧ SqX t K H1 a xs ∧ R (IteX t K a xs k) H1
section
variable {X : Cx} {tg e b : Expr} {es : List Expr} {f h : Den}
theorem pi_enX (t : Bool) {ta : TA} {p pos tpos : Pos} {elts : List Expr} {kk : Nat} (hg : Gl X "enumerate") (hm : X.mg "enumerate" = none) (ha : PA X (e :: es) ta) (hs : starEach (e :: es) X.env = (false, eval e X.env) :: starEach es X.env) (hpl : (backTo pos (starEach es X.env)).any (·.1) = false) :
    PI X (.Tuple elts kk tpos) (.Call (.Name "enumerate" p) (e :: es) [] pos) (iEnX t X.K ta) := by
  refine ⟨fun pins s σ H R I h => ?_⟩
  refine Call_ (ld_blt I hg hm boot_enumerate (PyProof.Rows.callWith_type1 (thn (ha.run pos pins s σ H _ I h) fun us s1 ⟨vs, H1, I1, r1, a, xs, q1⟩ => ?_) hs hpl))
  have go : ∀ (k : Int) (h' : Heap) (o : Obj) (its : Array Value), (∀ (h : Heap) (it : Addr), h.get? it = some o → ItX t h it a 0) → IsEnum h' (s1.heap.objs.size + 1) s1.heap.objs.size k .none → h'.get? s1.heap.objs.size = some o → h'.objs.size = s1.heap.objs.size + 2 → (∀ b o, s1.heap.get? b = some o → h'.get? b = some o) → SqX t X.K H1 a xs → R (IteX t X.K a xs k) H1 →
      wpAny (model X.prog X.w) X.A (pyIter (.ref (s1.heap.objs.size + 1))) (PIE X pins σ (.Tuple elts kk tpos) R) X.xe { s1 with heap := h' } := fun k h' o its B2 he hit hsz hk hq q => by
    refine wpAny_pyIter_enum he ?_
    have I2 : Inv X pins σ H1 { s1 with heap := h' } := I1.kept (t' := s1.toks) hk
    refine ⟨s1.heap.objs.size + 1, [s1.heap.objs.size + 1, s1.heap.objs.size], _, _, H1, rfl, I2, turn_enumX t a (s1.heap.objs.size + 1) s1.heap.objs.size xs k, ⟨⟨.none, ?_⟩, B2 _ _ hit, Nat.succ_ne_self _⟩, fun b hb => ?_, q⟩
    · have e1 : k + ((0 : Nat) : Int) = k := by simp
      rw [e1]; exact he
    have e' : b = s1.heap.objs.size + 1 ∨ b = s1.heap.objs.size := by simpa using hb
    have hle : s1.heap.objs.size ≤ b := by
      rcases e' with z | z
      · rw [z]; exact Nat.le_add_right _ _
      · rw [z]; exact Nat.le_refl _
    exact I1.fpOk hle (I1.hok.fresh hle)
  rcases q1 with ⟨ev, hq, q⟩ | ⟨k, ev, hk, hq, q⟩
  · subst ev
    cases r1 with
    | cons r rr =>
      cases rr
      cases r
      obtain ⟨its, rv, p'⟩ := seqX I1 hq
      obtain ⟨o, B, B2⟩ := beginsX t a its.toArray
      exact enum_begins1 B p' fun h' he hit hsz hk => go 0 h' o its.toArray B2 he hit hsz hk hq q
  · subst ev
    cases r1 with
    | cons r rr =>
      cases rr with
      | cons r2 rr =>
        cases rr
        cases r
        obtain ⟨tk, rfl⟩ := r2
        obtain ⟨its, rv, p'⟩ := seqX I1 hq
        obtain ⟨o, B, B2⟩ := beginsX t a its.toArray
        exact enum_begins B p' (by omega) (by omega) fun h' he hit hsz hkk => go k h' o its.toArray B2 he hit hsz hkk hq q
def enumD (k : Int) : List D → List D
  | [] => []
  | d :: r => .tuple [.int k, d] :: enumD (k + 1) r
theorem enumD_len : ∀ (k : Int) (xs : List D), (enumD k xs).length = xs.length
  | _, [] => rfl
  | k, _ :: r => congrArg Nat.succ (enumD_len (k + 1) r)
theorem enumD_get : ∀ (k : Int) (xs : List D) (i : Nat), (enumD k xs)[i]? = (xs[i]?).map fun d => .tuple [.int (k + i), d]
  | _, [], _ => rfl
  | k, d :: r, 0 => by simp [enumD]
  | k, d :: r, i + 1 => by
    show (enumD (k + 1) r)[i]? = _
    rw [enumD_get (k + 1) r i]
    have : k + 1 + (i : Int) = k + ((i + 1 : Nat) : Int) := by omega
    rw [this]
    rfl
theorem yl_enX (t : Bool) {B : Bs} {K : PySem.W.Frag} {a : Addr} {vs : List V} {items : List D} {Hf0 : Hp} {k : Int} (h : Hf0 a = some (match t with | false => .lst vs | true => .tup vs)) (r : RpL Hf0 vs items) : Yl B K (IteX t K a vs k) (enumD k items) Hf0 := fun i env ds σ Hf H s S => by
  have hl := r.length
  have hq : SqX t K H a vs := by
    have := S.sub _ _ (s _ _ h)
    cases t with
    | false => exact .inl (.inl this)
    | true => exact .inl (.inl this)
  rw [enumD_len]
  refine ⟨fun hi => ⟨⟨by omega, hq⟩, fun x H' y d hd => ?_⟩, fun hi => ⟨by omega, hq⟩⟩
  obtain ⟨T, v, rfl, nT, ev, rfl⟩ := y
  rw [enumD_get, List.getElem?_eq_getElem hi] at hd
  cases hd
  obtain ⟨d', h1, h2⟩ := r.get' ev
  rw [List.getElem?_eq_getElem hi] at h1
  cases h1
  have nf := sub_none S nT
  have F := S.fre nT
  exact ⟨_, (Gr.refl.hp nT).fz nT nf, (S.hp nf F).fz nf upd_same F, .tup upd_same ((RpL.cons (.int _) (.cons (h2.up s) .nil)).up (same_fz nf))⟩
theorem yl_enP {B : Bs} {K : PySem.W.Frag} {a : Addr} {vs : List V} {items : List D} {Hf0 : Hp} {k : Int} {o : Obj} (h : Hf0 a = some (.frz o (.tup vs))) (r : RpL Hf0 vs items) : Yl B K (IteX true K a vs k) (enumD k items) Hf0 := fun i env ds σ Hf H s S => by
  have hl := r.length
  have hq : SqX true K H a vs := by
    have := S.sub _ _ (s _ _ h)
    exact .inl (.inr ⟨o, this⟩)
  rw [enumD_len]
  refine ⟨fun hi => ⟨⟨by omega, hq⟩, fun x H' y d hd => ?_⟩, fun hi => ⟨by omega, hq⟩⟩
  obtain ⟨T, v, rfl, nT, ev, rfl⟩ := y
  rw [enumD_get, List.getElem?_eq_getElem hi] at hd
  cases hd
  obtain ⟨d', h1, h2⟩ := r.get' ev
  rw [List.getElem?_eq_getElem hi] at h1
  cases h1
  have nf := sub_none S nT
  have F := S.fre nT
  exact ⟨_, (Gr.refl.hp nT).fz nT nf, (S.hp nf F).fz nf upd_same F, .tup upd_same ((RpL.cons (.int _) (.cons (h2.up s) .nil)).up (same_fz nf))⟩
def seqI : D → Option (List D)
  | .list xs => some xs
  | .tuple xs => some xs
  | .ptup xs => some xs
  | _ => none
def dEn1 (f : Den) : DenA := fun env ds => bnd (f env ds) fun a s => match seqI a with
  | some xs => some (enumD 0 xs, s)
  | none => none
def dEn2 (f h : Den) : DenA := fun env ds => bnd (f env ds) fun a s => bnd (h env s) fun b s1 => match b with
  | .int k => if -100000 < k ∧ k < 100000 then (match seqI a with
    | some xs => some (enumD k xs, s1)
    | none => none) else none
  | _ => none
theorem evi_en1 {p pos tpos : Pos} {elts : List Expr} {kk : Nat} (hm : X.mg "enumerate" = none) (hf : EvF X e f) (hg : Gl X "enumerate" := by rfl) (hs : starEach [e] X.env = (false, eval e X.env) :: starEach [] X.env := by rfl) :
    EvI X (.Tuple elts kk tpos) (.Call (.Name "enumerate" p) [e] [] pos) (dEn1 f) := fun B env ds σ Hf H items ds' S he R q => by
  obtain ⟨v1, s1, e1, e2⟩ := bnd_eq he
  cases v1 with
  | list xs =>
    cases e2
    refine SI.of (pi_enX false hg hm (pa_cons (pe_se X _) pa_nil hs) hs rfl) (hf B env ds σ Hf H _ _ S e1 _ fun v Hf1 H1 g1 S1 r1 => ?_)
    cases r1 with
    | lst h1 r => exact ⟨_, _, .inl ⟨rfl, .inl (.inl (S1.sub _ _ h1)), q _ _ _ g1 S1 (yl_enX false h1 r)⟩⟩
  | tuple xs =>
    cases e2
    refine SI.of (pi_enX true hg hm (pa_cons (pe_se X _) pa_nil hs) hs rfl) (hf B env ds σ Hf H _ _ S e1 _ fun v Hf1 H1 g1 S1 r1 => ?_)
    cases r1 with
    | tup h1 r => exact ⟨_, _, .inl ⟨rfl, .inl (.inl (S1.sub _ _ h1)), q _ _ _ g1 S1 (yl_enX true h1 r)⟩⟩
  | ptup xs =>
    cases e2
    refine SI.of (pi_enX true hg hm (pa_cons (pe_se X _) pa_nil hs) hs rfl) (hf B env ds σ Hf H _ _ S e1 _ fun v Hf1 H1 g1 S1 r1 => ?_)
    cases r1 with
    | ptup h1 hd r => exact ⟨_, _, .inl ⟨rfl, .inl (.inr ⟨_, S1.sub _ _ h1⟩), q _ _ _ g1 S1 (yl_enP h1 r)⟩⟩
  | _ => cases e2
theorem evi_en2 {p pos tpos : Pos} {elts : List Expr} {kk : Nat} (hm : X.mg "enumerate" = none) (hf : EvF X e f) (hb : EvR X b h) (hg : Gl X "enumerate" := by rfl) (hs : starEach [e, b] X.env = (false, eval e X.env) :: starEach [b] X.env := by rfl) (hs2 : starEach [b] X.env = (false, eval b X.env) :: starEach [] X.env := by rfl)
    (hpl : (backTo pos (starEach [b] X.env)).any (·.1) = false := by rfl) : EvI X (.Tuple elts kk tpos) (.Call (.Name "enumerate" p) [e, b] [] pos) (dEn2 f h) := fun B env ds σ Hf H items ds' S he R q => by
  obtain ⟨v1, s1, e1, e2⟩ := bnd_eq he
  obtain ⟨v2, s2, e3, e4⟩ := bnd_eq e2
  cases v2 with
  | int k =>
    have e4 : (if -100000 < k ∧ k < 100000 then (match seqI v1 with | some xs => some (enumD k xs, s2) | none => none) else none) = some (items, ds') := e4
    split at e4
    · rename_i hk
      cases v1 with
      | list xs =>
        cases e4
        refine SI.of (pi_enX false hg hm (pa_cons (pe_se X _) (pa_cons (pe_se X _) pa_nil hs2) hs) hs hpl) (hf B env ds σ Hf H _ _ S e1 _ fun v Hf1 H1 g1 S1 r1 => hb B env s1 σ Hf1 H1 _ _ S1 e3 _ fun v2 Hf2 H2 g2 S2 r2 => ?_)
        cases r2.int
        cases r1.up g2.ff with
        | lst h1 r => exact ⟨_, _, .inr ⟨k, rfl, by omega, .inl (.inl (S2.sub _ _ h1)), q _ _ _ (g1.trans g2) S2 (yl_enX false h1 r)⟩⟩
      | tuple xs =>
        cases e4
        refine SI.of (pi_enX true hg hm (pa_cons (pe_se X _) (pa_cons (pe_se X _) pa_nil hs2) hs) hs hpl) (hf B env ds σ Hf H _ _ S e1 _ fun v Hf1 H1 g1 S1 r1 => hb B env s1 σ Hf1 H1 _ _ S1 e3 _ fun v2 Hf2 H2 g2 S2 r2 => ?_)
        cases r2.int
        cases r1.up g2.ff with
        | tup h1 r => exact ⟨_, _, .inr ⟨k, rfl, by omega, .inl (.inl (S2.sub _ _ h1)), q _ _ _ (g1.trans g2) S2 (yl_enX true h1 r)⟩⟩
      | ptup xs =>
        cases e4
        refine SI.of (pi_enX true hg hm (pa_cons (pe_se X _) (pa_cons (pe_se X _) pa_nil hs2) hs) hs hpl) (hf B env ds σ Hf H _ _ S e1 _ fun v Hf1 H1 g1 S1 r1 => hb B env s1 σ Hf1 H1 _ _ S1 e3 _ fun v2 Hf2 H2 g2 S2 r2 => ?_)
        cases r2.int
        cases r1.up g2.ff with
        | ptup h1 hd r => exact ⟨_, _, .inr ⟨k, rfl, by omega, .inl (.inr ⟨_, S2.sub _ _ h1⟩), q _ _ _ (g1.trans g2) S2 (yl_enP h1 r)⟩⟩
      | _ => cases e4
    · cases e4
  | _ => cases e4
end
end L2.Dn
set_option Elab.async false
set_option linter.all false
set_option maxRecDepth 100000
/-! built-in functions and methods on data -/
namespace L2.Dn
open PySem PySem.Spec PyProof.Rows
section
variable {X : Cx}
/-! len -/
def rLen1 (X : Cx) : List V → Hp → VK → Prop := fun xs H Q => ((∃ x n, xs = [x] ∧ LenV X.K x H n ∧ Q (.int n) H) ∨ rLenTR xs H Q) ∨ rLenKR xs H Q
theorem cr_len : CallR X (.builtin "len") (rLen1 X) := CallR.or (CallR.or call_len call_len_dTR) call_len_dKR
def gLen : List D → Option D
  | [.list xs] => some (.int (xs.length : Nat))
  | [.tuple xs] => some (.int (xs.length : Nat))
  | [.ptup xs] => some (.int (xs.length : Nat))
  | [.dT xs] => some (.int (xs.length : Nat))
  | [.dK xs] => some (.int (xs.length : Nat))
  | _ => none
theorem rc_len : RCF X (rLen1 X) gLen := fun B env ds σ Hf H args d vs Q S r e q => by
  unfold gLen at e
  split at e
  · cases e
    cases r with
    | cons r t =>
      cases t
      obtain ⟨a, ws, rfl, h1, h2⟩ := r.lst S.sub
      exact .inl (.inl ⟨_, _, rfl, .inl ⟨ws, .inl (.inl h1), h2.length.symm⟩, q.now S (.int _)⟩)
  · cases e
    cases r with
    | cons r t =>
      cases t
      obtain ⟨a, ws, rfl, h1, h2⟩ := r.tup
      exact .inl (.inl ⟨_, _, rfl, .inr ⟨ws, .inl (.inl (S.sub _ _ h1)), h2.length.symm⟩, q.now S (.int _)⟩)
  · cases e
    cases r with
    | cons r t =>
      cases t
      obtain ⟨a, ws, o, rfl, h1, _, h2⟩ := r.ptup
      exact .inl (.inl ⟨_, _, rfl, .inr ⟨ws, .inl (.inr ⟨o, S.sub _ _ h1⟩), h2.length.symm⟩, q.now S (.int _)⟩)
  · cases e
    cases r with
    | cons r t =>
      cases t
      obtain ⟨a, ws, rfl, h1, h2⟩ := r.dT S.sub
      refine .inl (.inr ⟨_, _, rfl, h1, ?_⟩)
      rw [h2.length]
      exact q.now S (.int _)
  · cases e
    cases r with
    | cons r t =>
      cases t
      obtain ⟨a, ws, rfl, h1, h2⟩ := r.dK S.sub
      refine .inr ⟨_, _, rfl, h1, ?_⟩
      rw [h2.length]
      exact q.now S (.int _)
  · cases e
/-! list(x), tuple(x) -/
def gListS : List D → Option D
  | [.list xs] => some (.list xs)
  | [.tuple xs] => some (.list xs)
  | [.ptup xs] => some (.list xs)
  | _ => none
theorem rc_list : RCN X (fun xs H Q => ∃ p ys, xs = [.ref p] ∧ (SqL X.K H p ys ∨ SqT X.K H p ys) ∧ ∀ l, H l = none → Q (.ref l) (upd H l (.lst ys))) gListS := fun B env ds σ Hf H args d vs Q S r e q => by
  unfold gListS at e
  split at e
  · cases e
    cases r with
    | cons r t =>
      cases t
      obtain ⟨a, ws, rfl, h1, h2⟩ := r.lst S.sub
      exact ⟨_, ws, rfl, .inl (.inl (.inl h1)), q.lst S h2⟩
  · cases e
    cases r with
    | cons r t =>
      cases t
      obtain ⟨a, ws, rfl, h1, h2⟩ := r.tup
      exact ⟨_, ws, rfl, .inr (.inl (.inl (S.sub _ _ h1))), q.lst S h2⟩
  · cases e
    cases r with
    | cons r t =>
      cases t
      obtain ⟨a, ws, o, rfl, h1, _, h2⟩ := r.ptup
      exact ⟨_, ws, rfl, .inr (.inl (.inr ⟨o, S.sub _ _ h1⟩)), q.lst S h2⟩
  · cases e
def gTupS : List D → Option D
  | [.list xs] => some (.tuple xs)
  | [.tuple xs] => some (.tuple xs)
  | [.ptup xs] => some (.ptup xs)
  | _ => none
theorem rc_tuple : RCF X (fun xs H Q => ∃ p ys, xs = [.ref p] ∧ ((SqL X.K H p ys ∧ ∀ l, H l = none → Q (.ref l) (upd H l (.tup ys))) ∨ (SqT X.K H p ys ∧ Q (.ref p) H))) gTupS := fun B env ds σ Hf H args d vs Q S r e q => by
  unfold gTupS at e
  split at e
  · cases e
    cases r with
    | cons r t =>
      cases t
      obtain ⟨a, ws, rfl, h1, h2⟩ := r.lst S.sub
      exact ⟨_, ws, rfl, .inl ⟨.inl (.inl h1), q.tup S h2⟩⟩
  · cases e
    cases r with
    | cons r t =>
      cases t
      obtain ⟨a, ws, rfl, h1, h2⟩ := r.tup
      exact ⟨_, ws, rfl, .inr ⟨.inl (.inl (S.sub _ _ h1)), q.now S (.tup h1 h2)⟩⟩
  · cases e
    cases r with
    | cons r t =>
      cases t
      obtain ⟨a, ws, o, rfl, h1, hd, h2⟩ := r.ptup
      exact ⟨_, ws, rfl, .inr ⟨.inl (.inr ⟨o, S.sub _ _ h1⟩), q.now S (.ptup h1 hd h2)⟩⟩
  · cases e
/-! all, sum, max, min -/
def gAll : List D → Option D
  | [.list xs] => (match bools? xs with
    | some bs => some (.bool (bs.all id))
    | none => none)
  | _ => none
theorem rc_all : RCF X (rAll X.K) gAll := fun B env ds σ Hf H args d vs Q S r e q => by
  unfold gAll at e
  split at e
  · split at e
    · rename_i bs hb
      cases e
      cases r with
      | cons r t =>
        cases t
        obtain ⟨a, ws, rfl, h1, h2⟩ := r.lst S.sub
        rw [bools_eq hb] at h2
        rw [rpl_bools h2] at h1
        exact ⟨a, bs, rfl, .inl (.inl h1), q.now S (.bl _)⟩
    · cases e
  · cases e
def gSum : List D → Option D
  | [.list xs] => (match ints? xs with
    | some ns => some (.int ns.sum)
    | none => none)
  | _ => none
theorem rc_sum : RCF X (rSum X.K) gSum := fun B env ds σ Hf H args d vs Q S r e q => by
  unfold gSum at e
  split at e
  · split at e
    · rename_i bs hb
      cases e
      cases r with
      | cons r t =>
        cases t
        obtain ⟨a, ws, rfl, h1, h2⟩ := r.lst S.sub
        rw [ints_eq hb] at h2
        rw [rpl_ints h2] at h1
        exact ⟨a, bs, rfl, .inl (.inl h1), q.now S (.int _)⟩
    · cases e
  · cases e
def maxI (m : Int) : List Int → Int
  | [] => m
  | x :: r => (match decide (m < x) with
    | true => maxI x r
    | false => maxI m r)
theorem maxI_ge : ∀ (l : List Int) (m : Int), m ≤ maxI m l ∧ (∀ y ∈ l, y ≤ maxI m l) ∧ (maxI m l = m ∨ maxI m l ∈ l)
  | [], m => ⟨Int.le_refl _, fun y h => absurd h (by simp), .inl rfl⟩
  | x :: r, m => by
    unfold maxI
    cases q : decide (m < x) with
    | true =>
      have q := of_decide_eq_true q
      obtain ⟨h1, h2, h3⟩ := maxI_ge r x
      simp only []
      refine ⟨by omega, fun y hy => ?_, ?_⟩
      · rcases List.mem_cons.mp hy with rfl | hy
        · exact h1
        · exact h2 y hy
      · rcases h3 with h3 | h3
        · exact .inr (by rw [h3]; exact List.mem_cons_self ..)
        · exact .inr (List.mem_cons_of_mem _ h3)
    | false =>
      have q := of_decide_eq_false q
      obtain ⟨h1, h2, h3⟩ := maxI_ge r m
      simp only []
      refine ⟨h1, fun y hy => ?_, ?_⟩
      · rcases List.mem_cons.mp hy with rfl | hy
        · omega
        · exact h2 y hy
      · rcases h3 with h3 | h3
        · exact .inl h3
        · exact .inr (List.mem_cons_of_mem _ h3)
def gMaxL : List D → Option D
  | [.list xs] => (match ints? xs with
    | some (n :: ns) => some (.int (maxI n ns))
    | _ => none)
  | _ => none
theorem rc_maxL : RCF X (rMax X.K) gMaxL := fun B env ds σ Hf H args d vs Q S r e q => by
  unfold gMaxL at e
  split at e
  · split at e
    · rename_i n ns hb
      cases e
      cases r with
      | cons r t =>
        cases t
        obtain ⟨a, ws, rfl, h1, h2⟩ := r.lst S.sub
        rw [ints_eq hb] at h2
        rw [rpl_ints h2] at h1
        refine ⟨a, n :: ns, rfl, .inl (.inl h1), by simp, fun m hm hle => ?_⟩
        obtain ⟨g1, g2, g3⟩ := maxI_ge ns n
        have : m = maxI n ns := by
          apply Int.le_antisymm
          · rcases List.mem_cons.mp hm with rfl | hm
            · exact g1
            · exact g2 m hm
          · rcases g3 with g3 | g3
            · rw [g3]; exact hle n (List.mem_cons_self ..)
            · exact hle _ (List.mem_cons_of_mem _ g3)
        subst this
        exact q.now S (.int _)
    · cases e
  · cases e
def gMax2 : List D → Option D
  | [.int i, .int j] => some (.int (if j > i then j else i))
  | _ => none
def gMin2 : List D → Option D
  | [.int i, .int j] => some (.int (if j < i then j else i))
  | _ => none
theorem rc_max2 : RCF X (fun xs H Q => ∃ i j, xs = [.int i, .int j] ∧ Q (.int (if j > i then j else i)) H) gMax2 := fun B env ds σ Hf H args d vs Q S r e q => by
  unfold gMax2 at e
  split at e
  · cases e
    cases r with
    | cons r t =>
      cases t with
      | cons r2 t =>
        cases t
        cases r.int
        cases r2.int
        exact ⟨_, _, rfl, q.now S (.int _)⟩
  · cases e
theorem rc_min2 : RCF X (fun xs H Q => ∃ i j, xs = [.int i, .int j] ∧ Q (.int (if j < i then j else i)) H) gMin2 := fun B env ds σ Hf H args d vs Q S r e q => by
  unfold gMin2 at e
  split at e
  · cases e
    cases r with
    | cons r t =>
      cases t with
      | cons r2 t =>
        cases t
        cases r.int
        cases r2.int
        exact ⟨_, _, rfl, q.now S (.int _)⟩
  · cases e
/-! sorted, of ints -/
def insI (x : Int) : List Int → List Int
  | [] => [x]
  | y :: r => (match decide (x ≤ y) with
    | true => x :: y :: r
    | false => y :: insI x r)
def isort : List Int → List Int
  | [] => []
  | x :: r => insI x (isort r)
theorem insI_perm (x : Int) : ∀ l : List Int, (insI x l).Perm (x :: l)
  | [] => .refl _
  | y :: r => by
    unfold insI
    split
    · exact .refl _
    · exact ((insI_perm x r).cons y).trans (.swap x y r)
theorem insI_mem {x z : Int} {l : List Int} : z ∈ insI x l → z = x ∨ z ∈ l := fun h => List.mem_cons.mp ((insI_perm x l).mem_iff.mp h)
theorem insI_sorted (x : Int) : ∀ {l : List Int}, l.Pairwise (· ≤ ·) → (insI x l).Pairwise (· ≤ ·)
  | [], _ => by simp [insI]
  | y :: r, h => by
    unfold insI
    obtain ⟨h1, h2⟩ := List.pairwise_cons.mp h
    split
    · rename_i e
      have e := of_decide_eq_true e
      exact List.pairwise_cons.mpr ⟨fun z hz => by
        rcases List.mem_cons.mp hz with rfl | hz
        · exact e
        · exact Int.le_trans e (h1 z hz), h⟩
    · rename_i e
      have e := of_decide_eq_false e
      exact List.pairwise_cons.mpr ⟨fun z hz => by
        rcases insI_mem hz with rfl | hz
        · omega
        · exact h1 z hz, insI_sorted x h2⟩
theorem isort_perm : ∀ l : List Int, (isort l).Perm l
  | [] => .refl _
  | x :: r => (insI_perm x (isort r)).trans ((isort_perm r).cons x)
theorem isort_sorted : ∀ l : List Int, (isort l).Pairwise (· ≤ ·)
  | [] => .nil
  | x :: r => insI_sorted x (isort_sorted r)
theorem isort_only {l l' : List Int} (h : l'.Perm l) (s : l'.Pairwise (· ≤ ·)) : l' = isort l :=
  List.Perm.eq_of_pairwise (fun a b _ _ h1 h2 => Int.le_antisymm h1 h2) s (isort_sorted l) (h.trans (isort_perm l).symm)
def rSorted2 (X : Cx) : List V → Hp → VK → Prop := fun vs H Q => rSortedI X.K vs H Q ∨ rSortedA X.K vs H Q
theorem cr_sorted2 : CallR X (.builtin "sorted") (rSorted2 X) := CallR.or cr_sortedI cr_sortedA
def gSorted : List D → Option D
  | [.list xs] => (match ints? xs with
    | some ns => some (.list ((isort ns).map D.int))
    | none => none)
  | [.tuple xs] => (match ints? xs with
    | some ns => some (.list ((isort ns).map D.int))
    | none => none)
  | [.ptup xs] => (match ints? xs with
    | some ns => some (.list ((isort ns).map D.int))
    | none => none)
  | _ => none
theorem rc_sorted : RCN X (rSorted2 X) gSorted := fun B env ds σ Hf H args d vs Q S r e q => by
  unfold gSorted at e
  split at e
  · split at e
    · rename_i ns hb
      cases e
      cases r with
      | cons r t =>
        cases t
        obtain ⟨a, ws, rfl, h1, h2⟩ := r.lst S.sub
        rw [ints_eq hb] at h2
        rw [rpl_ints h2] at h1
        refine .inl ⟨a, ns, rfl, .inl (.inl h1), fun ns' p hp hs hn => ?_⟩
        rw [isort_only hp hs]
        exact q.lst S (ints_rpl _) p hn
    · cases e
  · split at e
    · rename_i ns hb
      cases e
      cases r with
      | cons r t =>
        cases t
        obtain ⟨a, ws, rfl, h1, h2⟩ := r.tup
        rw [ints_eq hb] at h2
        rw [rpl_ints h2] at h1
        refine .inr ⟨a, ns, rfl, .inl (.inl (S.sub _ _ h1)), fun ns' p hp hs hn => ?_⟩
        rw [isort_only hp hs]
        exact q.lst S (ints_rpl _) p hn
    · cases e
  · split at e
    · rename_i ns hb
      cases e
      cases r with
      | cons r t =>
        cases t
        obtain ⟨a, ws, o, rfl, h1, _, h2⟩ := r.ptup
        rw [ints_eq hb] at h2
        rw [rpl_ints h2] at h1
        refine .inr ⟨a, ns, rfl, .inl (.inr ⟨o, S.sub _ _ h1⟩), fun ns' p hp hs hn => ?_⟩
        rw [isort_only hp hs]
        exact q.lst S (ints_rpl _) p hn
    · cases e
  · cases e
end
/-! ### isinstance(e, T) -/
inductive Ty where
  | int | bool | str | list | tuple | dict
def Ty.nm : Ty → String
  | .int => "int"
  | .bool => "bool"
  | .str => "str"
  | .list => "list"
  | .tuple => "tuple"
  | .dict => "dict"
def tyD : D → String
  | .none => "NoneType"
  | .bool _ => "bool"
  | .int _ => "int"
  | .str _ => "str"
  | .list _ => "list"
  | .tuple _ => "tuple"
  | .ptup _ => "tuple"
  | .dT _ => "dict"
  | .dK _ => "dict"
def isi : Ty → D → Bool
  | .int, .int _ => true
  | .int, .bool _ => true
  | .bool, .bool _ => true
  | .str, .str _ => true
  | .list, .list _ => true
  | .tuple, .tuple _ => true
  | .tuple, .ptup _ => true
  | .dict, .dT _ => true
  | .dict, .dK _ => true
  | _, _ => false
theorem isi_kit (t : Ty) (d : D) : kitB (tyD d) t.nm = some (isi t d) := by
  cases t <;> cases d <;> kernel_rfl
def dIsi (t : Ty) (f : Den) : Den := fun env ds => bnd (f env ds) fun a s => some (.bool (isi t a), s)
section
variable {X : Cx} {e : Expr} {f : Den} {p p2 pos : Pos}
def rIsi2 (X : Cx) : List V → Hp → VK → Prop := fun xs H Q => rIsi X.K xs H Q ∨ rIsiD X.K xs H Q
theorem cr_isi2 : CallR X (.builtin "isinstance") (rIsi2 X) := CallR.or call_isi call_isiD
theorem evf_isi (t : Ty) {tn : Str} (hv : bootBuiltins tn = some (.type t.nm)) (hm : X.mg "isinstance" = none) (hmt : X.mg tn = none) (he : EvR X e f) (hgt : Gl X tn := by rfl) (hg : Gl X "isinstance" := by rfl) (hnt : tn ≠ "__name__" := by decide) (hdt : (tn == ("__debug__" : Str)) = false := by decide)
    (hs : starEach [e, .Name tn p2] X.env = (false, eval e X.env) :: starEach [.Name tn p2] X.env := by rfl) (hs2 : starEach [.Name tn p2] X.env = (false, eval (.Name tn p2) X.env) :: starEach [] X.env := by rfl) (hpl : (backTo pos (starEach [.Name tn p2] X.env)).any (·.1) = false := by rfl) :
    EvF X (.Call (.Name "isinstance" p) [e, .Name tn p2] [] pos) (dIsi t f) := fun B env ds σ Hf H d ds' S hf Q q => by
  obtain ⟨a, s1, e1, e2⟩ := bnd_eq hf
  cases e2
  refine SE.of (pe_callB cr_isi2 hg hm boot_isinstance (pa_cons (pe_se X e) (pa_cons (pe_bltn (v := .ty t.nm) hgt hmt hv rfl hnt hdt) pa_nil hs2) hs) (by decide) (by decide) hs hpl) ?_
  refine he B env ds σ Hf H _ _ S e1 _ fun v Hf1 H1 g1 S1 r1 => ?_
  have k := isi_kit t a
  have fin : Q (.bl (isi t a)) H1 := q _ _ _ g1 S1 (.bl _)
  have base : ∀ {tv : Value}, TyX X.K H1 v tv → tv = .type (tyD a) → rIsi2 X [v, .ty t.nm] H1 Q := fun {tv} h eq => by
    subst eq
    exact .inl ⟨v, .ty t.nm, _, .type t.nm, _, rfl, .ty _, h, kit_ty k, fin⟩
  cases a with
  | none => cases r1.non; exact base (.base .non) rfl
  | bool b => cases r1.bl; exact base (.base (.bl _)) rfl
  | int i => cases r1.int; exact base (.base (.int _)) rfl
  | str x => cases r1.str; exact base (.base (.str _)) rfl
  | list xs =>
    obtain ⟨c, ws, rfl, h1, h2⟩ := r1.lst S1.sub
    exact base (.base (.lst h1)) rfl
  | tuple xs =>
    obtain ⟨c, ws, rfl, h1, h2⟩ := r1.tup
    exact base (.base (.tup (S1.sub _ _ h1))) rfl
  | ptup xs =>
    obtain ⟨c, ws, o, rfl, h1, _, h2⟩ := r1.ptup
    exact base (.fTuple (S1.sub _ _ h1)) rfl
  | dT kvs =>
    obtain ⟨c, ws, rfl, h1, h2⟩ := r1.dT S1.sub
    exact .inr ⟨c, .ty t.nm, .type t.nm, _, rfl, .ty _, .inl ⟨_, h1⟩, kit_ty k, fin⟩
  | dK kvs =>
    obtain ⟨c, ws, rfl, h1, h2⟩ := r1.dK S1.sub
    exact .inr ⟨c, .ty t.nm, .type t.nm, _, rfl, .ty _, .inr ⟨_, h1⟩, kit_ty k, fin⟩
end
/-! ### ranges as values -/
def rgS (a c : Int) : Nat → List D
  | 0 => []
  | n + 1 => .int a :: rgS (a + c) c n
theorem rgV_rp {Hf : Hp} (a : Int) : ∀ (n : Nat) (b : Int), b = a → RpL Hf ((List.range n).map fun i => V.int (b + (i : Nat))) (rgD b n) := by
  intro n b _
  induction n generalizing b a with
  | zero => exact .nil
  | succ n ih =>
    rw [List.range_succ_eq_map, List.map_cons, List.map_map]
    have e : (fun i : Nat => V.int (b + (i : Nat))) ∘ Nat.succ = fun i : Nat => V.int (b + 1 + (i : Nat)) := by
      funext i
      show V.int (b + ((i + 1 : Nat) : Int)) = _
      congr 1
      omega
    rw [e]
    have z : (b + ((0 : Nat) : Int)) = b := by simp
    rw [z]
    exact .cons (.int b) (ih (b + 1) (b + 1) rfl)
theorem rgV_rpl {Hf : Hp} (a b : Int) : RpL Hf (rgV a b) (rgD a (b - a).toNat) := rgV_rp a _ a rfl
theorem rgS_rp {Hf : Hp} (c : Int) : ∀ (n : Nat) (b : Int), RpL Hf ((List.range n).map fun i => V.int (b + (i : Nat) * c)) (rgS b c n) := by
  intro n
  induction n with
  | zero => intro b; exact .nil
  | succ n ih =>
    intro b
    rw [List.range_succ_eq_map, List.map_cons, List.map_map]
    have e : (fun i : Nat => V.int (b + (i : Nat) * c)) ∘ Nat.succ = fun i : Nat => V.int (b + c + (i : Nat) * c) := by
      funext i
      show V.int (b + ((i + 1 : Nat) : Int) * c) = _
      congr 1
      rw [Int.natCast_succ, Int.add_mul]
      omega
    rw [e]
    have z : (b + ((0 : Nat) : Int) * c) = b := by simp
    rw [z]
    exact .cons (.int b) (ih (b + c))
def dTupI (g : DenA) : Den := fun env ds => bnd (g env ds) fun xs s => if xs.length ≤ 100000 then some (.tuple xs, s) else none
def dLstI (g : DenA) : Den := fun env ds => bnd (g env ds) fun xs s => if xs.length ≤ 100000 then some (.list xs, s) else none
/-- an expression that makes a range -/
def EvRg (X : Cx) (e : Expr) (g : DenA) : Prop := ∃ te, PRg X e te ∧ ∀ B env ds σ Hf H items ds', SR B X.K env ds σ Hf H → g env ds = some (items, ds') → ∀ Q : Int → Int → Hp → Prop,
  (∀ a b Hf' H', Gr B Hf H Hf' H' → SR B X.K env ds' σ Hf' H' → (-100000 < a ∧ a < 100000 ∧ -100000 < b ∧ b < 100000) → items = rgD a (b - a).toNat → Q a b H') → te σ H Q
section
variable {X : Cx} {a b e : Expr} {f h : Den} {g : DenA} {p pos : Pos}
theorem evrg_1 (hm : X.mg "range" = none) (ha : EvR X a f) (hg : Gl X "range" := by rfl) (hs : starEach [a] X.env = (false, eval a X.env) :: starEach [] X.env := by rfl) : EvRg X (.Call (.Name "range" p) [a] [] pos) (dRg1 f) := ⟨_, prg_1 hg hm (pe_se X a) hs, fun B env ds σ Hf H items ds' S he Q q => by
  obtain ⟨v1, s1, e1, e⟩ := bnd_eq he
  cases v1 with
  | int n =>
    have e : (if n < 100000 ∧ -100000 < n then some (rgD 0 n.toNat, s1) else none) = some (items, ds') := e
    split at e
    · rename_i hn
      cases e
      refine ha B env ds σ Hf H _ _ S e1 _ fun v Hf1 H1 g1 S1 r1 => ?_
      cases r1.int
      exact ⟨n, rfl, q 0 n _ _ g1 S1 ⟨by omega, by omega, hn.2, hn.1⟩ (by rw [Int.sub_zero])⟩
    · cases e
  | _ => cases e⟩
theorem evrg_2 (hm : X.mg "range" = none) (ha : EvR X a f) (hb : EvR X b h) (hg : Gl X "range" := by rfl) (hs : starEach [a, b] X.env = (false, eval a X.env) :: starEach [b] X.env := by rfl) (hs2 : starEach [b] X.env = (false, eval b X.env) :: starEach [] X.env := by rfl) (hpl : (backTo pos (starEach [b] X.env)).any (·.1) = false := by rfl) :
    EvRg X (.Call (.Name "range" p) [a, b] [] pos) (dRg2 f h) := ⟨_, prg_2 hg hm (pe_se X a) (pe_se X b) hs hs2 hpl, fun B env ds σ Hf H items ds' S he Q q => by
  obtain ⟨v1, s1, e1, e⟩ := bnd_eq he
  obtain ⟨v2, s2, e2, e⟩ := bnd_eq e
  cases v1 with
  | int i =>
    cases v2 with
    | int j =>
      have e : (if -100000 < i ∧ i < 100000 ∧ -100000 < j ∧ j < 100000 then some (rgD i (j - i).toNat, s2) else none) = some (items, ds') := e
      split at e
      · rename_i hn
        cases e
        refine ha B env ds σ Hf H _ _ S e1 _ fun v Hf1 H1 g1 S1 r1 => hb B env s1 σ Hf1 H1 _ _ S1 e2 _ fun v2 Hf2 H2 g2 S2 r2 => ?_
        cases r1.int
        cases r2.int
        exact ⟨i, j, rfl, rfl, q i j _ _ (g1.trans g2) S2 hn rfl⟩
      · cases e
    | _ => cases e
  | _ => cases e⟩
theorem evn_listRg (hc : X.calm = true) (hm : X.mg "list" = none) (he : EvRg X e g) (hg : Gl X "list" := by rfl) (hs : starEach [e] X.env = (false, eval e X.env) :: starEach [] X.env := by rfl) : EvN X (.Call (.Name "list" p) [e] [] pos) (dLstI g) := fun B env ds σ Hf H d ds' S hf Q q => by
  obtain ⟨te, pt, kt⟩ := he
  obtain ⟨items, s1, e1, e2⟩ := bnd_eq hf
  split at e2
  · cases e2
    refine SE.of (pe_listRg hc hg hm pt hs) (kt B env ds σ Hf H _ _ S e1 _ fun a b Hf1 H1 g1 S1 hb ei => ?_)
    refine ⟨⟨by omega, by omega, by omega, by omega, by omega⟩, ?_⟩
    rw [ei] at q
    exact (q.step g1).lst S1 (rgV_rpl a b)
  · cases e2
theorem evf_tupRg (hc : X.calm = true) (hm : X.mg "tuple" = none) (he : EvRg X e g) (hg : Gl X "tuple" := by rfl) (hs : starEach [e] X.env = (false, eval e X.env) :: starEach [] X.env := by rfl) : EvF X (.Call (.Name "tuple" p) [e] [] pos) (dTupI g) := fun B env ds σ Hf H d ds' S hf Q q => by
  obtain ⟨te, pt, kt⟩ := he
  obtain ⟨items, s1, e1, e2⟩ := bnd_eq hf
  split at e2
  · cases e2
    refine SE.of (pe_tupRg hc hg hm pt hs) (kt B env ds σ Hf H _ _ S e1 _ fun a b Hf1 H1 g1 S1 hb ei => ?_)
    refine ⟨⟨by omega, by omega, by omega, by omega, by omega⟩, ?_⟩
    rw [ei] at q
    exact (q.step g1).tup S1 (rgV_rpl a b)
  · cases e2
/-! tuple(range(a, b, -1)) -/
def dRg3 (f h : Den) : DenA := fun env ds => bnd (f env ds) fun a s => bnd (h env s) fun b s1 => match a, b with
  | .int i, .int j => if -100000 < i ∧ i < 100000 ∧ -100000 < j ∧ j < 100000 then some (rgS i (-1) (i - j).toNat, s1) else none
  | _, _ => none
theorem evf_tupRg3 {p2 pos2 p3 p4 : Pos} {k : Nat} (hc : X.calm = true) (hm : X.mg "tuple" = none) (hmr : X.mg "range" = none) (ha : EvR X a f) (hb : EvR X b h) (hg : Gl X "tuple" := by rfl) (hgr : Gl X "range" := by rfl)
    (hs0 : starEach [.Call (.Name "range" p2) [a, b, .UnaryOp .USub (.Constant (.int 1) k p3) p4] [] pos2] X.env = (false, eval (.Call (.Name "range" p2) [a, b, .UnaryOp .USub (.Constant (.int 1) k p3) p4] [] pos2) X.env) :: starEach [] X.env := by rfl)
    (hs : starEach [a, b, .UnaryOp .USub (.Constant (.int 1) k p3) p4] X.env = (false, eval a X.env) :: starEach [b, .UnaryOp .USub (.Constant (.int 1) k p3) p4] X.env := by rfl) (hs1 : starEach [b, .UnaryOp .USub (.Constant (.int 1) k p3) p4] X.env = (false, eval b X.env) :: starEach [.UnaryOp .USub (.Constant (.int 1) k p3) p4] X.env := by rfl)
    (hs2 : starEach [.UnaryOp .USub (.Constant (.int 1) k p3) p4] X.env = (false, eval (.UnaryOp .USub (.Constant (.int 1) k p3) p4) X.env) :: starEach [] X.env := by rfl) (hpl : (backTo pos2 (starEach [b, .UnaryOp .USub (.Constant (.int 1) k p3) p4] X.env)).any (·.1) = false := by rfl) :
    EvF X (.Call (.Name "tuple" p) [.Call (.Name "range" p2) [a, b, .UnaryOp .USub (.Constant (.int 1) k p3) p4] [] pos2] [] pos) (dTupI (dRg3 f h)) := fun B env ds σ Hf H d ds' S hf Q q => by
  obtain ⟨items, s3, e0, e2⟩ := bnd_eq hf
  split at e2
  · cases e2
    obtain ⟨v1, s1, e1, e⟩ := bnd_eq e0
    obtain ⟨v2, s2, e3, e⟩ := bnd_eq e
    cases v1 with
    | int i =>
      cases v2 with
      | int j =>
        have e : (if -100000 < i ∧ i < 100000 ∧ -100000 < j ∧ j < 100000 then some (rgS i (-1) (i - j).toNat, s2) else none) = some (items, ds') := e
        split at e
        · rename_i hn
          cases e
          intro pins s I
          have hneg : EvF X (.UnaryOp .USub (.Constant (.int 1) k p3) p4) (d1 gNeg (dC (.int 1))) := evf_neg (EvF.r evf_int)
          refine Call_ (ld_blt I hg hm boot_tuple (PyProof.Rows.callWith_type1 (args_cons ?_ hs0) hs0))
          refine Call_ (ld_blt I hgr hmr boot_range (PyProof.Rows.callWith_type1 (args_cons (thn (ha B env ds σ Hf H _ _ S e1 (fun x H1 => x = .int i ∧ ∃ Hf1, Gr B Hf H Hf1 H1 ∧ SR B X.K env s1 σ Hf1 H1) (fun v Hf1 H1 g1 S1 r1 => by cases r1.int; exact ⟨rfl, Hf1, g1, S1⟩) pins s I) fun v sA ⟨x, H1, I1, r1, ex, Hf1, g1, S1⟩ =>
            args_cons (thn (hb B env s1 σ Hf1 H1 _ _ S1 e3 (fun x H2 => x = .int j ∧ ∃ Hf2, Gr B Hf1 H1 Hf2 H2 ∧ SR B X.K env ds' σ Hf2 H2) (fun v Hf2 H2 g2 S2 r2 => by cases r2.int; exact ⟨rfl, Hf2, g2, S2⟩) pins sA I1) fun v2 sB ⟨x2, H2, I2, r2, ex2, Hf2, g2, S2⟩ =>
            args_cons (thn (hneg B env ds' σ Hf2 H2 (.int (-1)) ds' S2 rfl (fun x H3 => x = .int (-1) ∧ ∃ Hf3, Gr B Hf2 H2 Hf3 H3 ∧ SR B X.K env ds' σ Hf3 H3) (fun v Hf3 H3 g3 S3 r3 => by cases r3; exact ⟨rfl, Hf3, g3, S3⟩) pins sB I2) fun v3 sC ⟨x3, H3, I3, r3, ex3, Hf3, g3, S3⟩ => args_nil ?_) hs2) hs1) hs) hs hpl))
          subst ex ex2 ex3
          obtain ⟨t, rfl⟩ := r1
          obtain ⟨t', rfl⟩ := r2
          obtain ⟨t'', rfl⟩ := r3
          have hgc := RgC.neg (i := i) (j := j) (by omega) (by omega) (by omega) (by omega)
          obtain ⟨c0, c1, c2, c3⟩ := hgc
          refine call_range_3 c0 ?_ (.inl (PyProof.noPylong_small c1))
          have I4 : Inv X pins σ H3 { sC with heap := sC.heap.push { cls := .type "range", data := .fields #[.int i t, .int j t', .int (-1) t''] } } := I3.kept (t' := sC.toks) fun b o e => Heap.get?_push_of_some _ e
          refine args_nil ?_
          refine call_tuple_range (n := (i - j).toNat) (I3.ok.hd hc) (IsRange.new ..) c2 c3 (by omega) fun h' tk acc hk hi => ?_
          have I5 : Inv X pins σ H3 { sC with heap := h', toks := tk } := I4.kept hk
          have rv : Vals ((List.range (i - j).toNat).map fun m => V.int (i + (m : Nat) * (-1))) acc.toList := by
            have e : acc.toList.length = (i - j).toNat := by rw [Array.length_toList]; exact hi.1
            rw [← e]
            refine vals_of_get acc.toList _ fun m u hm => ?_
            obtain ⟨t, rfl⟩ := hi.2 m u (by rw [← hm, Array.getElem?_toList])
            exact ⟨t, rfl⟩
          have qq := (q.step ((g1.trans g2).trans g3)).tup S3 (rgS_rp (Hf := Hf3) (-1) (i - j).toNat i)
          refine ⟨.ref h'.objs.size, upd H3 h'.objs.size (.tup ((List.range (i - j).toNat).map fun m => V.int (i + (m : Nat) * (-1)))), I5.laid (t' := tk) (fun c o e => Heap.get?_push_of_some _ e) (Nat.le_refl _) ⟨?_, acc.toList, rv, ?_⟩, rfl, qq _ I5.fresh⟩
          · rw [List.length_map, List.length_range, sizeLine_eq]; omega
          · rw [Array.toArray_toList]; exact IsTup.new _ _
        · cases e
      | _ => cases e
    | _ => cases e
  · cases e2
end
end L2.Dn
set_option Elab.async false
set_option linter.all false
set_option maxRecDepth 100000
/-! two clauses; t.index(x), d.get(k, x) -/
namespace L2.Dn
open PySem PySem.Spec PyProof.Rows
/-- a target makes no own slot -/
def GOk (ts : List Nat) (g : DenG) : Prop := ∀ d env env' j x, g d env = some env' → env'[j]? = some (some (.own x)) → j ∉ ts ∧ env[j]? = some (some (.own x))
def GsOk (ts : List Nat) (g : List D → En → Option En) : Prop := ∀ d env env' j x, g d env = some env' → env'[j]? = some (some (.own x)) → j ∉ ts ∧ env[j]? = some (some (.own x))
theorem gok_nm (i : Nat) : GOk [i] (gNm i) := fun d env env' j x e h => by
  cases e
  by_cases q : i = j
  · subst q
    rw [List.getElem?_set_self'] at h
    cases z : env[i]? with
    | none => rw [z] at h; cases h
    | some y => rw [z] at h; cases h
  · rw [List.getElem?_set_ne q] at h
    exact ⟨by simp; omega, h⟩
theorem gok_nil : GsOk [] gsNil := fun d env env' j x e h => by
  cases d with
  | nil => cases e; exact ⟨by simp, h⟩
  | cons _ _ => cases e
theorem gok_cons {ts us : List Nat} {g : DenG} {gs : List D → En → Option En} (h1 : GOk ts g) (h2 : GsOk us gs) : GsOk (ts ++ us) (gsCons g gs) := fun d env env' j x e h => by
  cases d with
  | nil => cases e
  | cons d r =>
    have e : (match g d env with | none => none | some env' => gs r env') = some env' := e
    cases q : g d env with
    | none => rw [q] at e; cases e
    | some env1 =>
      rw [q] at e
      obtain ⟨a1, a2⟩ := h2 r env1 env' j x e h
      obtain ⟨b1, b2⟩ := h1 d env env1 j x q a2
      exact ⟨fun z => (List.mem_append.mp z).elim b1 a1, b2⟩
theorem gok_tp {ts : List Nat} {gs : List D → En → Option En} (h1 : GsOk ts gs) : GOk ts (gTp gs) := fun d env env' j x e h => by
  unfold gTp at e
  split at e
  · exact h1 _ _ _ _ _ e h
  · cases e
theorem wipeE_some {env : En} {j : Nat} {s : Sl} : ∀ {vs : List Nat}, (wipeE env vs)[j]? = some (some s) → j ∉ vs ∧ env[j]? = some (some s)
  | [], h => ⟨by simp, h⟩
  | v :: vs, h => by
    have h : ((wipeE env vs).set v none)[j]? = some (some s) := h
    by_cases e : v = j
    · subst e
      rw [List.getElem?_set_self'] at h
      cases z : (wipeE env vs)[v]? with
      | none => rw [z] at h; cases h
      | some y => rw [z] at h; cases h
    · rw [List.getElem?_set_ne e] at h
      obtain ⟨a, b⟩ := wipeE_some h
      exact ⟨by simp; exact ⟨fun z => e z.symm, a⟩, b⟩
/-- an inner block's state beside its outer one's -/
theorem SR.inner {B : Bs} {K : PySem.W.Frag} {env env' : En} {ds dt : DS} {σ σ' : St} {Hf H Hf0 H0 : Hp} {ts own : List Nat} {g : DenG} {d : D} (S : SR B K env ds σ Hf H) (S' : SR B K env' dt σ' Hf0 H0) (s : Same Hf0 Hf) (ok : GOk ts g) (eg : g d (wipeE env own) = some env') (o : ∀ j, j ∉ ts → σ'[j]? = (L2.wipe σ own)[j]?) : SR B K env' ds σ' Hf H := by
  have own' : ∀ j x, env'[j]? = some (some (Sl.own x)) → env[j]? = some (some (Sl.own x)) ∧ σ'[j]? = σ[j]? := fun j x e => by
    obtain ⟨h1, h2⟩ := ok _ _ _ _ _ eg e
    obtain ⟨h3, h4⟩ := wipeE_some h2
    exact ⟨h4, (o j h1).trans (wipe_out h3)⟩
  exact {
    sub := S.sub
    base := S.base
    fbase := S.fbase
    fnew := S.fnew
    slots := fun i sl e => by
      have h := S'.slots i sl e
      cases sl with
      | val d =>
        obtain ⟨v, e1, r⟩ := h
        exact ⟨v, e1, r.up s⟩
      | own d =>
        obtain ⟨e1, e2⟩ := own' i d e
        obtain ⟨a, h1, h2⟩ := S.slots i _ e1
        exact ⟨a, e2.trans h1, h2⟩
      | draw => exact h
      | scr ns => exact h
    apart := fun i j d e a hne h1 h2 h3 h4 => by
      obtain ⟨a1, a2⟩ := own' i d h1
      obtain ⟨b1, b2⟩ := own' j e h2
      exact S.apart i j d e a hne a1 b1 (a2 ▸ h3) (b2 ▸ h4)
    draw := S.draw
    len := S'.len
    tk := S.tk
    tab0 := S.tab0
    tabf := S.tabf }
def lc2Loop (gg : DenG) (t : DenT) (gi1 : DenA) (vs1 : List Nat) (gg1 : DenG) (t1 : DenT) (fe : Den) (env0 : En) : List D → DS → Option (List D × DS)
  | [], s => some ([], s)
  | d :: r, s => match gg d env0 with
    | none => none
    | some env' => bnd (t env' s) fun b s1 => match b with
      | false => lc2Loop gg t gi1 vs1 gg1 t1 fe env0 r s1
      | true => bnd (gi1 env' s1) fun items1 s2 => bnd (lcLoop gg1 t1 fe (wipeE env' vs1) items1 s2) fun ys s3 => bnd (lc2Loop gg t gi1 vs1 gg1 t1 fe env0 r s3) fun zs s4 => some (ys ++ zs, s4)
def dLc2 (gi : DenA) (own : List Nat) (gg : DenG) (t : DenT) (gi1 : DenA) (vs1 : List Nat) (gg1 : DenG) (t1 : DenT) (fe : Den) : Den := fun env ds => bnd (gi env ds) fun items s => bnd (lc2Loop gg t gi1 vs1 gg1 t1 fe (wipeE env own) items s) fun r s' => if r.length ≤ 100000 then some (.list r, s') else none
theorem lc2Loop_cons {gg gg1 : DenG} {t t1 : DenT} {gi1 : DenA} {vs1 : List Nat} {fe : Den} {env0 : En} {d : D} {r : List D} {s s' : DS} {ys : List D} (h : lc2Loop gg t gi1 vs1 gg1 t1 fe env0 (d :: r) s = some (ys, s')) :
    ∃ env' b s1, gg d env0 = some env' ∧ t env' s = some (b, s1) ∧ ((b = false ∧ lc2Loop gg t gi1 vs1 gg1 t1 fe env0 r s1 = some (ys, s')) ∨ (b = true ∧ ∃ items1 s2 y s3 zs, gi1 env' s1 = some (items1, s2) ∧ lcLoop gg1 t1 fe (wipeE env' vs1) items1 s2 = some (y, s3) ∧ lc2Loop gg t gi1 vs1 gg1 t1 fe env0 r s3 = some (zs, s') ∧ ys = y ++ zs)) := by
  unfold lc2Loop at h
  split at h
  · cases h
  · rename_i env' e1
    obtain ⟨b, s1, e2, h⟩ := bnd_eq h
    refine ⟨env', b, s1, e1, e2, ?_⟩
    cases b with
    | false => exact .inl ⟨rfl, h⟩
    | true =>
      obtain ⟨i, s2, e3, h⟩ := bnd_eq h
      obtain ⟨y, s3, e4, h⟩ := bnd_eq h
      obtain ⟨zs, s4, e5, h⟩ := bnd_eq h
      cases h
      exact .inr ⟨rfl, i, s2, y, s3, zs, e3, e4, e5, rfl⟩
/-- an iteration source, in all blocks -/
def SIb (X : Cx) (scope : Scope) (tg iter : Expr) (σ : St) (H : Hp) (R : It → Hp → Prop) : Prop := ∀ (s : Shared) (H0 : Hp) (C : Addr) (cl : List (Str × Addr)) (fp : List Addr), SI (X.blk s H0 scope (compEnvC scope cl C X.env) fp) tg iter σ H R
section
variable {X : Cx} {tg iter tg1 iter1 elt : Expr} {ifs ifs1 : List Expr} {scope : Scope} {own : List (Str × Nat)} {vs1 : List Nat} {pos : Pos} {gi gi1 : DenA} {ts ts1 : List Nat} {gg gg1 : DenG} {t t1 : DenT} {fe : Den}
theorem lc2_reading {tt tt1 : TT} (hi : EvI X tg iter gi) (hg : Blks X scope fun Y => EvG Y tg ts gg) (hok : GOk ts gg)
    (ht : ∀ B env ds σ Hf H d ds', SR B X.K env ds σ Hf H → t env ds = some (d, ds') → ∀ Q : Bool → Hp → Prop, CT B X.K env ds' σ Hf H d Q → tt σ H Q)
    (hi1 : Blks X scope fun Y => EvI Y tg1 iter1 gi1) (hg1 : Blks X scope fun Y => EvG Y tg1 ts1 gg1)
    (ht1 : ∀ B env ds σ Hf H d ds', SR B X.K env ds σ Hf H → t1 env ds = some (d, ds') → ∀ Q : Bool → Hp → Prop, CT B X.K env ds' σ Hf H d Q → tt1 σ H Q)
    (he : Blks X scope fun Y => EvF Y elt fe) (hts : ∀ j ∈ ts, j ∈ own.map (·.2)) (hts1 : ∀ j ∈ ts1, j ∈ vs1) {B : Bs} {env : En} {ds ds' : DS} {σ : St} {Hf H : Hp} {d : D} (S : SR B X.K env ds σ Hf H) (hf : dLc2 gi (own.map (·.2)) gg t gi1 vs1 gg1 t1 fe env ds = some (d, ds')) {Q : VK} (q : CN B X.K env ds' σ Hf H d Q) :
    ∀ (cs : Shared) (cH : Hp) (cC : Addr) (ccl : List (Str × Addr)) (cfp : List Addr), True → tLc2 (SI X tg iter) (SGb X scope tg) tt (SIb X scope tg1 iter1) (SGb X scope tg1) tt1 (SEb X scope elt) (own.map (·.2)) vs1 σ H Q := by
  intro cs cH cC ccl cfp _
  obtain ⟨items, s1, e1, e⟩ := bnd_eq hf
  obtain ⟨r, s2, e2, e⟩ := bnd_eq e
  have e : (if r.length ≤ 100000 then some (D.list r, s2) else none) = some (d, ds') := e
  split at e
  · rename_i hz
    cases e
    refine hi B env ds σ Hf H _ _ S e1 _ fun J Hf1 H1 g1 S1 y1 => ?_
    intro Dd nD
    have nD0 : H Dd = none := g1.fresh nD
    have nfD1 : Hf1 Dd = none := sub_none S1 nD
    have ndD : ¬ B.isDr Dd := S1.noDr nD
    have F : Fre B env σ Dd := S1.fre nD
    have ne3 : ∀ {Hx : Hp} {l : List V}, Hx Dd = some (.lst l) → Hx Dd ≠ none := fun h => by rw [h]; simp
    have nt3 : ∀ {Hx : Hp} {l : List V}, Hx Dd = some (.lst l) → ∀ xs, Hx Dd ≠ some (.tup xs) := fun h xs z => by rw [h] at z; cases z
    refine ⟨fun i m H' => m = items.length - i ∧ i ≤ items.length ∧ ∃ Hf' si accV acc ys, Gr B Hf1 H1 Hf' H' ∧ Hf' Dd = none ∧ SR B X.K env si σ Hf' H' ∧ H' Dd = some (.lst accV) ∧ RpL Hf' accV acc ∧ lc2Loop gg t gi1 vs1 gg1 t1 fe (wipeE env (own.map (·.2))) (items.drop i) si = some (ys, ds') ∧ acc ++ ys = r,
      ⟨items.length, by simp, Nat.zero_le _, Hf1, s1, [], [], r, Gr.refl.hp nD, nfD1, S1.hp nfD1 F, upd_same, .nil, by rw [List.drop_zero]; exact e2, by simp⟩, ?_⟩
    rintro i m H' ⟨rfl, hi', Hf', si, accV, acc, ys, g2, nfD, S2, hD, rD, el, ea⟩
    obtain ⟨yg, ys0⟩ := y1 i env si σ Hf' H' g2.ff S2
    cases hd : items.drop i with
    | nil =>
      have hl : items.length ≤ i := by
        rcases Nat.lt_or_ge i items.length with z | z
        · rw [List.drop_eq_getElem_cons z] at hd; cases hd
        · exact z
      rw [hd] at el
      cases el
      rw [List.append_nil] at ea
      subst ea
      exact .inl ⟨ys0 hl, q Dd Hf' H' (g1.trans g2) S2 nD0 nfD (.lst hD rD)⟩
    | cons it rest =>
      obtain ⟨hlt, hit, hrest⟩ := drop_at hd
      rw [hd] at el
      obtain ⟨env', b, s3, k1, k2, k3⟩ := lc2Loop_cons el
      obtain ⟨yg1, yg2⟩ := yg hlt
      refine .inr ⟨yg1, fun H2 => (items.length - (i + 1) = items.length - (i + 1) ∧ i + 1 ≤ items.length ∧ ∃ Hf' si accV acc ys, Gr B Hf1 H1 Hf' H2 ∧ Hf' Dd = none ∧ SR B X.K env si σ Hf' H2 ∧ H2 Dd = some (.lst accV) ∧ RpL Hf' accV acc ∧ lc2Loop gg t gi1 vs1 gg1 t1 fe (wipeE env (own.map (·.2))) (items.drop (i + 1)) si = some (ys, ds') ∧ acc ++ ys = r), fun H2 h2 => ⟨_, by omega, h2⟩, fun x H3 yx => ?_⟩
      obtain ⟨Hf3, g3, S3, r3⟩ := yg2 x H3 yx it hit
      intro bs bH bC bcl bfp
      refine hg bs bH bC bcl bfp B _ env' si _ Hf3 H3 it x (S3.wipe _) r3 k1 _ fun σ4 S4 l4 o4 => ?_
      refine ⟨(wipe_eq (ts := ts) l4 o4 hts).trans (wipe_idem _ _), ?_⟩
      refine ht B env' si σ4 Hf3 H3 b s3 S4 k2 _ fun Hf5 H5 g5 S5 => ?_
      have gA := (g2.trans g3).trans g5
      have hD3 : H3 Dd = some (.lst accV) := g3.at hD ndD
      have hD5 : H5 Dd = some (.lst accV) := g5.at hD3 ndD
      have rD5 : RpL Hf5 accV acc := (rD.up g3.ff).up g5.ff
      have So := (S2.moveTo g3 S3).moveTo g5 S5
      have nfD3 : Hf3 Dd = none := g3.noF nfD (ne3 hD) (nt3 hD)
      have nfD5 : Hf5 Dd = none := g5.noF nfD3 (ne3 hD3) (nt3 hD3)
      rcases k3 with ⟨rfl, k3⟩ | ⟨rfl, items1, s6, y, s7, zs, k4, k5, k6, rfl⟩
      · rw [if_neg Bool.false_ne_true]
        exact ⟨rfl, hlt, Hf5, s3, accV, acc, ys, gA, nfD5, So, hD5, rD5, by rw [hrest]; exact k3, ea⟩
      · rw [if_pos rfl]
        intro ds1 dH dC dcl dfp
        refine hi1 ds1 dH dC dcl dfp B env' s3 σ4 Hf5 H5 _ _ S5 k4 _ fun J1 Hf6 H6 g6 S6 y6 => ?_
        have hD6 : H6 Dd = some (.lst accV) := g6.at hD5 ndD
        refine ⟨fun j k H' => k = items1.length - j ∧ j ≤ items1.length ∧ ∃ Hf' sj accV acc ys, Gr B Hf1 H1 Hf' H' ∧ Same Hf6 Hf' ∧ Hf' Dd = none ∧ SR B X.K env sj σ Hf' H' ∧ H' Dd = some (.lst accV) ∧ RpL Hf' accV acc ∧ lcLoop gg1 t1 fe (wipeE env' vs1) (items1.drop j) sj = some (ys, s7) ∧ acc ++ (ys ++ zs) = r,
          ⟨items1.length, by simp, Nat.zero_le _, Hf6, s6, accV, acc, y, gA.trans g6, fun _ _ z => z, g6.noF nfD5 (ne3 hD5) (nt3 hD5), So.moveTo g6 S6, hD6, rD5.up g6.ff, by rw [List.drop_zero]; exact k5, ea⟩, ?_⟩
        rintro j k H7 ⟨rfl, hj', Hf7, sj, accV7, acc7, ys7, g7, sm7, nfD7, S7, hD7, rD7, el7, ea7⟩
        have S7' : SR B X.K env' sj σ4 Hf7 H7 := S7.inner S4 ((g5.ff.trans g6.ff).trans sm7) hok k1 o4
        obtain ⟨yg7, ys07⟩ := y6 j env' sj σ4 Hf7 H7 sm7 S7'
        cases hd7 : items1.drop j with
        | nil =>
          have hl : items1.length ≤ j := by
            rcases Nat.lt_or_ge j items1.length with z | z
            · rw [List.drop_eq_getElem_cons z] at hd7; cases hd7
            · exact z
          rw [hd7] at el7
          cases el7
          exact .inl ⟨ys07 hl, rfl, hlt, Hf7, s7, accV7, acc7, zs, g7, nfD7, S7, hD7, rD7, by rw [hrest]; exact k6, ea7⟩
        | cons it1 rest1 =>
          obtain ⟨hlt1, hit1, hrest1⟩ := drop_at hd7
          rw [hd7] at el7
          obtain ⟨env8, b8, s8, m1, m2, m3⟩ := lcLoop_cons el7
          obtain ⟨yg71, yg72⟩ := yg7 hlt1
          refine .inr ⟨yg71, fun H2 => (items1.length - (j + 1) = items1.length - (j + 1) ∧ j + 1 ≤ items1.length ∧ ∃ Hf' sj accV acc ys, Gr B Hf1 H1 Hf' H2 ∧ Same Hf6 Hf' ∧ Hf' Dd = none ∧ SR B X.K env sj σ Hf' H2 ∧ H2 Dd = some (.lst accV) ∧ RpL Hf' accV acc ∧ lcLoop gg1 t1 fe (wipeE env' vs1) (items1.drop (j + 1)) sj = some (ys, s7) ∧ acc ++ (ys ++ zs) = r), fun H2 h2 => ⟨_, by omega, h2⟩, fun x1 H8 yx1 => ?_⟩
          obtain ⟨Hf8, g8, S8, r8⟩ := yg72 x1 H8 yx1 it1 hit1
          intro es eH eC ecl efp
          refine hg1 es eH eC ecl efp B _ env8 sj _ Hf8 H8 it1 x1 (S8.wipe _) r8 m1 _ fun σ9 S9 l9 o9 => ?_
          refine ⟨(wipe_eq (ts := ts1) l9 o9 hts1).trans (wipe_idem _ _), ?_⟩
          refine ht1 B env8 sj σ9 Hf8 H8 b8 s8 S9 m2 _ fun Hf10 H10 g10 S10 => ?_
          have gB := g8.trans g10
          have hD8 : H8 Dd = some (.lst accV7) := g8.at hD7 ndD
          have hD10 : H10 Dd = some (.lst accV7) := g10.at hD8 ndD
          have nfD8 : Hf8 Dd = none := g8.noF nfD7 (ne3 hD7) (nt3 hD7)
          have nfD10 : Hf10 Dd = none := g10.noF nfD8 (ne3 hD8) (nt3 hD8)
          have rD10 : RpL Hf10 accV7 acc7 := (rD7.up g8.ff).up g10.ff
          have So10 := (S7.moveTo g8 S8).moveTo g10 S10
          rcases m3 with ⟨rfl, m3⟩ | ⟨rfl, y9, s9, zs9, m4, m5, rfl⟩
          · rw [if_neg Bool.false_ne_true]
            exact ⟨rfl, hlt1, Hf10, s8, accV7, acc7, ys7, g7.trans gB, sm7.trans gB.ff, nfD10, So10, hD10, rD10, by rw [hrest1]; exact m3, ea7⟩
          · rw [if_pos rfl]
            intro fs fH fC fcl ffp
            refine he fs fH fC fcl ffp B env8 s8 σ9 Hf10 H10 y9 s9 S10 m4 _ fun v Hf11 H11 g11 S11 r11 => ?_
            have hD11 : H11 Dd = some (.lst accV7) := g11.at hD10 ndD
            have nfD11 : Hf11 Dd = none := g11.noF nfD10 (ne3 hD10) (nt3 hD10)
            have la : accV7.length < sizeLine := by
              have h1 := rD7.length
              have h2 : (acc7 ++ (y9 :: zs9 ++ zs)).length ≤ 100000 := by rw [ea7]; exact hz
              rw [List.length_append, List.cons_append, List.length_cons] at h2
              rw [sizeLine_eq]; omega
            have S12 := (So10.moveTo g11 S11).hp (o := .lst (accV7 ++ [v])) nfD11 F
            exact ⟨accV7, hD11, la, rfl, hlt1, Hf11, s9, accV7 ++ [v], acc7 ++ [y9], zs9, ((g7.trans gB).trans g11).hp nD, (sm7.trans gB.ff).trans g11.ff, nfD11, S12, upd_same, (rD10.up g11.ff).append (.cons r11 .nil), by rw [hrest1]; exact m5, by rw [List.append_assoc]; exact ea7⟩
  · cases e
theorem evn_lc2 (hc : X.calm = true) (hN : X.N.Nodup) (ok : BlkOk X.N X.env.scope scope own) (hv : ∀ i ∈ vs1, i ∈ own.map (·.2)) (hi : EvI X tg iter gi) (hg : Blks X scope fun Y => EvG Y tg ts gg) (hok : GOk ts gg) (ht : EvTb X scope ifs t)
    (hi1 : Blks X scope fun Y => EvI Y tg1 iter1 gi1) (hg1 : Blks X scope fun Y => EvG Y tg1 ts1 gg1) (ht1 : EvTb X scope ifs1 t1) (he : Blks X scope fun Y => EvF Y elt fe) (hts : ∀ j ∈ ts, j ∈ own.map (·.2)) (hts1 : ∀ j ∈ ts1, j ∈ vs1)
    (hs : ∀ x, foldedSetIterable iter X.env x = pure x := by intro _; rfl) (hs1 : ∀ env x, foldedSetIterable iter1 env x = pure x := by intro _ _; rfl) : EvN X (.ListComp elt [⟨tg, iter, ifs, 0⟩, ⟨tg1, iter1, ifs1, 0⟩] scope pos) (dLc2 gi (own.map (·.2)) gg t gi1 vs1 gg1 t1 fe) := fun B env ds σ Hf H d ds' S hf Q q => by
  obtain ⟨tt, pt, kt⟩ := ht
  obtain ⟨tt1, pt1, kt1⟩ := ht1
  intro pins s I
  exact SE.of (pe_lc2 (wi := SI X tg iter) (g := SGb X scope tg) (tt := tt) (wi1 := SIb X scope tg1 iter1) (g1 := SGb X scope tg1) (tt1 := tt1) (te := SEb X scope elt) hc hN (pi_si X tg iter) ok hv (fun s H C cl fp => ⟨fun pins s' σ' H' v u Q' I r h => h s H C cl fp pins s' u I r⟩) pt
    (fun s H C cl fp => ⟨fun pins s' σ' H' R I h => h s H C cl fp pins s' I⟩) (fun s H C cl fp => ⟨fun pins s' σ' H' v u Q' I r h => h s H C cl fp pins s' u I r⟩) pt1 (fun s H C cl fp => ⟨fun pins s' σ' H' Q' I h => h s H C cl fp pins s' I⟩) hs hs1)
    (lc2_reading hi hg hok kt hi1 hg1 kt1 he hts hts1 S hf q s H 0 [] [] trivial) pins s I
end
/-! ### t.index(x), xs.index(x); d.get(k, x) -/
def idxI (x : Int) : List Int → Nat → Option Nat
  | [], _ => none
  | y :: r, n => (match decide (y = x) with
    | true => some n
    | false => idxI x r (n + 1))
theorem idxI_ok {x : Int} : ∀ {l : List Int} {n j : Nat}, idxI x l n = some j → n ≤ j ∧ l[j - n]? = some x ∧ ∀ m, m < j - n → l[m]? ≠ some x
  | [], _, _, h => by cases h
  | y :: r, n, j, h => by
    unfold idxI at h
    split at h
    · rename_i e
      cases h
      refine ⟨Nat.le_refl _, ?_, fun m hm => by omega⟩
      rw [Nat.sub_self]
      simp [of_decide_eq_true e]
    · rename_i e
      obtain ⟨h1, h2, h3⟩ := idxI_ok h
      have e2 : j - n = (j - (n + 1)) + 1 := by omega
      refine ⟨by omega, ?_, fun m hm => ?_⟩
      · rw [e2]; simpa using h2
      · cases m with
        | zero => simpa using of_decide_eq_false e
        | succ m => simpa using h3 m (by omega)
section
variable {X : Cx}
theorem flat_intsV (ys : List Int) : (ys.map V.int).all flatV = true := by
  rw [List.all_eq_true]
  intro v hv
  obtain ⟨y, _, rfl⟩ := List.mem_map.mp hv
  rfl
theorem mt_tupIndexI : MtR X "tuple.index" (fun x xs H Q => ∃ p, ∃ ys : List Int, ∃ z j, x = .ref p ∧ xs = [.int z] ∧ SqT X.K H p (ys.map V.int) ∧ ys[j]? = some z ∧ (∀ m, m < j → ys[m]? ≠ some z) ∧ Q (.int (j : Nat)) H) := by
  intro pins s σ H x xs v us Q I rx rs h
  obtain ⟨p, ys, z, j, rfl, rfl, hq, hy, hno, q⟩ := h
  cases rx
  obtain ⟨u, rfl, t, rfl⟩ := vals1 rs
  obtain ⟨its, r, pl, hz⟩ := I.tuple hq
  obtain ⟨⟨cls, dd, dt, sl⟩, ho, hc, n, hd⟩ := pl
  simp only at hc hd
  subst hc
  subst hd
  have hl : its.toArray.size = ys.length := by rw [List.size_toArray, ← r.length, List.length_map]
  have hj : j < its.toArray.size := by rw [hl]; exact (List.getElem?_eq_some_iff.mp hy).1
  have at' : ∀ (m : Nat) (hm : m < its.toArray.size), ∃ y t', ys[m]? = some y ∧ its.toArray[m] = Value.int y t' := fun m hm => by
    have hm' : m < ys.length := by rw [← hl]; exact hm
    obtain ⟨w, hw, t', hw'⟩ := r.get (i := m) (x := .int ys[m]) (by simp [hm'])
    refine ⟨ys[m], t', List.getElem?_eq_getElem hm', ?_⟩
    have e := (List.getElem?_eq_some_iff.mp hw).2
    rw [← hw', ← e]
    simp
  refine call_meets PySem.F.slot_tuple_index ⟨_, ho, rfl⟩ PySem.F.entry_tuple_index (PySem.F.args_tuple_index_2 _ _) (TI.tuple_indexAt p its.toArray n dd sl (.int z t) (eqU (.int z)) j hj ?_ ?_)
    ⟨ho, fun w hw => mem_eqAt (x := .int z) ⟨t, rfl⟩ rfl r (flat_intsV ys) w (by simpa using hw), ⟨.int (j : Nat), H, I.tok _, ⟨_, rfl⟩, q⟩⟩
  · obtain ⟨y, t', h1, h2⟩ := at' j hj
    rw [hy] at h1
    cases h1
    rw [h2]
    show (z == z) = true
    exact beq_self_eq_true z
  · intro m hm hmj
    obtain ⟨y, t', h1, h2⟩ := at' m hm
    rw [h2]
    show (y == z) = false
    exact beq_eq_false_iff_ne.mpr fun e => hno m hmj (e ▸ h1)
def gIdx : D → D → Option D
  | .ptup xs, .int z => (match ints? xs with
    | some ns => (match idxI z ns 0 with
      | some j => some (.int (j : Nat))
      | none => none)
    | none => none)
  | _, _ => none
abbrev rIdxT (X : Cx) : V → List V → Hp → VK → Prop := fun x xs H Q => ∃ p, ∃ ys : List Int, ∃ z j, x = .ref p ∧ xs = [.int z] ∧ SqT X.K H p (ys.map V.int) ∧ ys[j]? = some z ∧ (∀ m, m < j → ys[m]? ≠ some z) ∧ Q (.int (j : Nat)) H
/-- a method of a tuple whose object is known -/
def tPM (r : V → List V → Hp → VK → Prop) (to : TE) (t : TA) : TE := fun σ H Q => to σ H fun x H1 => (∃ (a : Addr) (o : Obj) (vs : List V), x = .ref a ∧ H1 a = some (.frz o (.tup vs)) ∧ o.dict = none) ∧ t σ H1 fun xs H2 => r x xs H2 Q
theorem pe_pm {o e : Expr} {es : List Expr} {to : TE} {t : TA} {name : Str} {apos cpos : Pos} {id : String} {r : V → List V → Hp → VK → Prop} (slot : Slot "tuple" name id) (hty : typeOf (.builtin id) = pure (.type "method_descriptor")) (hm : MtR X id r) (ho : PE X o to) (ha : PA X (e :: es) t)
    (hbase : attributeBase o name X.env (eval o X.env) = eval o X.env := by rfl)
    (hfew : ((backTo cpos (starEach (e :: es) X.env)).all (fun x => !x.1) && (backToKw cpos (keywordEach [] X.env)).all (fun x => x.1.isSome)
      && decide ((e :: es).length + ([] : List Keyword).length + (if ([] : List Keyword).isEmpty then 0 else 1) < 30)) = true := by rfl)
    (hline : (apos.endLine == cpos.line) = true := by rfl) (hs : starEach (e :: es) X.env = (false, eval e X.env) :: starEach es X.env := by rfl) (hplain : (backTo cpos (starEach es X.env)).any (·.1) = false := by rfl) :
    PE X (.Call (.Attribute o name apos) (e :: es) [] cpos) (tPM r to t) := by
  refine ⟨fun pins s σ H Q I h => ?_⟩
  refine wpAny_Call_method_late hbase hfew hline rfl (thn (ho.run pins s σ H _ I h) fun v s1 ⟨x, H1, I1, r1, ⟨a, ob, vs, ex, hx, hd⟩, q1⟩ => ?_)
  subst ex
  obtain rfl : v = Value.ref a := r1
  obtain ⟨e1, _, its, rv, o', e2, e3, n, e4⟩ := (show ObjOk X.prog X.w H1 s1.heap a (.frz ob (.tup vs)) from I1.hok a _ hx)
  have eo : o' = ob := Option.some.inj (e2.symm.trans e1)
  subst eo
  refine ⟨"tuple", id, PySem.F.plainAttrs_tuple, slot, hty, ⟨o', e1, e3⟩, fun b eb => by cases eb; exact ⟨o', e1, hd⟩, ?_⟩
  have hA := ha.run cpos pins s1 σ H1 _ I1 q1
  rw [hs] at hA ⊢
  refine Calls.callWith_builtin (by show (false || (backTo cpos (starEach es X.env)).any (·.1)) = false; rw [hplain] <;> rfl) (Calls.evalArgs_plain ?_)
  exact thn hA fun us s2 ⟨vs, H2, I2, r2, q2⟩ => hm pins s2 σ H2 (.ref a) vs _ us Q I2 rfl r2 q2
/-- t.index(x) of a plain tuple that stays -/
theorem evf_idx {st o e : Expr} {f h : Den} (pm : PE X st (tPM (rIdxT X) (SE X o) (tCons (SE X e) tNil))) (hf : EvF X o f) (hh : EvR X e h) : EvF X st (d2 gIdx f h) := fun B env ds σ Hf H d ds' S hd Q q => by
  obtain ⟨v1, s1, e1, e2⟩ := bnd_eq hd
  obtain ⟨v2, s2, e3, e4⟩ := bnd_eq e2
  obtain ⟨e5, rfl⟩ := op1_eq e4
  unfold gIdx at e5
  split at e5
  · rename_i xs z
    split at e5
    · rename_i ns en
      split at e5
      · rename_i j ej
        cases e5
        refine SE.of pm (hf B env ds σ Hf H _ _ S e1 _ fun v Hf1 H1 g1 S1 r1 => ?_)
        cases r1 with
        | @ptup a ob ws _ h1 hd h2 =>
          refine ⟨⟨a, ob, ws, rfl, S1.sub _ _ h1, hd⟩, hh B env s1 σ Hf1 H1 _ _ S1 e3 _ fun v2 Hf2 H2 g2 S2 r2 => ?_⟩
          cases r2.int
          rw [ints_eq en] at h2
          rw [rpl_ints h2] at h1
          obtain ⟨_, i1, i2⟩ := idxI_ok ej
          rw [Nat.sub_zero] at i1 i2
          exact ⟨a, ns, z, j, rfl, rfl, .inl (.inr ⟨ob, S2.sub _ _ (g2.ff _ _ h1)⟩), i1, i2, q _ _ _ (g1.trans g2) S2 (.int _)⟩
      · cases e5
    · cases e5
  · cases e5
/-- tuple(list) as a plain tuple -/
def rPtup (X : Cx) : List V → Hp → VK → Prop := fun xs H Q => ∃ p ys, xs = [.ref p] ∧ SqL X.K H p ys ∧ ∀ (l : Addr) (o : Obj), H l = none → o.dict = none → Q (.ref l) (upd H l (.frz o (.tup ys)))
theorem cr_ptup : CallR X (.type "tuple") (rPtup X) := by
  intro pins s σ H xs us Q I r ⟨p, ys, ex, hs, q⟩
  subst ex
  obtain ⟨u, rfl, rx⟩ := vals1 r
  obtain rfl : u = Value.ref p := rx
  obtain ⟨its, rv, pl, hz⟩ := I.list hs
  refine call_tuple_list pl.isList (fun h' hk => ?_) (by rw [List.size_toArray, ← rv.length]; exact hz)
  have I1 : Inv X pins σ H { s with heap := h' } := I.kept (t' := s.toks) hk
  have e := Heap.get?_push_size h' (o := { cls := .type "tuple", data := .seq its.toArray }) rfl
  have I2 : Inv X pins σ (upd H h'.objs.size (.frz { cls := .type "tuple", data := .seq its.toArray } (.tup ys))) { s with heap := h'.push { cls := .type "tuple", data := .seq its.toArray } } :=
    I1.laid (t' := s.toks) (fun b o e => Heap.get?_push_of_some _ e) (Nat.le_refl _) ⟨e, hz, its, rv, IsTup.new _ _⟩
  exact ⟨.ref h'.objs.size, _, I2, rfl, q _ _ I1.fresh rfl⟩
def gPtup : List D → Option D
  | [.list xs] => some (.ptup xs)
  | _ => none
theorem rc_ptup : RCF X (rPtup X) gPtup := fun B env ds σ Hf H args d vs Q S r e q => by
  unfold gPtup at e
  split at e
  · cases e
    cases r with
    | cons r t =>
      cases t
      obtain ⟨a, ws, rfl, h1, h2⟩ := r.lst S.sub
      exact ⟨_, ws, rfl, .inl (.inl h1), fun l o hl hd => q.ptup S h2 hd l hl⟩
  · cases e
def gGet : D → D → D → Option D
  | .dT kvs, k, x => (match keyOf? k with
    | some ks => (match lookT kvs ks with
      | some v => some v
      | none => some x)
    | none => none)
  | .dK kvs, k, x => (match key1? k with
    | some ks => (match lookK kvs ks with
      | some v => some v
      | none => some x)
    | none => none)
  | _, _, _ => none
def dGet2 (f h u : Den) : Den := fun env ds => bnd (f env ds) fun a s => bnd (h env s) fun b s1 => bnd (u env s1) fun c s2 => op1 (gGet a b c) s2
theorem evf_get {o e1 e2 : Expr} {f h u : Den} {apos cpos : Pos} (hu : X.A.units + 8 < cLine) (ho : EvR X o f) (he : EvR X e1 h) (hx : EvF X e2 u) (m : M2 X o "get" apos e1 e2 cpos) : EvF X (.Call (.Attribute o "get" apos) [e1, e2] [] cpos) (dGet2 f h u) := fun B env ds σ Hf H d ds' S hd Q q => by
  obtain ⟨v1, s1, k1, hd⟩ := bnd_eq hd
  obtain ⟨v2, s2, k2, hd⟩ := bnd_eq hd
  obtain ⟨v3, s3, k3, hd⟩ := bnd_eq hd
  obtain ⟨k4, rfl⟩ := op1_eq hd
  refine SE.of (pe_dget2 (by omega) (pe_se X o) (pe_se X e1) (pe_se X e2) m) (ho B env ds σ Hf H _ _ S k1 _ fun x Hf1 H1 g1 S1 r1 => ?_)
  unfold gGet at k4
  split at k4
  · rename_i kvs
    split at k4
    · rename_i ks ek
      obtain ⟨a, kv, rfl, h1, h2⟩ := r1.dT S1.sub
      refine ⟨a, rfl, .inr ⟨_, h1⟩, he B env s1 σ Hf1 H1 _ _ S1 k2 _ fun y Hf2 H2 g2 S2 r2 => hx B env s2 σ Hf2 H2 _ _ S2 k3 _ fun z Hf3 H3 g3 S3 r3 => ?_⟩
      obtain ⟨b, rfl, hb⟩ := keyOf_rd r2 ek
      obtain ⟨a', kv', ea, h1', h2'⟩ := (r1.up (g2.trans g3)).dT S3.sub
      cases ea
      have hb3 := S3.sub _ _ (g3.ff _ _ hb)
      have gg := (g1.trans g2).trans g3
      split at k4
      · rename_i w hw
        cases k4
        obtain ⟨vv, l1, l2⟩ := (h2'.look (k := ks)).1 _ hw
        exact ⟨some vv, .inr ⟨kv', ks, b, h1', rfl, hb3, l1.symm⟩, q _ _ _ gg S3 l2⟩
      · rename_i hw
        cases k4
        exact ⟨none, .inr ⟨kv', ks, b, h1', rfl, hb3, ((h2'.look (k := ks)).2 hw).symm⟩, q _ _ _ gg S3 r3⟩
    · cases k4
  · rename_i kvs
    split at k4
    · rename_i ks ek
      obtain ⟨a, kv, rfl, h1, h2⟩ := r1.dK S1.sub
      refine ⟨a, rfl, .inl ⟨_, h1⟩, he B env s1 σ Hf1 H1 _ _ S1 k2 _ fun y Hf2 H2 g2 S2 r2 => hx B env s2 σ Hf2 H2 _ _ S2 k3 _ fun z Hf3 H3 g3 S3 r3 => ?_⟩
      cases key1_rd r2 ek
      obtain ⟨a', kv', ea, h1', h2'⟩ := (r1.up (g2.trans g3)).dK S3.sub
      cases ea
      have gg := (g1.trans g2).trans g3
      split at k4
      · rename_i w hw
        cases k4
        obtain ⟨vv, l1, l2⟩ := (h2'.look (k := ks)).1 _ hw
        exact ⟨some vv, .inl ⟨kv', ks, h1', rfl, l1.symm⟩, q _ _ _ gg S3 l2⟩
      · rename_i hw
        cases k4
        exact ⟨none, .inl ⟨kv', ks, h1', rfl, ((h2'.look (k := ks)).2 hw).symm⟩, q _ _ _ gg S3 r3⟩
    · cases k4
  · cases k4
end
end L2.Dn
set_option Elab.async false
set_option linter.all false
set_option maxRecDepth 100000
/-! the draws, the script, abs, int, ** -/
namespace L2.Dn
open PySem PySem.Spec PyProof.Rows
section
variable {X : Cx}
def gAbs : List D → Option D
  | [.int i] => some (.int (if i < 0 then -i else i))
  | _ => none
theorem rc_abs : RCF X (fun xs H Q => ∃ i, xs = [.int i] ∧ Q (.int (if i < 0 then -i else i)) H) gAbs := fun B env ds σ Hf H args d vs Q S r e q => by
  unfold gAbs at e
  split at e
  · cases e
    cases r with
    | cons r t =>
      cases t
      cases r.int
      exact ⟨_, rfl, q.now S (.int _)⟩
  · cases e
def gInt1 : List D → Option D
  | [.int i] => some (.int i)
  | [.bool b] => some (.int (if b then 1 else 0))
  | _ => none
theorem rc_int1 : RCF X (fun xs H Q => (∃ i, xs = [.int i] ∧ Q (.int i) H) ∨ ∃ k, xs = [.bl k] ∧ Q (.int (if k then 1 else 0)) H) gInt1 := fun B env ds σ Hf H args d vs Q S r e q => by
  unfold gInt1 at e
  split at e
  · cases e
    cases r with
    | cons r t =>
      cases t
      cases r.int
      exact .inl ⟨_, rfl, q.now S (.int _)⟩
  · cases e
    cases r with
    | cons r t =>
      cases t
      cases r.bl
      exact .inr ⟨_, rfl, q.now S (.int _)⟩
  · cases e
def gPow : D → D → Option D
  | .int i, .int j => if 0 ≤ j ∧ j ≤ 1000000 ∧ i.natAbs < 18446744073709551616 then some (.int (i ^ j.toNat)) else none
  | _, _ => none
theorem r2_pow : R2F X (rI CPow fun i j => .int (i ^ j.toNat)) gPow := fun B env ds σ Hf H d1 d2 d x y Q S r1 r2 e q => by
  unfold gPow at e
  split at e
  · split at e
    · rename_i h
      cases e
      cases r1.int
      cases r2.int
      exact ⟨_, _, rfl, rfl, ⟨h.1, h.2.1, by have := h.2.2; omega⟩, q.now S (.int _)⟩
    · cases e
  · cases e
/-! == and != of data with or without dicts -/
def rEqU (X : Cx) : R2 := fun x y H Q => rEqD X.K x y H Q ∨ rEqM X false x y H Q
def rNeU (X : Cx) : R2 := fun x y H Q => rNeD X.K x y H Q ∨ rEqM X true x y H Q
theorem op_eqU (hu : X.A.units + 100 < cLine) : OpR X (compareOp .Eq) (rEqU X) := OpR.or (op_eqD (by omega)) (op_eqT (by omega))
theorem op_neU (hu : X.A.units + 100 < cLine) : OpR X (compareOp .NotEq) (rNeU X) := OpR.or (op_neD (by omega)) (op_neT (by omega))
def gEqU (x y : D) : Option D := match gEqD x y with
  | some d => some d
  | none => gEqM false x y
def gNeU (x y : D) : Option D := match gNeD x y with
  | some d => some d
  | none => gEqM true x y
theorem r2_eqU : R2F X (rEqU X) gEqU := fun B env ds σ Hf H d1 d2 d x y Q S r1 r2 e q => by
  unfold gEqU at e
  split at e
  · rename_i h
    cases e
    exact .inl (r2_eqD _ _ _ _ _ _ _ _ _ _ _ _ S r1 r2 h q)
  · exact .inr (r2_eqM false _ _ _ _ _ _ _ _ _ _ _ _ S r1 r2 e q)
theorem r2_neU : R2F X (rNeU X) gNeU := fun B env ds σ Hf H d1 d2 d x y Q S r1 r2 e q => by
  unfold gNeU at e
  split at e
  · rename_i h
    cases e
    exact .inl (r2_neD _ _ _ _ _ _ _ _ _ _ _ _ S r1 r2 h q)
  · exact .inr (r2_eqM true _ _ _ _ _ _ _ _ _ _ _ _ S r1 r2 e q)
end
/-! ### the draws' dict -/
section
variable {B : Bs} {K : PySem.W.Frag} {env : En} {ds ds' : DS} {σ : St} {Hf H : Hp} {x l c : Addr}
theorem kv_rest : valV (drawKV l c ds) (.inr "rest") = some (.int ds.rest) := by rfl
theorem kv_turn : valV (drawKV l c ds) (.inr "turn") = some (.int ds.turn) := by rfl
theorem kv_large : valV (drawKV l c ds) (.inr "large") = some (.ref l) := by rfl
theorem kv_cells : valV (drawKV l c ds) (.inr "cells") = some (.ref c) := by rfl
theorem put_rest {n : Int} : putK (drawKV l c ds) (.inr "rest") (.int n) = drawKV l c { ds with rest := n } := by rfl
theorem put_turn {n : Int} : putK (drawKV l c ds) (.inr "turn") (.int n) = drawKV l c { ds with turn := n } := by rfl
theorem SR.dr (S : SR B K env ds σ Hf H) (e : B.dr = some (x, l, c)) : H x = some (.dK (drawKV l c ds)) ∧ H l = some (.lst (ds.large.map V.int)) ∧ Hf x = none ∧ Hf l = none ∧ Hf c = some (.lst (ds.cells.map V.int)) := S.draw x l c e
theorem SR.drn {a : Addr} (S : SR B K env ds σ Hf H) (n : B.isDr a) : ∀ u, H a = some u → (∀ ps, u ≠ .tbl ps) ∧ ∀ φ, u ≠ .ext φ := fun u e => by
  obtain ⟨x, l, c, ed, h⟩ := n
  obtain ⟨h1, h2, _, _, _⟩ := S.draw x l c ed
  rcases h with rfl | rfl
  · rw [h1] at e; cases e; exact ⟨(by intro _ z; cases z), (by intro _ z; cases z)⟩
  · rw [h2] at e; cases e; exact ⟨(by intro _ z; cases z), (by intro _ z; cases z)⟩
/-- an object of the draws is changed -/
theorem SR.drw {a : Addr} {o : HO} (S : SR B K env ds σ Hf H) (n : B.isDr a) (dr : DrawR B.dr ds' Hf (upd H a o)) : SR B K env ds' σ Hf (upd H a o) where
  sub := fun b u e => by rw [upd_ne (ne_of_none e (S.isDr n).2)]; exact S.sub b u e
  base := fun b u e => by
    by_cases h : b = a
    · subst h
      exact ⟨o, upd_same, fun z => absurd n z⟩
    · rw [upd_ne h]; exact S.base b u e
  fbase := S.fbase
  fnew := S.fnew
  slots := fun i s e => (S.slots i s e).hp fun d q => by
    subst q
    intro z
    obtain ⟨b, e1, _, _, n3, _⟩ := S.slots i _ e
    rw [z] at e1
    cases e1
    exact n3 n
  apart := S.apart
  draw := dr
  len := S.len
  tk := S.tk.trans (.upd (S.drn n))
  tab0 := S.tab0
  tabf := S.tabf
theorem Gr.drw {a : Addr} {o : HO} (n : B.isDr a) (no : ∀ u, H a = some u → (∀ ps, u ≠ .tbl ps) ∧ ∀ φ, u ≠ .ext φ) : Gr B Hf H Hf (upd H a o) where
  hh := fun b u e => by
    by_cases h : b = a
    · subst h
      exact ⟨o, upd_same, fun z => absurd n z⟩
    · exact ⟨u, by rw [upd_ne h]; exact e, fun _ => .refl u⟩
  ff := fun _ _ e => e
  nw := fun _ h => .inl h
  tk := .upd no
end
def dRest (i : Nat) : Den := fun env ds => match env[i]? with
  | some (some .draw) => some (.int ds.rest, ds)
  | _ => none
def dTurn (i : Nat) : Den := fun env ds => match env[i]? with
  | some (some .draw) => some (.int ds.turn, ds)
  | _ => none
def dCells (i : Nat) : Den := fun env ds => match env[i]? with
  | some (some .draw) => some (.list (ds.cells.map D.int), ds)
  | _ => none
def dPopL (i : Nat) : Den := fun env ds => match env[i]? with
  | some (some .draw) => (match ds.large with
    | n :: r => some (.int n, { ds with large := r })
    | [] => none)
  | _ => none
def tLarge (i : Nat) : DenT := fun env ds => match env[i]? with
  | some (some .draw) => some ((match ds.large with
    | [] => false
    | _ => true), ds)
  | _ => none
def dSetR (i : Nat) (f : Den) : DenS := fun env ds => bnd (f env ds) fun v s => match v, env[i]? with
  | .int n, some (some .draw) => some (.nx env, { s with rest := n })
  | _, _ => none
def dSetTn (i : Nat) (f : Den) : DenS := fun env ds => bnd (f env ds) fun v s => match v, env[i]? with
  | .int n, some (some .draw) => some (.nx env, { s with turn := n })
  | _, _ => none
section
variable {X : Cx} {e a b : Expr} {f : Den} {ss : Stmt}
theorem evf_rest (i : Nat) (pm : PE X e (tDGet (tVar i) (tC (.str "rest")))) : EvF X e (dRest i) := fun B env ds σ Hf H d ds' S hd Q q => by
  unfold dRest at hd
  split at hd
  · rename_i ei
    cases hd
    obtain ⟨x, l, c, ed, ex⟩ := S.slots i _ ei
    obtain ⟨h1, h2, h3, h4, h5⟩ := S.dr ed
    exact SE.of pm ⟨_, ex, x, _, rfl, .inl ⟨_, .inr "rest", .inl h1, rfl, kv_rest.symm⟩, q.now S (.int _)⟩
  · cases hd
theorem evf_turn (i : Nat) (pm : PE X e (tDGet (tVar i) (tC (.str "turn")))) : EvF X e (dTurn i) := fun B env ds σ Hf H d ds' S hd Q q => by
  unfold dTurn at hd
  split at hd
  · rename_i ei
    cases hd
    obtain ⟨x, l, c, ed, ex⟩ := S.slots i _ ei
    obtain ⟨h1, h2, h3, h4, h5⟩ := S.dr ed
    exact SE.of pm ⟨_, ex, x, _, rfl, .inl ⟨_, .inr "turn", .inl h1, rfl, kv_turn.symm⟩, q.now S (.int _)⟩
  · cases hd
theorem evf_cells (i : Nat) (pm : PE X e (tDGet (tVar i) (tC (.str "cells")))) : EvF X e (dCells i) := fun B env ds σ Hf H d ds' S hd Q q => by
  unfold dCells at hd
  split at hd
  · rename_i ei
    cases hd
    obtain ⟨x, l, c, ed, ex⟩ := S.slots i _ ei
    obtain ⟨h1, h2, h3, h4, h5⟩ := S.dr ed
    exact SE.of pm ⟨_, ex, x, _, rfl, .inl ⟨_, .inr "cells", .inl h1, rfl, kv_cells.symm⟩, q.now S (.lst h5 (ints_rpl _))⟩
  · cases hd
theorem evf_popL (i : Nat) (pm : PE X e (tBM X.K "list" rPopAt (tDGet (tVar i) (tC (.str "large"))) (tCons (tC (.int 0)) tNil))) : EvF X e (dPopL i) := fun B env ds σ Hf H d ds' S hd Q q => by
  unfold dPopL at hd
  split at hd
  · rename_i ei
    split at hd
    · rename_i n r en
      cases hd
      obtain ⟨x, l, c, ed, ex⟩ := S.slots i _ ei
      obtain ⟨h1, h2, h3, h4, h5⟩ := S.dr ed
      have hl : B.isDr l := ⟨x, l, c, ed, .inr rfl⟩
      have hne : x ≠ l := fun z => by subst z; rw [h1] at h2; cases h2
      rw [en] at h2
      refine SE.of pm ⟨_, ex, x, _, rfl, .inl ⟨_, .inr "large", .inl h1, rfl, kv_large.symm⟩, .inl ⟨rfl, _, .inl (.inl h2)⟩, ?_⟩
      refine ⟨l, _, 0, 0, .int n, rfl, rfl, h2, by decide, by decide, ?_, rfl, ?_⟩
      · rw [List.length_map]; exact seqIx (by decide) (by simp)
      · refine q _ Hf _ (Gr.drw hl (S.drn hl)) (S.drw hl fun y m k ey => ?_) (.int n)
        rw [ed] at ey
        cases ey
        refine ⟨?_, ?_, h3, h4, h5⟩
        · rw [upd_ne hne]; exact h1
        · rw [upd_same]; rfl
    · cases hd
  · cases hd
theorem evt_large (hu : X.A.units + 100 < cLine) (i : Nat) {pos p2 : Pos} (pm : PE X a (tDGet (tVar i) (tC (.str "large")))) : EvT X (.Compare a [.NotEq] [.List [] p2] pos) (tLarge i) := fun B env ds σ Hf H d ds' S hd Q q => by
  unfold tLarge at hd
  split at hd
  · rename_i ei
    obtain ⟨rfl, rfl⟩ : (match ds.large with | [] => false | _ => true) = d ∧ ds = ds' := by cases hd; exact ⟨rfl, rfl⟩
    obtain ⟨x, l, c, ed, ex⟩ := S.slots i _ ei
    obtain ⟨h1, h2, h3, h4, h5⟩ := S.dr ed
    have hb : EvN X (.List [] p2) (dLst aNil) := evn_lst eva_nil
    refine STt.of (pt_cmpR (op_neD (by omega)) pm (pe_se X _) (nomark _)) ⟨_, ex, x, _, rfl, .inl ⟨_, .inr "large", .inl h1, rfl, kv_large.symm⟩, ?_⟩
    refine hb B env ds σ Hf H (.list []) ds S rfl _ fun b Hf2 H2 g2 S2 n2 nf2 t2 => ?_
    have ok : ∀ ns : List Int, eqOk 8 (.list (ns.map D.int)) = true := fun ns => by
      show (ns.map D.int).all (eqOk 7) = true
      rw [List.all_eq_true]
      intro d hd
      obtain ⟨n, _, rfl⟩ := List.mem_map.mp hd
      rfl
    obtain ⟨k1, k2, _, _, k5⟩ := S2.dr ed
    have lay := (eqOk_lay 8 _ (ok ds.large)).1
    have d1 : Dp X.K H2 (.ref l) (toPy (.list (ds.large.map D.int))) := .lst (.inl (.inl k2)) (RpL.dp S2.sub _ _ (by simpa only [toPy, PyData.canLay0] using lay) (ints_rpl _))
    cases t2 with
    | lst e1 e2 =>
      have d2 : Dp X.K H2 (.ref b) (toPy (.list [])) := .lst (.inl (.inl e1)) (RpL.dp S2.sub _ _ (by rfl) e2)
      refine ⟨_, _, d1, d2, eqOk_shaped (n := 8) (by decide) (ok _), eqOk_shaped (n := 8) (by decide) rfl, _, rfl, ?_⟩
      rw [deq_eqv 8 _ _ (ok _) rfl]
      have : (!deq 8 (.list (ds.large.map D.int)) (.list [])) = (match ds.large with | [] => false | _ => true) := by
        cases ds.large <;> rfl
      rw [this]
      exact q _ _ g2 S2
  · cases hd
theorem evs_setR (i : Nat) (pm : PS X ss (sDPut (tVar i) (tC (.str "rest")) (SE X e))) (he : EvR X e f) : EvS X ss (dSetR i f) := fun B env ds σ Hf H o ds' S hD Dd cc => by
  obtain ⟨v, s1, e1, e2⟩ := bnd_eq hD
  split at e2
  · rename_i n ei
    cases e2
    refine SS.of pm (he B env ds σ Hf H _ _ S e1 _ fun w Hf1 H1 g1 S1 r1 => ?_)
    cases r1.int
    obtain ⟨x, l, c, ed, ex⟩ := S1.slots i _ ei
    obtain ⟨h1, h2, h3, h4, h5⟩ := S1.dr ed
    have hx : B.isDr x := ⟨x, l, c, ed, .inl rfl⟩
    have hne : l ≠ x := fun z => by subst z; rw [h2] at h1; cases h1
    refine ⟨_, ex, x, _, rfl, DPut.k (k := .inr "rest") h1 (by show 4 < sizeLine; decide), ?_⟩
    rw [put_rest]
    refine cc _ _ _ g1.ff (S1.drw hx fun y m k ey => ?_)
    rw [ed] at ey
    cases ey
    exact ⟨upd_same, by rw [upd_ne hne]; exact h2, h3, h4, h5⟩
  · cases e2
theorem evs_setTn (i : Nat) (pm : PS X ss (sDPut (tVar i) (tC (.str "turn")) (SE X e))) (he : EvR X e f) : EvS X ss (dSetTn i f) := fun B env ds σ Hf H o ds' S hD Dd cc => by
  obtain ⟨v, s1, e1, e2⟩ := bnd_eq hD
  split at e2
  · rename_i n ei
    cases e2
    refine SS.of pm (he B env ds σ Hf H _ _ S e1 _ fun w Hf1 H1 g1 S1 r1 => ?_)
    cases r1.int
    obtain ⟨x, l, c, ed, ex⟩ := S1.slots i _ ei
    obtain ⟨h1, h2, h3, h4, h5⟩ := S1.dr ed
    have hx : B.isDr x := ⟨x, l, c, ed, .inl rfl⟩
    have hne : l ≠ x := fun z => by subst z; rw [h2] at h1; cases h1
    refine ⟨_, ex, x, _, rfl, DPut.k (k := .inr "turn") h1 (by show 4 < sizeLine; decide), ?_⟩
    rw [put_turn]
    refine cc _ _ _ g1.ff (S1.drw hx fun y m k ey => ?_)
    rw [ed] at ey
    cases ey
    exact ⟨upd_same, by rw [upd_ne hne]; exact h2, h3, h4, h5⟩
  · cases e2
end
/-! ### the script -/
theorem scr_sq {B : Bs} {K : PySem.W.Frag} {env : En} {ds : DS} {σ : St} {Hf H : Hp} {a : Addr} {xs : List V} (S : SR B K env ds σ Hf H) (nd : ∀ o, B.H0 a = some o → ¬ B.isDr a) (h : SqL K B.H0 a xs) : SqL K H a xs := by
  rcases h with h | h
  · rcases h with h | ⟨o, h⟩
    · obtain ⟨o', e, n⟩ := S.base a _ h
      exact .inl (.inl (by rw [e, (n (nd _ h)).nt (by intro _ z; cases z)]))
    · obtain ⟨o', e, n⟩ := S.base a _ h
      exact .inl (.inr ⟨o, by rw [e, (n (nd _ h)).nt (by intro _ z; cases z)]⟩)
  · exact .inr h
def iScr (i : Nat) : DenA := fun env ds => match env[i]? with
  | some (some (.scr ns)) => some (ns.map D.int, ds)
  | _ => none
def dLenS (i : Nat) : Den := fun env ds => match env[i]? with
  | some (some (.scr ns)) => some (.int (ns.length : Nat), ds)
  | _ => none
section
variable {X : Cx} {tg e : Expr}
theorem evi_scr (i : Nat) (pm : PE X e (tVar i)) : EvI X tg e (iScr i) := fun B env ds σ Hf H items ds' S he R q => by
  unfold iScr at he
  split at he
  · rename_i ns ei
    cases he
    obtain ⟨a, ea, nd, hs⟩ := S.slots i _ ei
    refine SI.of (pi_list pm) ⟨_, ea, a, rfl, ⟨_, scr_sq S nd hs⟩, q _ _ _ Gr.refl S fun j env ds σ Hf H s S => ?_⟩
    have hq := scr_sq S nd hs
    rw [List.length_map]
    refine ⟨fun hi => ?_, fun hi => ⟨_, hq, by rw [List.length_map]; exact hi⟩⟩
    have e1 : (ns.map V.int)[j]? = some (.int ns[j]) := by rw [List.getElem?_map, List.getElem?_eq_getElem hi]; rfl
    refine ⟨⟨_, _, hq, e1⟩, fun x H' y d hd => ?_⟩
    obtain ⟨rfl, y⟩ := y
    have := y _ hq
    rw [e1] at this
    cases this
    rw [List.getElem?_map, List.getElem?_eq_getElem hi] at hd
    cases hd
    exact ⟨Hf, Gr.refl, S, .int _⟩
  · cases he
theorem evf_lenS (i : Nat) (pm : PE X e (tCB (fun xs H Q => ∃ p ys, xs = [.ref p] ∧ (SqL X.K H p ys ∨ SqT X.K H p ys) ∧ Q (.int (ys.length : Nat)) H) (tCons (tVar i) tNil))) : EvF X e (dLenS i) := fun B env ds σ Hf H d ds' S hd Q q => by
  unfold dLenS at hd
  split at hd
  · rename_i ns ei
    cases hd
    obtain ⟨a, ea, nd, hs⟩ := S.slots i _ ei
    refine SE.of pm ⟨_, ea, a, _, rfl, .inl (scr_sq S nd hs), ?_⟩
    rw [List.length_map]
    exact q.now S (.int _)
  · cases hd
end
end L2.Dn
set_option Elab.async false
set_option linter.all false
set_option maxRecDepth 100000
/-! small rules that the printed walks need -/
namespace L2.Dn
open PySem PySem.Spec PyProof.Rows
theorem _root_.L2.Room.us {k : Nat} {A : Around} (r : Room k A) : A.units + 1 < cLine ∧ A.units + 8 < cLine ∧ A.units + 65 < cLine ∧ A.units + 100 < cLine := by
  have := r.un
  exact ⟨by omega, by omega, by omega, by omega⟩
def dDropS (f : Den) : DenS := fun env ds => bnd (f env ds) fun _ s => some (.nx env, s)
section
variable {X : Cx} {e a b c : Expr} {f h u : Den} {k l m : Bool} {pos pos' : Pos}
theorem evs_drop (he : EvF X e f) (hs : swapsWith e none pos.line X.env = pure false := by rfl) : EvS X (.Expr e pos) (dDropS f) := fun B env ds σ Hf H o ds' S hd Dd cc => by
  obtain ⟨d, s1, e1, e2⟩ := bnd_eq hd
  cases e2
  exact SS.of (ps_expr (pe_se X e) hs) (he B env ds σ Hf H _ _ S e1 _ fun v Hf' H' g S' r => cc _ _ _ g.ff S')
theorem evs_doc {x j} : EvS X (.Expr (.Constant (.str x) j pos) pos') dNx := fun B env ds σ Hf H o ds' S hd Dd cc => by
  cases hd
  exact SS.of ps_doc (cc σ Hf H (fun _ _ e => e) S)
theorem evs_part (i j : Nat) {x y : Str} {px py pt : Pos} {kt k2 pt2} (hc : X.calm = true) (hN : X.N.Nodup) (ha : EvU X a k f) (hb : EvU X b l h) (hij : i ≠ j) (hi : X.N[i]? = some x := by rfl) (hj : X.N[j]? = some y := by rfl)
    (hx : Loc X.env.scope x := by first | exact Or.inl rfl | exact Or.inr rfl) (hy : Loc X.env.scope y := by first | exact Or.inl rfl | exact Or.inr rfl)
    (fx : X.fn x = true ∨ X.env.scope.names.lookup x = some .local := by first | exact .inl rfl | exact .inr rfl) (fy : X.fn y = true ∨ X.env.scope.names.lookup y = some .local := by first | exact .inl rfl | exact .inr rfl)
    (hw : swappedStores [.Tuple [.Name x px, .Name y py] kt pt] (.Tuple [a, b] k2 pt2) X.env = pure none := by rfl)
    (hs : swapsWithSole [.Tuple [.Name x px, .Name y py] kt pt] (.Tuple [a, b] k2 pt2) pos.line X.env = pure false := by rfl) (h1 : starEach [a, b] X.env = (false, eval a X.env) :: starEach [b] X.env := by rfl) (h2 : starEach [b] X.env = (false, eval b X.env) :: starEach [] X.env := by rfl)
    (g1 : (assignEach [.Name x px, .Name y py] X.env).map (·.2) = assign (.Name x px) X.env :: (assignEach [.Name y py] X.env).map (·.2) := by rfl) (g2 : (assignEach [.Name y py] X.env).map (·.2) = assign (.Name y py) X.env :: (assignEach [] X.env).map (·.2) := by rfl)
    (hn : (assignEach [.Name x px, .Name y py] X.env).length = 2 := by rfl) (hst : (assignEach [.Name x px, .Name y py] X.env).findIdx? (·.1) = none := by rfl)
    (e1 : (assignEach [.Tuple [.Name x px, .Name y py] kt pt] X.env).map (·.2) = [assign (.Tuple [.Name x px, .Name y py] kt pt) X.env] := by rfl) :
    EvS X (.Assign [.Tuple [.Name x px, .Name y py] kt pt] (.Tuple [a, b] k2 pt2) pos) (dPar i j k l f h) := fun B env ds σ Hf H o ds' S hd Dd cc => by
  obtain ⟨d1, s1, q1, hd⟩ := bnd_eq hd
  obtain ⟨d2, s2, q2, e3⟩ := bnd_eq hd
  cases e3
  refine SS.of (ps_asg (pe_tup (pa_cons (pe_se X a) (pa_cons (pe_se X b) pa_nil h2) h1)) (pg_tup hc (pgs_cons (pg_name hN hi hx fx) (pgs_cons (pg_name hN hj hy fy) pgs_nil g2) g1) hn hst) hs hw e1) ?_
  refine ha B env ds σ Hf H _ _ S q1 _ fun v Hf1 H1 g1 S1 n1 => hb B env s1 σ Hf1 H1 _ _ S1 q2 _ fun w Hf2 H2 g2 S2 n2 => ⟨show 2 ≤ sizeLine by decide, fun q hq => ?_⟩
  refine ⟨q, [v, w], rfl, .inl (.inl upd_same), rfl, v, [w], rfl, w, [], rfl, rfl, ?_⟩
  have S2' : SR B X.K env ds' σ Hf2 (upd H2 q (.tup [v, w])) := S2.hp (sub_none S2 hq) (S2.fre hq)
  have g3 : Gr B Hf2 H2 Hf2 (upd H2 q (.tup [v, w])) := Gr.refl.hp hq
  exact cc _ _ _ (g1.ff.trans g2.ff) ((S2'.setU ((n1.up g2).up g3) i).setU ((n1.over n2 i).up g3) j)
theorem evs_par3t (i j p : Nat) {x y z : Str} {px py pz pt : Pos} {kt k2 pt2} (hc : X.calm = true) (hN : X.N.Nodup) (ha : EvU X a k f) (hb : EvU X b l h) (hcc : EvU X c m u) (hij : i ≠ j) (hil : i ≠ p) (hjl : j ≠ p) (hi : X.N[i]? = some x := by rfl) (hj : X.N[j]? = some y := by rfl) (hl : X.N[p]? = some z := by rfl)
    (hx : Loc X.env.scope x := by first | exact Or.inl rfl | exact Or.inr rfl) (hy : Loc X.env.scope y := by first | exact Or.inl rfl | exact Or.inr rfl) (hz : Loc X.env.scope z := by first | exact Or.inl rfl | exact Or.inr rfl)
    (fx : X.fn x = true ∨ X.env.scope.names.lookup x = some .local := by first | exact .inl rfl | exact .inr rfl) (fy : X.fn y = true ∨ X.env.scope.names.lookup y = some .local := by first | exact .inl rfl | exact .inr rfl) (fz : X.fn z = true ∨ X.env.scope.names.lookup z = some .local := by first | exact .inl rfl | exact .inr rfl)
    (hw : swappedStores [.Tuple [.Name x px, .Name y py, .Name z pz] kt pt] (.Tuple [a, b, c] k2 pt2) X.env = pure none := by rfl)
    (hs : swapsWithSole [.Tuple [.Name x px, .Name y py, .Name z pz] kt pt] (.Tuple [a, b, c] k2 pt2) pos.line X.env = pure false := by rfl) (h1 : starEach [a, b, c] X.env = (false, eval a X.env) :: starEach [b, c] X.env := by rfl) (h2 : starEach [b, c] X.env = (false, eval b X.env) :: starEach [c] X.env := by rfl) (h3 : starEach [c] X.env = (false, eval c X.env) :: starEach [] X.env := by rfl)
    (g1 : (assignEach [.Name x px, .Name y py, .Name z pz] X.env).map (·.2) = assign (.Name x px) X.env :: (assignEach [.Name y py, .Name z pz] X.env).map (·.2) := by rfl) (g2 : (assignEach [.Name y py, .Name z pz] X.env).map (·.2) = assign (.Name y py) X.env :: (assignEach [.Name z pz] X.env).map (·.2) := by rfl) (g3 : (assignEach [.Name z pz] X.env).map (·.2) = assign (.Name z pz) X.env :: (assignEach [] X.env).map (·.2) := by rfl)
    (hn : (assignEach [.Name x px, .Name y py, .Name z pz] X.env).length = 3 := by rfl) (hst : (assignEach [.Name x px, .Name y py, .Name z pz] X.env).findIdx? (·.1) = none := by rfl)
    (e1 : (assignEach [.Tuple [.Name x px, .Name y py, .Name z pz] kt pt] X.env).map (·.2) = [assign (.Tuple [.Name x px, .Name y py, .Name z pz] kt pt) X.env] := by rfl) :
    EvS X (.Assign [.Tuple [.Name x px, .Name y py, .Name z pz] kt pt] (.Tuple [a, b, c] k2 pt2) pos) (dPar3 i j p k l m f h u) := fun B env ds σ Hf H o ds' S hd Dd cc => by
  obtain ⟨d1, s1, q1, hd⟩ := bnd_eq hd
  obtain ⟨d2, s2, q2, hd⟩ := bnd_eq hd
  obtain ⟨d3, s3, q3, e4⟩ := bnd_eq hd
  cases e4
  refine SS.of (ps_asg (pe_tup (pa_cons (pe_se X a) (pa_cons (pe_se X b) (pa_cons (pe_se X c) pa_nil h3) h2) h1)) (pg_tup hc (pgs_cons (pg_name hN hi hx fx) (pgs_cons (pg_name hN hj hy fy) (pgs_cons (pg_name hN hl hz fz) pgs_nil g3) g2) g1) hn hst) hs hw e1) ?_
  refine ha B env ds σ Hf H _ _ S q1 _ fun v Hf1 H1 g1 S1 n1 => hb B env s1 σ Hf1 H1 _ _ S1 q2 _ fun w Hf2 H2 g2 S2 n2 => hcc B env s2 σ Hf2 H2 _ _ S2 q3 _ fun t Hf3 H3 g3 S3 n3 => ⟨show 3 ≤ sizeLine by decide, fun q hq => ?_⟩
  refine ⟨q, [v, w, t], rfl, .inl (.inl upd_same), rfl, v, [w, t], rfl, w, [t], rfl, t, [], rfl, rfl, ?_⟩
  have S3' : SR B X.K env ds' σ Hf3 (upd H3 q (.tup [v, w, t])) := S3.hp (sub_none S3 hq) (S3.fre hq)
  have g4 : Gr B Hf3 H3 Hf3 (upd H3 q (.tup [v, w, t])) := Gr.refl.hp hq
  have n1' := n1.up g2
  exact cc _ _ _ ((g1.ff.trans g2.ff).trans g3.ff) (((S3'.setU ((n1'.up g3).up g4) i).setU (((n1.over n2 i).up g3).up g4) j).setU (((n1.over n2 i).over (n1'.over n3 i) j).up g4) p)
end
end L2.Dn
set_option Elab.async false
set_option linter.all false
set_option maxRecDepth 100000
/-! the law's begin: the dict of the draws is made; from then on the base tells it -/
namespace L2.Dn
open PySem PySem.Spec PyProof.Rows C8
def envS (n : Nat) (ns : List Int) : En := some (.scr ns) :: List.replicate (n - 1) none
theorem sr_startS {K : PySem.W.Frag} {H : Hp} {a : Addr} {ns : List Int} {ds : DS} (N : List Str) (h : SqL K H a (ns.map V.int)) (tb : LamX.TabS H (PTb K) QN) : SR ⟨H, fun _ => none, none⟩ K (envS N.length ns) ds (start N [.ref a]) (fun _ => none) H where
  sub := fun _ _ e => by cases e
  tk := .refl _
  tab0 := tb
  tabf := rfl
  base := fun a o e => ⟨o, e, fun _ => .refl o⟩
  fbase := fun _ _ e => e
  fnew := fun a h => .inl h
  slots := fun i sl e => by
    unfold envS at e
    cases i with
    | zero => cases e; exact ⟨a, rfl, fun _ _ => nodr, h⟩
    | succ i =>
      have e : (List.replicate (N.length - 1) (none : Option Sl))[i]? = some (some sl) := e
      rw [List.getElem?_replicate] at e
      split at e <;> cases e
  apart := fun i j d e a _ h1 => by
    unfold envS at h1
    cases i with
    | zero => cases h1
    | succ i =>
      have h1 : (List.replicate (N.length - 1) (none : Option Sl))[i]? = some (some (.own d)) := h1
      rw [List.getElem?_replicate] at h1
      split at h1 <;> cases h1
  draw := fun x l c e => by cases e
  len := by
    unfold envS start
    simp
/-- the draws of a script: large, cells -/
def spB (large cells : List Int → List Int) (K : PySem.W.Frag) : Sp := fun vs H Q _ => vs.length = 1 ∧ ∃ a ns, vs = [.ref a] ∧ SqL K H a (ns.map V.int) ∧ ns.length ≤ 63 ∧ LamX.TabS H (PTb K) QN ∧ ∀ x l c H', (∀ b o, H b = some o → ∃ o', H' b = some o' ∧ Eqv o o') → Tk H H' → H x = none → H l = none → H c = none → x ≠ l → c ≠ x → c ≠ l →
  H' x = some (.dK (drawKV l c ⟨large ns, 0, cells ns, 0⟩)) → H' l = some (.lst ((large ns).map V.int)) → H' c = some (.lst ((cells ns).map V.int)) → Q (.ref x) H'
section
variable {P : Program} {w : World} {K : PySem.W.Frag} {mg : Str → Option Value} {base : Heap} {x : Str} {params : Arguments} {scope : Scope} {f : Addr} {fd : FuncData} {N ps : List Str} {k : Nat} {large cells : List Int → List Int}
theorem calB {d1 : DenS} {c1 : Den} {st1 : Stmt} {ec : Expr} {j1 j2 j3 j4 j5 j6 : Nat} {p1 p2 p3 p4 p5 p6 p7 pd pr : Pos}
    (F : FunD K x x params [st1, .Return (some (.Dict [some (.Constant (.str "large") j1 p1), some (.Constant (.str "rest") j2 p2), some (.Constant (.str "cells") j3 p3), some (.Constant (.str "turn") j4 p4)] [.Name "large" p5, .Constant (.int 0) j5 p6, ec, .Constant (.int 0) j6 p7] pd)) pr] scope [] [] f fd)
    (hm : mg x = some (.ref f)) (S : FnScope N ps scope) (hn : ps.length = 1) (hb : Binds K fd ps [])
    (hd : ∀ ns : List Int, ns.length ≤ 63 → ∃ env1, d1 (envS N.length ns) ds0 = some (.nx env1, ds0) ∧ env1[1]? = some (some (.own (.list ((large ns).map D.int)))) ∧ c1 env1 ds0 = some (.list ((cells ns).map D.int), ds0))
    (h : ∀ (cdv : Value) (A : Around) (outer : List Env) (s : Shared) (H : Hp) (E : XK), Room k (A.deeper (envOfC x scope s.heap.objs.size f cdv)) →
      EvS (cxB P w K mg base N x scope f cdv A outer s H E) st1 d1 ∧ PE (cxB P w K mg base N x scope f cdv A outer s H E) (.Name "large" p5) (tVar 1) ∧ EvN (cxB P w K mg base N x scope f cdv A outer s H E) ec c1) : Cal P w K mg base (k + 1) x (spB large cells K) [] :=
  ⟨f, fd, ps, [], F.ok S (fun vs H Q E h => h.1.trans hn.symm) (fun cdv A outer s H vs Q E hr hsp => ⟨SSs (cxB P w K mg base N x scope f cdv A outer s H E) _, PSs.nox (pss_ss _ _), by
    obtain ⟨_, a, ns, rfl, hq, hl, tb, q⟩ := hsp
    obtain ⟨env1, e1, e2, e3⟩ := hd ns hl
    obtain ⟨h1, h2, h3⟩ := h cdv A outer s H E hr
    refine SSs.of (pss_cons (ps_ss _ st1) (pss_one (ps_ret (pe_disp (pps_cons pe_str h2 (pps_cons pe_str pe_int (pps_cons pe_str (pe_se _ ec) (pps_cons pe_str pe_int pps_nil)))) rfl rfl (by simp) (by show 4 ≤ 15; omega))))) ?_
    refine h1 ⟨H, fun _ => none, none⟩ (envS N.length ns) ds0 (start N [.ref a]) (fun _ => none) H _ _ (sr_startS N hq tb) e1 _ fun σ1 Hf1 H1 s1 S1 => ?_
    intro p np
    obtain ⟨l, el, nfl, hl0, ndl, tl⟩ := S1.slots 1 _ e2
    have nf := sub_none S1 np
    have Fp := S1.fre np
    have S2 := S1.hp (o := .dK []) nf Fp
    refine ⟨_, el, ?_⟩
    refine h3 _ _ _ _ _ _ _ _ S2 e3 _ fun c Hf3 H3 g3 S3 n3 nf3 t3 => ?_
    have np3 : H3 p = some (.dK []) := g3.at upd_same Fp.nd
    refine ⟨np3, [(.inr "large", .ref l), (.inr "rest", .int 0), (.inr "cells", .ref c), (.inr "turn", .int 0)], rfl, by show 4 ≤ 15; omega, ?_⟩
    cases tl with
    | lst hl1 rl =>
      cases t3 with
      | lst hc1 rc =>
        have hlp : l ≠ p := fun z => by subst z; rw [np] at hl1; cases hl1
        have hcp : c ≠ p := fun z => by subst z; rw [upd_same] at n3; cases n3
        have hl3 : H3 l = _ := g3.at (show upd H1 p (.dK []) l = _ by rw [upd_ne hlp]; exact hl1) ndl
        have hcl : c ≠ l := fun z => by
          subst z
          rw [upd_ne hlp, hl1] at n3; cases n3
        cases rpl_ints rl
        cases rpl_ints rc
        refine q p l c _ (fun b o e => ?_) (S3.tk.trans (.upd fun u e => by rw [np3] at e; cases e; exact ⟨(by intro _ z; cases z), (by intro _ z; cases z)⟩)) Fp.h0 hl0 (S2.fre n3).h0 hlp.symm hcp hcl ?_ (by rw [upd_ne hlp]; exact hl3) (by rw [upd_ne hcp]; exact hc1)
        · obtain ⟨o', e', n'⟩ := S3.base b o e
          exact ⟨o', by rw [upd_ne (ne_of_none e Fp.h0), e'], n' nodr⟩
        · rw [upd_same]
          rfl⟩), hm, F.kp, hb, .nil⟩
/-- the first statement of a law -/
theorem law_start {X : Cx} {sn dn : Str} {j : Nat} {a : Addr} {ns : List Int} {H : Hp} {rest : List Stmt} {d : DenS} {ds' : DS} {Dd : Ends} {p1 p2 p3 p4 p5 : Pos} (hN : X.N.Nodup) (c : Cal X.prog X.w X.K X.mg X.base k x (spB large cells X.K) []) (hr : Room j X.A) (hk : k ≤ j)
    (hi : X.N[1]? = some dn) (h0 : PE X (.Name sn p3) (tVar 0)) (hx : Loc X.env.scope dn) (hf : X.fn dn = true ∨ X.env.scope.names.lookup dn = some .local) (hg : Gl X x)
    (hs : swapsWith (.Call (.Name x p2) [.Name sn p3] [] p4) (some (.Name dn p1)) p5.line X.env = pure false) (hdb : (x == ("__debug__" : Str)) = false)
    (he : starEach [.Name sn p3] X.env = (false, eval (.Name sn p3) X.env) :: starEach [] X.env) (hpl : (backTo p4 (starEach [] X.env)).any (·.1) = false)
    (hq : SqL X.K H a (ns.map V.int)) (tb : LamX.TabS H (PTb X.K) QN) (hl : ns.length ≤ 63) (hrest : EvSs X rest d) (hd : d ((envS X.N.length ns).set 1 (some .draw)) ⟨large ns, 0, cells ns, 0⟩ = some (.rt (.bool true), ds'))
    (ht : ∀ H', Dd.rt (.bl true) H') : SSs X (.Assign [.Name dn p1] (.Call (.Name x p2) [.Name sn p3] [] p4) p5 :: rest) Dd (start X.N [.ref a]) H := by
  have hN1 : 1 < X.N.length := (List.getElem?_eq_some_iff.mp hi).1
  refine SSs.of (pss_cons (ps_set hN hi hx (pe_c c hr hk hg (pa_cons h0 pa_nil he) hdb he hpl) hs hf) (pss_ss X rest)) ?_
  refine ⟨_, rfl, rfl, a, ns, rfl, hq, hl, tb, fun y l cc H' sm tkk hy hll hc n1 n2 n3 ey el ec => ?_⟩
  have S0 := sr_startS (ds := ⟨large ns, 0, cells ns, 0⟩) X.N hq tb
  have nd : ∀ b, H b ≠ none → ¬ (Bs.mk H (fun _ => none) (some (y, l, cc))).isDr b := fun b hb ⟨_, _, _, e, z⟩ => by
    cases e
    rcases z with rfl | rfl
    · exact hb hy
    · exact hb hll
  refine hrest ⟨H, fun _ => none, some (y, l, cc)⟩ _ _ _ (upd (fun _ => none) cc (.lst ((cells ns).map V.int))) H' _ _ ⟨?_, ?_, ?_, ?_, ?_, ?_, ?_, ?_, tkk, tb, by
    obtain ⟨ps, h, _⟩ := tb
    exact upd_ne (fun z => by rw [z, hc] at h; cases h)⟩ hd _ fun v _ _ _ H2 _ _ r => ?_
  · intro b o e
    by_cases z : b = cc
    · subst z; rw [upd_same] at e; cases e; exact ec
    · rw [upd_ne z] at e; cases e
  · exact fun b o e => by
      obtain ⟨o', e1, e2⟩ := sm b o e
      exact ⟨o', e1, fun _ => e2⟩
  · exact fun _ _ e => by cases e
  · intro b e
    by_cases z : b = cc
    · subst z; exact .inr (.inl hc)
    · rw [upd_ne z] at e; exact absurd rfl e
  · intro i sl e
    by_cases z : 1 = i
    · subst z
      rw [List.getElem?_set_self (by unfold envS; simp; omega)] at e
      cases e
      exact ⟨y, l, cc, rfl, List.getElem?_set_self (by unfold start; simp; omega)⟩
    · rw [List.getElem?_set_ne z] at e
      have q := S0.slots i sl e
      cases sl with
      | scr ms =>
        obtain ⟨b, e1, n, e2⟩ := q
        exact ⟨b, by rw [List.getElem?_set_ne z]; exact e1, fun o eo => nd b (fun z => by have eo : H b = some o := eo; rw [z] at eo; cases eo), e2⟩
      | val d => obtain ⟨v, e1, r⟩ := q; unfold envS at e; cases i with
        | zero => cases e
        | succ i =>
          have e : (List.replicate (X.N.length - 1) (none : Option Sl))[i]? = some (some (.val d)) := e
          rw [List.getElem?_replicate] at e
          split at e <;> cases e
      | own d => unfold envS at e; cases i with
        | zero => cases e
        | succ i =>
          have e : (List.replicate (X.N.length - 1) (none : Option Sl))[i]? = some (some (.own d)) := e
          rw [List.getElem?_replicate] at e
          split at e <;> cases e
      | draw => unfold envS at e; cases i with
        | zero => cases e
        | succ i =>
          have e : (List.replicate (X.N.length - 1) (none : Option Sl))[i]? = some (some .draw) := e
          rw [List.getElem?_replicate] at e
          split at e <;> cases e
  · intro i j' d e b z h1
    by_cases y1 : 1 = i
    · subst y1
      rw [List.getElem?_set_self (by unfold envS; simp; omega)] at h1
      cases h1
    · rw [List.getElem?_set_ne y1] at h1
      unfold envS at h1
      cases i with
      | zero => cases h1
      | succ i =>
        have h1 : (List.replicate (X.N.length - 1) (none : Option Sl))[i]? = some (some (.own d)) := h1
        rw [List.getElem?_replicate] at h1
        split at h1 <;> cases h1
  · intro x' l' c' e
    cases e
    exact ⟨ey, el, by rw [upd_ne n2.symm], by rw [upd_ne n3.symm], upd_same⟩
  · have := S0.len
    simpa using this
  · cases r
    exact ht _
end
end L2.Dn
set_option Elab.async false
set_option linter.all false
set_option maxRecDepth 100000
/-! a == {k: v}, the key any tuple of ints -/
namespace L2.Dn
open PySem PySem.Spec PyProof.Rows C8
def D1O (P : Program) (w : World) (p b : Addr) (ks : List Key) (y : V) : HO := .ext fun h => ∃ o es ep u, h.get? p = some o ∧ o.ExactDict ∧ o.data = .dict es ep ∧ es.toList = [(ks, b, u)].map (entryOfKey (tupleKind (mixKind P w))) ∧ RelV y u
theorem key_ofR {P : Program} {w : World} {H : Hp} {h : Heap} {a : Addr} {ks : List Key} (ok : HOk P w H h) (e : Rd H a (.tup (ks.map kV))) : (tupleKind (mixKind P w)).is h ks a := by
  obtain ⟨_, its, r, o, h1, h2, n, h3⟩ := (show ObjOk P w H h a (.tup (ks.map kV)) from rd_of ok e)
  exact ⟨o, its.toArray, n, h1, h2, h3, by simpa using items_are r⟩
section
variable {X : Cx} {pos : Pos} {k v : Expr} {tk tv : TE}
def tDisp1P (X : Cx) (tk tv : TE) : TE := fun σ H Q => ∀ p, H p = none → (p == sysModules) = false → tk σ (upd H p (.dT [])) fun x H1 => tv σ H1 fun y H2 => ∃ (ks : List Key) (b : Addr), x = .ref b ∧ Rd H2 b (.tup (ks.map kV)) ∧ H2 p = some (.dT []) ∧ Q (.ref p) (upd H2 p (D1O X.prog X.w p b ks y))
theorem pe_disp1P (hu : X.A.units + 8 < cLine) (hk : PE X k tk) (hv : PE X v tv) : PE X (.Dict [some k] [v] pos) (tDisp1P X tk tv) := by
  refine ⟨fun pins s σ H Q I q => ?_⟩
  have hn := I.hok.fresh (Nat.le_refl s.heap.objs.size)
  have hsm : (s.heap.objs.size == sysModules) = false := by
    have := I.big
    exact beq_eq_false_iff_ne.mpr (fun z => by rw [z] at this; exact Nat.lt_irrefl _ this)
  have I1 := I.laid (a := s.heap.objs.size) (o := .dT []) (h' := s.heap.push { cls := .type "dict", data := .dict #[] }) (t' := s.toks) (fun _ _ q => Heap.get?_push_of_some _ q) (Nat.le_refl _) (dt_empty s.heap I.big)
  rw [arm_eval_Dict, zip_pairTrees [some k] [v] X.env pos rfl rfl, dictDisplay_pairs (pairTrees [some k] [v] X.env pos) (by simp [pairTrees]) (by simp [pairTrees])]
  refine wpAny_bind (wpAny_standAt (wpAny_bind (wpAny_subDictH (knd := tupleKind (mixKind X.prog X.w)) (show X.A.units < cLine by omega) (by simp [pairTrees]) ?_)))
  refine pairTrees_cons_walk (thn (hk.run pins _ σ _ _ I1 (q _ hn hsm)) fun u s1 ⟨x, H1, I2, rx, q1⟩ => thn (hv.run pins s1 σ H1 _ I2 q1) fun u2 s2 ⟨y, H2, I3, ry, ks, b, ex, hb, hp, q2⟩ => pairTrees_nil_walk ?_)
  subst ex
  cases (show u = Value.ref b from rx)
  obtain ⟨z, hd, vs0, r0, dd⟩ := dt_of I3.hok hp
  cases r0
  refine ⟨[(ks, b, u2)], ⟨rfl, rfl, key_ofR I3.hok hb, True.intro⟩, dd, fun h' tk' dd' hs => wpAny_pure ⟨.ref s.heap.objs.size, _, ?_, rfl, q2⟩⟩
  have e1 : storedAllH ([] : List (List Key × Addr × Value)) [(ks, b, u2)] = [(ks, b, u2)] := by simp [storedAllH, storedH, atKey]
  rw [e1] at dd'
  obtain ⟨ob, es, ep, hq, h2, h3, h4, _, h5⟩ := dd'
  refine d_write I3 (by rw [hp]; exact True.intro) hs ⟨ob, hq⟩ ⟨⟨ob, es, ep, u2, hq, h2, h3, h4, ry⟩, ⟨ob, hq⟩, ?_⟩
  rintro g1 g2 ⟨o, es, ep, u, a1, a2, a3, a4, a5⟩ kk
  exact ⟨o, es, ep, u, kk _ a1, a2, a3, a4, a5⟩
def rEq1 (X : Cx) (ne : Bool) : R2 := fun x y H Q => ∃ a p b ks kvs Hf k' i r, x = .ref a ∧ y = .ref p ∧ (p == sysModules) = false ∧ Rd H a (.dT kvs) ∧ H p = some (D1O X.prog X.w p b ks (.int i)) ∧ Rd H b (.tup (ks.map kV)) ∧ RpT Hf kvs k' ∧ eqDT k' [(ks, .int i)] = some r ∧ Q (.bl (xor ne r)) H
theorem op_eq1 (ne : Bool) (hu : X.A.units + 8 < cLine) : OpR X (compareOp (if ne then .NotEq else .Eq)) (rEq1 X ne) := by
  intro pins s σ H x y v u Q I rx ry ⟨a, p, b, ks, kvs, Hf, k', i, r, ex, ey, yb, ha, hp, hb, hk, er, q⟩
  subst ex ey
  obtain rfl : v = Value.ref a := rx
  obtain rfl : u = Value.ref p := ry
  obtain ⟨_, ya, xa, ra, da⟩ := dt_rd I.hok ha
  obtain ⟨⟨o, es, ep, u, a1, a2, a3, a4, a5⟩, _⟩ := (show ObjOk X.prog X.w H s.heap p (D1O X.prog X.w p b ks (.int i)) from I.hok p _ hp)
  have kb := key_ofR I.hok hb
  have db : s.heap.DictOfH (tupleKind (mixKind X.prog X.w)) p [(ks, b, u)] := ⟨o, es, ep, a1, a2, a3, a4, fun x hx => by
    rcases List.mem_cons.mp hx with rfl | hx
    · exact kb
    · exact (nomatch hx), by simp⟩
  have e1 : xa.length = k'.length := (Paired.length ra).symm.trans hk.length
  have rb : KT (fun _ => some (.tup (ks.map kV))) [(ks, V.int i)] [(ks, b, u)] := .cons ⟨rfl, rfl, a5⟩ .nil
  have hl : RpT (fun _ => none) [(ks, V.int i)] [(ks, D.int i)] := .cons (.int i) .nil
  unfold eqDT at er
  cases hq : Nat.beq k'.length [(ks, D.int i)].length with
  | false =>
    rw [hq] at er
    cases er
    have hne : xa.length ≠ [(ks, b, u)].length := fun z => by
      rw [e1] at z
      have z : k'.length = 1 := z
      rw [z] at hq
      cases hq
    refine eqDH (knd := tupleKind (mixKind X.prog X.w)) (r := false) ne (show X.A.in1.units < cLine by show X.A.units + 1 < cLine; omega) ya yb da db (by omega) (fun z => absurd z hne) ⟨.bl _, H, I.tok _, rfl, ?_⟩
    have : (xa.length == [(ks, b, u)].length && false) = false := by simp
    rw [this]
    exact q
  | true =>
    rw [hq] at er
    have heq : xa.length = [(ks, b, u)].length := by rw [e1]; exact Nat.eq_of_beq_eq_true hq
    refine eqDH (knd := tupleKind (mixKind X.prog X.w)) (r := r) ne (show X.A.in1.units < cLine by show X.A.units + 1 < cLine; omega) ya yb da db (by omega) (fun _ => eqEnt_hits hl rb hk ra er) ⟨.bl _, H, I.tok _, rfl, ?_⟩
    have : (xa.length == [(ks, b, u)].length && r) = r := by rw [heq]; simp
    rw [this]
    exact q
def keyOfP? : D → Option (List Key)
  | .tuple ds => keys? ds
  | .ptup ds => keys? ds
  | _ => none
def dEq1 (ne : Bool) (f fk fv : Den) : Den := fun env ds => bnd (f env ds) fun x s => bnd (fk env s) fun k s1 => bnd (fv env s1) fun v s2 => match x, keyOfP? k, v with
  | .dT kvs, some ks, .int i => (match eqDT kvs [(ks, .int i)] with
    | some b => some (.bool (xor ne b), s2)
    | none => none)
  | _, _, _ => none
theorem keyOfP_rp {Hf : Hp} {v : V} {d : D} {k : List Key} (r : Rp Hf v d) (h : keyOfP? d = some k) : ∃ b, v = .ref b ∧ Rd Hf b (.tup (k.map kV)) := by
  cases d with
  | tuple ds =>
    cases r with
    | tup e t =>
      have := keys_rp t (show keys? ds = some k from h)
      subst this
      exact ⟨_, rfl, .inl e⟩
  | ptup ds =>
    cases r with
    | ptup e hd t =>
      have := keys_rp t (show keys? ds = some k from h)
      subst this
      exact ⟨_, rfl, .inr ⟨_, e⟩⟩
  | _ => cases h
theorem rd_sub {H H' : Hp} {a : Addr} {o : HO} (h : Rd H a o) (s : Same H H') : Rd H' a o := by
  rcases h with h | ⟨u, h⟩
  · exact .inl (s _ _ h)
  · exact .inr ⟨u, s _ _ h⟩
theorem eq1_core {a : Expr} {f fk fv : Den} (ne : Bool) (hu : X.A.units + 8 < cLine) (ha : EvR X a f) (hk : EvF X k fk) (hv : EvF X v fv) {B env ds σ Hf H d ds'} {Q : VK} (S : SR B X.K env ds σ Hf H) (hf : dEq1 ne f fk fv env ds = some (d, ds'))
    (q : ∀ b Hf' H', d = .bool b → Gr B Hf H Hf' H' → SR B X.K env ds' σ Hf' H' → Q (.bl b) H') : tOp (rEq1 X ne) (SE X a) (tDisp1P X (SE X k) (SE X v)) σ H Q := by
  obtain ⟨dx, s1, e1, hf1⟩ := bnd_eq hf
  obtain ⟨dk, s2, e2, hf2⟩ := bnd_eq hf1
  obtain ⟨dv, s3, e3, hf3⟩ := bnd_eq hf2
  clear hf hf1 hf2
  split at hf3
  · rename_i kvs ks i ek
    split at hf3
    · rename_i b eb
      cases hf3
      refine ha B env ds σ Hf H _ _ S e1 _ fun x Hf1 H1 g1 S1 r1 => ?_
      intro p np hsm
      have nf := sub_none S1 np
      have F := S1.fre np
      have S2 := S1.hp (o := .dT []) nf F
      refine hk B env s1 σ Hf1 (upd H1 p (.dT [])) _ _ S2 e2 _ fun y Hf2 H2 g2 S2' r2 => hv B env s2 σ Hf2 H2 _ _ S2' e3 _ fun z Hf3 H3 g3 S3 r3 => ?_
      have gg := g2.trans g3
      have hp3 : H3 p = some (.dT []) := gg.at upd_same F.nd
      have nf3 : Hf3 p = none := gg.noF nf (by rw [upd_same]; simp) (by intro xs z; rw [upd_same] at z; cases z)
      obtain ⟨b2, rfl, hb⟩ := keyOfP_rp r2 ek
      have hb3 : Rd Hf3 b2 _ := rd_sub hb g3.ff
      have hb4 : Rd H3 b2 _ := rd_sub hb3 S3.sub
      cases r3
      refine ⟨ks, b2, rfl, hb4, hp3, ?_⟩
      have gx : Gr B Hf1 H1 Hf3 (upd H3 p (D1O X.prog X.w p b2 ks (.int i))) := ((Gr.refl.hp np).trans gg).hp np
      have S4 := S3.hp (o := D1O X.prog X.w p b2 ks (.int i)) nf3 F
      have r4 := r1.up gx
      obtain ⟨a, kv, rfl, h1, h2⟩ := r4.dT S4.sub
      refine ⟨a, p, b2, ks, kv, Hf3, kvs, i, b, rfl, rfl, hsm, h1, upd_same, rd_sub hb3 S4.sub, h2, eb, q _ _ _ rfl (g1.trans gx) S4⟩
    · cases hf3
  · cases hf3
theorem evf_eq1 {a : Expr} {f fk fv : Den} {pos' : Pos} (hu : X.A.units + 8 < cLine) (ha : EvR X a f) (hk : EvF X k fk) (hv : EvF X v fv) : EvF X (.Compare a [.Eq] [.Dict [some k] [v] pos] pos') (dEq1 false f fk fv) := fun B env ds σ Hf H d ds' S hf Q q =>
  SE.of (pe_cmpR (op_eq1 false hu) (pe_se X a) (pe_disp1P hu (pe_se X k) (pe_se X v)) (nomark _)) (eq1_core false hu ha hk hv S hf fun b Hf' H' e g S' => by subst e; exact q _ _ _ g S' (.bl b))
theorem evf_ne1 {a : Expr} {f fk fv : Den} {pos' : Pos} (hu : X.A.units + 8 < cLine) (ha : EvR X a f) (hk : EvF X k fk) (hv : EvF X v fv) : EvF X (.Compare a [.NotEq] [.Dict [some k] [v] pos] pos') (dEq1 true f fk fv) := fun B env ds σ Hf H d ds' S hf Q q =>
  SE.of (pe_cmpR (op_eq1 true hu) (pe_se X a) (pe_disp1P hu (pe_se X k) (pe_se X v)) (nomark _)) (eq1_core true hu ha hk hv S hf fun b Hf' H' e g S' => by subst e; exact q _ _ _ g S' (.bl b))
theorem evt_ne1 {a : Expr} {f fk fv : Den} {pos' : Pos} (hu : X.A.units + 8 < cLine) (ha : EvR X a f) (hk : EvF X k fk) (hv : EvF X v fv) : EvT X (.Compare a [.NotEq] [.Dict [some k] [v] pos] pos') (dTest (dEq1 true f fk fv)) := fun B env ds σ Hf H d ds' S hf Q q =>
  STt.of (pt_cmpR (op_eq1 true hu) (pe_se X a) (pe_disp1P hu (pe_se X k) (pe_se X v)) (nomark _)) (eq1_core true hu ha hk hv S (dTest_eq hf) fun b Hf' H' e g S' => by cases e; exact ⟨_, rfl, q _ _ g S'⟩)
theorem evt_eq1 {a : Expr} {f fk fv : Den} {pos' : Pos} (hu : X.A.units + 8 < cLine) (ha : EvR X a f) (hk : EvF X k fk) (hv : EvF X v fv) : EvT X (.Compare a [.Eq] [.Dict [some k] [v] pos] pos') (dTest (dEq1 false f fk fv)) := fun B env ds σ Hf H d ds' S hf Q q =>
  STt.of (pt_cmpR (op_eq1 false hu) (pe_se X a) (pe_disp1P hu (pe_se X k) (pe_se X v)) (nomark _)) (eq1_core false hu ha hk hv S (dTest_eq hf) fun b Hf' H' e g S' => by cases e; exact ⟨_, rfl, q _ _ g S'⟩)
end
end L2.Dn
set_option Elab.async false
set_option linter.all false
set_option maxRecDepth 100000
/-! the law's def: its promise; the draws of a script -/
namespace L2.Dn
open PySem PySem.Spec PyProof.Rows C8
def iab (i : Int) : Int := if i < 0 then -i else i
def bgLarge (ns : List Int) : List Int := (ns.filter fun i => decide (1000000000000000000 ≤ iab i)).map fun i => iab i - 1000000000000000000
def bgCells (ns : List Int) : List Int := ns.map iab
def N__law_begun : List Str := ["script", "large", "cell"]
def d1_begun : DenS := dSet 1 true (dLc (iScr 0) [2] (gNm 2) (dTest (d2 gGe (dB gAbs (aCons (dRd 2) (aNil))) (d2 gPow (dC (.int 10)) (dC (.int 18))))) (d2 L2.Dn.gSub (dB gAbs (aCons (dRd 2) (aNil))) (d2 gPow (dC (.int 10)) (dC (.int 18)))))
def c1_begun : Den := dLc (iScr 0) [2] (gNm 2) (tYesD) (dB gAbs (aCons (dRd 2) (aNil)))
theorem pow_18 : d2 gPow (dC (.int 10)) (dC (.int 18)) = dC (.int 1000000000000000000) := by
  funext env ds
  rfl
theorem beg_test (a b : Option Sl) (i : Int) (ds : DS) : dTest (d2 gGe (dB gAbs (aCons (dRd 2) aNil)) (dC (.int 1000000000000000000))) [a, b, some (.val (.int i))] ds = some (decide (1000000000000000000 ≤ iab i), ds) := rfl
theorem beg_elt (a b : Option Sl) (i : Int) (ds : DS) : d2 L2.Dn.gSub (dB gAbs (aCons (dRd 2) aNil)) (dC (.int 1000000000000000000)) [a, b, some (.val (.int i))] ds = some (.int (iab i - 1000000000000000000), ds) := rfl
theorem beg_loop (a b : Option Sl) (ds : DS) : ∀ l : List Int, lcLoop (gNm 2) (dTest (d2 gGe (dB gAbs (aCons (dRd 2) aNil)) (dC (.int 1000000000000000000)))) (d2 L2.Dn.gSub (dB gAbs (aCons (dRd 2) aNil)) (dC (.int 1000000000000000000))) [a, b, none] (l.map D.int) ds = some ((bgLarge l).map D.int, ds)
  | [] => rfl
  | i :: r => by
    have ih := beg_loop a b ds r
    have e : gNm 2 (.int i) [a, b, none] = some [a, b, some (.val (.int i))] := rfl
    rw [List.map_cons, lcLoop, e]
    dsimp only
    rw [beg_test]
    unfold bnd
    dsimp only
    by_cases h : 1000000000000000000 ≤ iab i
    · rw [decide_eq_true h]
      dsimp only
      rw [beg_elt]
      dsimp only
      rw [ih]
      have : bgLarge (i :: r) = (iab i - 1000000000000000000) :: bgLarge r := by
        unfold bgLarge
        rw [List.filter_cons_of_pos (by simpa using h)]
        rfl
      rw [this]
      rfl
    · rw [decide_eq_false h]
      dsimp only
      rw [ih]
      have : bgLarge (i :: r) = bgLarge r := by
        unfold bgLarge
        rw [List.filter_cons_of_neg (by simpa using h)]
      rw [this]
theorem beg_loop2 (a b : Option Sl) (ds : DS) : ∀ l : List Int, lcLoop (gNm 2) tYesD (dB gAbs (aCons (dRd 2) aNil)) [a, b, none] (l.map D.int) ds = some ((bgCells l).map D.int, ds)
  | [] => rfl
  | i :: r => by
    have ih := beg_loop2 a b ds r
    have e : gNm 2 (.int i) [a, b, none] = some [a, b, some (.val (.int i))] := rfl
    have e2 : dB gAbs (aCons (dRd 2) aNil) [a, b, some (.val (.int i))] ds = some (.int (iab i), ds) := rfl
    have e3 : tYesD [a, b, some (.val (.int i))] ds = some (true, ds) := rfl
    rw [List.map_cons, lcLoop, e]
    dsimp only
    rw [e3]
    unfold bnd
    dsimp only
    rw [e2]
    dsimp only
    rw [ih]
    rfl
theorem bgLarge_len (ns : List Int) : (bgLarge ns).length ≤ ns.length := by
  unfold bgLarge
  rw [List.length_map]
  exact List.length_filter_le _ _
theorem begun_den (ns : List Int) (hl : ns.length ≤ 63) : ∃ env1, d1_begun (envS N__law_begun.length ns) ds0 = some (.nx env1, ds0) ∧ env1[1]? = some (some (.own (.list ((bgLarge ns).map D.int)))) ∧ c1_begun env1 ds0 = some (.list ((bgCells ns).map D.int), ds0) := by
  refine ⟨[some (.scr ns), some (.own (.list ((bgLarge ns).map D.int))), none], ?_, rfl, ?_⟩
  · unfold d1_begun
    rw [pow_18]
    have e : dLc (iScr 0) [2] (gNm 2) (dTest (d2 gGe (dB gAbs (aCons (dRd 2) aNil)) (dC (.int 1000000000000000000)))) (d2 L2.Dn.gSub (dB gAbs (aCons (dRd 2) aNil)) (dC (.int 1000000000000000000))) [some (.scr ns), none, none] ds0 = some (.list ((bgLarge ns).map D.int), ds0) := by
      unfold dLc
      show bnd (some (ns.map D.int, ds0)) _ = _
      unfold bnd
      dsimp only
      rw [show wipeE [some (Sl.scr ns), none, none] [2] = [some (.scr ns), none, none] from rfl, beg_loop]
      dsimp only
      rw [if_pos]
      rw [List.length_map]
      have := bgLarge_len ns
      omega
    show bnd (dLc _ _ _ _ _ [some (.scr ns), none, none] ds0) _ = _
    rw [e]
    rfl
  · show dLc (iScr 0) [2] (gNm 2) (tYesD) (dB gAbs (aCons (dRd 2) (aNil))) _ _ = _
    unfold dLc
    show bnd (some (ns.map D.int, ds0)) _ = _
    unfold bnd
    dsimp only
    rw [show wipeE [some (Sl.scr ns), some (Sl.own (D.list ((bgLarge ns).map D.int))), none] [2] = [some (.scr ns), some (.own (.list ((bgLarge ns).map D.int))), none] from rfl, beg_loop2]
    dsimp only
    rw [if_pos]
    rw [List.length_map]
    unfold bgCells
    rw [List.length_map]
    omega
/-- the law's promise -/
def spL (K : PySem.W.Frag) : Sp := fun vs H Q _ => vs.length = 1 ∧ ∃ (a : Addr) (ns : List Int), vs = [.ref a] ∧ SqL K H a (ns.map V.int) ∧ ns.length ≤ 63 ∧ LamX.TabS H (PTb K) QN ∧ ∀ H', Q (.bl true) H'
/-- the plain law: what the def's denotation answers -/
def LawHolds (N : List Str) (d : DenS) : Prop := ∀ ns : List Int, ns.length ≤ 63 → ∃ ds', d ((envS N.length ns).set 1 (some .draw)) ⟨bgLarge ns, 0, bgCells ns, 0⟩ = some (.rt (.bool true), ds')
structure LawSt (X : Cx) (x sn dn : Str) (p1 p2 p3 p4 p5 : Pos) : Prop where
  h0 : PE X (.Name sn p3) (tVar 0)
  hx : Loc X.env.scope dn
  hf : X.fn dn = true ∨ X.env.scope.names.lookup dn = some .local
  hg : Gl X x
  hs : swapsWith (.Call (.Name x p2) [.Name sn p3] [] p4) (some (.Name dn p1)) p5.line X.env = pure false
  he : starEach [.Name sn p3] X.env = (false, eval (.Name sn p3) X.env) :: starEach [] X.env
  hpl : (backTo p4 (starEach [] X.env)).any (·.1) = false
section
variable {P : Program} {w : World} {K : PySem.W.Frag} {mg : Str → Option Value} {base : Heap} {x bx sn dn : Str} {params : Arguments} {scope : Scope} {f : Addr} {fd : FuncData} {N ps : List Str} {k j : Nat}
theorem calL {rest : List Stmt} {d : DenS} {p1 p2 p3 p4 p5 : Pos} (F : FunD K x x params (.Assign [.Name dn p1] (.Call (.Name bx p2) [.Name sn p3] [] p4) p5 :: rest) scope [] [] f fd) (S : FnScope N ps scope) (hn : ps.length = 1) (hi : N[1]? = some dn)
    (c : Cal P w K mg base j bx (spB bgLarge bgCells K) []) (hk : j ≤ k) (hd : LawHolds N d)
    (h : ∀ (cdv : Value) (A : Around) (outer : List Env) (s : Shared) (H : Hp) (E : XK), Room k (A.deeper (envOfC x scope s.heap.objs.size f cdv)) →
      LawSt (cxB P w K mg base N x scope f cdv A outer s H E) bx sn dn p1 p2 p3 p4 p5 ∧ EvSs (cxB P w K mg base N x scope f cdv A outer s H E) rest d)
    (hdb : (bx == ("__debug__" : Str)) = false := by decide) : FnOk P w K mg base CX0 (k + 1) f fd ps (spL K) :=
  F.ok S (fun vs H Q E h => h.1.trans hn.symm) (fun cdv A outer s H vs Q E hr hsp => ⟨SSs (cxB P w K mg base N x scope f cdv A outer s H E) _, PSs.nox (pss_ss _ _), by
    obtain ⟨_, a, ns, rfl, hq, hl, tb, q⟩ := hsp
    obtain ⟨ds', e⟩ := hd ns hl
    obtain ⟨⟨h0, hx, hf, hg, hs, he, hpl⟩, hr2⟩ := h cdv A outer s H E hr
    exact law_start S.nd c hr hk hi h0 hx hf hg hs hdb he hpl hq tb hl hr2 e q⟩)
end
end L2.Dn
set_option Elab.async false
set_option linter.all false
set_option maxRecDepth 100000
/-! the draws: a number that is taken lies below its bound-/
namespace L2.Dn
open PySem PySem.Spec PyProof.Rows C8
def N__law_mixed : List Str := ["draw", "lap", "found", "great", "blend", "cell"]
def d__law_mixed : DenS := dSeq (dSetTn 0 (d2 gAdd (dTurn 0) (dC (.int 1)))) (dSeq (dPar 1 2 false false (dB gInt1 (aCons (dTurn 0) (aNil))) (dC (.int 0))) (dSeq (dFor (dItems (dLst (aCons (dC (.int 2147483647)) (aCons (dC (.int 2147483629)) (aCons (dC (.int 2147483587)) (aNil)))))) (gNm 3) (dSeq (dSet 4 false (d2 gMod (d2 gAdd (d2 gMul (dRd 1) (dC (.int 48271))) (d2 gDiv (dRd 3) (dC (.int 11)))) (dRd 3))) (dSeq (dFor (dItems (dCells 0)) (gNm 5) (dSeq (dSet 4 false (d2 gMod (d2 gAdd (d2 gAdd (d2 gMul (dRd 4) (dC (.int 69621))) (dB gInt1 (aCons (dRd 5) (aNil)))) (dRd 1)) (dRd 3))) (dNx))) (dSeq (dSet 2 false (d2 gAdd (d2 gMul (dRd 2) (dC (.int 2147483659))) (d2 gMod (d2 gPow (dRd 4) (dC (.int 5))) (dRd 3)))) (dNx))))) (dSeq (dRet (dVar 2)) (dNx))))
def f__law_mixed : List D → DS → Option (D × DS) := fnD N__law_mixed.length d__law_mixed
def N__law_take : List Str := ["draw", "amount", "found"]
def d__law_take : DenS := dSeq (dIfS (dTest (d2 gEqU (dRest 0) (dC (.int 0)))) (dSeq (dSetR 0 (dIf (tLarge 0) (dPopL 0) (dCallD 0 0 f__law_mixed (aNil)))) (dNx)) (dNx)) (dSeq (dSet 2 false (d2 gMod (dB gInt1 (aCons (dRest 0) (aNil))) (dRd 1))) (dSeq (dSetR 0 (d2 gDiv (dB gInt1 (aCons (dRest 0) (aNil))) (dRd 1))) (dSeq (dRet (dVar 2)) (dNx))))
def f__law_take : List D → DS → Option (D × DS) := fnD N__law_take.length d__law_take
def N__law_pick : List Str := ["draw", "some"]
def d__law_pick : DenS := dSeq (dRet (d2 gIx (dRd 1) (dCallD 0 1 f__law_take (aCons (dB gLen (aCons (dRd 1) (aNil))) (aNil))))) (dNx)
def f__law_pick : List D → DS → Option (D × DS) := fnD N__law_pick.length d__law_pick
def N__law_shuffled : List Str := ["draw", "some", "rest", "found"]
def d__law_shuffled : DenS := dSeq (dPar 2 3 true true (dB gListS (aCons (dRd 1) (aNil))) (dLst (aNil))) (dSeq (whLoop (dTest (d2 gNeU (dRd 2) (dLst (aNil)))) (dSeq (dAppPop 3 2 (dCallD 0 1 f__law_take (aCons (dB gLen (aCons (dRd 2) (aNil))) (aNil)))) (dNx)) 1000) (dSeq (dFrz 3 (dRet (dVar 3))) (dNx)))
def f__law_shuffled : List D → DS → Option (D × DS) := fnD N__law_shuffled.length d__law_shuffled
def N__law_sequence : List Str := ["draw", "wires"]
def d__law_sequence : DenS := dSeq (dRet (dB gPtup (aCons (dCallD 0 1 f__law_shuffled (aCons (dLstI (dRg2 (dC (.int 1)) (d2 gAdd (dRd 1) (dC (.int 1))))) (aNil))) (aNil)))) (dNx)
def f__law_sequence : List D → DS → Option (D × DS) := fnD N__law_sequence.length d__law_sequence
theorem d2_eq {g : D → D → Option D} {f h : Den} {env : En} {ds s s1 : DS} {a b c : D} (e1 : f env ds = some (a, s)) (e2 : h env s = some (b, s1)) (e3 : g a b = some c) : d2 g f h env ds = some (c, s1) := by
  unfold d2
  rw [e1]
  show bnd (h env s) _ = _
  rw [e2]
  show op1 (g a b) s1 = _
  rw [e3]
  rfl
theorem dSet_eq {i : Nat} {k : Bool} {f : Den} {env : En} {ds s : DS} {a : D} (e : f env ds = some (a, s)) : dSet i k f env ds = some (.nx (env.set i (some (mkSl k a))), s) := by
  unfold dSet
  rw [e]
  rfl
theorem dSeq_eq {f g : DenS} {env e : En} {ds s : DS} (h : f env ds = some (.nx e, s)) : dSeq f g env ds = g e s := by
  unfold dSeq
  rw [h]
theorem gMulR (i j : Int) (h : -(2 ^ 64) < j ∧ j < 2 ^ 64) : gMul (.int i) (.int j) = some (.int (i * j)) := if_pos (.inr h)
theorem gModR (i j : Int) (h : 0 < j) : gMod (.int i) (.int j) = some (.int (i % j)) := if_pos h
theorem gDivR (i j : Int) (h : 0 < j ∧ j < 2 ^ 80) : gDiv (.int i) (.int j) = some (.int (i / j)) := if_pos h
def mixIn : DenS := dSeq (dSet 4 false (d2 gMod (d2 gAdd (d2 gAdd (d2 gMul (dRd 4) (dC (.int 69621))) (dB gInt1 (aCons (dRd 5) (aNil)))) (dRd 1)) (dRd 3))) (dNx)
theorem mixIn_eq (l f g b c : Int) (s : DS) (hg : 0 < g) : mixIn [some .draw, some (.val (.int l)), some (.val (.int f)), some (.val (.int g)), some (.val (.int b)), some (.val (.int c))] s =
    some (.nx [some .draw, some (.val (.int l)), some (.val (.int f)), some (.val (.int g)), some (.val (.int ((b * 69621 + c + l) % g))), some (.val (.int c))], s) := by
  unfold mixIn
  rw [dSeq_eq (dSet_eq (d2_eq (d2_eq (d2_eq (d2_eq rfl rfl (gMulR b 69621 (by decide))) (b := .int c) rfl rfl) (b := .int l) rfl rfl) (b := .int g) rfl (gModR _ _ hg)))]
  rfl
theorem mix_cells (l f g : Int) (hg : 0 < g) (s : DS) : ∀ (cs : List Int) (b : Int) (x : Option Sl), ∃ b' x', forLoop (gNm 5) mixIn (cs.map D.int) [some .draw, some (.val (.int l)), some (.val (.int f)), some (.val (.int g)), some (.val (.int b)), x] s =
    some (.nx [some .draw, some (.val (.int l)), some (.val (.int f)), some (.val (.int g)), some (.val (.int b')), x'], s) ∧ (0 ≤ b ∧ b < g → 0 ≤ b' ∧ b' < g)
  | [], b, x => ⟨b, x, rfl, id⟩
  | c :: cs, b, x => by
    obtain ⟨b', x', h1, h2⟩ := mix_cells l f g hg s cs ((b * 69621 + c + l) % g) (some (.val (.int c)))
    refine ⟨b', x', ?_, fun _ => h2 ⟨Int.emod_nonneg _ (by omega), Int.emod_lt_of_pos _ hg⟩⟩
    rw [List.map_cons, forLoop]
    show (match mixIn [some .draw, some (.val (.int l)), some (.val (.int f)), some (.val (.int g)), some (.val (.int b)), some (.val (.int c))] s with | none => none | some (.nx e, s') => forLoop (gNm 5) mixIn (cs.map D.int) e s' | some (.ct e, s') => forLoop (gNm 5) mixIn (cs.map D.int) e s' | some (.bk e, s') => some (.nx e, s') | some (.rt d, s') => some (.rt d, s')) = _
    rw [mixIn_eq l f g b c s hg]
    exact h1
def mixOut : DenS := dSeq (dSet 4 false (d2 gMod (d2 gAdd (d2 gMul (dRd 1) (dC (.int 48271))) (d2 gDiv (dRd 3) (dC (.int 11)))) (dRd 3))) (dSeq (dFor (dItems (dCells 0)) (gNm 5) mixIn) (dSeq (dSet 2 false (d2 gAdd (d2 gMul (dRd 2) (dC (.int 2147483659))) (d2 gMod (d2 gPow (dRd 4) (dC (.int 5))) (dRd 3)))) (dNx)))
theorem mixOut_eq (l f g : Int) (s : DS) (hg : 0 < g ∧ g < 2147483648) (x4 x5 : Option Sl) : ∃ f' y4 y5, mixOut [some .draw, some (.val (.int l)), some (.val (.int f)), some (.val (.int g)), x4, x5] s =
    some (.nx [some .draw, some (.val (.int l)), some (.val (.int f')), some (.val (.int g)), y4, y5], s) := by
  obtain ⟨b', x', h1, h2⟩ := mix_cells l f g hg.1 s s.cells ((l * 48271 + g / 11) % g) x5
  have h3 := h2 ⟨Int.emod_nonneg _ (by omega), Int.emod_lt_of_pos _ hg.1⟩
  refine ⟨f * 2147483659 + (b' ^ 5 % g), some (.val (.int b')), x', ?_⟩
  unfold mixOut
  refine (dSeq_eq (dSet_eq (d2_eq (d2_eq (d2_eq rfl rfl (gMulR l 48271 (by decide))) (d2_eq rfl rfl (gDivR g 11 (by decide))) rfl) (b := .int g) rfl (gModR _ _ hg.1)))).trans ?_
  have e : dFor (dItems (dCells 0)) (gNm 5) mixIn [some .draw, some (.val (.int l)), some (.val (.int f)), some (.val (.int g)), some (.val (.int ((l * 48271 + g / 11) % g))), x5] s = _ := h1
  refine (dSeq_eq (f := dFor (dItems (dCells 0)) (gNm 5) mixIn) e).trans ?_
  have hp : gPow (.int b') (.int 5) = some (.int (b' ^ 5)) := if_pos ⟨by decide, by decide, by omega⟩
  refine (dSeq_eq (dSet_eq (d2_eq (d2_eq rfl rfl (gMulR f 2147483659 (by decide))) (d2_eq (d2_eq rfl rfl hp) (b := .int g) rfl (gModR _ _ hg.1)) rfl))).trans ?_
  rfl
theorem mixed_ok (ds : DS) : ∃ m ds', f__law_mixed [] ds = some (.int m, ds') := by
  obtain ⟨f1, a4, a5, e1⟩ := mixOut_eq (ds.turn + 1) 0 2147483647 { ds with turn := ds.turn + 1 } (by decide) none none
  obtain ⟨f2, b4, b5, e2⟩ := mixOut_eq (ds.turn + 1) f1 2147483629 { ds with turn := ds.turn + 1 } (by decide) a4 a5
  obtain ⟨f3, c4, c5, e3⟩ := mixOut_eq (ds.turn + 1) f2 2147483587 { ds with turn := ds.turn + 1 } (by decide) b4 b5
  refine ⟨f3, { ds with turn := ds.turn + 1 }, ?_⟩
  have ef : dFor (dItems (dLst (aCons (dC (.int 2147483647)) (aCons (dC (.int 2147483629)) (aCons (dC (.int 2147483587)) (aNil)))))) (gNm 3) mixOut [some .draw, some (.val (.int (ds.turn + 1))), some (.val (.int 0)), none, none, none] { ds with turn := ds.turn + 1 } =
      some (.nx [some .draw, some (.val (.int (ds.turn + 1))), some (.val (.int f3)), some (.val (.int 2147483587)), c4, c5], { ds with turn := ds.turn + 1 }) := by
    show forLoop (gNm 3) mixOut [.int 2147483647, .int 2147483629, .int 2147483587] [some .draw, some (.val (.int (ds.turn + 1))), some (.val (.int 0)), none, none, none] { ds with turn := ds.turn + 1 } = _
    rw [forLoop, show gNm 3 (.int 2147483647) [some .draw, some (.val (.int (ds.turn + 1))), some (.val (.int 0)), none, none, none] = some [some .draw, some (.val (.int (ds.turn + 1))), some (.val (.int 0)), some (.val (.int 2147483647)), none, none] from rfl]
    dsimp only
    rw [e1]
    dsimp only
    rw [forLoop, show gNm 3 (.int 2147483629) [some .draw, some (.val (.int (ds.turn + 1))), some (.val (.int f1)), some (.val (.int 2147483647)), a4, a5] = some [some .draw, some (.val (.int (ds.turn + 1))), some (.val (.int f1)), some (.val (.int 2147483629)), a4, a5] from rfl]
    dsimp only
    rw [e2]
    dsimp only
    rw [forLoop, show gNm 3 (.int 2147483587) [some .draw, some (.val (.int (ds.turn + 1))), some (.val (.int f2)), some (.val (.int 2147483629)), b4, b5] = some [some .draw, some (.val (.int (ds.turn + 1))), some (.val (.int f2)), some (.val (.int 2147483587)), b4, b5] from rfl]
    dsimp only
    rw [e3]
    rfl
  show outD (dSeq (dFor (dItems (dLst (aCons (dC (.int 2147483647)) (aCons (dC (.int 2147483629)) (aCons (dC (.int 2147483587)) (aNil)))))) (gNm 3) mixOut) (dSeq (dRet (dVar 2)) (dNx)) [some .draw, some (.val (.int (ds.turn + 1))), some (.val (.int 0)), none, none, none] { ds with turn := ds.turn + 1 }) = _
  rw [dSeq_eq ef]
  rfl
end L2.Dn
set_option Elab.async false
set_option linter.all false
set_option maxRecDepth 100000
/-! the draws, plain: taking, picking, shuffling -/
namespace L2.Dn
open PySem PySem.Spec PyProof.Rows C8
theorem dCallD_eq {i n : Nat} {f : List D → DS → Option (D × DS)} {g : DenA} {env : En} {ds s : DS} {as : List D} (hi : env[i]? = some (some .draw)) (h : g env ds = some (as, s)) (hn : as.length = n) : dCallD i n f g env ds = f as s := by
  unfold dCallD
  rw [hi]
  show bnd (g env ds) _ = _
  rw [h]
  exact if_pos hn
theorem aCons1 {f : Den} {env : En} {ds s : DS} {a : D} (h : f env ds = some (a, s)) : aCons f aNil env ds = some ([a], s) := by
  unfold aCons
  rw [h]
  rfl
theorem erase_perm {α : Type} : ∀ (xs : List α) (i : Nat) (x : α), xs[i]? = some x → (x :: xs.eraseIdx i).Perm xs
  | [], i, x, h => by simp at h
  | y :: ys, 0, x, h => by
    simp at h
    subst h
    exact List.Perm.refl _
  | y :: ys, i + 1, x, h => by
    have ih := erase_perm ys i x (by simpa using h)
    exact (List.Perm.swap y x _).trans (List.Perm.cons y ih)
theorem dTest_of {f : Den} {env : En} {ds s : DS} {b : Bool} (h : f env ds = some (.bool b, s)) : dTest f env ds = some (b, s) := by
  unfold dTest
  rw [h]
  rfl
theorem dIfS_t {t : DenT} {f g : DenS} {env : En} {ds s : DS} (h : t env ds = some (true, s)) : dIfS t f g env ds = f env s := by
  unfold dIfS
  rw [h]
  rfl
theorem dIfS_f {t : DenT} {f g : DenS} {env : En} {ds s : DS} (h : t env ds = some (false, s)) : dIfS t f g env ds = g env s := by
  unfold dIfS
  rw [h]
  rfl
def envT (n : Int) : En := [some .draw, some (.val (.int n)), none]
theorem take_rest (n : Int) (ds : DS) : ∃ ds1, dIfS (dTest (d2 gEqU (dRest 0) (dC (.int 0)))) (dSeq (dSetR 0 (dIf (tLarge 0) (dPopL 0) (dCallD 0 0 f__law_mixed (aNil)))) (dNx)) (dNx) (envT n) ds = some (.nx (envT n), ds1) := by
  by_cases h : ds.rest = 0
  · have e1 : dTest (d2 gEqU (dRest 0) (dC (.int 0))) (envT n) ds = some (true, ds) := dTest_of (d2_eq (a := .int ds.rest) rfl rfl (by
      show some (D.bool (decide (ds.rest = 0))) = _
      rw [decide_eq_true h]))
    rw [dIfS_t e1]
    cases hl : ds.large with
    | nil =>
      obtain ⟨m, ds', em⟩ := mixed_ok ds
      refine ⟨{ ds' with rest := m }, ?_⟩
      have e2 : dIf (tLarge 0) (dPopL 0) (dCallD 0 0 f__law_mixed (aNil)) (envT n) ds = some (.int m, ds') := by
        have e3 : tLarge 0 (envT n) ds = some (false, ds) := by
          show some ((match ds.large with | [] => false | _ => true), ds) = _
          rw [hl]
        unfold dIf
        rw [e3]
        show dCallD 0 0 f__law_mixed aNil (envT n) ds = _
        exact (dCallD_eq (i := 0) (n := 0) (g := aNil) (env := envT n) (as := []) (s := ds) rfl rfl rfl).trans em
      have e4 : dSetR 0 (dIf (tLarge 0) (dPopL 0) (dCallD 0 0 f__law_mixed (aNil))) (envT n) ds = some (.nx (envT n), { ds' with rest := m }) := by
        unfold dSetR
        rw [e2]
        rfl
      exact (dSeq_eq e4).trans rfl
    | cons m r =>
      refine ⟨{ { ds with large := r } with rest := m }, ?_⟩
      have e2 : dIf (tLarge 0) (dPopL 0) (dCallD 0 0 f__law_mixed (aNil)) (envT n) ds = some (.int m, { ds with large := r }) := by
        have e3 : tLarge 0 (envT n) ds = some (true, ds) := by
          show some ((match ds.large with | [] => false | _ => true), ds) = _
          rw [hl]
        unfold dIf
        rw [e3]
        show (match ds.large with | n :: r => some (D.int n, { ds with large := r }) | [] => none) = _
        rw [hl]
      have e4 : dSetR 0 (dIf (tLarge 0) (dPopL 0) (dCallD 0 0 f__law_mixed (aNil))) (envT n) ds = some (.nx (envT n), { { ds with large := r } with rest := m }) := by
        unfold dSetR
        rw [e2]
        rfl
      exact (dSeq_eq e4).trans rfl
  · have e1 : dTest (d2 gEqU (dRest 0) (dC (.int 0))) (envT n) ds = some (false, ds) := dTest_of (d2_eq (a := .int ds.rest) rfl rfl (by
      show some (D.bool (decide (ds.rest = 0))) = _
      rw [decide_eq_false h]))
    exact ⟨ds, (dIfS_f e1).trans rfl⟩
/-- a number below n -/
theorem take_ok (n : Int) (hn : 0 < n ∧ n < 2 ^ 80) (ds : DS) : ∃ r ds', f__law_take [.int n] ds = some (.int r, ds') ∧ 0 ≤ r ∧ r < n := by
  obtain ⟨ds1, e1⟩ := take_rest n ds
  refine ⟨ds1.rest % n, { ds1 with rest := ds1.rest / n }, ?_, Int.emod_nonneg _ (by omega), Int.emod_lt_of_pos _ hn.1⟩
  show outD (d__law_take (envT n) ds) = _
  have e2 : dSet 2 false (d2 gMod (dB gInt1 (aCons (dRest 0) (aNil))) (dRd 1)) (envT n) ds1 = some (.nx [some .draw, some (.val (.int n)), some (.val (.int (ds1.rest % n)))], ds1) :=
    dSet_eq (i := 2) (k := false) (env := envT n) (d2_eq (a := .int ds1.rest) (b := .int n) rfl rfl (gModR _ _ hn.1))
  have e3 : d2 gDiv (dB gInt1 (aCons (dRest 0) (aNil))) (dRd 1) [some .draw, some (.val (.int n)), some (.val (.int (ds1.rest % n)))] ds1 = some (.int (ds1.rest / n), ds1) := d2_eq (a := .int ds1.rest) (b := .int n) rfl rfl (gDivR _ _ hn)
  have e4 : dSetR 0 (d2 gDiv (dB gInt1 (aCons (dRest 0) (aNil))) (dRd 1)) [some .draw, some (.val (.int n)), some (.val (.int (ds1.rest % n)))] ds1 = some (.nx [some .draw, some (.val (.int n)), some (.val (.int (ds1.rest % n)))], { ds1 with rest := ds1.rest / n }) := by
    unfold dSetR
    rw [e3]
    rfl
  unfold d__law_take
  rw [dSeq_eq e1, dSeq_eq e2, dSeq_eq e4]
  rfl
theorem atI_nat {α : Type} (xs : List α) (r : Int) (h : 0 ≤ r ∧ r < xs.length) : ∃ x, atI xs r = some x ∧ x ∈ xs ∧ xs[r.toNat]? = some x := by
  have hl : r.toNat < xs.length := by omega
  refine ⟨xs[r.toNat], ?_, List.getElem_mem hl, List.getElem?_eq_getElem hl⟩
  unfold atI ixN
  rw [if_pos h.1, if_pos h.2]
  exact List.getElem?_eq_getElem hl
/-- one of them -/
theorem pick_ok (xs : List D) (h0 : xs ≠ []) (hl : xs.length < 1073741824) (ds : DS) : ∃ x ds', f__law_pick [.list xs] ds = some (x, ds') ∧ x ∈ xs := by
  have hp : 0 < xs.length := List.length_pos_iff.mpr h0
  obtain ⟨r, ds', e, h1⟩ := take_ok (xs.length : Nat) (by omega) ds
  obtain ⟨x, e2, hx, _⟩ := atI_nat xs r (by omega)
  refine ⟨x, ds', ?_, hx⟩
  have e3 : dCallD 0 1 f__law_take (aCons (dB gLen (aCons (dRd 1) (aNil))) (aNil)) [some .draw, some (.val (.list xs))] ds = some (.int r, ds') := (dCallD_eq (as := [.int (xs.length : Nat)]) rfl rfl rfl).trans e
  have e4 : d2 gIx (dRd 1) (dCallD 0 1 f__law_take (aCons (dB gLen (aCons (dRd 1) (aNil))) (aNil))) [some .draw, some (.val (.list xs))] ds = some (x, ds') := d2_eq (a := .list xs) rfl e3 e2
  show outD (d__law_pick [some .draw, some (.val (.list xs))] ds) = _
  unfold d__law_pick dSeq dRet
  rw [e4]
  rfl
def shBody : DenS := dSeq (dAppPop 3 2 (dCallD 0 1 f__law_take (aCons (dB gLen (aCons (dRd 2) (aNil))) (aNil)))) (dNx)
def shEnv (a : Sl) (rest found : List D) : En := [some .draw, some a, some (.own (.list rest)), some (.own (.list found))]
theorem sh_loop (a : Sl) : ∀ (m : Nat) (rest found : List D) (fuel : Nat) (ds : DS), rest.length = m → m < fuel → m + found.length < 100000 → (∀ d ∈ rest, eqOk 7 d = true) →
    ∃ res ds', whLoop (dTest (d2 gNeU (dRd 2) (dLst (aNil)))) shBody fuel (shEnv a rest found) ds = some (.nx (shEnv a [] res), ds') ∧ res.Perm (found ++ rest)
  | 0, rest, found, fuel, ds, hm, hf, hs, hk => by
    cases rest with
    | cons _ _ => cases hm
    | nil =>
      cases fuel with
      | zero => omega
      | succ fuel => exact ⟨found, ds, rfl, by simp⟩
  | m + 1, rest, found, fuel, ds, hm, hf, hs, hk => by
    cases fuel with
    | zero => omega
    | succ fuel =>
      obtain ⟨r, ds', e, h1, h2⟩ := take_ok (rest.length : Nat) (by omega) ds
      obtain ⟨x, e2, hx, e3⟩ := atI_nat rest r (by omega)
      have hr : r.toNat < rest.length := by omega
      obtain ⟨res, ds2, e4, hp⟩ := sh_loop a m (rest.eraseIdx r.toNat) (found ++ [x]) fuel ds' (by rw [List.length_eraseIdx_of_lt hr]; omega) (by omega) (by rw [List.length_append]; simp; omega) fun d hd => hk d (List.mem_of_mem_eraseIdx hd)
      refine ⟨res, ds2, ?_, hp.trans ?_⟩
      · have ht : dTest (d2 gNeU (dRd 2) (dLst (aNil))) (shEnv a rest found) ds = some (true, ds) := by
          refine dTest_of (d2_eq (a := .list rest) (b := .list []) rfl rfl ?_)
          have hh : eqOk 8 (.list rest) = true := by
            show rest.all (eqOk 7) = true
            rw [List.all_eq_true]
            exact hk
          have h9 : gNeD (.list rest) (.list []) = some (.bool true) := by
            unfold gNeD
            rw [hh, show eqOk 8 (.list []) = true from rfl]
            cases rest with
            | nil => cases hm
            | cons _ _ => rfl
          unfold gNeU
          rw [h9]
        rw [whLoop]
        unfold bnd
        rw [ht]
        dsimp only
        have e5 : dCallD 0 1 f__law_take (aCons (dB gLen (aCons (dRd 2) (aNil))) (aNil)) (shEnv a rest found) ds = some (.int r, ds') := (dCallD_eq (as := [.int (rest.length : Nat)]) rfl rfl rfl).trans e
        have e6 : shBody (shEnv a rest found) ds = some (.nx (shEnv a (rest.eraseIdx r.toNat) (found ++ [x])), ds') := by
          have e7 : dAppPop 3 2 (dCallD 0 1 f__law_take (aCons (dB gLen (aCons (dRd 2) (aNil))) (aNil))) (shEnv a rest found) ds = some (.nx (shEnv a (rest.eraseIdx r.toNat) (found ++ [x])), ds') := by
            unfold dAppPop
            rw [e5]
            show (if (found.length < 100000 ∧ rest.length < 100000) ∧ 0 ≤ r ∧ r < rest.length then _ else none) = _
            rw [if_pos ⟨⟨by omega, by omega⟩, by omega, by omega⟩, e3]
            rfl
          exact (dSeq_eq e7).trans rfl
        rw [e6]
        exact e4
      · have h5 : (x :: rest.eraseIdx r.toNat).Perm rest := erase_perm rest _ x e3
        rw [List.append_assoc]
        exact List.Perm.append_left found h5
/-- the same things in another order -/
theorem shuffled_ok (xs : List D) (hl : xs.length < 1000) (hk : ∀ d ∈ xs, eqOk 7 d = true) (ds : DS) : ∃ ys ds', f__law_shuffled [.list xs] ds = some (.list ys, ds') ∧ ys.Perm xs := by
  obtain ⟨res, ds', e, hp⟩ := sh_loop (.val (.list xs)) xs.length xs [] 1000 ds rfl hl (by simp; omega) hk
  refine ⟨res, ds', ?_, by simpa using hp⟩
  show outD (d__law_shuffled [some .draw, some (.val (.list xs)), none, none] ds) = _
  have e1 : dPar 2 3 true true (dB gListS (aCons (dRd 1) (aNil))) (dLst (aNil)) [some .draw, some (.val (.list xs)), none, none] ds = some (.nx (shEnv (.val (.list xs)) xs []), ds) := rfl
  have e2 : dSeq (dFrz 3 (dRet (dVar 3))) (dNx) (shEnv (.val (.list xs)) [] res) ds' = some (.rt (.list res), ds') := rfl
  show outD (dSeq (dPar 2 3 true true (dB gListS (aCons (dRd 1) (aNil))) (dLst (aNil))) (dSeq (whLoop (dTest (d2 gNeU (dRd 2) (dLst (aNil)))) shBody 1000) (dSeq (dFrz 3 (dRet (dVar 3))) (dNx))) [some .draw, some (.val (.list xs)), none, none] ds) = _
  rw [dSeq_eq e1, dSeq_eq e, e2]
  rfl
theorem rgD_ok : ∀ (n : Nat) (a : Int), ∀ d ∈ rgD a n, eqOk 7 d = true
  | 0, a, d, h => by cases h
  | n + 1, a, d, h => by
    rcases List.mem_cons.mp h with rfl | h
    · rfl
    · exact rgD_ok n (a + 1) d h
/-- a shuffled 1 .. n -/
theorem sequence_ok (n : Nat) (hn : n < 900) (ds : DS) : ∃ ys ds', f__law_sequence [.int n] ds = some (.ptup ys, ds') ∧ ys.Perm (rgD 1 n) := by
  obtain ⟨ys, ds', e, hp⟩ := shuffled_ok (rgD 1 n) (by rw [rgD_len]; omega) (rgD_ok n 1) ds
  refine ⟨ys, ds', ?_, hp⟩
  have e1 : dLstI (dRg2 (dC (.int 1)) (d2 gAdd (dRd 1) (dC (.int 1)))) [some .draw, some (.val (.int n))] ds = some (.list (rgD 1 n), ds) := by
    have e2 : dRg2 (dC (.int 1)) (d2 gAdd (dRd 1) (dC (.int 1))) [some .draw, some (.val (.int n))] ds = some (rgD 1 n, ds) := by
      have q : d2 gAdd (dRd 1) (dC (.int 1)) [some .draw, some (.val (.int n))] ds = some (.int ((n : Int) + 1), ds) := rfl
      have q1 : dC (.int 1) [some .draw, some (.val (.int n))] ds = some (.int 1, ds) := rfl
      unfold dRg2
      rw [q1]
      unfold bnd
      dsimp only
      rw [q]
      dsimp only
      rw [if_pos ⟨by omega, by omega, by omega, by omega⟩]
      have : ((n : Int) + 1 - 1).toNat = n := by omega
      rw [this]
    unfold dLstI
    rw [e2]
    show (if (rgD 1 n).length ≤ 100000 then _ else none) = _
    rw [if_pos (by rw [rgD_len]; omega)]
  have e4 : dCallD 0 1 f__law_shuffled (aCons (dLstI (dRg2 (dC (.int 1)) (d2 gAdd (dRd 1) (dC (.int 1))))) (aNil)) [some .draw, some (.val (.int n))] ds = some (.list ys, ds') := (dCallD_eq rfl (aCons1 e1) rfl).trans e
  have e5 := aCons1 e4
  show outD (d__law_sequence [some .draw, some (.val (.int n))] ds) = _
  unfold d__law_sequence dSeq dRet dB
  rw [e5]
  rfl
end L2.Dn
set_option Elab.async false
set_option linter.all false
set_option maxRecDepth 100000
/-! the draws, plain: a list of numbers that are taken -/
namespace L2.Dn
open PySem PySem.Spec PyProof.Rows C8
def intsTo (n : Nat) : List Int := (List.range n).map Int.ofNat
theorem intsTo_mem {n : Nat} {r : Int} (h : 0 ≤ r ∧ r < n) : r ∈ intsTo n := List.mem_map.mpr ⟨r.toNat, List.mem_range.mpr (by omega), Int.toNat_of_nonneg h.1⟩
/-- all lists of k numbers below n -/
def allsN (n : Nat) : Nat → List (List Int)
  | 0 => [[]]
  | k + 1 => (intsTo n).flatMap fun a => (allsN n k).map (a :: ·)
theorem allsN_mem {n : Nat} : ∀ (l : List Int), (∀ r ∈ l, 0 ≤ r ∧ r < n) → l ∈ allsN n l.length
  | [], _ => List.mem_singleton.mpr rfl
  | r :: l, h => List.mem_flatMap.mpr ⟨r, intsTo_mem (h r (List.mem_cons_self ..)), List.mem_map.mpr ⟨l, allsN_mem l (fun z hz => h z (List.mem_cons_of_mem _ hz)), rfl⟩⟩
/-- [take(draw, env[k]) for i in items] -/
theorem takes_loop (i k : Nat) (n : Int) (hn : 0 < n ∧ n < 2 ^ 80) (env0 : En) (h1 : ∀ d, (env0.set i (some (.val d)))[1]? = some (some .draw)) (h2 : ∀ d, (env0.set i (some (.val d)))[k]? = some (some (.val (.int n)))) :
    ∀ (items : List D) (ds : DS), ∃ (l : List Int) (ds' : DS), lcLoop (gNm i) tYesD (dCallD 1 1 f__law_take (aCons (dVar k) (aNil))) env0 items ds = some (l.map D.int, ds') ∧ l.length = items.length ∧ ∀ r ∈ l, 0 ≤ r ∧ r < n
  | [], ds => ⟨[], ds, rfl, rfl, fun _ h => by cases h⟩
  | d :: items, ds => by
    obtain ⟨r, ds1, e1, hr⟩ := take_ok n hn ds
    obtain ⟨l, ds2, e2, h3, h4⟩ := takes_loop i k n hn env0 h1 h2 items ds1
    refine ⟨r :: l, ds2, ?_, by simp [h3], fun z hz => ?_⟩
    · have e3 : dVar k (env0.set i (some (.val d))) ds = some (.int n, ds) := by
        unfold dVar
        rw [h2 d]
      have e4 : dCallD 1 1 f__law_take (aCons (dVar k) (aNil)) (env0.set i (some (.val d))) ds = some (.int r, ds1) := (dCallD_eq (h1 d) (aCons1 e3) rfl).trans e1
      rw [lcLoop, show gNm i d env0 = some (env0.set i (some (.val d))) from rfl]
      dsimp only
      rw [show tYesD (env0.set i (some (.val d))) ds = some (true, ds) from rfl]
      unfold bnd
      dsimp only
      rw [e4]
      dsimp only
      rw [e2]
      rfl
    · rcases List.mem_cons.mp hz with rfl | hz
      · exact hr
      · exact h4 z hz
def chkSeq (seqs : List (List Int)) : Option Sl → Bool
  | some (.val (.ptup ys)) => (match ints? ys with
    | some l => seqs.contains l
    | none => false)
  | _ => false
theorem chkSeq_eq {seqs : List (List Int)} {x : Option Sl} (h : chkSeq seqs x = true) : ∃ l ∈ seqs, x = some (.val (.ptup (l.map D.int))) := by
  unfold chkSeq at h
  split at h
  · rename_i ys
    split at h
    · rename_i l e
      exact ⟨l, by simpa using h, by rw [ints_eq e]⟩
    · cases h
  · cases h
theorem map_at {α β : Type} {f g : α → β} : ∀ {l : List α}, l.map f = l.map g → ∀ x ∈ l, f x = g x
  | [], _, x, h => by cases h
  | y :: ys, e, x, h => by
    rw [List.map_cons, List.map_cons] at e
    rcases List.mem_cons.mp h with rfl | h
    · exact (List.cons.inj e).1
    · exact map_at (List.cons.inj e).2 x h
end L2.Dn
set_option Elab.async false
set_option linter.all false
set_option maxRecDepth 100000
/-! zip of two lists or two tuples, walked; two items of a list stored at once -/
namespace L2.Dn
open PySem PySem.Spec PyProof.Rows
def zipD : List D → List D → List D
  | x :: xs, y :: ys => .tuple [x, y] :: zipD xs ys
  | _, _ => []
theorem zipD_len : ∀ (xs ys : List D), (zipD xs ys).length = min xs.length ys.length
  | [], _ => by simp [zipD]
  | _ :: _, [] => by simp [zipD]
  | x :: xs, y :: ys => by
    simp only [zipD, List.length_cons, zipD_len xs ys]
    omega
theorem zipD_get : ∀ (xs ys : List D) (i : Nat) (x y : D), xs[i]? = some x → ys[i]? = some y → (zipD xs ys)[i]? = some (.tuple [x, y])
  | [], _, i, x, y, h, _ => by simp at h
  | _ :: _, [], i, x, y, _, h => by simp at h
  | a :: xs, b :: ys, 0, x, y, h1, h2 => by
    simp at h1 h2
    subst h1 h2
    rfl
  | a :: xs, b :: ys, i + 1, x, y, h1, h2 => zipD_get xs ys i x y (by simpa using h1) (by simpa using h2)
theorem yl_zipL {B : Bs} {K : PySem.W.Frag} {a b : Addr} {vs ws : List V} {xs ys : List D} {Hf0 : Hp} (hx : ∀ H, Same Hf0 H → SqL K H a vs) (hy : ∀ H, Same Hf0 H → SqL K H b ws) (r : RpL Hf0 vs xs) (r2 : RpL Hf0 ws ys) : Yl B K (Itz K a b) (zipD xs ys) Hf0 := fun i env ds σ Hf H s S => by
  have l1 := r.length
  have l2 := r2.length
  have qx := hx H (s.trans S.sub)
  have qy := hy H (s.trans S.sub)
  rw [zipD_len]
  refine ⟨fun hi => ?_, fun hi => ⟨vs, ws, qx, qy, by omega⟩⟩
  obtain ⟨v, e1, r1⟩ := r.get (List.getElem?_eq_getElem (show i < xs.length by omega))
  obtain ⟨w, e2, r3⟩ := r2.get (List.getElem?_eq_getElem (show i < ys.length by omega))
  refine ⟨⟨vs, ws, v, w, qx, qy, e1, e2⟩, fun x H' y d hd => ?_⟩
  obtain ⟨T, v', w', rfl, nT, rfl, y1, y2⟩ := y
  have z1 := y1 vs qx
  have z2 := y2 ws qy
  rw [e1] at z1
  rw [e2] at z2
  cases z1
  cases z2
  rw [zipD_get _ _ _ _ _ (List.getElem?_eq_getElem (show i < xs.length by omega)) (List.getElem?_eq_getElem (show i < ys.length by omega))] at hd
  cases hd
  have nf := sub_none S nT
  have F := S.fre nT
  exact ⟨_, (Gr.refl.hp nT).fz nT nf, (S.hp nf F).fz nf upd_same F, .tup upd_same ((RpL.cons (r1.up s) (.cons (r3.up s) .nil)).up (same_fz nf))⟩
theorem yl_zipT {B : Bs} {K : PySem.W.Frag} {a b : Addr} {vs ws : List V} {xs ys : List D} {Hf0 : Hp} (hx : ∀ H, Same Hf0 H → SqT K H a vs) (hy : ∀ H, Same Hf0 H → SqT K H b ws) (r : RpL Hf0 vs xs) (r2 : RpL Hf0 ws ys) : Yl B K (RZ.ItzT K a b) (zipD xs ys) Hf0 := fun i env ds σ Hf H s S => by
  have l1 := r.length
  have l2 := r2.length
  have qx := hx H (s.trans S.sub)
  have qy := hy H (s.trans S.sub)
  rw [zipD_len]
  refine ⟨fun hi => ?_, fun hi => ⟨vs, ws, qx, qy, by omega⟩⟩
  obtain ⟨v, e1, r1⟩ := r.get (List.getElem?_eq_getElem (show i < xs.length by omega))
  obtain ⟨w, e2, r3⟩ := r2.get (List.getElem?_eq_getElem (show i < ys.length by omega))
  refine ⟨⟨vs, ws, v, w, qx, qy, e1, e2⟩, fun x H' y d hd => ?_⟩
  obtain ⟨T, v', w', rfl, nT, rfl, y1, y2⟩ := y
  have z1 := y1 vs qx
  have z2 := y2 ws qy
  rw [e1] at z1
  rw [e2] at z2
  cases z1
  cases z2
  rw [zipD_get _ _ _ _ _ (List.getElem?_eq_getElem (show i < xs.length by omega)) (List.getElem?_eq_getElem (show i < ys.length by omega))] at hd
  cases hd
  have nf := sub_none S nT
  have F := S.fre nT
  exact ⟨_, (Gr.refl.hp nT).fz nT nf, (S.hp nf F).fz nf upd_same F, .tup upd_same ((RpL.cons (r1.up s) (.cons (r3.up s) .nil)).up (same_fz nf))⟩
def tupD? : D → Option (List D)
  | .tuple xs => some xs
  | .ptup xs => some xs
  | _ => none
theorem tupD_rp {Hf : Hp} {v : V} {d : D} {xs : List D} (r : Rp Hf v d) (h : tupD? d = some xs) : ∃ a vs, v = .ref a ∧ RpL Hf vs xs ∧ ∀ (K : PySem.W.Frag) (H : Hp), Same Hf H → SqT K H a vs := by
  cases r with
  | tup h1 r =>
    cases h
    exact ⟨_, _, rfl, r, fun K H s => .inl (.inl (s _ _ h1))⟩
  | ptup h1 hd r =>
    cases h
    exact ⟨_, _, rfl, r, fun K H s => .inl (.inr ⟨_, s _ _ h1⟩)⟩
  | _ => cases h
def zipV : D → D → Option (List D)
  | .list xs, .list ys => some (zipD xs ys)
  | a, b => match tupD? a with
    | some xs => match tupD? b with
      | some ys => some (zipD xs ys)
      | none => none
    | none => none
def dZip (f h : Den) : DenA := fun env ds => bnd (f env ds) fun a s => bnd (h env s) fun b s1 => op1 (zipV a b) s1
section
variable {X : Cx} {e e2 : Expr} {f h : Den}
theorem evi_zip {p pos tpos : Pos} {elts : List Expr} {kk : Nat} (hm : X.mg "zip" = none) (hf : EvF X e f) (hb : EvF X e2 h) (hg : Gl X "zip" := by rfl) (hs : starEach [e, e2] X.env = (false, eval e X.env) :: starEach [e2] X.env := by rfl) (hs2 : starEach [e2] X.env = (false, eval e2 X.env) :: starEach [] X.env := by rfl)
    (hpl : (backTo pos (starEach [e2] X.env)).any (·.1) = false := by rfl) : EvI X (.Tuple elts kk tpos) (.Call (.Name "zip" p) [e, e2] [] pos) (dZip f h) := fun B env ds σ Hf H items ds' S he R q => by
  obtain ⟨v1, s1, e1, e3⟩ := bnd_eq he
  obtain ⟨v2, s2, e4, e5⟩ := bnd_eq e3
  obtain ⟨e6, rfl⟩ := op1_eq e5
  refine SI.of (RZ.pi_zipA hg hm (pa_cons (pe_se X _) (pa_cons (pe_se X _) pa_nil hs2) hs) hs hpl) (hf B env ds σ Hf H _ _ S e1 _ fun v Hf1 H1 g1 S1 r1 => hb B env s1 σ Hf1 H1 _ _ S1 e4 _ fun w Hf2 H2 g2 S2 r2 => ?_)
  have r1' := r1.up g2.ff
  unfold zipV at e6
  split at e6
  · cases e6
    cases r1' with
    | lst h1 t1 =>
      cases r2 with
      | lst h2 t2 =>
        exact ⟨_, _, _, _, rfl, .inl ⟨.inl (.inl (S2.sub _ _ h1)), .inl (.inl (S2.sub _ _ h2)), q _ _ _ (g1.trans g2) S2 (yl_zipL (fun H s => .inl (.inl (s _ _ h1))) (fun H s => .inl (.inl (s _ _ h2))) t1 t2)⟩⟩
  · split at e6
    · rename_i xs hx
      split at e6
      · rename_i ys hy
        cases e6
        obtain ⟨a, vs, rfl, t1, q1⟩ := tupD_rp r1' hx
        obtain ⟨b, ws, rfl, t2, q2⟩ := tupD_rp r2 hy
        exact ⟨_, _, _, _, rfl, .inr ⟨q1 _ _ S2.sub, q2 _ _ S2.sub, q _ _ _ (g1.trans g2) S2 (yl_zipT (q1 _) (q2 _) t1 t2)⟩⟩
      · cases e6
    · cases e6
end
/-- xs[k], xs[l] = a, b -/
def dSwap (i : Nat) (f h1 h2 : Den) : DenS := fun env ds => bnd (f env ds) fun v s => bnd (h1 env s) fun k s1 => match v, env[i]?, k with
  | .tuple [a, b], some (some (.own (.list xs))), .int n => (match ixN xs.length n with
    | some j => bnd (h2 (env.set i (some (.own (.list (xs.set j a))))) s1) fun k2 s2 => (match k2 with
      | .int n2 => (match ixN xs.length n2 with
        | some j2 => some (.nx (env.set i (some (.own (.list ((xs.set j a).set j2 b))))), s2)
        | none => none)
      | _ => none)
    | none => none)
  | _, _, _ => none
section
variable {X : Cx} {e c1 c2 : Expr} {f h1 h2 : Den} {ss : Stmt}
theorem evs_swap (i : Nat) (pm : PS X ss (tAsg (SE X e) (gTup X.K 2 (gCons (L2.gSub (tVar i) (SE X c1) rSetL) (gCons (L2.gSub (tVar i) (SE X c2) rSetL) gNil))))) (he : EvF X e f) (hk : EvR X c1 h1) (hk2 : EvR X c2 h2) : EvS X ss (dSwap i f h1 h2) := fun B env ds σ Hf H o ds' S hD Dd cc => by
  obtain ⟨d, s1, e1, e2⟩ := bnd_eq hD
  obtain ⟨k, s2, e3, e4⟩ := bnd_eq e2
  refine SS.of pm ?_
  refine he B env ds σ Hf H _ _ S e1 _ fun v Hf1 H1 g1 S1 rv => ?_
  split at e4
  · rename_i a b xs n ei
    obtain ⟨ad, ea, nf, nd, t⟩ := S.own ei
    cases rv with
    | tup ht rt =>
      cases rt with
      | cons r1 rt =>
        cases rt with
        | cons r2 rt =>
          cases rt
          refine ⟨_, _, rfl, .inl (.inl (S1.sub _ _ ht)), rfl, ?_⟩
          refine ⟨_, _, rfl, ?_⟩
          refine ⟨_, ea, hk B env s1 σ Hf1 H1 _ _ S1 e3 _ fun w Hf2 H2 g2 S2 rw' => ?_⟩
          cases rw'.int
          split at e4
          · rename_i j ej
            obtain ⟨k2, s3, e5, e6⟩ := bnd_eq e4
            cases t with
            | lst h1 r =>
              have gg := g1.trans g2
              refine ⟨ad, _, n, j, rfl, rfl, gg.at h1 nd, by rw [r.length]; exact ej, ?_⟩
              have S3 := S2.chg ei ea (.lst (upd_same (H := H2)) (RpL.set (r1.up g2.ff) j (r.up gg.ff)))
              have hlt : i < env.length := by
                rcases Nat.lt_or_ge i env.length with h | h
                · exact h
                · rw [List.getElem?_eq_none h] at ei; cases ei
              have ei3 : (env.set i (some (.own (.list (xs.set j a)))))[i]? = some (some (.own (.list (xs.set j a)))) := by
                rw [List.getElem?_set_self hlt]
              refine ⟨_, _, rfl, ?_⟩
              refine ⟨_, ea, hk2 B _ s2 σ Hf2 _ _ _ S3 e5 _ fun w2 Hf4 H4 g4 S4 rw2 => ?_⟩
              split at e6
              · rename_i n2
                cases rw2.int
                split at e6
                · rename_i j2 ej2
                  cases e6
                  obtain ⟨a2, ea2, nf2, nd2, t2⟩ := S4.own ei3
                  rw [ea] at ea2
                  cases ea2
                  cases t2 with
                  | lst h3 r3 =>
                    refine ⟨ad, _, n2, j2, rfl, rfl, h3, by rw [r3.length, List.length_set]; exact ej2, ?_⟩
                    refine ⟨rfl, ?_⟩
                    have S5 := S4.chg ei3 ea (.lst (upd_same (H := H4)) (RpL.set ((r2.up g2.ff).up g4.ff) j2 r3))
                    rw [List.set_set] at S5
                    exact cc _ _ _ (gg.ff.trans g4.ff) S5
                · cases e6
              · cases e6
          · cases e4
  · cases e4
end
end L2.Dn
set_option Elab.async false
set_option linter.all false
set_option maxRecDepth 100000
/-! x is True; k in a dict -/
namespace L2.Dn
open PySem PySem.Spec PyProof.Rows
section
variable {X : Cx}
def rIsB (neg : Bool) : R2 := fun x y H Q => ∃ a b, x = .bl a ∧ y = .bl b ∧ Q (.bl (xor neg (a == b))) H
theorem op_isB : OpR X (compareOp .Is) (rIsB false) := by
  intro pins s σ H x y v u Q I rx ry h
  obtain ⟨a, b, rfl, rfl, q⟩ := h
  cases rx
  cases ry
  show wpAny _ _ ((isSame (Value.bool a) (Value.bool b)) >>= fun z => pure (Value.bool z)) _ _ s
  exact wpAny_bind (wpAny_isSame_plain (by cases a <;> cases b <;> rfl) (wpAny_pure (fin_bl I q (by cases a <;> cases b <;> rfl))))
theorem op_isNB : OpR X (compareOp .IsNot) (rIsB true) := by
  intro pins s σ H x y v u Q I rx ry h
  obtain ⟨a, b, rfl, rfl, q⟩ := h
  cases rx
  cases ry
  show wpAny _ _ ((isSame (Value.bool a) (Value.bool b)) >>= fun z => pure (Value.bool (!z))) _ _ s
  exact wpAny_bind (wpAny_isSame_plain (by cases a <;> cases b <;> rfl) (wpAny_pure (fin_bl I q (by cases a <;> cases b <;> rfl))))
def gIsB (neg : Bool) : D → D → Option D
  | .bool a, .bool b => some (.bool (xor neg (a == b)))
  | _, _ => none
theorem r2_isB (neg : Bool) : R2F X (rIsB neg) (gIsB neg) := fun B env ds σ Hf H d1 d2 d x y Q S r1 r2 e q => by
  unfold gIsB at e
  split at e
  · cases e
    cases r1.bl; cases r2.bl
    exact ⟨_, _, rfl, rfl, q.now S (.bl _)⟩
  · cases e
end
/-! k in d -/
def gInM (neg : Bool) : D → D → Option D
  | k, .dT kvs => (match keyOf? k with
    | some ks => some (.bool (xor neg (lookT kvs ks).isSome))
    | none => none)
  | k, .dK kvs => (match key1? k with
    | some ks => some (.bool (xor neg (lookK kvs ks).isSome))
    | none => none)
  | _, _ => none
section
variable {X : Cx} {a b : Expr} {f h : Den} {pos : Pos}
theorem inM_core {neg : Bool} {k d x : D} {B : Bs} {env : En} {ds : DS} {σ : St} {Hf H : Hp} {y z : V} (S : SR B X.K env ds σ Hf H) (rk : Rd1 B Hf H y k) (rd : Rd1 B Hf H z d) (e : gInM neg k d = some x) : ∃ a o, z = .ref a ∧ DGet H a y o ∧ x = .bool (xor neg o.isSome) := by
  unfold gInM at e
  split at e
  · split at e
    · rename_i ks ek
      cases e
      obtain ⟨b, rfl, hb⟩ := keyOf_rd rk ek
      obtain ⟨a', kv', rfl, h1', h2'⟩ := rd.dT S.sub
      have hb3 := S.sub _ _ hb
      cases hw : lookT _ ks with
      | some w =>
        obtain ⟨vv, l1, l2⟩ := (h2'.look (k := ks)).1 _ hw
        exact ⟨_, some vv, rfl, .inr ⟨kv', ks, b, h1', rfl, hb3, l1.symm⟩, by simp [hw]⟩
      | none => exact ⟨_, none, rfl, .inr ⟨kv', ks, b, h1', rfl, hb3, ((h2'.look (k := ks)).2 hw).symm⟩, by simp [hw]⟩
    · cases e
  · split at e
    · rename_i ks ek
      cases e
      cases key1_rd rk ek
      obtain ⟨a', kv', rfl, h1', h2'⟩ := rd.dK S.sub
      cases hw : lookK _ ks with
      | some w =>
        obtain ⟨vv, l1, l2⟩ := (h2'.look (k := ks)).1 _ hw
        exact ⟨_, some vv, rfl, .inl ⟨kv', ks, h1', rfl, l1.symm⟩, by simp [hw]⟩
      | none => exact ⟨_, none, rfl, .inl ⟨kv', ks, h1', rfl, ((h2'.look (k := ks)).2 hw).symm⟩, by simp [hw]⟩
    · cases e
  · cases e
theorem evf_inM (hu : X.A.units + 1 < cLine) (ha : EvR X a f) (hb : EvR X b h) (h1 : behindInMarks .In b = false := by rfl) : EvF X (.Compare a [.In] [b] pos) (d2 (gInM false) f h) := fun B env ds σ Hf H d ds' S hf Q q => by
  obtain ⟨v1, s1, e1, e⟩ := bnd_eq hf
  obtain ⟨v2, s2, e2, e⟩ := bnd_eq e
  obtain ⟨e3, rfl⟩ := op1_eq e
  refine SE.of (pe_cmp (pc_din hu (pe_se X a) (pe_se X b)) h1) (ha B env ds σ Hf H _ _ S e1 _ fun y Hf1 H1 g1 S1 r1 => hb B env s1 σ Hf1 H1 _ _ S1 e2 _ fun z Hf2 H2 g2 S2 r2 => ?_)
  obtain ⟨a, o, rfl, dg, rfl⟩ := inM_core S2 (r1.up g2) r2 e3
  exact ⟨a, o, rfl, dg, by simpa using q _ _ _ (g1.trans g2) S2 (.bl _)⟩
theorem evf_notInM (hu : X.A.units + 1 < cLine) (ha : EvR X a f) (hb : EvR X b h) (h1 : behindInMarks .NotIn b = false := by rfl) : EvF X (.Compare a [.NotIn] [b] pos) (d2 (gInM true) f h) := fun B env ds σ Hf H d ds' S hf Q q => by
  obtain ⟨v1, s1, e1, e⟩ := bnd_eq hf
  obtain ⟨v2, s2, e2, e⟩ := bnd_eq e
  obtain ⟨e3, rfl⟩ := op1_eq e
  refine SE.of (pe_cmp (pc_dnotin hu (pe_se X a) (pe_se X b)) h1) (ha B env ds σ Hf H _ _ S e1 _ fun y Hf1 H1 g1 S1 r1 => hb B env s1 σ Hf1 H1 _ _ S1 e2 _ fun z Hf2 H2 g2 S2 r2 => ?_)
  obtain ⟨a, o, rfl, dg, rfl⟩ := inM_core S2 (r1.up g2) r2 e3
  exact ⟨a, o, rfl, dg, by simpa using q _ _ _ (g1.trans g2) S2 (.bl _)⟩
theorem evt_inM (hu : X.A.units + 1 < cLine) (ha : EvR X a f) (hb : EvR X b h) (h1 : behindInMarks .In b = false := by rfl) : EvT X (.Compare a [.In] [b] pos) (dTest (d2 (gInM false) f h)) := fun B env ds σ Hf H d ds' S hf Q q => by
  obtain ⟨v1, s1, e1, e⟩ := bnd_eq (dTest_eq hf)
  obtain ⟨v2, s2, e2, e⟩ := bnd_eq e
  obtain ⟨e3, rfl⟩ := op1_eq e
  refine STt.of (pt_cmp (pc_din hu (pe_se X a) (pe_se X b)) h1) (ha B env ds σ Hf H _ _ S e1 _ fun y Hf1 H1 g1 S1 r1 => hb B env s1 σ Hf1 H1 _ _ S1 e2 _ fun z Hf2 H2 g2 S2 r2 => ?_)
  obtain ⟨a, o, rfl, dg, ex⟩ := inM_core S2 (r1.up g2) r2 e3
  cases ex
  exact ⟨a, o, rfl, dg, _, rfl, by simpa using q _ _ (g1.trans g2) S2⟩
theorem evt_notInM (hu : X.A.units + 1 < cLine) (ha : EvR X a f) (hb : EvR X b h) (h1 : behindInMarks .NotIn b = false := by rfl) : EvT X (.Compare a [.NotIn] [b] pos) (dTest (d2 (gInM true) f h)) := fun B env ds σ Hf H d ds' S hf Q q => by
  obtain ⟨v1, s1, e1, e⟩ := bnd_eq (dTest_eq hf)
  obtain ⟨v2, s2, e2, e⟩ := bnd_eq e
  obtain ⟨e3, rfl⟩ := op1_eq e
  refine STt.of (pt_cmp (pc_dnotin hu (pe_se X a) (pe_se X b)) h1) (ha B env ds σ Hf H _ _ S e1 _ fun y Hf1 H1 g1 S1 r1 => hb B env s1 σ Hf1 H1 _ _ S1 e2 _ fun z Hf2 H2 g2 S2 r2 => ?_)
  obtain ⟨a, o, rfl, dg, ex⟩ := inM_core S2 (r1.up g2) r2 e3
  cases ex
  exact ⟨a, o, rfl, dg, _, rfl, by simpa using q _ _ (g1.trans g2) S2⟩
end
end L2.Dn
set_option Elab.async false
set_option linter.all false
set_option maxRecDepth 100000
/-! dict(pairs), the keys tuples -/
namespace L2.Dn
open PySem PySem.Spec PyProof.Rows
def foldPut (qs : List (List Key × Addr × V)) : List (List Key × V) := qs.foldl (fun acc q => putK acc q.1 q.2.2) []
abbrev PrV (H : Hp) : List V → List (List Key × Addr × V) → Prop := Paired fun (x : V) (q : List Key × Addr × V) => ∃ t, x = V.ref t ∧ H t = some (.tup [.ref q.2.1, q.2.2]) ∧ H q.2.1 = some (.tup (q.1.map kV))
def tsA (its : List Value) (j : Nat) : Addr := match its[j]? with
  | some (.ref t) => t
  | _ => 0
section
variable {X : Cx} {pins : List (Addr × Obj)} {σ : St} {H : Hp} {s : Shared}
theorem pairs_at (I : Inv X pins σ H s) : ∀ {ts : List V} {qs : List (List Key × Addr × V)} {its : List Value}, PrV H ts qs → Vals ts its →
    ∃ ws : List (List Key × Addr × Value), Paired (fun q w => q.1 = w.1 ∧ H w.2.1 = some (.tup (q.1.map kV)) ∧ RelV q.2.2 w.2.2) qs ws ∧ its.length = ws.length ∧
      ∀ (j : Nat) (k : List Key) (b : Addr) (u : Value), ws[j]? = some (k, b, u) → ∃ t : Addr, its[j]? = some (Value.ref t) ∧ PairAt s.heap t (.ref b) u := by
  intro ts qs its h
  induction h generalizing its with
  | nil =>
    intro v
    cases v
    exact ⟨[], .nil, rfl, fun j k b u e => (by cases e)⟩
  | @cons x0 q ts0 qs0 hx t ih =>
    intro v
    cases v with
    | @cons _ w0 _ _ r rv =>
      obtain ⟨ws, h1, h2, h3⟩ := ih rv
      obtain ⟨ta, rfl, ht, hk⟩ := hx
      cases r
      obtain ⟨i2, r2, p2, _⟩ := I.tuple (show SqT X.K H ta _ from .inl (.inl ht))
      cases r2 with
      | cons ra r2 =>
        cases r2 with
        | @cons _ u _ _ rb r2 =>
          cases r2
          cases ra
          refine ⟨(q.1, q.2.1, u) :: ws, .cons ⟨rfl, hk, rb⟩ h1, by simp [h2], fun j k b w e => ?_⟩
          cases j with
          | zero =>
            simp at e
            obtain ⟨rfl, rfl, rfl⟩ := e
            exact ⟨ta, by simp, .inl p2⟩
          | succ j => exact h3 j k b w (by simpa using e)
theorem putK_length (kvs : List (List Key × V)) (k : List Key) (y : V) : (putK kvs k y).length ≤ kvs.length + 1 := by
  unfold putK
  split <;> simp
theorem foldPut_length : ∀ (qs : List (List Key × Addr × V)) (acc : List (List Key × V)), (qs.foldl (fun acc q => putK acc q.1 q.2.2) acc).length ≤ acc.length + qs.length
  | [], acc => by simp
  | q :: qs, acc => by
    have h1 := foldPut_length qs (putK acc q.1 q.2.2)
    have h2 := putK_length acc q.1 q.2.2
    simp only [List.foldl_cons, List.length_cons]
    omega
theorem foldPut_kt {qs : List (List Key × Addr × V)} {ws : List (List Key × Addr × Value)} (h : Paired (fun q w => q.1 = w.1 ∧ H w.2.1 = some (.tup (q.1.map kV)) ∧ RelV q.2.2 w.2.2) qs ws) :
    ∀ {acc : List (List Key × V)} {xs : List (List Key × Addr × Value)}, KT H acc xs → KT H (qs.foldl (fun acc q => putK acc q.1 q.2.2) acc) (storedAllH xs ws) := by
  induction h with
  | nil => intro acc xs k; exact k
  | @cons q w qs' ws' hx t ih =>
    intro acc xs k
    obtain ⟨h1, h2, h3⟩ := hx
    have := KT.put k q.1 h2 h3
    rw [h1] at this
    show KT H (List.foldl _ (putK acc q.1 q.2.2) qs') (List.foldl _ (storedH xs w.1 w.2.1 w.2.2) ws')
    rw [h1]
    exact ih this
end
def rDictP (X : Cx) : List V → Hp → VK → Prop := fun xs H Q => ∃ (a : Addr) (ts : List V) (qs : List (List Key × Addr × V)), xs = [.ref a] ∧ H a = some (.lst ts) ∧ PrV H ts qs ∧ ∀ p, H p = none → Q (.ref p) (upd H p (.dT (foldPut qs)))
theorem call_dictP {X : Cx} (hc : X.calm = true) (hu : X.A.units + 8 < cLine) : CallR X (.type "dict") (rDictP X) := by
  intro pins s σ H xs us Q I r ⟨a, ts, qs, ex, hd, hp, q⟩
  subst ex
  obtain ⟨u, eu, rx⟩ := vals1 r
  subst eu
  cases rx
  obtain ⟨its, rv, pl, hz⟩ := I.list (show SqL X.K H a ts from .inl (.inl hd))
  obtain ⟨ws, h1, h2, h3⟩ := pairs_at I hp rv
  have hlt : ts.length = its.length := rv.length
  let ps : List (Value × Value) := ws.map fun w => (Value.ref w.2.1, w.2.2)
  have hps : ps.length = ws.length := List.length_map _
  have hit : PairItems s.heap its.toArray (tsA its) ps := by
    refine ⟨by rw [List.size_toArray, hps, h2], fun j k v e => ?_⟩
    rw [List.getElem?_map] at e
    obtain ⟨w, e1, e2⟩ := Option.map_eq_some_iff.mp e
    cases e2
    obtain ⟨t, e3, e4⟩ := h3 j w.1 w.2.1 w.2.2 e1
    have e5 : tsA its j = t := by unfold tsA; rw [e3]
    rw [e5]
    exact ⟨by simpa using e3, e4⟩
  have keys : ∀ x ∈ ws, IsTupleKey (mixKind X.prog X.w) s.heap x.1 x.2.1 := by
    have : ∀ {qs : List (List Key × Addr × V)} {ws : List (List Key × Addr × Value)}, Paired (fun q w => q.1 = w.1 ∧ H w.2.1 = some (.tup (q.1.map kV)) ∧ RelV q.2.2 w.2.2) qs ws → ∀ x ∈ ws, IsTupleKey (mixKind X.prog X.w) s.heap x.1 x.2.1 := by
      intro qs ws h
      induction h with
      | nil => intro x hx; exact nomatch hx
      | cons hq t ih =>
        intro x hx
        rcases List.mem_cons.mp hx with e | hx
        · subst e
          exact key_of I.hok (by rw [← hq.1]; exact hq.2.1)
        · exact ih x hx
    exact this h1
  refine call_dict_pairsH (knd := tupleKind (mixKind X.prog X.w)) (ps := ws) (PairArg.list a its.toArray (tsA its) ps) (I.ok.hd hc) (show X.A.in1.in1.units < cLine by show X.A.units + 1 + 1 < cLine; omega) ⟨?_, hit⟩ ⟨hps.symm, fun i key v e => ?_⟩ (fun h' hk x hx => ?_) (by rw [hps, ← h2, ← hlt]; exact hz) fun h' tk d' hk => ?_
  · obtain ⟨o, n, e1, e2, e3, e4⟩ := pl
    exact ⟨o, n, e1, e2, e3, e4⟩
  · have e : ps[i]? = some (key, v) := e
    rw [List.getElem?_map] at e
    obtain ⟨w, e1, e2⟩ := Option.map_eq_some_iff.mp e
    cases e2
    exact ⟨w.1, w.2.1, e1, rfl⟩
  · obtain ⟨o, items, n, e1, e2, e3, e4⟩ := keys x hx
    exact ⟨o, items, n, hk _ _ (Nat.ne_of_lt (Heap.lt_size e1)) (by simp) e1, e2, e3, e4⟩
  · have hm : (s.heap.objs.size == sysModules) = false := beq_eq_false_iff_ne.mpr (Nat.ne_of_gt I.big)
    obtain ⟨ob, es, ep, hq, e2, e3, e4, _, e5⟩ := d'
    have kt := foldPut_kt h1 (acc := []) (xs := []) .nil
    have z : (foldPut qs).length ≤ sizeLine := by
      have z1 := foldPut_length qs []
      have z2 : qs.length = ws.length := Paired.length h1
      simp only [List.length_nil] at z1
      show (qs.foldl _ []).length ≤ _
      omega
    refine ⟨.ref s.heap.objs.size, upd H s.heap.objs.size (.dT (foldPut qs)), I.laid (t' := tk) (fun b o e => hk b o (by simp) e) (Nat.le_refl _) ⟨z, hm, storedAllH [] ws, kt.keeps fun c ys ec => ?_, ob, es, ep, hq, e2, e3, e4, e5⟩, rfl, q _ I.fresh⟩
    rw [upd_ne (ne_of_none ec I.fresh)]
    exact ec
/-! on data -/
def pairsD? : List D → Option (List (List Key × D))
  | [] => some []
  | .tuple [k, v] :: r => (match keyOf? k with
    | some ks => (match pairsD? r with
      | some l => some ((ks, v) :: l)
      | none => none)
    | none => none)
  | _ => none
def foldPutD (l : List (List Key × D)) (acc : List (List Key × D)) : List (List Key × D) := match l with
  | [] => acc
  | (k, v) :: r => foldPutD r (putT acc k v)
def gDictP : List D → Option D
  | [.list ds] => (match pairsD? ds with
    | some l => some (.dT (foldPutD l []))
    | none => none)
  | _ => none
theorem pairsD_rp {Hf : Hp} : ∀ {ds : List D} {ts : List V} {l : List (List Key × D)}, RpL Hf ts ds → pairsD? ds = some l → ∃ qs : List (List Key × Addr × V), PrV Hf ts qs ∧ Paired (fun q p => q.1 = p.1 ∧ Rp Hf q.2.2 p.2) qs l
  | [], _, l, r, h => by
    cases r
    cases h
    exact ⟨[], .nil, .nil⟩
  | .tuple [k, v] :: ds, _, l, .cons r t, h => by
    unfold pairsD? at h
    split at h
    · rename_i ks ek
      split at h
      · rename_i l' el
        cases h
        obtain ⟨qs, h1, h2⟩ := pairsD_rp t el
        cases r with
        | tup ht rt =>
          cases rt with
          | cons rk rt =>
            cases rt with
            | cons rv rt =>
              cases rt
              obtain ⟨b, rfl, hb⟩ := keyOf_rd (B := ⟨Hf, Hf, none⟩) (H := Hf) (.fz rk) ek
              exact ⟨(ks, b, _) :: qs, .cons ⟨_, rfl, ht, hb⟩ h1, .cons ⟨rfl, rv⟩ h2⟩
      · cases h
    · cases h
  | .none :: _, _, _, _, h => by simp [pairsD?] at h
  | .bool _ :: _, _, _, _, h => by simp [pairsD?] at h
  | .int _ :: _, _, _, _, h => by simp [pairsD?] at h
  | .str _ :: _, _, _, _, h => by simp [pairsD?] at h
  | .list _ :: _, _, _, _, h => by simp [pairsD?] at h
  | .ptup _ :: _, _, _, _, h => by simp [pairsD?] at h
  | .dT _ :: _, _, _, _, h => by simp [pairsD?] at h
  | .dK _ :: _, _, _, _, h => by simp [pairsD?] at h
  | .tuple [] :: _, _, _, _, h => by simp [pairsD?] at h
  | .tuple [_] :: _, _, _, _, h => by simp [pairsD?] at h
  | .tuple (_ :: _ :: _ :: _) :: _, _, _, _, h => by simp [pairsD?] at h
theorem foldPut_rp {Hf : Hp} {qs : List (List Key × Addr × V)} {l : List (List Key × D)} (h : Paired (fun q p => q.1 = p.1 ∧ Rp Hf q.2.2 p.2) qs l) :
    ∀ {acc : List (List Key × V)} {ad : List (List Key × D)}, RpT Hf acc ad → RpT Hf (qs.foldl (fun acc q => putK acc q.1 q.2.2) acc) (foldPutD l ad) := by
  induction h with
  | nil => intro acc ad k; exact k
  | @cons q p qs' l' hx t ih =>
    intro acc ad k
    obtain ⟨h1, h2⟩ := hx
    have := k.put (k := q.1) h2
    show RpT Hf (List.foldl _ (putK acc q.1 q.2.2) qs') (foldPutD l' (putT ad p.1 p.2))
    rw [← h1]
    exact ih this
theorem prV_up {H H' : Hp} (s : Same H H') {ts : List V} {qs : List (List Key × Addr × V)} (h : PrV H ts qs) : PrV H' ts qs := Paired.mapP h fun _ _ ⟨t, e, h1, h2⟩ => ⟨t, e, s _ _ h1, s _ _ h2⟩
theorem rc_dictP {X : Cx} : RCN X (rDictP X) gDictP := fun B env ds σ Hf H args d vs Q S r e q => by
  unfold gDictP at e
  split at e
  · rename_i xs
    cases r with
    | cons r t =>
      cases t
      split at e
      · rename_i l el
        cases e
        obtain ⟨a, ts, rfl, h1, h2⟩ := r.lst S.sub
        obtain ⟨qs, p1, p2⟩ := pairsD_rp h2 el
        exact ⟨a, ts, qs, rfl, h1, prV_up S.sub p1, q.dT S (foldPut_rp p2 .nil)⟩
      · cases e
  · cases e
end L2.Dn
set_option Elab.async false
set_option linter.all false
set_option maxRecDepth 100000
/-! the drawn sequence as a tuple that may be a key -/
namespace L2.Dn
open PySem PySem.Spec PyProof.Rows C8
def N__law_sequence_t : List Str := ["draw", "wires"]
def d__law_sequence_t : DenS := dSeq (dRet (dB gTupS (aCons (dCallD 0 1 f__law_shuffled (aCons (dLstI (dRg2 (dC (.int 1)) (d2 gAdd (dRd 1) (dC (.int 1))))) (aNil))) (aNil)))) (dNx)
def f__law_sequence_t : List D → DS → Option (D × DS) := fnD N__law_sequence_t.length d__law_sequence_t
/-- a shuffled 1 .. n -/
theorem sequenceT_ok (n : Nat) (hn : n < 900) (ds : DS) : ∃ ys ds', f__law_sequence_t [.int n] ds = some (.tuple ys, ds') ∧ ys.Perm (rgD 1 n) := by
  obtain ⟨ys, ds', e, hp⟩ := shuffled_ok (rgD 1 n) (by rw [rgD_len]; omega) (rgD_ok n 1) ds
  refine ⟨ys, ds', ?_, hp⟩
  have e1 : dLstI (dRg2 (dC (.int 1)) (d2 gAdd (dRd 1) (dC (.int 1)))) [some .draw, some (.val (.int n))] ds = some (.list (rgD 1 n), ds) := by
    have e2 : dRg2 (dC (.int 1)) (d2 gAdd (dRd 1) (dC (.int 1))) [some .draw, some (.val (.int n))] ds = some (rgD 1 n, ds) := by
      have q : d2 gAdd (dRd 1) (dC (.int 1)) [some .draw, some (.val (.int n))] ds = some (.int ((n : Int) + 1), ds) := rfl
      have q1 : dC (.int 1) [some .draw, some (.val (.int n))] ds = some (.int 1, ds) := rfl
      unfold dRg2
      rw [q1]
      unfold bnd
      dsimp only
      rw [q]
      dsimp only
      rw [if_pos ⟨by omega, by omega, by omega, by omega⟩]
      have : ((n : Int) + 1 - 1).toNat = n := by omega
      rw [this]
    unfold dLstI
    rw [e2]
    show (if (rgD 1 n).length ≤ 100000 then _ else none) = _
    rw [if_pos (by rw [rgD_len]; omega)]
  have e4 : dCallD 0 1 f__law_shuffled (aCons (dLstI (dRg2 (dC (.int 1)) (d2 gAdd (dRd 1) (dC (.int 1))))) (aNil)) [some .draw, some (.val (.int n))] ds = some (.list ys, ds') := (dCallD_eq rfl (aCons1 e1) rfl).trans e
  have e5 := aCons1 e4
  show outD (d__law_sequence_t [some .draw, some (.val (.int n))] ds) = _
  unfold d__law_sequence_t dSeq dRet dB
  rw [e5]
  rfl
end L2.Dn
set_option Elab.async false
set_option linter.all false
set_option maxRecDepth 100000
/-! plain tuples: t + u, t[a:b], (a, b), tuple(range(..)) -/
namespace L2.Dn
open PySem PySem.Spec PyProof.Rows C8
section
variable {X : Cx}
def rCatP (K : PySem.W.Frag) : R2 := fun x y H Q => ∃ a b xs ys, x = .ref a ∧ y = .ref b ∧ SqT K H a xs ∧ SqT K H b ys ∧ xs.length + ys.length ≤ sizeLine ∧
  (xs = [] → Q (.ref b) H) ∧ (xs ≠ [] → ys = [] → Q (.ref a) H) ∧ (xs ≠ [] → ys ≠ [] → ∀ (p : Addr) (o : Obj), H p = none → o.dict = none → Q (.ref p) (upd H p (.frz o (.tup (xs ++ ys)))))
theorem op_catP : OpR X (binaryOp .Add) (rCatP X.K) := by
  intro pins s σ H x y v u Q I rx ry h
  obtain ⟨a, b, xs, ys, rfl, rfl, ha, hb, hz, q0, q1, q2⟩ := h
  by_cases hx : xs = []
  · subst hx
    cases rx
    cases ry
    obtain ⟨its, r1, p1, _⟩ := I.tuple ha
    obtain ⟨its2, r2, p2, _⟩ := I.tuple hb
    cases r1
    exact cat_tup0 p1 p2 ⟨.ref b, H, I, rfl, q0 rfl⟩
  · cases rx
    cases ry
    obtain ⟨its, r1, p1, _⟩ := I.tuple ha
    obtain ⟨its2, r2, p2, _⟩ := I.tuple hb
    refine HT.cat_tup p1 p2 (fun z => hx (r1.nil_iff.mp z)) (fun z => ⟨.ref a, H, I, rfl, q1 hx (r2.nil_iff.mp z)⟩) (fun z => ?_) (by rw [← r1.length, ← r2.length]; exact hz)
    refine ⟨.ref s.heap.objs.size, _, I.laid (t' := s.toks) (o := .frz { cls := .type "tuple", data := .seq (its ++ its2).toArray } (.tup (xs ++ ys))) (fun b ob q => Heap.get?_push_of_some _ q) (Nat.le_refl _) ?_, rfl, q2 hx (fun w => z (r2.nil_iff.mpr w)) _ _ (I.hok.fresh (Nat.le_refl _)) rfl⟩
    exact ⟨Heap.get?_push_size _ rfl, by rw [List.length_append]; exact hz, _, r1.append r2, IsTup.new _ _⟩
def gCatP : D → D → Option D := fun a b => match tupD? a, tupD? b with
  | some xs, some ys => if xs.length + ys.length ≤ 100000 then some (match xs, ys with
    | [], _ => b
    | _, [] => a
    | _, _ => .ptup (xs ++ ys)) else none
  | _, _ => none
theorem tup_of {B : Bs} {env : En} {ds : DS} {σ : St} {Hf H : Hp} (S : SR B X.K env ds σ Hf H) {v : V} {d : D} {xs : List D} (r : Rd1 B Hf H v d) (h : tupD? d = some xs) : ∃ a vs, v = .ref a ∧ SqT X.K H a vs ∧ RpL Hf vs xs ∧ Rp Hf v d := by
  cases d with
  | tuple ys =>
    cases h
    obtain ⟨a, vs, rfl, h1, t1⟩ := r.tup
    exact ⟨a, vs, rfl, .inl (.inl (S.sub _ _ h1)), t1, .tup h1 t1⟩
  | ptup ys =>
    cases h
    obtain ⟨a, vs, o, rfl, h1, hd, t⟩ := r.ptup
    exact ⟨a, vs, rfl, .inl (.inr ⟨o, S.sub _ _ h1⟩), t, .ptup h1 hd t⟩
  | _ => cases h
theorem r2_catP : R2F X (rCatP X.K) gCatP := fun B env ds σ Hf H d1 d2 d x y Q S r1 r2 e q => by
  unfold gCatP at e
  split at e
  · rename_i xs ys e1 e2
    split at e
    · rename_i hz
      cases e
      obtain ⟨a, vs, rfl, h1, t1, p1⟩ := tup_of S r1 e1
      obtain ⟨b, ws, rfl, h2, t2, p2⟩ := tup_of S r2 e2
      have l1 := t1.length
      have l2 := t2.length
      refine ⟨a, b, vs, ws, rfl, rfl, h1, h2, sz_ok (by omega), fun z1 => ?_, fun z1 z2 => ?_, fun z1 z2 => ?_⟩
      · subst z1
        cases t1
        exact q.now S p2
      · subst z2
        cases t2
        cases t1 with
        | nil => exact absurd rfl z1
        | cons _ _ => exact q.now S p1
      · cases t1 with
        | nil => exact absurd rfl z1
        | cons r1 t1 =>
          cases t2 with
          | nil => exact absurd rfl z2
          | cons r2 t2 => exact fun p o hp hd => q.ptup S ((RpL.cons r1 t1).append (.cons r2 t2)) hd p hp
    · cases e
  · cases e
/-! t[a:b] -/
def rSlP (K : PySem.W.Frag) : V → Option Int → Option Int → Hp → VK → Prop := fun x lo hi H Q => ∃ a xs, x = .ref a ∧ SqT K H a xs ∧
  (HT.sIx xs.length 0 lo = 0 ∧ HT.sIx xs.length xs.length hi = xs.length → Q (.ref a) H) ∧ (¬ (HT.sIx xs.length 0 lo = 0 ∧ HT.sIx xs.length xs.length hi = xs.length) → ∀ (p : Addr) (o : Obj), H p = none → o.dict = none → Q (.ref p) (upd H p (.frz o (.tup (cutV xs lo hi)))))
theorem sl_tupP : SlR X (rSlP X.K) := by
  intro pins s σ H x v vl vu lo hi sl Q I rx hs pl pu h
  obtain ⟨a, xs, rfl, hx, q1, q2⟩ := h
  by_cases hw : HT.sIx xs.length 0 lo = 0 ∧ HT.sIx xs.length xs.length hi = xs.length
  · cases rx
    obtain ⟨its, r, ht, hz⟩ := I.tuple hx
    have hlen : its.toArray.size = xs.length := by rw [List.size_toArray]; exact r.length.symm
    refine ⟨"tuple", _, PyProof.Rows.slot_tuple_getitem.lookup, ht.typeIs, ?_⟩
    exact getItem_tuple_whole ht hs pl pu (by rw [hlen]; exact hw) ⟨.ref a, H, I, rfl, q1 hw⟩
  · cases rx
    obtain ⟨its, r, ht, hz⟩ := I.tuple hx
    have hlen : its.toArray.size = xs.length := by rw [List.size_toArray]; exact r.length.symm
    refine ⟨"tuple", _, PyProof.Rows.slot_tuple_getitem.lookup, ht.typeIs, ?_⟩
    refine HT.getItem_tuple_cut ht hs pl pu (by rw [hlen]; exact hw) ?_ (by rw [hlen]; exact hz)
    rw [hlen]
    refine ⟨.ref s.heap.objs.size, _, I.laid (t' := s.toks) (o := .frz { cls := .type "tuple", data := .seq (List.take (HT.sIx xs.length xs.length hi - HT.sIx xs.length 0 lo) (List.drop (HT.sIx xs.length 0 lo) its.toArray.toList)).toArray } (.tup (cutV xs lo hi))) (fun b ob q => Heap.get?_push_of_some _ q) (Nat.le_refl _) ?_, rfl, q2 hw _ _ (I.hok.fresh (Nat.le_refl _)) rfl⟩
    exact ⟨Heap.get?_push_size _ rfl, Nat.le_trans (cutV_length xs lo hi) hz, _, (r.drop (HT.sIx xs.length 0 lo)).take (HT.sIx xs.length xs.length hi - HT.sIx xs.length 0 lo), IsTup.new _ _⟩
def dSlP (f : Den) (lo hi : Option Den) : Den := fun env ds => bnd (f env ds) fun a s => bnd (dPart lo env s) fun l s1 => bnd (dPart hi env s1) fun u s2 => match tupD? a with
  | some xs => some (if HT.sIx xs.length 0 l = 0 ∧ HT.sIx xs.length xs.length u = xs.length then a else .ptup (cutD xs l u), s2)
  | none => none
theorem evf_sliceP {a : Expr} {f : Den} {pos : Pos} {lo hi : Option Expr} {fl fh : Option Den} {p2 : Pos} (ha : EvR X a f) (hl : EvP X lo fl) (hh : EvP X hi fh) : EvF X (.Subscript a (.Slice lo hi none p2) pos) (dSlP f fl fh) := fun B env ds σ Hf H d ds' S hf Q q => by
  obtain ⟨v1, s1, e1, e⟩ := bnd_eq hf
  obtain ⟨l, s2, e2, e⟩ := bnd_eq e
  obtain ⟨u, s3, e3, e⟩ := bnd_eq e
  obtain ⟨tl, pl, kl⟩ := hl
  obtain ⟨th, ph, kh⟩ := hh
  refine SE.of (pe_slice sl_tupP (pe_se X a) pl ph) ?_
  refine ha B env ds σ Hf H _ _ S e1 _ fun x Hf1 H1 g1 S1 r1 => kl B env s1 σ Hf1 H1 _ _ S1 e2 _ fun Hf2 H2 g2 S2 => kh B env s2 σ Hf2 H2 _ _ S2 e3 _ fun Hf3 H3 g3 S3 => ?_
  split at e
  · rename_i xs ex
    cases e
    have g := (g1.trans g2).trans g3
    obtain ⟨p, vs, rfl, h1, t, rp⟩ := tup_of S3 ((r1.up g2).up g3) ex
    refine ⟨p, vs, rfl, h1, fun w => ?_, fun w => ?_⟩
    · rw [t.length] at w
      rw [if_pos w] at q
      exact q _ _ _ g S3 rp
    · rw [t.length] at w
      rw [if_neg w] at q
      exact fun p o hp hd => (q.step g).ptup S3 (t.cut l u) hd p hp
  · cases e
/-! (a, b) -/
def tTupP (t : TA) : TE := fun σ H Q => t σ H fun xs H1 => xs.length ≤ sizeLine ∧ ∀ (p : Addr) (o : Obj), H1 p = none → o.dict = none → Q (.ref p) (upd H1 p (.frz o (.tup xs)))
theorem pe_tupP {es : List Expr} {t : TA} {pos : Pos} {x1} (h : PA X es t) : PE X (.Tuple es x1 pos) (tTupP t) := by
  refine ⟨fun pins s σ H Q I hq => ?_⟩
  refine wpAny_Tuple_spliced (thn (h.run pos pins s σ H _ I hq) fun us s1 ⟨xs, H1, I1, r, z, q⟩ => ⟨by rw [← r.length]; exact z, ?_⟩)
  have hf : H1 s1.heap.objs.size = none := I1.hok.fresh (Nat.le_refl _)
  refine ⟨.ref s1.heap.objs.size, upd H1 s1.heap.objs.size (.frz { cls := .type "tuple", data := .seq us.toArray } (.tup xs)), I1.laid (t' := s1.toks) (fun b u e => Heap.get?_push_of_some _ e) (Nat.le_refl _) ?_, rfl, q _ _ hf rfl⟩
  exact ⟨Heap.get?_push_size _ rfl, z, us, r, ⟨_, Heap.get?_push_size _ rfl, rfl, _, rfl⟩⟩
def dTupP (g : DenA) : Den := fun env ds => bnd (g env ds) fun r s => if r.length ≤ 100000 then some (.ptup r, s) else none
theorem evf_tupP {es : List Expr} {g : DenA} {pos : Pos} {x1} (h : EvA X es g) : EvF X (.Tuple es x1 pos) (dTupP g) := fun B env ds σ Hf H d ds' S hf Q q => by
  obtain ⟨v1, s1, e1, e⟩ := bnd_eq hf
  split at e
  · rename_i hz
    cases e
    refine SE.of (pe_tupP (pa_sa X es)) (h B env ds σ Hf H _ _ S e1 _ fun xs Hf1 H1 g1 S1 r1 => ⟨by rw [r1.length]; exact sz_ok hz, fun p o hp hd => (q.step g1).ptup S1 r1 hd p hp⟩)
  · cases e
/-! tuple(range(..)) -/
def tTupRgP (te : St → Hp → (Int → Int → Hp → Prop) → Prop) : TE := fun σ H Q => te σ H fun a b H1 => RgOk a b ∧ ∀ (q : Addr) (o : Obj), H1 q = none → o.dict = none → Q (.ref q) (upd H1 q (.frz o (.tup (rgV a b))))
theorem pe_tupRgP {e : Expr} {te} {p pos : Pos} (hc : X.calm = true) (hg : Gl X "tuple") (hm : X.mg "tuple" = none) (he : PRg X e te) (na : starEach [e] X.env = (false, eval e X.env) :: starEach [] X.env := by rfl) : PE X (.Call (.Name "tuple" p) [e] [] pos) (tTupRgP te) := by
  refine ⟨fun pins s σ H Q I h => ?_⟩
  refine Call_ (ld_blt I hg hm boot_tuple (PyProof.Rows.callWith_type1 (args_cons (thn (he pins s σ H _ I h) fun x s1 ⟨r, a, b, t, u, v, H1, ex, hr, I1, ok, q⟩ => args_nil ?_) na) na))
  subst ex
  obtain ⟨b1, b2, b3, b4, b5⟩ := ok
  refine call_tuple_range (n := (b - a).toNat) (I1.ok.hd hc) hr (small_one b1 b2 b3 b4) (rangeSize_nat a b) b5 fun h' tk acc hk hi => ?_
  have I2 : Inv X pins σ H1 { s1 with heap := h', toks := tk } := I1.kept hk
  refine ⟨.ref h'.objs.size, upd H1 h'.objs.size (.frz { cls := .type "tuple", data := .seq acc } (.tup (rgV a b))), I2.laid (t' := tk) (fun c o e => Heap.get?_push_of_some _ e) (Nat.le_refl _) (show ObjOk X.prog X.w _ _ _ (.frz _ (.tup (rgV a b))) from ⟨Heap.get?_push_size _ rfl, ?_, acc.toList, vals_rg hi, ?_⟩), rfl, q _ _ (I2.hok.fresh (Nat.le_refl _)) rfl⟩
  · rw [rgV_length, sizeLine_eq]; omega
  · rw [Array.toArray_toList]; exact IsTup.new _ _
def dTupIP (g : DenA) : Den := fun env ds => bnd (g env ds) fun xs s => if xs.length ≤ 100000 then some (.ptup xs, s) else none
theorem evf_tupRgP {e : Expr} {g : DenA} {p pos : Pos} (hc : X.calm = true) (hm : X.mg "tuple" = none) (he : EvRg X e g) (hg : Gl X "tuple" := by rfl) (hs : starEach [e] X.env = (false, eval e X.env) :: starEach [] X.env := by rfl) : EvF X (.Call (.Name "tuple" p) [e] [] pos) (dTupIP g) := fun B env ds σ Hf H d ds' S hf Q q => by
  obtain ⟨te, pt, kt⟩ := he
  obtain ⟨items, s1, e1, e2⟩ := bnd_eq hf
  split at e2
  · cases e2
    refine SE.of (pe_tupRgP hc hg hm pt hs) (kt B env ds σ Hf H _ _ S e1 _ fun a b Hf1 H1 g1 S1 hb ei => ?_)
    refine ⟨⟨by omega, by omega, by omega, by omega, by omega⟩, fun l o hl hd => ?_⟩
    rw [ei] at q
    exact (q.step g1).ptup S1 (rgV_rpl a b) hd l hl
  · cases e2
end
end L2.Dn
set_option Elab.async false
set_option linter.all false
set_option maxRecDepth 100000
/-! tuple(range(a, b, -1)), a plain tuple -/
namespace L2.Dn
open PySem PySem.Spec PyProof.Rows C8
section
variable {X : Cx} {a b e : Expr} {f h : Den} {g : DenA} {p pos : Pos}
theorem evf_tupRg3P {p2 pos2 p3 p4 : Pos} {k : Nat} (hc : X.calm = true) (hm : X.mg "tuple" = none) (hmr : X.mg "range" = none) (ha : EvR X a f) (hb : EvR X b h) (hg : Gl X "tuple" := by rfl) (hgr : Gl X "range" := by rfl)
    (hs0 : starEach [.Call (.Name "range" p2) [a, b, .UnaryOp .USub (.Constant (.int 1) k p3) p4] [] pos2] X.env = (false, eval (.Call (.Name "range" p2) [a, b, .UnaryOp .USub (.Constant (.int 1) k p3) p4] [] pos2) X.env) :: starEach [] X.env := by rfl)
    (hs : starEach [a, b, .UnaryOp .USub (.Constant (.int 1) k p3) p4] X.env = (false, eval a X.env) :: starEach [b, .UnaryOp .USub (.Constant (.int 1) k p3) p4] X.env := by rfl) (hs1 : starEach [b, .UnaryOp .USub (.Constant (.int 1) k p3) p4] X.env = (false, eval b X.env) :: starEach [.UnaryOp .USub (.Constant (.int 1) k p3) p4] X.env := by rfl)
    (hs2 : starEach [.UnaryOp .USub (.Constant (.int 1) k p3) p4] X.env = (false, eval (.UnaryOp .USub (.Constant (.int 1) k p3) p4) X.env) :: starEach [] X.env := by rfl) (hpl : (backTo pos2 (starEach [b, .UnaryOp .USub (.Constant (.int 1) k p3) p4] X.env)).any (·.1) = false := by rfl) :
    EvF X (.Call (.Name "tuple" p) [.Call (.Name "range" p2) [a, b, .UnaryOp .USub (.Constant (.int 1) k p3) p4] [] pos2] [] pos) (dTupIP (dRg3 f h)) := fun B env ds σ Hf H d ds' S hf Q q => by
  obtain ⟨items, s3, e0, e2⟩ := bnd_eq hf
  split at e2
  · cases e2
    obtain ⟨v1, s1, e1, e⟩ := bnd_eq e0
    obtain ⟨v2, s2, e3, e⟩ := bnd_eq e
    cases v1 with
    | int i =>
      cases v2 with
      | int j =>
        have e : (if -100000 < i ∧ i < 100000 ∧ -100000 < j ∧ j < 100000 then some (rgS i (-1) (i - j).toNat, s2) else none) = some (items, ds') := e
        split at e
        · rename_i hn
          cases e
          intro pins s I
          have hneg : EvF X (.UnaryOp .USub (.Constant (.int 1) k p3) p4) (d1 gNeg (dC (.int 1))) := evf_neg (EvF.r evf_int)
          refine Call_ (ld_blt I hg hm boot_tuple (PyProof.Rows.callWith_type1 (args_cons ?_ hs0) hs0))
          refine Call_ (ld_blt I hgr hmr boot_range (PyProof.Rows.callWith_type1 (args_cons (thn (ha B env ds σ Hf H _ _ S e1 (fun x H1 => x = .int i ∧ ∃ Hf1, Gr B Hf H Hf1 H1 ∧ SR B X.K env s1 σ Hf1 H1) (fun v Hf1 H1 g1 S1 r1 => by cases r1.int; exact ⟨rfl, Hf1, g1, S1⟩) pins s I) fun v sA ⟨x, H1, I1, r1, ex, Hf1, g1, S1⟩ =>
            args_cons (thn (hb B env s1 σ Hf1 H1 _ _ S1 e3 (fun x H2 => x = .int j ∧ ∃ Hf2, Gr B Hf1 H1 Hf2 H2 ∧ SR B X.K env ds' σ Hf2 H2) (fun v Hf2 H2 g2 S2 r2 => by cases r2.int; exact ⟨rfl, Hf2, g2, S2⟩) pins sA I1) fun v2 sB ⟨x2, H2, I2, r2, ex2, Hf2, g2, S2⟩ =>
            args_cons (thn (hneg B env ds' σ Hf2 H2 (.int (-1)) ds' S2 rfl (fun x H3 => x = .int (-1) ∧ ∃ Hf3, Gr B Hf2 H2 Hf3 H3 ∧ SR B X.K env ds' σ Hf3 H3) (fun v Hf3 H3 g3 S3 r3 => by cases r3; exact ⟨rfl, Hf3, g3, S3⟩) pins sB I2) fun v3 sC ⟨x3, H3, I3, r3, ex3, Hf3, g3, S3⟩ => args_nil ?_) hs2) hs1) hs) hs hpl))
          subst ex ex2 ex3
          obtain ⟨t, rfl⟩ := r1
          obtain ⟨t', rfl⟩ := r2
          obtain ⟨t'', rfl⟩ := r3
          have hgc := RgC.neg (i := i) (j := j) (by omega) (by omega) (by omega) (by omega)
          obtain ⟨c0, c1, c2, c3⟩ := hgc
          refine call_range_3 c0 ?_ (.inl (PyProof.noPylong_small c1))
          have I4 : Inv X pins σ H3 { sC with heap := sC.heap.push { cls := .type "range", data := .fields #[.int i t, .int j t', .int (-1) t''] } } := I3.kept (t' := sC.toks) fun b o e => Heap.get?_push_of_some _ e
          refine args_nil ?_
          refine call_tuple_range (n := (i - j).toNat) (I3.ok.hd hc) (IsRange.new ..) c2 c3 (by omega) fun h' tk acc hk hi => ?_
          have I5 : Inv X pins σ H3 { sC with heap := h', toks := tk } := I4.kept hk
          have rv : Vals ((List.range (i - j).toNat).map fun m => V.int (i + (m : Nat) * (-1))) acc.toList := by
            have e : acc.toList.length = (i - j).toNat := by rw [Array.length_toList]; exact hi.1
            rw [← e]
            refine vals_of_get acc.toList _ fun m u hm => ?_
            obtain ⟨t, rfl⟩ := hi.2 m u (by rw [← hm, Array.getElem?_toList])
            exact ⟨t, rfl⟩
          have qq := (q.step ((g1.trans g2).trans g3)).ptup S3 (rgS_rp (Hf := Hf3) (-1) (i - j).toNat i) (o := { cls := .type "tuple", data := .seq acc }) rfl
          refine ⟨.ref h'.objs.size, upd H3 h'.objs.size (.frz { cls := .type "tuple", data := .seq acc } (.tup ((List.range (i - j).toNat).map fun m => V.int (i + (m : Nat) * (-1))))), I5.laid (t' := tk) (fun c o e => Heap.get?_push_of_some _ e) (Nat.le_refl _) ⟨Heap.get?_push_size _ rfl, ?_, acc.toList, rv, ?_⟩, rfl, qq _ I5.fresh⟩
          · rw [List.length_map, List.length_range, sizeLine_eq]; omega
          · rw [Array.toArray_toList]; exact IsTup.new _ _
        · cases e
      | _ => cases e
    | _ => cases e
  · cases e2
end
end L2.Dn
set_option Elab.async false
set_option linter.all false
set_option maxRecDepth 100000
set_option maxHeartbeats 1000000
/-! zip of a list and a tuple, walked -/
namespace L2.Dn
open PySem PySem.Spec PyProof.Rows
section
variable {prog : Program} {w : World} {A : Around} {E : Value → Shared → Prop} {s : Shared} {zz pI pO j1 j2 m1 m2 : Addr} {k1 k2 : Nat} {xs ys : Array Value} {a b : Value}
abbrev But4 (zz pO j1 j2 : Addr) (h h' : Heap) : Prop := ∀ c o, c ≠ zz → c ≠ pO → c ≠ j1 → c ≠ j2 → h.get? c = some o → h'.get? c = some o
/-- where the objects of a zip stand: the list's iterator and the tuple's at their items -/
structure ZAt (h : Heap) (zz pI pO j1 j2 m1 m2 : Addr) (f0 a b : Value) (k1 k2 : Nat) : Prop where
  z : IsZip h zz pI pO f0
  i : IsPair h pI (.ref j1) (.ref j2)
  o : IsPair h pO a b
  l : h.IsListIter j1 m1 k1
  t : h.IsTupleIter j2 m2 k2
theorem zipM_item {x y : Value} {Q : Value → Shared → Prop} (D : ZipApart zz pI pO j1 j2 m1 m2) (st : ZAt s.heap zz pI pO j1 j2 m1 m2 .none a b k1 k2) (q1 : s.heap.IsList m1 xs) (q2 : s.heap.IsTuple m2 ys) (ex : xs[k1]? = some x) (ey : ys[k2]? = some y)
    (go : ∀ h', IsZip h' zz pI pO (rawInt s.heap.objs.size) → IsPair h' pO x y → h'.IsListIter j1 m1 (k1 + 1) → h'.IsTupleIter j2 m2 (k2 + 1) → IsPair h' s.heap.objs.size x y → But4 zz pO j1 j2 s.heap h' → Q (.ref s.heap.objs.size) { s with heap := h' }) :
    wpAny (model prog w) A (Builtin.«zip.__next__» ⟨[.ref zz], []⟩) (fun fin s' => ∃ v, fin = .done (.ret v) ∧ Q v s') E s := by
  obtain ⟨z0, i0, o0, l0, t0⟩ := st
  show wpAny (model prog w) A (field (.ref zz) 2 >>= _) _ E s; refine wpAny_bind (wpAny_field z0 rfl (x := .bool false) rfl ?_)
  show wpAny (model prog w) A (field (.ref zz) 3 >>= _) _ E s; refine wpAny_bind (wpAny_field z0 rfl (x := .ref pI) rfl (wpAny_bind (wpAny_seqItems i0 rfl ?_)))
  show wpAny (model prog w) A (Builtin.SmallTypes.ownedTupleIsFree (.ref zz) >>= _) _ E s; refine wpAny_bind ?_; unfold Builtin.SmallTypes.ownedTupleIsFree
  refine wpAny_bind (wpAny_field z0 rfl (x := .none) rfl (wpAny_pure ?_)); simp only [if_true]; refine wpAny_bind (wpAny_rule (wpAny_bind (wpAny_field z0 rfl (x := .ref pO) rfl ?_)))
  refine wpAny_bind (wpAny_setField_rec z0 (by simp) fun g1 z1 sb1 => ?_)
  have z1 : IsZip g1 zz pI pO .ellipsis := z1
  refine wpAny_bind ?_; simp only [List.zipIdx_cons, List.zipIdx_nil, List.forIn_cons, List.forIn_nil]; refine wpAny_bind (wpAny_bind (wpAny_onRaise ?_))
  show wpAny (model prog w) A (Builtin.SmallTypes.nextOf (.ref j1) >>= _) _ _ _
  refine wpAny_bind (wpAny_nextOf_list_item (l0.extBut sb1.extBut D.i1z) (q1.extBut sb1.extBut D.l1z) ex fun g2 l2 sb2 => wpAny_pure ?_)
  have o2 : IsPair g2 pO a b := sb2.extBut _ _ D.TOi1 (sb1.extBut _ _ D.TOz o0)
  refine wpAny_bind (wpAny_seqItems o2 rfl (wpAny_bind (wpAny_updateSeq_pair o2 fun g3 o3 sb3 => ?_)))
  have o3 : IsPair g3 pO x b := o3
  refine wpAny_bind (wpAny_letGo (wpAny_pure (wpAny_bind (wpAny_bind (wpAny_onRaise ?_)))))
  show wpAny (model prog w) A (Builtin.SmallTypes.nextOf (.ref j2) >>= _) _ _ _
  refine wpAny_bind (RZ.nextOf_tuple_item (((t0.extBut sb1.extBut D.i2z).extBut sb2.extBut D.i12.symm).extBut sb3.extBut D.TOi2.symm) (((q2.extBut sb1.extBut D.l2z).extBut sb2.extBut D.l2i1).extBut sb3.extBut D.l2TO) ey fun g4 t4 sb4 => wpAny_pure ?_)
  have o4 : IsPair g4 pO x b := sb4.extBut _ _ D.TOi2 o3
  refine wpAny_bind (wpAny_seqItems o4 rfl (wpAny_bind (wpAny_updateSeq_pair o4 fun g5 o5 sb5 => ?_)))
  have o5 : IsPair g5 pO x y := o5
  refine wpAny_bind (wpAny_letGo (wpAny_pure (wpAny_pure (wpAny_bind (wpAny_seqItems o5 rfl (wpAny_bind (wpAny_newTuple ?_)))))))
  have sz : g5.objs.size = s.heap.objs.size := sb5.1.trans (sb4.1.trans (sb3.1.trans (sb2.1.trans sb1.1)))
  have z5 : IsZip g5 zz pI pO .ellipsis := sb5.extBut _ _ D.TOz.symm (sb4.extBut _ _ D.i2z.symm (sb3.extBut _ _ D.TOz.symm (sb2.extBut _ _ D.i1z.symm z1)))
  have b5 : But4 zz pO j1 j2 s.heap g5 := fun c o n1 n2 n3 n4 e => sb5.extBut _ _ n2 (sb4.extBut _ _ n4 (sb3.extBut _ _ n2 (sb2.extBut _ _ n3 (sb1.extBut _ _ n1 e))))
  have l5 : g5.IsListIter j1 m1 (k1 + 1) := ((l2.extBut sb3.extBut D.TOi1.symm).extBut sb4.extBut D.i12).extBut sb5.extBut D.TOi1.symm
  have t5 : g5.IsTupleIter j2 m2 (k2 + 1) := t4.extBut sb5.extBut D.TOi2.symm
  have zlt : zz < g5.objs.size := Heap.lt_size z5
  show wpAny (model prog w) A (Builtin.SmallTypes.ownedTupleHandOut (.ref zz) (.ref g5.objs.size) >>= _) _ _ _; refine wpAny_bind ?_; unfold Builtin.SmallTypes.ownedTupleHandOut
  have z6 : IsZip (g5.push { cls := .type "tuple", data := .seq #[x, y] }) zz pI pO .ellipsis := Heap.get?_push_of_some _ z5
  refine wpAny_bind (wpAny_setField_rec z6 (by simp) fun g7 z7 sb7 => ?_)
  have z7 : IsZip g7 zz pI pO (rawInt g5.objs.size) := z7
  refine wpAny_setField_rec z7 (by simp) fun g8 z8 sb8 => ?_
  have z8 : IsZip g8 zz pI pO (rawInt g5.objs.size) := z8
  have up : ∀ c o, c ≠ zz → g5.get? c = some o → g8.get? c = some o := fun c o n e => sb8.extBut _ _ n (sb7.extBut _ _ n (Heap.get?_push_of_some _ e))
  have t8 : IsPair g8 g5.objs.size x y := sb8.extBut _ _ (Nat.ne_of_gt zlt) (sb7.extBut _ _ (Nat.ne_of_gt zlt) (Heap.get?_push_size _ rfl))
  rw [sz] at z8 t8
  refine wpAny_pure ⟨_, rfl, ?_⟩
  show Q (.ref g5.objs.size) _
  rw [sz]
  exact go g8 z8 (up _ _ D.TOz o5) (l5.at fun o e => up _ o D.i1z e) (t5.at fun o e => up _ o D.i2z e) t8 fun c o n1 n2 n3 n4 e => up c o n1 (b5 c o n1 n2 n3 n4 e)
theorem zipM_end {Q : PySem.Fin → Shared → Prop} (hh : A.handled = none) (D : ZipApart zz pI pO j1 j2 m1 m2) (st : ZAt s.heap zz pI pO j1 j2 m1 m2 .none a b k1 k2) (q1 : s.heap.IsList m1 xs) (q2 : s.heap.IsTuple m2 ys) (en : xs[k1]? = none ∨ ys[k2]? = none)
    (go : ∀ h' e, But4 zz pO j1 j2 s.heap h' → (∃ o, h'.get? e = some o ∧ o.cls = .type "StopIteration") → E (.ref e) { s with heap := h' }) :
    wpAny (model prog w) A (Builtin.«zip.__next__» ⟨[.ref zz], []⟩) Q E s := by
  obtain ⟨z0, i0, o0, l0, t0⟩ := st
  show wpAny (model prog w) A (field (.ref zz) 2 >>= _) _ E s; refine wpAny_bind (wpAny_field z0 rfl (x := .bool false) rfl ?_)
  show wpAny (model prog w) A (field (.ref zz) 3 >>= _) _ E s; refine wpAny_bind (wpAny_field z0 rfl (x := .ref pI) rfl (wpAny_bind (wpAny_seqItems i0 rfl ?_)))
  show wpAny (model prog w) A (Builtin.SmallTypes.ownedTupleIsFree (.ref zz) >>= _) _ E s; refine wpAny_bind ?_; unfold Builtin.SmallTypes.ownedTupleIsFree
  refine wpAny_bind (wpAny_field z0 rfl (x := .none) rfl (wpAny_pure ?_)); simp only [if_true]; refine wpAny_bind (wpAny_rule (wpAny_bind (wpAny_field z0 rfl (x := .ref pO) rfl ?_)))
  refine wpAny_bind (wpAny_setField_rec z0 (by simp) fun g1 z1 sb1 => ?_)
  have z1 : IsZip g1 zz pI pO .ellipsis := z1
  refine wpAny_bind ?_; simp only [List.zipIdx_cons, List.zipIdx_nil, List.forIn_cons, List.forIn_nil]; refine wpAny_bind (wpAny_bind (wpAny_onRaise ?_))
  show wpAny (model prog w) A (Builtin.SmallTypes.nextOf (.ref j1) >>= _) _ _ _
  cases ex : xs[k1]? with
  | none =>
    refine wpAny_bind (wpAny_nextOf_list_end hh (l0.extBut sb1.extBut D.i1z) (q1.extBut sb1.extBut D.l1z) ex fun g2 e sb2 he => ?_)
    obtain ⟨oe, e1, e2⟩ := he
    have z2 : IsZip g2 zz pI pO .ellipsis := sb2 _ _ D.i1z.symm z1
    have nz : e ≠ zz := fun q => by subst q; rw [z2] at e1; cases e1; simp at e2
    refine wpAny_setField_rec z2 (by simp) fun g3 _ sb3 => go g3 e (fun c o n1 _ n3 _ e => sb3.extBut _ _ n1 (sb2 _ _ n3 (sb1.extBut _ _ n1 e))) ⟨oe, sb3.extBut _ _ nz e1, e2⟩
  | some x =>
    have ey : ys[k2]? = none := en.resolve_left fun z => by rw [ex] at z; cases z
    refine wpAny_bind (wpAny_nextOf_list_item (l0.extBut sb1.extBut D.i1z) (q1.extBut sb1.extBut D.l1z) ex fun g2 l2 sb2 => wpAny_pure ?_)
    have o2 : IsPair g2 pO a b := sb2.extBut _ _ D.TOi1 (sb1.extBut _ _ D.TOz o0)
    refine wpAny_bind (wpAny_seqItems o2 rfl (wpAny_bind (wpAny_updateSeq_pair o2 fun g3 o3 sb3 => ?_)))
    refine wpAny_bind (wpAny_letGo (wpAny_pure (wpAny_bind (wpAny_bind (wpAny_onRaise ?_)))))
    show wpAny (model prog w) A (Builtin.SmallTypes.nextOf (.ref j2) >>= _) _ _ _
    refine wpAny_bind (RZ.nextOf_tuple_end hh (((t0.extBut sb1.extBut D.i2z).extBut sb2.extBut D.i12.symm).extBut sb3.extBut D.TOi2.symm) (((q2.extBut sb1.extBut D.l2z).extBut sb2.extBut D.l2i1).extBut sb3.extBut D.l2TO) ey fun g4 e sb4 he => ?_)
    obtain ⟨oe, e1, e2⟩ := he
    have z4 : IsZip g4 zz pI pO .ellipsis := sb4 _ _ D.i2z.symm (sb3.extBut _ _ D.TOz.symm (sb2.extBut _ _ D.i1z.symm z1))
    have nz : e ≠ zz := fun q => by subst q; rw [z4] at e1; cases e1; simp at e2
    refine wpAny_setField_rec z4 (by simp) fun g5 _ sb5 => go g5 e (fun c o n1 n2 n3 n4 e => sb5.extBut _ _ n1 (sb4 _ _ n4 (sb3.extBut _ _ n2 (sb2.extBut _ _ n3 (sb1.extBut _ _ n1 e))))) ⟨oe, sb5.extBut _ _ nz e1, e2⟩
theorem pyNext_zipM_item {x y : Value} {Q : Option Value → Shared → Prop} (D : ZipApart zz pI pO j1 j2 m1 m2) (st : ZAt s.heap zz pI pO j1 j2 m1 m2 .none a b k1 k2) (q1 : s.heap.IsList m1 xs) (q2 : s.heap.IsTuple m2 ys) (ex : xs[k1]? = some x) (ey : ys[k2]? = some y)
    (go : ∀ h', IsZip h' zz pI pO (rawInt s.heap.objs.size) → IsPair h' pO x y → h'.IsListIter j1 m1 (k1 + 1) → h'.IsTupleIter j2 m2 (k2 + 1) → IsPair h' s.heap.objs.size x y → But4 zz pO j1 j2 s.heap h' → Q (some (.ref s.heap.objs.size)) { s with heap := h' }) :
    wpAny (model prog w) A (pyNext (.ref zz)) Q E s := by
  have ty : s.TypeIs (.ref zz) "zip" := ⟨_, st.z, rfl⟩
  unfold pyNext
  exact wpAny_bind (wpAny_attempt (wpAny_callSpecial?_slot (name := Str.ofString "__next__") ty F.slot_zip_next (wpAny_call_entry F.slot_zip_next ty F.entry_zip_next (zipM_item D st q1 q2 ex ey fun h' c1 c2 c3 c4 c5 c6 => wpAny_pure (go h' c1 c2 c3 c4 c5 c6)) (F.args_zip_next_1 _))))
theorem pyNext_zipM_end {Q : Option Value → Shared → Prop} (hh : A.handled = none) (D : ZipApart zz pI pO j1 j2 m1 m2) (st : ZAt s.heap zz pI pO j1 j2 m1 m2 .none a b k1 k2) (q1 : s.heap.IsList m1 xs) (q2 : s.heap.IsTuple m2 ys) (en : xs[k1]? = none ∨ ys[k2]? = none)
    (go : ∀ h', But4 zz pO j1 j2 s.heap h' → Q none { s with heap := h' }) : wpAny (model prog w) A (pyNext (.ref zz)) Q E s := by
  have ty : s.TypeIs (.ref zz) "zip" := ⟨_, st.z, rfl⟩
  unfold pyNext
  refine wpAny_bind (wpAny_attempt (wpAny_callSpecial?_slot (name := Str.ofString "__next__") ty F.slot_zip_next (wpAny_call_entry F.slot_zip_next ty F.entry_zip_next (zipM_end hh D st q1 q2 en fun h' e bt he => ?_) (F.args_zip_next_1 _))))
  obtain ⟨oe, e1, e2⟩ := he
  exact wpAny_bind (wpAny_isInstance (T := "StopIteration") (b := true) ⟨oe, e1, e2⟩ isSubtype_stop (wpAny_pure (go _ bt)))
end
abbrev zmH1 (h : Heap) (l1 : Addr) : Heap := h.push { cls := .type "list_iterator", data := .fields #[.ref l1, .int 0 0] }
abbrev zmH2 (h : Heap) (l1 l2 : Addr) : Heap := (zmH1 h l1).push { cls := .type "tuple_iterator", data := .fields #[.ref l2, .int 0 0] }
abbrev zmH3 (h : Heap) (l1 l2 : Addr) : Heap := (zmH2 h l1 l2).push { cls := .type "tuple", data := .seq #[.ref h.objs.size, .ref (zmH1 h l1).objs.size] }
abbrev zmH4 (h : Heap) (l1 l2 : Addr) : Heap := (zmH3 h l1 l2).push { cls := .type "tuple", data := .seq #[.none, .none] }
abbrev zmH5 (h : Heap) (l1 l2 : Addr) : Heap := (zmH4 h l1 l2).push { cls := .type "zip", data := .fields #[.none, .bool false, .bool false, .ref (zmH2 h l1 l2).objs.size, .ref (zmH3 h l1 l2).objs.size] }
theorem meets_zipM (l1 l2 : Addr) (xs ys : Array Value) : Meets (Builtin.«zip.__new__» ⟨[.type "zip", .ref l1, .ref l2], []⟩) (fun _ R s => s.heap.IsList l1 xs ∧ s.heap.IsTuple l2 ys ∧ R (.ok (.ret (.ref (zmH4 s.heap l1 l2).objs.size))) { s with heap := zmH5 s.heap l1 l2 }) := .of_wp fun prog w A R s h => by
  obtain ⟨hp, g, d, tk, os⟩ := s; obtain ⟨q1, q2, h⟩ := h
  have subz := PySem.sub_zip
  have c1 : Heap.IsList (Shared.heap ⟨hp, g, d, tk, os⟩) l1 xs := q1
  have c2 : Heap.IsTuple (Shared.heap ⟨hp.push { cls := .type "list_iterator", data := .fields #[.ref l1, .int 0 0] }, g, d, tk, os⟩) l2 ys := Heap.IsTuple.push q2 _
  wp_walk using wpAny_pyIter_list c1, wpAny_pyIter_tuple c2
  exact ⟨_, rfl, h⟩
theorem call_zipM {prog : Program} {w : World} {A : Around} {E : Value → Shared → Prop} {s : Shared} {l1 l2 : Addr} {xs ys : Array Value} {Q : Value → Shared → Prop} (q1 : s.heap.IsList l1 xs) (q2 : s.heap.IsTuple l2 ys)
    (go : ∀ h', ZAt h' (s.heap.objs.size + 4) (s.heap.objs.size + 2) (s.heap.objs.size + 3) s.heap.objs.size (s.heap.objs.size + 1) l1 l2 .none .none .none 0 0 → (∀ c o, s.heap.get? c = some o → h'.get? c = some o) → Q (.ref (s.heap.objs.size + 4)) { s with heap := h' }) :
    wpAny (model prog w) A (call (.type "zip") [.ref l1, .ref l2]) Q E s := by
  refine callType_new F.called_zip (by decide) (F.typeCall_zip_2 _ _) (F.newCall_zip_2 _ _) (fun obj => F.args_object_init_3 obj _ _) F.entry_zip_new (meets_zipM l1 l2 xs ys) ⟨q1, q2, ?_⟩
  have n1 : (zmH1 s.heap l1).objs.size = s.heap.objs.size + 1 := Heap.size_push ..
  have n2 : (zmH2 s.heap l1 l2).objs.size = s.heap.objs.size + 2 := by rw [Heap.size_push, n1]
  have n3 : (zmH3 s.heap l1 l2).objs.size = s.heap.objs.size + 3 := by rw [Heap.size_push, n2]
  have n4 : (zmH4 s.heap l1 l2).objs.size = s.heap.objs.size + 4 := by rw [Heap.size_push, n3]
  have u5 : (zmH5 s.heap l1 l2).get? (zmH4 s.heap l1 l2).objs.size = some _ := Heap.get?_push_size _ rfl
  have u4 : (zmH5 s.heap l1 l2).get? (zmH3 s.heap l1 l2).objs.size = some _ := Heap.get?_push_of_some _ (Heap.get?_push_size _ rfl)
  have u3 : (zmH5 s.heap l1 l2).get? (zmH2 s.heap l1 l2).objs.size = some _ := Heap.get?_push_of_some _ (Heap.get?_push_of_some _ (Heap.get?_push_size _ rfl))
  have u2 : (zmH5 s.heap l1 l2).get? (zmH1 s.heap l1).objs.size = some _ := Heap.get?_push_of_some _ (Heap.get?_push_of_some _ (Heap.get?_push_of_some _ (Heap.get?_push_size _ rfl)))
  have u1 : (zmH5 s.heap l1 l2).get? s.heap.objs.size = some _ := Heap.get?_push_of_some _ (Heap.get?_push_of_some _ (Heap.get?_push_of_some _ (Heap.get?_push_of_some _ (Heap.get?_push_size _ rfl))))
  show _ ∧ _
  rw [n2, n3, n4] at u5
  rw [n1, n2] at u3
  rw [n3] at u4
  rw [n1] at u2
  rw [n4]
  exact ⟨⟨_, u5, rfl⟩, go _ ⟨u5, u3, u4, ⟨_, u1, rfl, rfl⟩, ⟨_, u2, rfl, rfl⟩⟩ fun c o e => Heap.get?_push_of_some _ (Heap.get?_push_of_some _ (Heap.get?_push_of_some _ (Heap.get?_push_of_some _ (Heap.get?_push_of_some _ e))))⟩
def ItzM (K : PySem.W.Frag) (a b : Addr) : It :=
  ⟨fun i H => ∃ (xs ys : List V) (x y : V), SqL K H a xs ∧ SqT K H b ys ∧ xs[i]? = some x ∧ ys[i]? = some y, fun i H v H' => ∃ T x y, v = .ref T ∧ H T = none ∧ H' = upd H T (.tup [x, y]) ∧ (∀ xs, SqL K H a xs → xs[i]? = some x) ∧ ∀ ys, SqT K H b ys → ys[i]? = some y, fun i H => ∃ xs ys : List V, SqL K H a xs ∧ SqT K H b ys ∧ (xs.length ≤ i ∨ ys.length ≤ i)⟩
theorem turn_zipM {P : Program} {w : World} {K : PySem.W.Frag} {elts : List Expr} {kk : Nat} {tpos : Pos} {a b zz pI pO j1 j2 : Addr} (D : ZipApart zz pI pO j1 j2 a b) : Turn P w K (.Tuple elts kk tpos) (ItzM K a b) [zz, pI, pO, j1, j2] zz (fun i h => ∃ x y, ZAt h zz pI pO j1 j2 a b .none x y i i) where
  mem := by simp
  obj := fun i h ⟨x, y, st⟩ c hc => by
    obtain ⟨o1, e1, _, d1⟩ := st.l
    obtain ⟨o2, e2, _, d2⟩ := st.t
    simp only [List.mem_cons, List.not_mem_nil, or_false] at hc
    rcases hc with rfl | rfl | rfl | rfl | rfl
    · exact ⟨_, st.z, fun v q => nomatch q⟩
    · exact ⟨_, st.i, fun v q => nomatch q⟩
    · exact ⟨_, st.o, fun v q => nomatch q⟩
    · exact ⟨o1, e1, fun v q => by rw [d1] at q; cases q⟩
    · exact ⟨o2, e2, fun v q => by rw [d2] at q; cases q⟩
  keep := fun i h h' ⟨x, y, st⟩ k => ⟨x, y, k zz (by simp) _ st.z, k pI (by simp) _ st.i, k pO (by simp) _ st.o, st.l.at fun o q => k j1 (by simp) o q, st.t.at fun o q => k j2 (by simp) o q⟩
  item := by
    intro X hP hw hK hc i pins s σ H E I hf ⟨x0, y0, st⟩ hg
    subst hP hw hK
    obtain ⟨xs, ys, x, y, hqx, hqy, hx, hy⟩ := hg
    obtain ⟨its, rv, p, _⟩ := I.list hqx
    obtain ⟨its2, rv2, p2, _⟩ := I.tuple hqy
    obtain ⟨u, hu, ru⟩ := rv.get hx
    obtain ⟨u2, hu2, ru2⟩ := rv2.get hy
    have hzl : zz < s.heap.objs.size := Heap.lt_size st.z
    refine pyNext_zipM_item D st p.isList p2 (x := u) (y := u2) (by simpa using hu) (by simpa using hu2) fun h' z' o' l' t' hT hk => ?_
    refine ⟨_, rfl, wpAny_letOwnedTupleGo_zip (s := { s with heap := h' }) z' fun h'' z'' sb => ?_⟩
    have hT2 : h''.get? s.heap.objs.size = some { cls := .type "tuple", data := .seq #[u, u2] } := (sb.2 _ (Nat.ne_of_gt hzl)).trans hT
    have new : ObjOk X.prog X.w (upd H s.heap.objs.size (.tup [x, y])) h'' s.heap.objs.size (.tup [x, y]) := ⟨by show 2 ≤ sizeLine; decide, [u, u2], .cons ru (.cons ru2 .nil), ⟨_, hT2, rfl, _, rfl⟩⟩
    have not4 : ∀ {c : Addr}, c ∉ [zz, pI, pO, j1, j2] → c ≠ zz ∧ c ≠ pO ∧ c ≠ j1 ∧ c ≠ j2 := fun {c} n => by
      simp only [List.mem_cons, List.not_mem_nil, or_false, not_or] at n
      exact ⟨n.1, n.2.2.1, n.2.2.2.1, n.2.2.2.2⟩
    have I1 : Inv X pins σ (upd H s.heap.objs.size (.tup [x, y])) { s with heap := h'' } := I.turnedNew (t' := s.toks) (ch := [zz, pI, pO, j1, j2]) (fun c o hb q => by
      obtain ⟨n1, n2, n3, n4⟩ := not4 hb
      exact (sb.2 c n1).trans (hk c o n1 n2 n3 n4 q)) hf (Nat.le_refl _) new
    refine ⟨.ref s.heap.objs.size, _, I1, rfl, ⟨_, x, y, rfl, I.hok.fresh (Nat.le_refl _), rfl, fun l hl => ?_, fun l hl => by rw [I.tuple_inj hl hqy]; exact hy⟩, ⟨u, u2, z'', ?_, ?_, ?_, ?_⟩, fun c hcm => ?_⟩
    · rw [I.list_inj hl hqx]; exact hx
    · exact (sb.2 _ D.TIz).trans (hk _ _ D.TIz D.TITO D.TIi1 D.TIi2 st.i)
    · exact (sb.2 _ D.TOz).trans o'
    · exact l'.at fun o q => (sb.2 _ D.i1z).trans q
    · exact t'.at fun o q => (sb.2 _ D.i2z).trans q
    · have hlt : c < s.heap.objs.size := by
        obtain ⟨o1, e1, _⟩ := st.l
        obtain ⟨o2, e2, _⟩ := st.t
        simp only [List.mem_cons, List.not_mem_nil, or_false] at hcm
        rcases hcm with rfl | rfl | rfl | rfl | rfl
        · exact hzl
        · exact Heap.lt_size st.i
        · exact Heap.lt_size st.o
        · exact Heap.lt_size e1
        · exact Heap.lt_size e2
      rw [upd_ne (Nat.ne_of_lt hlt)]
      exact (hf c hcm).1
  done := by
    intro X hP hw hK hc i pins s σ H E I hf ⟨x0, y0, st⟩ hg
    subst hP hw hK
    obtain ⟨xs, ys, hqx, hqy, hend⟩ := hg
    obtain ⟨its, rv, p, _⟩ := I.list hqx
    obtain ⟨its2, rv2, p2, _⟩ := I.tuple hqy
    have l1 := rv.length
    have l2 := rv2.length
    have he : its.toArray[i]? = none ∨ its2.toArray[i]? = none := hend.imp (fun q => by simp; omega) (fun q => by simp; omega)
    exact pyNext_zipM_end (I.ok.hd hc) D st p.isList p2 he fun h' hk => ⟨rfl, I.turnedL (t' := s.toks) (ch := [zz, pI, pO, j1, j2]) (fun c o hb q => by
      simp only [List.mem_cons, List.not_mem_nil, or_false, not_or] at hb
      exact hk c o hb.1 hb.2.2.1 hb.2.2.2.1 hb.2.2.2.2 q) hf⟩
  self := fun A i s Q E ⟨x, y, st⟩ h => wpAny_pyIter_zip st.z h
def iZipM (K : PySem.W.Frag) (ta : TA) : TI := fun σ H R => ta σ H fun vs H1 => ∃ a b xs ys, vs = [.ref a, .ref b] ∧ SqL K H1 a xs ∧ SqT K H1 b ys ∧ R (ItzM K a b) H1
theorem pi_zipM {X : Cx} {e e2 : Expr} {ta : TA} {p pos tpos : Pos} {elts : List Expr} {kk : Nat} (hg : Gl X "zip") (hm : X.mg "zip" = none) (ha : PA X [e, e2] ta) (hs : starEach [e, e2] X.env = (false, eval e X.env) :: starEach [e2] X.env := by rfl)
    (hpl : (backTo pos (starEach [e2] X.env)).any (·.1) = false := by rfl) : PI X (.Tuple elts kk tpos) (.Call (.Name "zip" p) [e, e2] [] pos) (iZipM X.K ta) := by
  refine ⟨fun pins s σ H R I h => ?_⟩
  refine Call_ (ld_blt I hg hm PyProof.Rows.boot_zip (PyProof.Rows.callWith_type1 (thn (ha.run pos pins s σ H _ I h) fun us s1 ⟨vs, H1, I1, r1, q1⟩ => ?_) hs hpl))
  obtain ⟨a, b, xs, ys, rfl, hqx, hqy, q⟩ := q1
  obtain ⟨u1, u2, rfl, r2, r3⟩ := vals2 r1
  obtain rfl : u1 = Value.ref a := r2
  obtain rfl : u2 = Value.ref b := r3
  obtain ⟨its, rv, p1, _⟩ := I1.list hqx
  obtain ⟨its2, rv2, p2, _⟩ := I1.tuple hqy
  obtain ⟨o2, ho2, _⟩ := id p2
  refine call_zipM p1.isList p2 fun h' st hk => wpAny_pyIter_zip st.z ?_
  refine ⟨s1.heap.objs.size + 4, [s1.heap.objs.size + 4, s1.heap.objs.size + 2, s1.heap.objs.size + 3, s1.heap.objs.size, s1.heap.objs.size + 1], _, _, H1, rfl, I1.kept (t' := s1.toks) hk, turn_zipM (PySem.W.ktu_apart s1.heap.objs.size a b p1.lt (Heap.lt_size ho2)), ⟨_, _, st⟩, fun c hcm => ?_, q⟩
  have hle : s1.heap.objs.size ≤ c := by
    simp only [List.mem_cons, List.not_mem_nil, or_false] at hcm
    rcases hcm with rfl | rfl | rfl | rfl | rfl
    · exact Nat.le_add_right _ _
    · exact Nat.le_add_right _ _
    · exact Nat.le_add_right _ _
    · exact Nat.le_refl _
    · exact Nat.le_add_right _ _
  exact I1.fpOk hle (I1.hok.fresh hle)
theorem yl_zipM {B : Bs} {K : PySem.W.Frag} {a b : Addr} {vs ws : List V} {xs ys : List D} {Hf0 : Hp} (hx : ∀ H, Same Hf0 H → SqL K H a vs) (hy : ∀ H, Same Hf0 H → SqT K H b ws) (r : RpL Hf0 vs xs) (r2 : RpL Hf0 ws ys) : Yl B K (ItzM K a b) (zipD xs ys) Hf0 := fun i env ds σ Hf H s S => by
  have l1 := r.length
  have l2 := r2.length
  have qx := hx H (s.trans S.sub)
  have qy := hy H (s.trans S.sub)
  rw [zipD_len]
  refine ⟨fun hi => ?_, fun hi => ⟨vs, ws, qx, qy, by omega⟩⟩
  obtain ⟨v, e1, r1⟩ := r.get (List.getElem?_eq_getElem (show i < xs.length by omega))
  obtain ⟨w, e2, r3⟩ := r2.get (List.getElem?_eq_getElem (show i < ys.length by omega))
  refine ⟨⟨vs, ws, v, w, qx, qy, e1, e2⟩, fun x H' y d hd => ?_⟩
  obtain ⟨T, v', w', rfl, nT, rfl, y1, y2⟩ := y
  have z1 := y1 vs qx
  have z2 := y2 ws qy
  rw [e1] at z1
  rw [e2] at z2
  cases z1
  cases z2
  rw [zipD_get _ _ _ _ _ (List.getElem?_eq_getElem (show i < xs.length by omega)) (List.getElem?_eq_getElem (show i < ys.length by omega))] at hd
  cases hd
  have nf := sub_none S nT
  have F := S.fre nT
  exact ⟨_, (Gr.refl.hp nT).fz nT nf, (S.hp nf F).fz nf upd_same F, .tup upd_same ((RpL.cons (r1.up s) (.cons (r3.up s) .nil)).up (same_fz nf))⟩
/-- zip(list, tuple) -/
def zipW : D → D → Option (List D)
  | .list xs, b => match tupD? b with
    | some ys => some (zipD xs ys)
    | none => none
  | _, _ => none
def dZipM (f h : Den) : DenA := fun env ds => bnd (f env ds) fun a s => bnd (h env s) fun b s1 => op1 (zipW a b) s1
theorem evi_zipM {X : Cx} {e e2 : Expr} {f h : Den} {p pos tpos : Pos} {elts : List Expr} {kk : Nat} (hm : X.mg "zip" = none) (hf : EvF X e f) (hb : EvF X e2 h) (hg : Gl X "zip" := by rfl) (hs : starEach [e, e2] X.env = (false, eval e X.env) :: starEach [e2] X.env := by rfl) (hs2 : starEach [e2] X.env = (false, eval e2 X.env) :: starEach [] X.env := by rfl)
    (hpl : (backTo pos (starEach [e2] X.env)).any (·.1) = false := by rfl) : EvI X (.Tuple elts kk tpos) (.Call (.Name "zip" p) [e, e2] [] pos) (dZipM f h) := fun B env ds σ Hf H items ds' S he R q => by
  obtain ⟨v1, s1, e1, e3⟩ := bnd_eq he
  obtain ⟨v2, s2, e4, e5⟩ := bnd_eq e3
  obtain ⟨e6, rfl⟩ := op1_eq e5
  refine SI.of (pi_zipM hg hm (pa_cons (pe_se X _) (pa_cons (pe_se X _) pa_nil hs2) hs) hs hpl) (hf B env ds σ Hf H _ _ S e1 _ fun v Hf1 H1 g1 S1 r1 => hb B env s1 σ Hf1 H1 _ _ S1 e4 _ fun w Hf2 H2 g2 S2 r2 => ?_)
  have r1' := r1.up g2.ff
  unfold zipW at e6
  split at e6
  · split at e6
    · rename_i ys hy
      cases e6
      obtain ⟨b, ws, rfl, t2, q2⟩ := tupD_rp r2 hy
      cases r1' with
      | lst h1 t1 =>
        exact ⟨_, _, _, _, rfl, .inl (.inl (S2.sub _ _ h1)), q2 _ _ S2.sub, q _ _ _ (g1.trans g2) S2 (yl_zipM (fun H s => .inl (.inl (s _ _ h1))) (q2 _) t1 t2)⟩
    · cases e6
  · cases e6
end L2.Dn
set_option Elab.async false
set_option linter.all false
set_option maxRecDepth 100000
set_option maxHeartbeats 4000000
/-! sorted of data -/
namespace L2.Dn
open PySem PySem.Spec PyProof.Rows PySem.W
/-! ### insertion sort -/
def insB {α : Type} (le : α → α → Bool) (x : α) : List α → List α
  | [] => [x]
  | y :: r => (match le x y with
    | true => x :: y :: r
    | false => y :: insB le x r)
def srtB {α : Type} (le : α → α → Bool) : List α → List α
  | [] => []
  | x :: r => insB le x (srtB le r)
theorem insB_mid {α : Type} {le : α → α → Bool} (x : α) : ∀ (l1 l2 : List α), (∀ b ∈ l1, le x b = false) → (∀ b ∈ l2, le x b = true) → insB le x (l1 ++ l2) = l1 ++ x :: l2
  | [], [], _, _ => rfl
  | [], y :: r, _, h => by
    show (match le x y with | true => x :: y :: r | false => y :: insB le x r) = x :: y :: r
    rw [h y (List.mem_cons_self ..)]
  | z :: l1, l2, h1, h2 => by
    show (match le x z with | true => x :: z :: (l1 ++ l2) | false => z :: insB le x (l1 ++ l2)) = z :: (l1 ++ x :: l2)
    rw [h1 z (List.mem_cons_self ..)]
    dsimp only
    rw [insB_mid x l1 l2 (fun b m => h1 b (List.mem_cons_of_mem _ m)) h2]
theorem merge_srtB {α : Type} {le : α → α → Bool} (tr : ∀ a b c, le a b = true → le b c = true → le a c = true) (tot : ∀ a b, (le a b || le b a) = true) : ∀ l : List α, l.mergeSort le = srtB le l
  | [] => by simp [srtB]
  | x :: l => by
    obtain ⟨l1, l2, e1, e2, e3⟩ := List.mergeSort_cons tr tot x l
    have pw : ((x :: l).mergeSort le).Pairwise fun a b => le a b = true := List.pairwise_mergeSort tr tot (x :: l)
    rw [e1] at pw
    have h2 : ∀ b ∈ l2, le x b = true := (List.pairwise_cons.mp (List.pairwise_append.mp pw).2.1).1
    rw [e1]
    show _ = insB le x (srtB le l)
    rw [← merge_srtB tr tot l, e2]
    exact (insB_mid x l1 l2 (fun b m => by simpa using e3 b m) h2).symm
theorem insB_map {α β : Type} (f : α → β) (le : β → β → Bool) (x : α) : ∀ l : List α, (insB (fun a b => le (f a) (f b)) x l).map f = insB le (f x) (l.map f)
  | [] => rfl
  | y :: r => by
    show (match le (f x) (f y) with | true => x :: y :: r | false => y :: insB (fun a b => le (f a) (f b)) x r).map f = (match le (f x) (f y) with | true => f x :: f y :: r.map f | false => f y :: insB le (f x) (r.map f))
    cases le (f x) (f y) with
    | true => rfl
    | false =>
      show f y :: (insB (fun a b => le (f a) (f b)) x r).map f = _
      rw [insB_map f le x r]
theorem srtB_map {α β : Type} (f : α → β) (le : β → β → Bool) : ∀ l : List α, (srtB (fun a b => le (f a) (f b)) l).map f = srtB le (l.map f)
  | [] => rfl
  | x :: r => by
    show (insB (fun a b => le (f a) (f b)) x (srtB _ r)).map f = insB le (f x) (srtB le (r.map f))
    rw [insB_map, srtB_map f le r]
theorem insB_perm {α : Type} {le : α → α → Bool} (x : α) : ∀ l : List α, (insB le x l).Perm (x :: l)
  | [] => .refl _
  | y :: r => by
    unfold insB
    split
    · exact .refl _
    · exact ((insB_perm x r).cons y).trans (.swap x y r)
theorem srtB_perm {α : Type} {le : α → α → Bool} : ∀ l : List α, (srtB le l).Perm l
  | [] => .refl _
  | x :: r => (insB_perm x (srtB le r)).trans ((srtB_perm r).cons x)
theorem dataLe_srtB {β : Type} (k : β → PyData) (l : List β) : l.mergeSort (dataLe false k) = srtB (fun a b => !dataLt (k b) (k a)) l := by
  have t := sortLe_total (listOrd itemOrd) false fun b => keyToks (k b)
  refine (merge_srtB (le := dataLe false k) t.trans (fun a b => ?_) l).trans rfl
  rcases t.total a b with h | h
  · exact by rw [show dataLe false k a b = true from h]; rfl
  · exact by rw [show dataLe false k b a = true from h, Bool.or_true]
/-! ### sorted of a list or a tuple by list.sort -/
section
variable {prog : Program} {w : World} {A : Around} {E : Value → Shared → Prop} {s : Shared}
def SqV (h : Heap) (l : Addr) (vs : List Value) : Prop := h.IsList l vs.toArray ∨ IsTup h l vs.toArray
theorem sortedV_of_sort {l : Addr} {vs : List Value} {kw : List (Str × Value)} {Q : Value → Shared → Prop} (hl : SqV s.heap l vs) (hL : vs.length ≤ sizeLine) (ha1 : argsOk "sorted" ⟨[.ref l], kw⟩) (ha2 : ∀ x, argsOk "list.sort" ⟨[.ref x], kw⟩)
    (body : ∀ E' : Value → Shared → Prop, wpAny (model prog w) A.in1.in1 (Builtin.«list.sort» ⟨[.ref (s.heap.objs.size + 1)], kw⟩) (fun f s' => f = .done (.ret .none) ∧ Q (.ref (s.heap.objs.size + 1)) s') E' { s with heap := copyHeap s.heap vs }) : wpAny (model prog w) A (call (.builtin "sorted") [.ref l] kw) Q E s := by
  rcases hl with hl | hl
  · exact sorted_of_sort hl hL ha1 ha2 body
  · refine call_function_entry_kw kind_sorted plain_sorted entry_sorted ha1 ?_
    unfold Builtin.«sorted»; refine wpAny_bind (m := checkCount "sorted" 1 1 _) (wpAny_pure (wpAny_bind (collect_tup hl ?_ hL))); refine wpAny_bind (wpAny_newList ?_ hL)
    have sz : ((s.heap.push (seqObj "list" #[] 0)).update s.heap.objs.size (Obj.mapSeq (· ++ vs.toArray))).objs.size = s.heap.objs.size + 1 := by rw [Heap.size_update, size_push']
    show wpAny (model prog w) _ _ _ _ { s with heap := copyHeap s.heap vs }; rw [sz]
    refine wpAny_bind (wpAny_holding (wpAny_call_entry_kw slot_list_sort ⟨_, copyHeap_at s.heap vs, rfl⟩ entry_list_sort (wpAny_mono (body _) (fun f s' hf => ?_) fun _ _ e => e) (ha2 _)))
    obtain ⟨rfl, hq⟩ := hf
    exact ⟨_, rfl, wpAny_pure ⟨_, rfl, hq⟩⟩
variable {β : Type} {vs : List Value} {bs : List β} {enc : β → PyData} {R : Value → β → Prop}
theorem sortedV_data {l : Addr} {Q : Value → Shared → Prop} (hl : SqV s.heap l vs) (e : EachIs R vs bs) (er : EachIs (fun v b => ∃ as, Reads s.heap v (enc b) as) vs bs) (hal : AllAlike (bs.map enc)) (hk : Sortable (bs.map enc)) (hL : bs.length ≤ sizeLine)
    (hu : ∀ b, b ∈ bs → A.units + 2 + (enc b).depth < cLine) (h : ∀ out, out.length = bs.length → EachIs R out (bs.mergeSort (dataLe false enc)) → Q (.ref (s.heap.objs.size + 1)) { s with heap := sortedAll s.heap vs (List.toArray out) }) : wpAny (model prog w) A (call (.builtin "sorted") [.ref l]) Q E s := by
  have e2 : EachIs (fun v b => ∃ as, Reads (sortingHeap (copyHeap s.heap vs) (s.heap.objs.size + 1) vs) v (enc b) as) vs bs := er.mono fun _ _ ⟨as, r⟩ => ⟨as, PyProof.Rows.Reads.keeps (fun _ _ => sorting_copy_old) r⟩
  have S := SortsAt.data (prog := prog) (w := w) (A := A.in1.in1) (s := { s with heap := sortingHeap (copyHeap s.heap vs) (s.heap.objs.size + 1) vs }) (each_map (R := fun v d => ∃ as, Reads (sortingHeap (copyHeap s.heap vs) (s.heap.objs.size + 1) vs) v d as) enc e2) hal hk (bound_map hu)
  have hz : vs.length ≤ sizeLine := by rw [e.length]; exact hL
  exact sortedV_of_sort hl hz (args_sorted1 _) (fun _ => args_list_sort _) fun _ => list_sort_vals (s := { s with heap := copyHeap s.heap vs }) (copyHeap_at s.heap vs) S hz ⟨rfl, h _ (by rw [sortVals_length false rfl]; exact e.length) (sortVals_data false e e2 hal)⟩
end
/-! ### sorted(xs) -/
def neTup (d : D) : Bool := match toPy d with
  | .tuple (_ :: _) => true
  | _ => false
def alikeB (xs : List D) : Bool := xs.all fun d => xs.all fun e => alike (toPy d) (toPy e)
def sortOk (xs : List D) : Bool := xs.all (eqOk 7) && (decide (xs.length < 2) || (alikeB xs && xs.all neTup))
def leD (x y : D) : Bool := !dataLt (toPy y) (toPy x)
def rSortD (X : Cx) : List V → Hp → VK → Prop := fun vs H Q => ∃ (a : Addr) (xs : List V) (ds : List D), vs = [.ref a] ∧ (SqL X.K H a xs ∨ SqT X.K H a xs) ∧ DpAll X.K H xs (toPyL ds) ∧ sortOk ds = true ∧
  ∀ (bs : List (V × D)) (p : Addr), bs.Perm (xs.zip ds) → bs.map (·.2) = srtB leD ds → H p = none → Q (.ref p) (upd H p (.lst (bs.map (·.1))))
theorem toPyL_map : ∀ ds : List D, toPyL ds = ds.map toPy
  | [] => rfl
  | d :: ds => by
    show toPy d :: toPyL ds = toPy d :: ds.map toPy
    rw [toPyL_map ds]
theorem dpAll_len {K : PySem.W.Frag} {H : Hp} : ∀ {xs : List V} {ds : List D}, DpAll K H xs (toPyL ds) → xs.length = ds.length
  | [], [], _ => rfl
  | [], d :: ds, h => by cases h
  | x :: xs, [], h => by cases h
  | x :: xs, d :: ds, h => by
    cases h with
    | cons _ t => exact congrArg Nat.succ (dpAll_len t)
section
variable {X : Cx} {pins : List (Addr × Obj)} {s : Shared} {σ : St} {H : Hp}
theorem each_rel : ∀ {xs : List V} {its : List Value} {ds : List D}, Vals xs its → xs.length = ds.length → EachIs (fun u (b : V × D) => RelV b.1 u) its (xs.zip ds)
  | _, _, [], .nil, _ => .nil
  | _, _, d :: ds, .cons r t, h => .cons r (each_rel t (by simpa using h))
  | _, _, [], .cons _ _, h => by simp at h
  | _, _, _ :: _, .nil, h => by simp at h
theorem each_reads (I : Inv X pins σ H s) : ∀ {xs : List V} {its : List Value} {ds : List D}, Vals xs its → DpAll X.K H xs (toPyL ds) → EachIs (fun u (b : V × D) => ∃ as, Reads s.heap u (toPy b.2) as) its (xs.zip ds)
  | _, _, [], .nil, _ => .nil
  | _, _, d :: ds, .cons r t, h => by
    cases h with
    | cons h1 h2 => exact .cons (Dp.reads I _ _ _ h1 r) (each_reads I t h2)
  | _, _, [], .cons _ _, h => by cases h
  | _, _, _ :: _, .nil, h => by cases h
theorem each_vals : ∀ {out : List Value} {bs : List (V × D)}, EachIs (fun u (b : V × D) => RelV b.1 u) out bs → Vals (bs.map (·.1)) out
  | _, _, .nil => .nil
  | _, _, .cons h t => .cons h (each_vals t)
theorem zip_snd : ∀ {xs : List V} {ds : List D}, xs.length = ds.length → (xs.zip ds).map (·.2) = ds
  | [], [], _ => rfl
  | [], _ :: _, h => by simp at h
  | _ :: _, [], h => by simp at h
  | x :: xs, d :: ds, h => by
    show d :: (xs.zip ds).map (·.2) = d :: ds
    rw [zip_snd (by simpa using h)]
theorem zip_fst : ∀ {xs : List V} {ds : List D}, xs.length = ds.length → (xs.zip ds).map (·.1) = xs
  | [], [], _ => rfl
  | [], _ :: _, h => by simp at h
  | _ :: _, [], h => by simp at h
  | x :: xs, d :: ds, h => by
    show x :: (xs.zip ds).map (·.1) = x :: xs
    rw [zip_fst (by simpa using h)]
theorem perm_short {α : Type} {l m : List α} (h : l.Perm m) (hl : m.length < 2) : l = m := by
  match m, hl with
  | [], _ => exact h.eq_nil
  | [x], _ => exact List.perm_singleton.mp h
theorem all_alike {ds : List D} (h : alikeB ds = true) : AllAlike (ds.map toPy) := fun d hd d' hd' => by
  obtain ⟨x, hx, rfl⟩ := List.mem_map.mp hd
  obtain ⟨y, hy, rfl⟩ := List.mem_map.mp hd'
  exact List.all_eq_true.mp (List.all_eq_true.mp h x hx) y hy
theorem sq_vals (I : Inv X pins σ H s) {a : Addr} {xs : List V} (h : SqL X.K H a xs ∨ SqT X.K H a xs) : ∃ its : List Value, Vals xs its ∧ SqV s.heap a its ∧ xs.length ≤ sizeLine := by
  rcases h with h | h
  · obtain ⟨its, r, p, z⟩ := I.list h
    exact ⟨its, r, .inl p.isList, z⟩
  · obtain ⟨its, r, p, z⟩ := I.tuple h
    exact ⟨its, r, .inr p, z⟩
theorem cr_sortD (hu : X.A.units + 65 < cLine) : CallR X (.builtin "sorted") (rSortD X) := by
  intro pins s σ H vs us Q I r h
  obtain ⟨a, xs, ds, rfl, hs, hd, ok, q⟩ := h
  obtain ⟨its, rv, hl, hz⟩ := sq_vals I hs
  rw [Vals.ref1 r]
  have hlen := dpAll_len hd
  unfold sortOk at ok
  rw [Bool.and_eq_true] at ok
  have er := each_reads I rv hd
  have e := each_rel rv hlen
  have ml : (xs.zip ds).map (fun b => toPy b.2) = ds.map toPy := by
    have := congrArg (List.map toPy) (zip_snd hlen)
    rw [List.map_map] at this
    exact this
  have fin : ∀ (bs : List (V × D)) (out : List Value), bs.Perm (xs.zip ds) → bs.map (·.2) = srtB leD ds → EachIs (fun u (b : V × D) => RelV b.1 u) out bs → EP X pins σ Q (.ref (s.heap.objs.size + 1)) { s with heap := sortedAll s.heap its (List.toArray out) } := fun bs out pm es eo => by
    obtain ⟨ep, he'⟩ := PyProof.Rows.sortedAll_at s.heap its out.toArray
    have hb : (bs.map (·.1)).length ≤ sizeLine := by
      rw [List.length_map, pm.length_eq, List.length_zip]
      omega
    exact ⟨.ref _, upd H (s.heap.objs.size + 1) (.lst (bs.map (·.1))), I.laid (t' := s.toks) (fun _ _ => PyProof.Rows.sortedAll_old) (Nat.le_succ _) ⟨hb, out, ep, each_vals eo, he'⟩, rfl, q _ _ pm es (I.hok.fresh (Nat.le_succ _))⟩
  by_cases h2 : ds.length < 2
  · have O : SrtO.Swo fun _ _ : Value => false := ⟨fun _ _ _ => rfl, fun _ _ _ _ _ => rfl⟩
    have il : its.length < 2 := by rw [← rv.length]; omega
    have srt : srtB leD ds = ds := by
      match ds, h2 with
      | [], _ => rfl
      | [d], _ => rfl
    have go : ∀ out : List Value, SrtO.Srtd (fun _ _ : Value => false) out → SrtO.Stb (fun _ _ : Value => false) out its → EP X pins σ Q (.ref (s.heap.objs.size + 1)) { s with heap := sortedAll s.heap its (List.toArray out) } := fun out _ st => by
      obtain rfl := perm_short st.perm il
      exact fin (xs.zip ds) out (.refl _) (by rw [zip_snd hlen, srt]) e
    rcases hl with hl | hl
    · exact SrtO.sorted_ord O hl (by rw [← rv.length]; exact hz) (fun z => absurd z (by omega)) go
    · exact sorted_ordT O hl (by rw [← rv.length]; exact hz) (fun z => absurd z (by omega)) go
  · have ok2 := ok.2
    rw [decide_eq_false h2, Bool.false_or, Bool.and_eq_true] at ok2
    refine sortedV_data (R := fun u (b : V × D) => RelV b.1 u) (enc := fun b => toPy b.2) hl e er (by rw [ml]; exact all_alike ok2.1) ?_ (by rw [List.length_zip]; omega) (fun b hb => ?_) fun out ol eo => ?_
    · rw [ml]
      refine .inl fun d hd => ?_
      obtain ⟨x, hx, rfl⟩ := List.mem_map.mp hd
      have nt := List.all_eq_true.mp ok2.2 x hx
      unfold neTup at nt
      split at nt
      · rename_i z
        exact ⟨_, _, z⟩
      · cases nt
    · have hm : b.2 ∈ ds := (List.of_mem_zip hb).2
      have := (eqOk_lay 7 b.2 (List.all_eq_true.mp ok.1 _ hm)).2
      show X.A.units + 2 + (toPy b.2).depth < cLine
      omega
    · rw [dataLe_srtB] at eo
      have em := srtB_map (fun b : V × D => b.2) leD (xs.zip ds)
      rw [zip_snd hlen] at em
      exact fin _ out (srtB_perm _) em eo
end
end L2.Dn
set_option Elab.async false
set_option linter.all false
set_option maxRecDepth 100000
set_option maxHeartbeats 4000000
/-! sorted(lot, key=lambda place: (place[0], -place[1])) -/
namespace L2.Dn
open PySem PySem.Spec PyProof.Rows PySem.W
section
variable {prog : Program} {w : World} {A : Around} {E : Value → Shared → Prop} {s : Shared}
abbrev plBodyE (x : Str) (k1 k2 c1 : Nat) (p1 p2 p3 p4 p5 p6 p7 p8 : Pos) : Expr :=
  .Tuple [.Subscript (.Name x p1) (.Constant (.int 0) k1 p2) p3, .UnaryOp .USub (.Subscript (.Name x p4) (.Constant (.int 1) k2 p5) p6) p7] c1 p8
/-- the lambda's call -/
theorem lam_pl {f a c' : Addr} {x q : Str} {params : Arguments} {scope : Scope} {pm ctv : Value} {k1 k2 c1 : Nat} {p1 p2 p3 p4 p5 p6 p7 p8 : Pos} {i j : Int} {t1 t2 : Tok} (hf : s.heap.get? f = some (kla_obj "<lambda>" q params (plBodyE x k1 k2 c1 p1 p2 p3 p4 p5 p6 p7 p8) scope [] pm c' ctv)) (hcd : s.heap.CodeRec (.ref c') q)
    (hp : IsTup s.heap a #[.int i t1, .int j t2]) (nl : s.heap.NoLimit) (hroom : A.depth < recursionLimit) (hk : scope.kind = .function) (hco : scope.isCoroutine = false) (hgen : scope.isGenerator = false) (hcell : ∀ y ∈ scope.names, y.2 ≠ .cell) (hx : scope.names.lookup x = some .local) (hxd : (x == ("__debug__" : Str)) = false)
    (hbind : bindArgs (kla_fn "<lambda>" q params (plBodyE x k1 k2 c1 p1 p2 p3 p4 p5 p6 p7 p8) scope [] pm (.ref c') ctv) ⟨[.ref a], []⟩ = pure [(x, .ref a)]) :
    wpAny (model prog w) A (call (.ref f) [.ref a]) (KeyPure (.tuple [.int i, .int (-j)]) s) (fun _ _ => False) s := by
  refine wpAny_call (codeAny_mono (R := fun r s' => ∃ v, r = .ok (.ret v) ∧ KeyPure (.tuple [.int i, .int (-j)]) s v s') (kla_callFunE hroom hf rfl hco hgen rfl hcd ?_) fun r s' ⟨v, e, k⟩ => by subst e; exact k)
  rw [hbind]
  refine wpAny_pure (wpAny_newFunctionEnv hcell (fun y hy => ?_) (fun h₁ hns hsb => ⟨nl.fresh _ hsb, kla_codeExpr ?_⟩) hk)
  · rw [List.mem_singleton.mp hy]; exact hx
  have keep : ∀ b o, s.heap.get? b = some o → h₁.get? b = some o := fun b o e => hsb.extBut b o (Nat.ne_of_lt (Heap.lt_size e)) (Heap.get?_push_of_some _ e)
  have tp : IsTup h₁ a #[.int i t1, .int j t2] := by
    obtain ⟨o, e1, e2, n, e3⟩ := hp
    exact ⟨o, keep _ _ e1, e2, n, e3⟩
  have look : (fun y => List.lookup y [(x, Value.ref a)].reverse) x = some (Value.ref a) := by simp [List.lookup]
  refine wpAny_Tuple_spliced (Calls.spliced_cons (Subscript_ (wpAny_Name (wpAny_loadName_local hk hx hns look (wpAny_Constant_int ?_)) hxd)))
  refine subscriptTail_builtinR (x := .int i t1) (T := "tuple") tp.typeIs slot_tuple_getitem.lookup (getItem_tuple (j := 0) (Q := fun r s' => r = .int i t1 ∧ _) tp (by decide) (by decide) rfl rfl ⟨rfl, ?_⟩)
  refine Calls.spliced_cons (UnaryOp_ (Subscript_ (wpAny_Name (wpAny_loadName_local hk hx hns look (wpAny_Constant_int ?_)) hxd)))
  refine subscriptTail_builtinR (x := .int j t2) (T := "tuple") tp.typeIs slot_tuple_getitem.lookup (getItem_tuple (j := 1) (Q := fun r s' => r = .int j t2 ∧ _) tp (by decide) (by decide) rfl rfl ⟨rfl, neg_int (Calls.spliced_nil ⟨by show 2 ≤ sizeLine; decide, ?_⟩)⟩)
  refine ⟨_, rfl, _, _, rfl, fun b o e => Heap.get?_push_of_some _ (keep b o e), ?_⟩
  exact .tuple (Heap.get?_push_size _ rfl) rfl rfl (.cons (.int _ _) (.cons (.int _ _) .nil))
variable {β : Type} {vs : List Value} {bs : List β} {R : Value → β → Prop}
theorem sortedV_key {l : Addr} {f : Value} {kw : List (Str × Value)} {Q : Value → Shared → Prop} (k : β → PyData) (hl : SqV s.heap l vs) (e : EachIs R vs bs) (hal : AllAlike (bs.map k)) (hk : Sortable (bs.map k)) (hL : bs.length ≤ sizeLine)
    (hu : ∀ x, x ∈ bs → A.units + 2 + (k x).depth < cLine) (ha1 : argsOk "sorted" ⟨[.ref l], kw⟩) (ha2 : ∀ x, argsOk "list.sort" ⟨[.ref x], kw⟩) (ht : ∀ x, Builtin.«list.sort» ⟨[.ref x], kw⟩ = ksk_tree x f false)
    (turn : ∀ (v : Value) (x : β), R v x → x ∈ bs → ∀ (h : Heap) (tk : Nat), (∀ b o, s.heap.get? b = some o → h.get? b = some o) → wpAny (model prog w) A.in1.in1 (call f [v]) (KeyPure (k x) { s with heap := h, toks := tk }) (fun _ _ => False) { s with heap := h, toks := tk })
    (go : ∀ out c h' tk, (∀ b o, s.heap.get? b = some o → h'.get? b = some o) → h'.get? (s.heap.objs.size + 1) = some (seqObj "list" (List.toArray out) c) → EachIs R out (bs.mergeSort (dataLe false k)) → Q (.ref (s.heap.objs.size + 1)) { s with heap := h', toks := tk }) : wpAny (model prog w) A (call (.builtin "sorted") [.ref l] kw) Q E s := by
  have hz : vs.length ≤ sizeLine := by rw [e.length]; exact hL
  have up : ∀ {g : Heap}, KeepsBut (s.heap.objs.size + 1) (copyHeap s.heap vs) g → ∀ b o, s.heap.get? b = some o → g.get? b = some o := fun {g} kp b o z => kp b o (Nat.ne_of_lt (Nat.lt_succ_of_lt (Heap.lt_size z))) (copyHeap_old z)
  refine sortedV_of_sort hl hz ha1 ha2 fun E' => ?_
  rw [ht]
  exact keyH_tree (kz := bs.map k) (s := { s with heap := copyHeap s.heap vs }) (copyHeap_at s.heap vs) (by rw [List.length_map]; exact e.length.symm) hz hal hk (bound_map (A := A.in1.in1) hu)
    (keyH_turns (s := { s with heap := copyHeap s.heap vs }) e fun v x hR hx h tk kp => turn v x hR hx h tk (up kp)) fun h' tk out c kp hD ko => ⟨rfl, go out c h' tk (up kp) hD (keyedOut_each k ko e)⟩
end
/-! ### the rule -/
def keyPl (d : D) : PyData := match d with
  | .tuple [.int i, .int j] => .tuple [.int i, .int (-j)]
  | .ptup [.int i, .int j] => .tuple [.int i, .int (-j)]
  | _ => .none
def isPl (d : D) : Bool := match d with
  | .tuple [.int _, .int _] => true
  | .ptup [.int _, .int _] => true
  | _ => false
def leK (x y : D) : Bool := !dataLt (keyPl y) (keyPl x)
def gSortPl : D → Option D := fun d => match seqI d with
  | some xs => if xs.all isPl then some (.list (srtB leK xs)) else none
  | none => none
theorem isPl_key {d : D} (h : isPl d = true) : ∃ i j : Int, keyPl d = .tuple [.int i, .int (-j)] ∧ (d = .tuple [.int i, .int j] ∨ d = .ptup [.int i, .int j]) := by
  unfold isPl at h
  split at h
  · exact ⟨_, _, rfl, .inl rfl⟩
  · exact ⟨_, _, rfl, .inr rfl⟩
  · cases h
theorem seqI_rd {B : Bs} {K : PySem.W.Frag} {env : En} {ds : DS} {σ : St} {Hf H : Hp} {v : V} {d : D} {xs : List D} (S : SR B K env ds σ Hf H) (r : Rd1 B Hf H v d) (h : seqI d = some xs) : ∃ a vs, v = .ref a ∧ (SqL K H a vs ∨ SqT K H a vs) ∧ RpL Hf vs xs := by
  cases d with
  | list ys =>
    cases h
    obtain ⟨a, ws, rfl, h1, h2⟩ := r.lst S.sub
    exact ⟨a, ws, rfl, .inl (.inl (.inl h1)), h2⟩
  | tuple ys =>
    cases h
    obtain ⟨a, ws, rfl, h1, h2⟩ := r.tup
    exact ⟨a, ws, rfl, .inr (.inl (.inl (S.sub _ _ h1))), h2⟩
  | ptup ys =>
    cases h
    obtain ⟨a, ws, o, rfl, h1, _, h2⟩ := r.ptup
    exact ⟨a, ws, rfl, .inr (.inl (.inr ⟨o, S.sub _ _ h1⟩)), h2⟩
  | _ => cases h
theorem rp_zip {Hf : Hp} : ∀ {vs : List V} {xs : List D}, RpL Hf vs xs → ∀ b ∈ vs.zip xs, Rp Hf b.1 b.2
  | _, _, .nil, b, m => nomatch m
  | _, _, .cons h t, b, m => by
    rcases List.mem_cons.mp m with rfl | m
    · exact h
    · exact rp_zip t b m
theorem rpL_pairs {Hf : Hp} : ∀ {bs : List (V × D)}, (∀ b ∈ bs, Rp Hf b.1 b.2) → RpL Hf (bs.map (·.1)) (bs.map (·.2))
  | [], _ => .nil
  | b :: bs, h => .cons (h b (List.mem_cons_self ..)) (rpL_pairs fun c m => h c (List.mem_cons_of_mem _ m))
/-- the lambda is made: its code object is new in the table, or found there -/
def LamNew (P : Addr) (H H1 : Hp) : Prop := H1 = H ∨ ∃ (c' : Addr) (ps more : Array Value), H P = some (.tbl ps) ∧ H c' = none ∧ H1 = upd (upd H P (.tbl more)) c' (LamX.CodeO c' QN) ∧ TriplesOk more.toList ∧ ∀ pos cv, codeAmong pos more.toList = some cv → codeAmong pos ps.toList = some cv ∨ cv = .ref c'
theorem LamNew.ext {P : Addr} {H H1 : Hp} (n : LamNew P H H1) {b : Addr} {o : HO} (e : H b = some o) (t : ∀ ps, o ≠ .tbl ps) : H1 b = some o := by
  rcases n with rfl | ⟨c', ps, more, h1, h2, rfl, _, _⟩
  · exact e
  · rw [upd_ne (ne_of_none e h2), upd_ne (fun z => by rw [z, h1] at e; cases e; exact t ps rfl)]
    exact e
theorem LamNew.none {P : Addr} {H H1 : Hp} (n : LamNew P H H1) {b : Addr} (e : H1 b = none) : H b = none := by
  rcases n with rfl | ⟨c', ps, more, h1, h2, rfl, _, _⟩
  · exact e
  · cases q : H b with
    | none => rfl
    | some o =>
      by_cases z1 : b = c'
      · rw [z1, upd_same] at e; cases e
      · rw [upd_ne z1] at e
        by_cases z2 : b = P
        · rw [z2, upd_same] at e; cases e
        · rw [upd_ne z2, q] at e; cases e
theorem LamNew.tk {P : Addr} {H H1 : Hp} (n : LamNew P H H1) : Tk H H1 := by
  rcases n with rfl | ⟨c', ps, more, h1, h2, rfl, h4, h5⟩
  · exact .refl _
  · intro P' ⟨qs, k1, k2, k3⟩
    have nc : P' ≠ c' := ne_of_none k1 h2
    have code : ∀ c q, H c = some (LamX.CodeO c q) → upd (upd H P (.tbl more)) c' (LamX.CodeO c' QN) c = some (LamX.CodeO c q) := fun c q e => by
      rw [upd_ne (ne_of_none e h2), upd_ne (fun z => by rw [z, h1] at e; cases e)]
      exact e
    by_cases z : P' = P
    · subst z
      rw [h1] at k1
      cases k1
      refine ⟨more, by rw [upd_ne nc, upd_same], h4, fun pos cv hc => ?_⟩
      rcases h5 pos cv hc with y | y
      · obtain ⟨c, e1, e2⟩ := k3 pos cv y
        exact ⟨c, e1, code _ _ e2⟩
      · exact ⟨c', y, upd_same⟩
    · refine ⟨qs, by rw [upd_ne nc, upd_ne z]; exact k1, k2, fun pos cv hc => ?_⟩
      obtain ⟨c, e1, e2⟩ := k3 pos cv hc
      exact ⟨c, e1, code _ _ e2⟩
theorem lam_make3 {X : Cx} {pins : List (Addr × Obj)} {σ : St} {H : Hp} {s : Shared} {P c : Addr} {params : Arguments} {body : Expr} {scope : Scope} {pos : Pos} {E : Value → Shared → Prop} {Q : Value → Shared → Prop} (I : Inv X pins σ H s) (TB : LamX.TabB X.base X.mg c P) (hcode : X.env.code = .ref c) (qn : X.env.qual ++ "<lambda>" = QN)
    (hT : LamX.TabS H P QN) (hdef : defaultsOf params X.env = ([], [])) (hfree : ∀ y ∈ scope.names, y.2 = .free → ∃ c, X.env.cells.lookup y.1 = some c)
    (h : ∀ (f c' : Addr) (pm ctv : Value) (H1 : Hp) (s' : Shared), Inv X pins σ H1 s' → LamNew P H H1 → s'.heap.get? f = some (kla_obj "<lambda>" QN params body scope (cloFrom X.env.cells scope.names []) pm c' ctv) → H1 c' = some (LamX.CodeO c' QN) → Q (.ref f) s') :
    wpAny (model X.prog X.w) X.A (eval (.Lambda params body scope pos) X.env) Q E s := by
  obtain ⟨ps, hP, ht, ha⟩ := hT
  refine kla_eval hdef ?_
  rw [qn]
  have bP : s.heap.BuiltinsAt X.mg P := TB.bm.keeps I.bk
  have oP : s.heap.get? P = some { cls := .none, data := .fields ps } := I.hok P _ hP
  cases hc : codeAmong pos ps.toList with
  | some cv =>
    obtain ⟨c', rfl, hco⟩ := ha pos cv hc
    exact kla_makeFunctionHit (mg := X.mg) (c := c) (P := P) (ps := ps) (closure_ok hfree) I.ok.glob (I.mod.glob.keeps I.bk) hcode (TB.code.keeps I.bk) oP ht hc bP fun ctv h' tk hx hsz => h h'.objs.size c' ((X.mg "__name__").getD .none) ctv H _ (I.kept fun b o e => Heap.get?_push_of_some _ (hx b o e)) (.inl rfl) (Heap.get?_push_size _ rfl) hco
  | none =>
    refine kla_makeFunction (mg := X.mg) (c := c) (P := P) (ps := ps) (closure_ok hfree) I.ok.glob (I.mod.glob.keeps I.bk) hcode (TB.code.keeps I.bk) oP ht hc TB.gP bP fun c' ctv h' tk hx hge hlt hrec htb => ?_
    obtain ⟨c2, oc, vs, t, e2, hoc, hd, hv⟩ := hrec
    cases e2
    have nC : H c' = none := I.hok.fresh hge
    have eL : (ps ++ #[rawInt pos.line, rawInt pos.col, .ref c']).toList = ps.toList ++ [rawInt pos.line, rawInt pos.col, .ref c'] := by simp
    have I1 := LamX.inv_table (q := QN) (t' := tk) (more := #[rawInt pos.line, rawInt pos.col, .ref c']) (h' := h'.push (kla_obj "<lambda>" QN params body scope (cloFrom X.env.cells scope.names []) ((X.mg "__name__").getD .none) c' ctv)) I hP (fun b o hb e => Heap.get?_push_of_some _ (hx b o hb e)) (Heap.get?_push_of_some _ htb) hge ⟨oc, vs, t, Heap.get?_push_of_some _ hoc, hd, hv⟩
    refine h h'.objs.size c' ((X.mg "__name__").getD .none) ctv _ _ I1 (.inr ⟨c', ps, _, hP, nC, rfl, by rw [eL]; exact PySem.TriplesOk_snoc _ _ _ _ ht, fun pos' cv hcv => ?_⟩) (Heap.get?_push_size _ rfl) upd_same
    rw [eL] at hcv
    exact LamX.among_app _ ht hcv
/-- what the lambda's place tells: the table of the def, the name -/
structure LamOk (X : Cx) : Prop where
  tb : LamX.TabB X.base X.mg (He.codeOf X.K QD) (PTb X.K)
  cd : X.env.code = .ref (He.codeOf X.K QD)
  qn : X.env.qual ++ "<lambda>" = QN
section
variable {X : Cx} {e : Expr} {f : Den} {p kpos lpos pos : Pos}
theorem evn_sortPl {x : Str} {params : Arguments} {scope : Scope} {k1 k2 c1 : Nat} {p1 p2 p3 p4 p5 p6 p7 p8 : Pos} (L : LamOk X) (hu : X.A.units + 65 < cLine) (hr : Room 3 X.A) (hm : X.mg "sorted" = none) (he : EvR X e f) (hg : Gl X "sorted" := by rfl)
    (hk : scope.kind = .function := by rfl) (hco : scope.isCoroutine = false := by rfl) (hgen : scope.isGenerator = false := by rfl) (hcell : (scope.names.all fun y => !decide (y.2 = .cell) && !decide (y.2 = .free)) = true := by kernel_rfl) (hx : scope.names.lookup x = some .local := by kernel_rfl) (hxd : (x == ("__debug__" : Str)) = false := by decide)
    (hdef : defaultsOf params X.env = ([], []) := by rfl)
    (hbind : ∀ (q : Str) (pm ctv : Value) (c' a : Addr), bindArgs (kla_fn "<lambda>" q params (plBodyE x k1 k2 c1 p1 p2 p3 p4 p5 p6 p7 p8) scope [] pm (.ref c') ctv) ⟨[.ref a], []⟩ = pure [(x, .ref a)] := by intros; rfl)
    (hs : backTo pos (starEach [e] X.env) = (false, eval e X.env) :: backTo pos (starEach [] X.env) := by rfl) (hpl : (backTo pos (starEach [e] X.env)).any (·.1) = false := by rfl) :
    EvN X (.Call (.Name "sorted" p) [e] [⟨some "key", .Lambda params (plBodyE x k1 k2 c1 p1 p2 p3 p4 p5 p6 p7 p8) scope lpos, kpos⟩] pos) (d1 gSortPl f) := fun B env ds σ Hf H d ds' S hf Q q => by
  obtain ⟨v1, s1, e1, e2⟩ := bnd_eq hf
  obtain ⟨e3, rfl⟩ := op1_eq e2
  unfold gSortPl at e3
  split at e3
  · rename_i xs ex
    split at e3
    · rename_i hpl2
      cases e3
      intro pins s I
      refine wpAny_Call_Name_kw (ld_blt I hg hm boot_sorted ?_)
      refine PyProof.Rows.callWith_kw ?_ hs hpl (by rfl) (by rfl)
      rw [hs]
      refine Calls.spliced_cons (thn (he B env ds σ Hf H _ _ S e1 (fun v H1 => ∃ Hf1, Gr B Hf H Hf1 H1 ∧ SR B X.K env ds' σ Hf1 H1 ∧ Rd1 B Hf1 H1 v v1) (fun v Hf1 H1 g1 S1 r1 => ⟨Hf1, g1, S1, r1⟩) pins s I) fun u st ⟨v, H1, I1, rv, Hf1, g1, S1, r1⟩ => Calls.spliced_nil ?_)
      show wpAny _ _ (evalAll ((do let v ← eval (.Lambda params (plBodyE x k1 k2 c1 p1 p2 p3 p4 p5 p6 p7 p8) scope lpos) X.env; standAt pos; pure v) :: [])) _ _ st
      have nocell : ∀ y ∈ scope.names, y.2 ≠ .cell ∧ y.2 ≠ .free := fun y hy => by
        have := List.all_eq_true.mp hcell y hy
        simp only [Bool.and_eq_true, Bool.not_eq_true', decide_eq_false_iff_not] at this
        exact this
      refine wpAny_evalAll_cons (wpAny_bind (lam_make3 I1 L.tb L.cd L.qn (S1.tk _ S1.tab0) hdef (fun y hy z => absurd z (nocell y hy).2) fun fa c' pm ctv H2 s2 I2 ln hfo hco2 => wpAny_bind (wpAny_standAt (wpAny_pure (wpAny_evalAll_nil ?_)))))
      have nocl : cloFrom X.env.cells scope.names [] = [] := by
        have : ∀ l : List (Str × NameKind), (∀ y ∈ l, y.2 ≠ .free) → cloFrom X.env.cells l [] = [] := by
          intro l
          induction l with
          | nil => intro _; rfl
          | cons y l ih =>
            intro hl
            obtain ⟨y1, y2⟩ := y
            have h1 := hl (y1, y2) (List.mem_cons_self ..)
            have h2 := ih fun z hz => hl z (List.mem_cons_of_mem _ hz)
            cases y2 with
            | free => exact absurd rfl h1
            | _ => exact h2
        exact this _ fun y hy => (nocell y hy).2
      rw [nocl] at hfo
      obtain ⟨a, vs, rfl, hsq, rl⟩ := seqI_rd S1 r1 ex
      obtain rfl : u = Value.ref a := rv
      have up1 : ∀ {zs : List V}, SqL X.K H1 a zs → SqL X.K H2 a zs := fun {zs} z => by
        rcases z with (z | ⟨o, z⟩) | z
        · exact .inl (.inl (ln.ext z (by intro _ y; cases y)))
        · exact .inl (.inr ⟨o, ln.ext z (by intro _ y; cases y)⟩)
        · exact .inr z
      have up2 : ∀ {zs : List V}, SqT X.K H1 a zs → SqT X.K H2 a zs := fun {zs} z => by
        rcases z with (z | ⟨o, z⟩) | z
        · exact .inl (.inl (ln.ext z (by intro _ y; cases y)))
        · exact .inl (.inr ⟨o, ln.ext z (by intro _ y; cases y)⟩)
        · exact .inr z
      obtain ⟨its, rvs, hl, hz⟩ := sq_vals I2 (hsq.imp up1 up2)
      have hlen : vs.length = xs.length := rl.length
      have ee := each_rel (ds := xs) rvs hlen
      have allp := List.all_eq_true.mp hpl2
      have memz : ∀ b ∈ vs.zip xs, b.2 ∈ xs := fun b hb => (List.of_mem_zip hb).2
      -- the state behind the lambda
      have nP : Hf1 (PTb X.K) = none := S1.tabf
      have sub2 : Same Hf1 H2 := fun b o z => by
        have z1 := S1.sub b o z
        rcases ln with rfl | ⟨c2, ps, more, h1, h2, rfl, _, _⟩
        · exact z1
        · rw [upd_ne (ne_of_none z1 h2), upd_ne (ne_of_none z nP)]
          exact z1
      have g2 : Gr B Hf1 H1 Hf1 H2 := ⟨fun b o z => by
        rcases ln with rfl | ⟨c2, ps, more, h1, h2, rfl, _, _⟩
        · exact ⟨o, z, fun _ => .refl o⟩
        · rw [upd_ne (ne_of_none z h2)]
          by_cases y : b = PTb X.K
          · subst y
            rw [h1] at z
            cases z
            exact ⟨_, upd_same, fun _ => .inr ⟨_, _, rfl, rfl⟩⟩
          · exact ⟨o, by rw [upd_ne y]; exact z, fun _ => .refl o⟩, fun _ _ z => z, fun b z => .inl z, ln.tk⟩
      have S2 : SR B X.K env ds' σ Hf1 H2 := S1.move g2 sub2 fun y l c ed => by
        obtain ⟨h1, h2, h3, h4, h5⟩ := S1.draw y l c ed
        exact ⟨ln.ext h1 (by intro _ z; cases z), ln.ext h2 (by intro _ z; cases z), h3, h4, h5⟩
      have kk : ∀ b ∈ vs.zip xs, ∃ (aa : Addr) (i j : Int) (t1 t2 : Tok), b.1 = .ref aa ∧ keyPl b.2 = .tuple [.int i, .int (-j)] ∧ IsTup s2.heap aa #[.int i t1, .int j t2] := fun b hb => by
        obtain ⟨i, j, k1, k2⟩ := isPl_key (allp _ (memz b hb))
        have rb := rp_zip rl b hb
        have fin : ∀ (aa : Addr) (ws : List V), SqT X.K H2 aa ws → RpL Hf1 ws [.int i, .int j] → ∃ t1 t2, IsTup s2.heap aa #[.int i t1, .int j t2] := fun aa ws h1 h2 => by
          obtain ⟨iw, rw', pw, _⟩ := I2.tuple h1
          cases h2 with
          | cons ha h2 =>
            cases h2 with
            | cons hb h2 =>
              cases h2
              cases ha
              cases hb
              obtain ⟨u1, u2, rfl, ri, rj⟩ := vals2 rw'
              obtain ⟨t1, rfl⟩ := ri
              obtain ⟨t2, rfl⟩ := rj
              exact ⟨t1, t2, pw⟩
        obtain ⟨bv, bd⟩ := b
        rcases k2 with k2 | k2
        · have k2 : bd = .tuple [.int i, .int j] := k2
          subst k2
          cases rb with
          | tup h1 h2 =>
            obtain ⟨t1, t2, z⟩ := fin _ _ (.inl (.inl (sub2 _ _ h1))) h2
            exact ⟨_, i, j, t1, t2, rfl, rfl, z⟩
        · have k2 : bd = .ptup [.int i, .int j] := k2
          subst k2
          cases rb with
          | ptup h1 _ h2 =>
            obtain ⟨t1, t2, z⟩ := fin _ _ (.inl (.inr ⟨_, sub2 _ _ h1⟩)) h2
            exact ⟨_, i, j, t1, t2, rfl, rfl, z⟩
      have keys : ∀ d ∈ (vs.zip xs).map (fun b => keyPl b.2), ∃ i j : Int, d = .tuple [.int i, .int j] := fun d hd => by
        obtain ⟨b, hb, rfl⟩ := List.mem_map.mp hd
        obtain ⟨_, i, j, _, _, _, z, _⟩ := kk b hb
        exact ⟨i, -j, z⟩
      show wpAny _ _ (call (.builtin "sorted") [.ref a] [(Str.ofString "key", .ref fa)]) _ _ s2
      refine sortedV_key (R := fun u (b : V × D) => RelV b.1 u) (fun b => keyPl b.2) hl ee (fun d hd d' hd' => ?_) (.inl fun d hd => ?_) (by rw [List.length_zip]; omega) (fun b hb => ?_) (ksk_s1 _ _) (fun _ => ksk_l1 _ _) (fun _ => ksk_t1 _ _) (fun v b hR hb h tk up => ?_) fun out c h' tk up hD eo => ?_
      · obtain ⟨i, j, rfl⟩ := keys d hd
        obtain ⟨i', j', rfl⟩ := keys d' hd'
        rfl
      · obtain ⟨i, j, rfl⟩ := keys d hd
        exact ⟨_, _, rfl⟩
      · obtain ⟨_, i, j, _, _, _, z, _⟩ := kk b hb
        show X.A.units + 2 + (keyPl b.2).depth < cLine
        rw [z]
        have : (PyData.tuple [.int i, .int (-j)]).depth ≤ 2 := by simp [PyData.depth, PyData.depthAll]
        omega
      · obtain ⟨aa, i, j, t1, t2, z1, z2, z3⟩ := kk b hb
        rw [z1] at hR
        obtain rfl : v = Value.ref aa := hR
        show wpAny _ _ _ (KeyPure (keyPl b.2) _) _ _
        rw [z2]
        have nl : h.NoLimit := (I2.nolimit).keeps up
        obtain ⟨⟨oc, vv, t, hoc, hdc, hvc⟩, _, _⟩ := I2.hok c' _ hco2
        refine lam_pl (t1 := t1) (t2 := t2) (i := i) (j := j) (a := aa) (s := { s2 with heap := h, toks := tk }) (q := QN) (params := params) (scope := scope) (up _ _ hfo) ⟨c', oc, vv, t, rfl, up _ _ hoc, hdc, hvc⟩ ?_ nl (hr.in1.in1).depth hk hco hgen (fun y hy => (nocell y hy).1) hx hxd (hbind _ _ _ _ _)
        obtain ⟨o, e1, e2, n, e3⟩ := z3
        exact ⟨o, up _ _ e1, e2, n, e3⟩
      · rw [dataLe_srtB] at eo
        have em := srtB_map (fun b : V × D => b.2) leK (vs.zip xs)
        rw [zip_snd hlen] at em
        have pm := srtB_perm (le := fun a b : V × D => leK a.2 b.2) (vs.zip xs)
        have eo : EachIs (fun u (b : V × D) => RelV b.1 u) out (srtB (fun a b : V × D => leK a.2 b.2) (vs.zip xs)) := eo
        have hb : ((srtB (fun a b : V × D => leK a.2 b.2) (vs.zip xs)).map (·.1)).length ≤ sizeLine := by
          rw [List.length_map, pm.length_eq, List.length_zip]
          omega
        have rl2 := rpL_pairs (Hf := Hf1) (bs := srtB (fun a b : V × D => leK a.2 b.2) (vs.zip xs)) fun b hb => rp_zip rl b (pm.mem_iff.mp hb)
        rw [em] at rl2
        have np : H2 (s2.heap.objs.size + 1) = none := I2.hok.fresh (Nat.le_succ _)
        have nf := sub_none S2 np
        have F := S2.fre np
        refine ⟨.ref _, upd H2 (s2.heap.objs.size + 1) (.lst ((srtB (fun a b : V × D => leK a.2 b.2) (vs.zip xs)).map (·.1))), I2.laid (t' := tk) up (Nat.le_succ _) ⟨hb, out, c, each_vals eo, hD⟩, rfl, ?_⟩
        exact q _ Hf1 _ (g1.trans (g2.trans (Gr.refl.hp np))) (S2.hp nf F) (g1.fresh (ln.none np)) nf (.lst upd_same rl2)
    · cases e3
  · cases e3
end
end L2.Dn
set_option Elab.async false
set_option linter.all false
set_option maxRecDepth 100000
set_option maxHeartbeats 4000000
/-! sums and least ones of tuples, of a dict's values; tuples compared; sorted of ints or data -/
namespace L2.Dn
open PySem PySem.Spec PyProof.Rows C8
section
variable {prog : Program} {w : World} {A : Around} {E : Value → Shared → Prop} {s : Shared}
theorem ints_nth : ∀ {its : List Value} {ns : List Int} {i : Nat} {v : Value}, IntsAre its ns → its[i]? = some v → ∃ t, v = .int (ns.getD i 0) t
  | _, _, i, v, .nil, h => by simp at h
  | _, _, 0, v, .cons n t _, h => by
    cases h
    exact ⟨t, rfl⟩
  | _, _, i + 1, v, .cons n t r, h => by
    obtain ⟨u, e⟩ := ints_nth (i := i) r h
    exact ⟨u, e⟩
theorem preSum_take (ns : List Int) : ∀ k, k ≤ ns.length → preSum (fun i => ns.getD i 0) k = (ns.take k).sum
  | 0, _ => rfl
  | k + 1, h => by
    show preSum (fun i => ns.getD i 0) k + ns.getD k 0 = _
    have hx : ns[k]? = some ns[k] := List.getElem?_eq_getElem h
    rw [preSum_take ns k (Nat.le_of_succ_le h), List.take_succ, hx, List.sum_append, List.getD_eq_getElem?_getD, hx]
    simp
theorem preSum_full (ns : List Int) : preSum (fun i => ns.getD i 0) ns.length = ns.sum := by rw [preSum_take ns _ (Nat.le_refl _), List.take_length]
theorem sumTup {l : Addr} {its : List Value} {ns : List Int} {Q : Value → Shared → Prop} (hh : A.handled = none) (hl : IsTup s.heap l its.toArray) (hi : IntsAre its ns)
    (q : ∀ h' tk t', (∀ b o, s.heap.get? b = some o → h'.get? b = some o) → Q (.int ns.sum t') { s with heap := h', toks := tk }) : wpAny (model prog w) A (call (.builtin "sum") [.ref l]) Q E s := by
  have lt : l < s.heap.objs.size := IsTup.lt hl
  have ln : its.toArray.size = ns.length := by rw [List.size_toArray]; exact hi.length
  refine call_sum_walkAnyS (wpAny_pyIter_tuple hl ?_)
  refine ⟨s.heap.objs.size, _, _, _, _, _, _, fun i => ns.getD i 0, rfl, (Walks.tuple (A := A.in1) hh _ l (Nat.ne_of_lt lt) its.toArray).toS, ⟨⟨_, Heap.get?_push_size _ rfl, rfl, rfl⟩, Heap.IsTuple.push hl _⟩, fun b hb => ?_, fun i v hv => ints_nth hi (by simpa using hv), fun s' t' m => ?_⟩
  · show b < (s.heap.push _).objs.size
    rw [size_push']
    rcases List.mem_cons.mp hb with z | z
    · rw [z]
      exact Nat.lt_succ_self _
    · rw [List.mem_singleton.mp z]
      exact Nat.lt_succ_of_lt lt
  · obtain ⟨h', tk, rfl, hk⟩ := W.moved_old rfl rfl m
    rw [ln, preSum_full]
    exact q h' tk t' hk
theorem minTup {l : Addr} {its : List Value} {ns : List Int} {Q : Value → Shared → Prop} (hh : A.handled = none) (hl : IsTup s.heap l its.toArray) (hi : IntsAre its ns) (hne : 0 < ns.length)
    (q : ∀ h' tk M t', (∀ b o, s.heap.get? b = some o → h'.get? b = some o) → M ∈ ns → (∀ a, a ∈ ns → M ≤ a) → Q (.int M t') { s with heap := h', toks := tk }) : wpAny (model prog w) A (call (.builtin "min") [.ref l]) Q E s := by
  have lt : l < s.heap.objs.size := IsTup.lt hl
  have ln : its.toArray.size = ns.length := by rw [List.size_toArray]; exact hi.length
  have at_ : ∀ (i : Nat) (v : Value), its.toArray[i]? = some v → ∃ t, v = .int (ns.getD i 0) t := fun i v hv => ints_nth hi (by simpa using hv)
  refine call_min_walk (wpAny_pyIter_tuple hl ?_)
  refine ⟨s.heap.objs.size, _, _, _, _, _, _, rfl, Walks.tuple (A := A.in1) hh _ l (Nat.ne_of_lt lt) its.toArray, ⟨⟨_, Heap.get?_push_size _ rfl, rfl, rfl⟩, Heap.IsTuple.push hl _⟩, fun b hb => ?_, by omega, CmpOf.ints_lt (fun i => ns.getD i 0) at_, fun v h' tk hv hk => ?_⟩
  · show b < (s.heap.push _).objs.size
    rw [size_push']
    rcases List.mem_cons.mp hb with z | z
    · rw [z]
      exact Nat.lt_succ_self _
    · rw [List.mem_singleton.mp z]
      exact Nat.lt_succ_of_lt lt
  · obtain ⟨t, rfl⟩ := at_ _ v hv
    obtain ⟨m1, m2⟩ := argBest_lt (fun i => ns.getD i 0) (its.toArray.size - 1)
    refine q h' tk _ t (fun b o e => hk b o (fun z => by rw [List.mem_singleton.mp z] at e; exact absurd (Heap.lt_size e) (Nat.lt_irrefl _)) (Heap.get?_push_of_some _ e)) (PySem.getD_mem (by omega)) fun a ha => ?_
    obtain ⟨j, hj, e⟩ := List.mem_iff_getElem.mp ha
    have z := m2 j (by omega)
    have e3 : ns.getD j 0 = a := by rw [List.getD_eq_getElem?_getD, List.getElem?_eq_getElem hj, ← e] <;> rfl
    rw [e3] at z
    exact z
end
section
variable {X : Cx}
def rSumT (K : PySem.W.Frag) : List V → Hp → VK → Prop := fun vs H Q => ∃ (a : Addr) (ns : List Int), vs = [V.ref a] ∧ SqT K H a (ns.map V.int) ∧ Q (.int ns.sum) H
def rMinT (K : PySem.W.Frag) : List V → Hp → VK → Prop := fun vs H Q => ∃ (a : Addr) (ns : List Int), vs = [V.ref a] ∧ SqT K H a (ns.map V.int) ∧ 0 < ns.length ∧ ∀ m, m ∈ ns → (∀ y, y ∈ ns → m ≤ y) → Q (.int m) H
theorem cr_sumT (hc : X.calm = true) : CallR X (.builtin "sum") (rSumT X.K) := by
  intro pins s σ H vs us Q I r h
  obtain ⟨a, ns, rfl, hs, q⟩ := h
  obtain ⟨its, rv, p, _⟩ := I.tuple hs
  rw [Vals.ref1 r]
  exact sumTup (I.ok.hd hc) p (intsAre_of rv) fun h' tk t' hk => ⟨.int _, H, I.kept hk, ⟨_, rfl⟩, q⟩
theorem cr_minT (hc : X.calm = true) : CallR X (.builtin "min") (rMinT X.K) := by
  intro pins s σ H vs us Q I r h
  obtain ⟨a, ns, rfl, hs, hne, q⟩ := h
  obtain ⟨its, rv, p, _⟩ := I.tuple hs
  rw [Vals.ref1 r]
  exact minTup (I.ok.hd hc) p (intsAre_of rv) hne fun h' tk m t' hk h1 h2 => ⟨.int _, H, I.kept hk, ⟨_, rfl⟩, q m h1 h2⟩
def rSum2 (X : Cx) : List V → Hp → VK → Prop := fun vs H Q => rSum X.K vs H Q ∨ rSumT X.K vs H Q
def rMin1 (X : Cx) : List V → Hp → VK → Prop := fun vs H Q => rMin X.K vs H Q ∨ rMinT X.K vs H Q
theorem cr_sum2 (hc : X.calm = true) : CallR X (.builtin "sum") (rSum2 X) := CallR.or (cr_sum hc) (cr_sumT hc)
theorem cr_min1 (hc : X.calm = true) : CallR X (.builtin "min") (rMin1 X) := CallR.or (cr_min hc) (cr_minT hc)
theorem sq_ints {B : Bs} {K : PySem.W.Frag} {env : En} {ds : DS} {σ : St} {Hf H : Hp} {v : V} {d : D} {xs : List D} {ns : List Int} (S : SR B K env ds σ Hf H) (r : Rd1 B Hf H v d) (h : seqI d = some xs) (hi : ints? xs = some ns) : ∃ a, v = .ref a ∧ (SqL K H a (ns.map V.int) ∨ SqT K H a (ns.map V.int)) := by
  obtain ⟨a, vs, rfl, hs, rl⟩ := seqI_rd S r h
  rw [ints_eq hi] at rl
  rw [rpl_ints rl] at hs
  exact ⟨a, rfl, hs⟩
def gSum2 : List D → Option D
  | [d] => (match seqI d with
    | some xs => (match ints? xs with
      | some ns => some (.int ns.sum)
      | none => none)
    | none => none)
  | _ => none
theorem rc_sum2 : RCF X (rSum2 X) gSum2 := fun B env ds σ Hf H args d vs Q S r e q => by
  unfold gSum2 at e
  split at e
  · split at e
    · rename_i xs hx
      split at e
      · rename_i ns hn
        cases e
        cases r with
        | cons r t =>
          cases t
          obtain ⟨a, rfl, hs | hs⟩ := sq_ints S r hx hn
          · exact .inl ⟨a, ns, rfl, hs, q.now S (.int _)⟩
          · exact .inr ⟨a, ns, rfl, hs, q.now S (.int _)⟩
      · cases e
    · cases e
  · cases e
def minI (m : Int) : List Int → Int
  | [] => m
  | x :: r => (match decide (x < m) with
    | true => minI x r
    | false => minI m r)
theorem minI_le : ∀ (l : List Int) (m : Int), minI m l ≤ m ∧ (∀ y ∈ l, minI m l ≤ y) ∧ (minI m l = m ∨ minI m l ∈ l)
  | [], m => ⟨Int.le_refl _, fun y h => absurd h (by simp), .inl rfl⟩
  | x :: r, m => by
    unfold minI
    split
    · rename_i e
      have e := of_decide_eq_true e
      obtain ⟨h1, h2, h3⟩ := minI_le r x
      exact ⟨by omega, fun y hy => by
        rcases List.mem_cons.mp hy with rfl | hy
        · exact h1
        · exact h2 y hy, .inr (by
        rcases h3 with h3 | h3
        · rw [h3]; exact List.mem_cons_self ..
        · exact List.mem_cons_of_mem _ h3)⟩
    · rename_i e
      have e := of_decide_eq_false e
      obtain ⟨h1, h2, h3⟩ := minI_le r m
      exact ⟨h1, fun y hy => by
        rcases List.mem_cons.mp hy with rfl | hy
        · omega
        · exact h2 y hy, by
        rcases h3 with h3 | h3
        · exact .inl h3
        · exact .inr (List.mem_cons_of_mem _ h3)⟩
theorem minI_only {n m : Int} {ns : List Int} (hm : m ∈ n :: ns) (hl : ∀ y ∈ n :: ns, m ≤ y) : m = minI n ns := by
  obtain ⟨h1, h2, h3⟩ := minI_le ns n
  have a : minI n ns ∈ n :: ns := by
    rcases h3 with h3 | h3
    · rw [h3]; exact List.mem_cons_self ..
    · exact List.mem_cons_of_mem _ h3
  have b := hl _ a
  rcases List.mem_cons.mp hm with rfl | hm
  · omega
  · have := h2 m hm
    omega
def gMin1 : List D → Option D
  | [d] => (match seqI d with
    | some xs => (match ints? xs with
      | some (n :: ns) => some (.int (minI n ns))
      | _ => none)
    | none => none)
  | _ => none
theorem rc_min1 : RCF X (rMin1 X) gMin1 := fun B env ds σ Hf H args d vs Q S r e q => by
  unfold gMin1 at e
  split at e
  · split at e
    · rename_i xs hx
      split at e
      · rename_i n ns hn
        cases e
        cases r with
        | cons r t =>
          cases t
          obtain ⟨a, rfl, hs | hs⟩ := sq_ints S r hx hn
          · refine .inl ⟨a, n :: ns, rfl, hs, by simp, fun m hm hl => ?_⟩
            rw [minI_only hm hl]
            exact q.now S (.int _)
          · refine .inr ⟨a, n :: ns, rfl, hs, by simp, fun m hm hl => ?_⟩
            rw [minI_only hm hl]
            exact q.now S (.int _)
      · cases e
    · cases e
  · cases e
/-! ### x < y, whole numbers or tuples of them -/
def tupI : D → Option (List Int)
  | .tuple xs => ints? xs
  | .ptup xs => ints? xs
  | _ => none
theorem tupI_rd {B : Bs} {K : PySem.W.Frag} {env : En} {ds : DS} {σ : St} {Hf H : Hp} {v : V} {d : D} {ns : List Int} (S : SR B K env ds σ Hf H) (r : Rd1 B Hf H v d) (h : tupI d = some ns) : ∃ a, v = .ref a ∧ SqT K H a (ns.map V.int) := by
  cases d with
  | tuple ys =>
    obtain ⟨a, ws, rfl, h1, h2⟩ := r.tup
    rw [ints_eq (ds := ys) h] at h2
    rw [rpl_ints h2] at h1
    exact ⟨a, rfl, .inl (.inl (S.sub _ _ h1))⟩
  | ptup ys =>
    obtain ⟨a, ws, o, rfl, h1, _, h2⟩ := r.ptup
    rw [ints_eq (ds := ys) h] at h2
    rw [rpl_ints h2] at h1
    exact ⟨a, rfl, .inl (.inr ⟨o, S.sub _ _ h1⟩)⟩
  | _ => cases h
def gLtX : D → D → Option D := fun x y => match x with
  | .int i => (match y with
    | .int j => some (.bool (decide (i < j)))
    | _ => none)
  | _ => (match tupI x with
    | some ns => (match tupI y with
      | some ms => some (.bool (HT.lexLt ns ms))
      | none => none)
    | none => none)
def rLtX (X : Cx) : R2 := fun x y H Q => rI0 (fun i j => .bl (decide (i < j))) x y H Q ∨ rLtT X.K x y H Q
theorem op_ltX (hu : X.A.units < cLine) : OpR X (compareOp .Lt) (rLtX X) := OpR.or op_lt (op_ltT hu)
theorem r2_ltX : R2F X (rLtX X) gLtX := fun B env ds σ Hf H d1 d2 d x y Q S r1 r2 e q => by
  unfold gLtX at e
  split at e
  · split at e
    · cases e
      cases r1.int; cases r2.int
      exact .inl ⟨_, _, rfl, rfl, q.now S (.bl _)⟩
    · cases e
  · split at e
    · rename_i ns hn
      split at e
      · rename_i ms hm
        cases e
        obtain ⟨a, rfl, ha⟩ := tupI_rd S r1 hn
        obtain ⟨b, rfl, hb⟩ := tupI_rd S r2 hm
        exact .inr ⟨a, b, ns, ms, rfl, rfl, ha, hb, q.now S (.bl _)⟩
      · cases e
    · cases e
/-! ### t * k -/
def tupS : D → Option (List D)
  | .tuple xs => some xs
  | .ptup xs => some xs
  | _ => none
theorem tupS_rd {B : Bs} {K : PySem.W.Frag} {env : En} {ds : DS} {σ : St} {Hf H : Hp} {v : V} {d : D} {xs : List D} (S : SR B K env ds σ Hf H) (r : Rd1 B Hf H v d) (h : tupS d = some xs) : ∃ a vs, v = .ref a ∧ SqT K H a vs ∧ RpL Hf vs xs := by
  cases d with
  | tuple ys =>
    cases h
    obtain ⟨a, ws, rfl, h1, h2⟩ := r.tup
    exact ⟨a, ws, rfl, .inl (.inl (S.sub _ _ h1)), h2⟩
  | ptup ys =>
    cases h
    obtain ⟨a, ws, o, rfl, h1, _, h2⟩ := r.ptup
    exact ⟨a, ws, rfl, .inl (.inr ⟨o, S.sub _ _ h1⟩), h2⟩
  | _ => cases h
def gRepT : D → D → Option D := fun x y => match tupS x with
  | some xs => (match y with
    | .int k => if 0 < xs.length ∧ 2 ≤ k ∧ k ≤ 1000 ∧ xs.length ≤ 1000 then some (.tuple (List.replicate k.toNat xs).flatten) else none
    | _ => none)
  | none => none
theorem r2_repT : R2F X (rRepT X.K) gRepT := fun B env ds σ Hf H d1 d2 d x y Q S r1 r2 e q => by
  unfold gRepT at e
  split at e
  · rename_i xs hx
    split at e
    · split at e
      · rename_i hz
        cases e
        cases r2.int
        obtain ⟨a, vs, rfl, hs, rl⟩ := tupS_rd S r1 hx
        have hl := rl.length
        exact ⟨a, _, vs, rfl, rfl, hs, fun z => by rw [z] at hl; simp at hl; omega, hz.2.1, hz.2.2.1, by omega, fun p np => q.tup S (rl.rep _) p np⟩
      · cases e
    · cases e
  · cases e
/-! ### sorted of ints or data -/
def gSortD : List D → Option D
  | [d] => (match seqI d with
    | some xs => if sortOk xs then some (.list (srtB leD xs)) else none
    | none => none)
  | _ => none
theorem rpL_dpAll {K : PySem.W.Frag} {Hf H : Hp} (s : Same Hf H) : ∀ {ds : List D} {vs : List V}, ds.all (eqOk 7) = true → RpL Hf vs ds → DpAll K H vs (toPyL ds)
  | [], _, _, .nil => .nil
  | d :: ds, _, h, .cons r t => by
    rw [List.all_cons, Bool.and_eq_true] at h
    exact .cons (Rp.dp s d _ (eqOk_lay 7 d h.1).1 r) (rpL_dpAll s h.2 t)
theorem rc_sortD : RCN X (rSortD X) gSortD := fun B env ds σ Hf H args d vs Q S r e q => by
  unfold gSortD at e
  split at e
  · split at e
    · rename_i xs hx
      split at e
      · rename_i ok
        cases e
        cases r with
        | cons r t =>
          cases t
          obtain ⟨a, ws, rfl, hs, rl⟩ := seqI_rd S r hx
          have ok1 : xs.all (eqOk 7) = true := by
            have ok := ok
            unfold sortOk at ok
            rw [Bool.and_eq_true] at ok
            exact ok.1
          refine ⟨a, ws, xs, rfl, hs, rpL_dpAll S.sub ok1 rl, ok, fun bs p pm em np => ?_⟩
          have r2 := rpL_pairs (Hf := Hf) (bs := bs) fun b hb => rp_zip rl b (pm.mem_iff.mp hb)
          rw [em] at r2
          exact q.lst S r2 p np
      · cases e
    · cases e
  · cases e
def gSort2 : List D → Option D := fun args => match gSorted args with
  | some d => some d
  | none => gSortD args
def rSort2 (X : Cx) : List V → Hp → VK → Prop := fun vs H Q => rSorted2 X vs H Q ∨ rSortD X vs H Q
theorem cr_sort2 (hu : X.A.units + 65 < cLine) : CallR X (.builtin "sorted") (rSort2 X) := CallR.or cr_sorted2 (cr_sortD hu)
theorem rc_sort2 : RCN X (rSort2 X) gSort2 := fun B env ds σ Hf H args d vs Q S r e q => by
  unfold gSort2 at e
  split at e
  · rename_i d' h
    cases e
    exact .inl (rc_sorted B env ds σ Hf H args _ vs Q S r h q)
  · exact .inr (rc_sortD B env ds σ Hf H args _ vs Q S r e q)
end
/-! ### the values of a dict: their sum, their list -/
section
variable {X : Cx}
theorem vals_at {pins : List (Addr × Obj)} {σ : St} {H : Hp} {s : Shared} {kvs : List (List Key × V)} {es : Array DictEntry} (hsz : es.size = kvs.length)
    (ent : ∀ (i : Nat) (k : List Key) (v : V), kvs[i]? = some (k, v) → ∃ (hi : i < es.size) (q : Addr), es[i].key = .ref q ∧ H q = some (.tup (k.map kV)) ∧ RelV v es[i].val) {i : Nat} {v : Value} (h : ∃ hi : i < es.size, v = es[i].val) : ∃ x, (kvs.map (·.2))[i]? = some x ∧ RelV x v := by
  obtain ⟨hi, rfl⟩ := h
  have h2 : i < kvs.length := by omega
  obtain ⟨_, _, _, _, r⟩ := ent i kvs[i].1 kvs[i].2 (List.getElem?_eq_getElem h2)
  exact ⟨kvs[i].2, by rw [List.getElem?_map, List.getElem?_eq_getElem h2]; rfl, r⟩
def tSumVals (td : TE) : TE := fun σ H Q => td σ H fun x H1 => ∃ (d : Addr) (o : Obj) (kvs : List (List Key × V)) (ns : List Int), x = .ref d ∧ H1 d = some (.frz o (.dT kvs)) ∧ kvs.map Prod.snd = ns.map V.int ∧ Q (.int ns.sum) H1
theorem pe_sumVals {e : Expr} {td : TE} {p0 apos cpos pos : Pos} (hc : X.calm = true) (hgs : Gl X "sum") (hms : X.mg "sum" = none) (he : PE X e td) (hbase : attributeBase e "values" X.env (eval e X.env) = eval e X.env := by rfl) (hline : (apos.endLine == cpos.line) = true := by rfl)
    (hs1 : starEach [.Call (.Attribute e "values" apos) [] [] cpos] X.env = (false, eval (.Call (.Attribute e "values" apos) [] [] cpos) X.env) :: starEach [] X.env := by rfl) (hp1 : (backTo pos (starEach [] X.env)).any (·.1) = false := by rfl) :
    PE X (.Call (.Name "sum" p0) [.Call (.Attribute e "values" apos) [] [] cpos] [] pos) (tSumVals td) := by
  refine ⟨fun pins s σ H Q I h => ?_⟩
  refine wpAny_Call_Name_kw (ld_blt I hgs hms boot_sum ?_)
  refine PyProof.Rows.callWith_builtin1 ?_ hs1 hp1
  rw [hs1]
  show wpAny _ _ (spliced ((false, eval (.Call (.Attribute e "values" apos) [] [] cpos) X.env) :: backTo pos (starEach [] X.env))) _ _ s
  refine Calls.spliced_cons ?_
  refine wpAny_Call_method (T := "dict") (id := "dict.values") hbase rfl hline F.plainAttrs_dict F.slot_dict_values F.type_dict_values (thn (he.run pins s σ H _ I h) fun u s1 ⟨x, H1, I1, rx, d, o, kvs, ns, ex, hd, en, q⟩ => ?_)
  subst ex
  obtain rfl : u = Value.ref d := rx
  obtain ⟨hs, hgd, hx, es, ep, hdt, hsz, ent⟩ := frzTV I1 hd
  have hr : s1.heap.DictRaw d es ep := ⟨o, hgd, hx, hdt⟩
  refine ⟨hr.typeIs, noDictD hgd hx, ?_⟩
  have hlen : es.size = ns.length := by
    have := congrArg List.length en
    rw [List.length_map, List.length_map] at this
    omega
  have fin : wpAny (model X.prog X.w) X.A (call (.builtin "sum") [.ref s1.heap.objs.size]) (EP X pins σ Q) X.xe { s1 with heap := s1.heap.push { cls := .type "dict_values", data := .fields #[.ref d] } } := by
    have K := PySem.KdlSrc.rawValues (prog := X.prog) (w := X.w) (r := s1.heap.objs.size) (d := d) (es := es) (ep := ep)
    have ok : (s1.heap.push { cls := .type "dict_values", data := .fields #[.ref d] }).IsValuesView s1.heap.objs.size d ∧ (s1.heap.push { cls := .type "dict_values", data := .fields #[.ref d] }).DictRaw d es ep := ⟨⟨_, Heap.get?_push_size _ rfl, rfl, rfl⟩, hr.at fun ob q => Heap.get?_push_of_some _ q⟩
    refine call_sum_walkAnyS ?_
    obtain ⟨oI, St, hit, Wk, st⟩ := K.iter X.A.in1 { s1 with heap := s1.heap.push { cls := .type "dict_values", data := .fields #[.ref d] } } (I1.ok.hd hc) ok
    refine hit _ _ ⟨_, _, _, _, es.size, _, _, fun i => ns.getD i 0, rfl, Wk.toS, st, fun b hb => ?_, fun i v hv => ?_, fun s' t' m => ?_⟩
    · have lt := K.there _ ok
      show b < ((s1.heap.push _).push oI).objs.size
      rw [size_push']
      rcases List.mem_cons.mp hb with z | z
      · rw [z]
        exact Nat.lt_succ_self _
      · rw [List.mem_singleton.mp z]
        exact Nat.lt_succ_of_lt lt.2
    · obtain ⟨x, h1, h2⟩ := vals_at (pins := pins) (σ := σ) (s := s1) hsz ent hv
      rw [en, List.getElem?_map] at h1
      cases hn : ns[i]? with
      | none => rw [hn] at h1; cases h1
      | some n =>
        rw [hn] at h1
        cases h1
        obtain ⟨t, rfl⟩ := h2
        exact ⟨t, by show Value.int n t = Value.int (ns.getD i 0) t; rw [List.getD_eq_getElem?_getD, hn]; rfl⟩
    · obtain ⟨h', tk, rfl, hk⟩ := PySem.W.moved_old (s := { s1 with heap := s1.heap.push { cls := .type "dict_values", data := .fields #[.ref d] } }) rfl rfl m
      rw [hlen, preSum_full]
      exact ⟨.int _, H1, I1.kept (t' := tk) fun b o e => hk b o (Heap.get?_push_of_some _ e), ⟨t', rfl⟩, q⟩
  show wpAny _ _ (callWith cpos (.builtin "dict.values") [.ref d] [] []) _ X.xe s1
  exact method_meetsIn F.slot_dict_values F.entry_dict_values rfl (PySem.evalArgs_none ⟨rfl, hr.typeIs, F.args_dict_values_1 _, _, meets_dict_values_raw d hs, ⟨_, _, hr⟩, Calls.spliced_nil fin⟩)
def gSumVals : D → Option D
  | .dT kvs => (match ints? (kvs.map Prod.snd) with
    | some ns => some (.int ns.sum)
    | none => none)
  | _ => none
theorem rpT_vals {Hf : Hp} : ∀ {kvs : List (List Key × V)} {items : List (List Key × D)}, RpT Hf kvs items → RpL Hf (kvs.map Prod.snd) (items.map Prod.snd) := by
  intro kvs items r
  induction items generalizing kvs with
  | nil =>
    cases r
    exact .nil
  | cons p ps ih =>
    cases r with
    | cons h t => exact .cons h (ih t)
theorem evf_sumVals {e : Expr} {f : Den} {p0 apos cpos pos : Pos} (hc : X.calm = true) (hms : X.mg "sum" = none) (hf : EvF X e f) (hgs : Gl X "sum" := by rfl) (hbase : attributeBase e "values" X.env (eval e X.env) = eval e X.env := by rfl) (hline : (apos.endLine == cpos.line) = true := by rfl)
    (hs1 : starEach [.Call (.Attribute e "values" apos) [] [] cpos] X.env = (false, eval (.Call (.Attribute e "values" apos) [] [] cpos) X.env) :: starEach [] X.env := by rfl) (hp1 : (backTo pos (starEach [] X.env)).any (·.1) = false := by rfl) :
    EvF X (.Call (.Name "sum" p0) [.Call (.Attribute e "values" apos) [] [] cpos] [] pos) (d1 gSumVals f) := fun B env ds σ Hf H d ds' S hd Q q => by
  obtain ⟨v1, s1, e1, e2⟩ := bnd_eq hd
  obtain ⟨e3, rfl⟩ := op1_eq e2
  unfold gSumVals at e3
  split at e3
  · split at e3
    · rename_i kvs ns hn
      cases e3
      refine SE.of (pe_sumVals hc hgs hms (pe_se X e) hbase hline hs1 hp1) (hf B env ds σ Hf H _ _ S e1 _ fun v Hf1 H1 g1 S1 r1 => ?_)
      cases r1 with
      | dT h1 r =>
        have rl := rpT_vals r
        rw [ints_eq hn] at rl
        exact ⟨_, _, _, ns, rfl, S1.sub _ _ h1, rpl_ints rl, q _ _ _ g1 S1 (.int _)⟩
    · cases e3
  · cases e3
end
/-! ### a def in which the lambda stands -/
section
variable {P : Program} {w : World} {K : PySem.W.Frag} {mg : Str → Option Value} {base : Heap} {x : Str} {params : Arguments} {body : List Stmt} {scope : Scope} {f : Addr} {fd : FuncData} {N ps : List Str} {k : Nat}
theorem calPL {b : DenS} (n : Nat) (F : FunD K x x params body scope [] [] f fd) (hm : mg x = some (.ref f)) (S : FnScope N ps scope) (hn : ps.length = n) (hb : Binds K fd ps []) (hf : f = He.fAd K QD)
    (h : ∀ (cdv : Value) (A : Around) (outer : List Env) (s : Shared) (H : Hp) (E : XK), cdv = .ref (He.codeOf K QD) → Room k (A.deeper (envOfC x scope s.heap.objs.size f cdv)) → EvSs (cxB P w K mg base N x scope f cdv A outer s H E) body b) : Cal P w K mg base (k + 1) x (spP K n (fnP N.length b)) [] := by
  refine ⟨f, fd, ps, [], ?_, hm, F.kp, hb, .nil⟩
  obtain ⟨oc, od, dV, kV, doc, pm, an, cdv, ct, osl, rfl, lk, hcd, _, _⟩ := F.ex
  obtain ⟨c, rfl⟩ := He.codeIn_ref hcd
  rw [hf] at lk
  have ec := He.codeOf_eq lk rfl
  rw [← hf] at lk
  refine fn_of lk hcd S (fun vs H Q E h => h.1.trans hn.symm) fun A outer s H vs Q E hr hsp => ⟨SSs (cxB P w K mg base N x scope f (.ref c) A outer s H E) body, PSs.nox (pss_ss _ body), ?_⟩
  obtain ⟨_, Hf, args, r, sm, tb, tf, ra, e, q⟩ := hsp
  unfold fnP at e
  cases eb : b (envP N.length args) ds0 with
  | none => rw [eb] at e; cases e
  | some p =>
    obtain ⟨o, ds'⟩ := p
    rw [eb] at e
    refine h (.ref c) A outer s H E (by rw [ec]) hr ⟨H, Hf, none⟩ (envP N.length args) ds0 (start N vs) Hf H o ds' (sr_start N sm tb tf ra) eb _ ?_
    cases o with
    | nx env' =>
      cases e
      exact fun σ' Hf' H' s' S' => q _ Hf' H' ⟨S'.base, S'.fbase, S'.fnew, S'.tk⟩ S'.sub .non
    | rt d =>
      cases e
      exact fun v env' σ' Hf' H' s' S' rv => q v Hf' H' ⟨S'.base, S'.fbase, S'.fnew, S'.tk⟩ S'.sub rv
    | bk env' => cases e
    | ct env' => cases e
end
end L2.Dn
set_option Elab.async false
set_option linter.all false
set_option maxRecDepth 100000
set_option maxHeartbeats 4000000
/-! list(d.values()) -/
namespace L2.Dn
open PySem PySem.Spec PyProof.Rows C8
theorem vals_by : ∀ {xs : List V} {its : List Value}, its.length = xs.length → (∀ (i : Nat) (v : Value), its[i]? = some v → ∃ x, xs[i]? = some x ∧ RelV x v) → Vals xs its
  | [], [], _, _ => .nil
  | [], _ :: _, h, _ => by simp at h
  | _ :: _, [], h, _ => by simp at h
  | x :: xs, v :: its, h, k => by
    obtain ⟨y, e, r⟩ := k 0 v rfl
    cases e
    exact .cons r (vals_by (by simpa using h) fun i w hw => by
      obtain ⟨z, e2, r2⟩ := k (i + 1) w (by simpa using hw)
      exact ⟨z, by simpa using e2, r2⟩)
section
variable {X : Cx}
def tListVals (td : TE) : TE := fun σ H Q => td σ H fun x H1 => ∃ (d : Addr) (o : Obj) (kvs : List (List Key × V)), x = .ref d ∧ H1 d = some (.frz o (.dT kvs)) ∧ ∀ p, H1 p = none → Q (.ref p) (upd H1 p (.lst (kvs.map Prod.snd)))
theorem pe_listVals {e : Expr} {td : TE} {p0 apos cpos pos : Pos} (hc : X.calm = true) (hgs : Gl X "list") (hms : X.mg "list" = none) (he : PE X e td) (hbase : attributeBase e "values" X.env (eval e X.env) = eval e X.env := by rfl) (hline : (apos.endLine == cpos.line) = true := by rfl)
    (hs1 : starEach [.Call (.Attribute e "values" apos) [] [] cpos] X.env = (false, eval (.Call (.Attribute e "values" apos) [] [] cpos) X.env) :: starEach [] X.env := by rfl) (hp1 : (backTo pos (starEach [] X.env)).any (·.1) = false := by rfl) :
    PE X (.Call (.Name "list" p0) [.Call (.Attribute e "values" apos) [] [] cpos] [] pos) (tListVals td) := by
  refine ⟨fun pins s σ H Q I h => ?_⟩
  refine wpAny_Call_Name_kw (ld_blt I hgs hms boot_list ?_)
  refine PyProof.Rows.callWith_type1 ?_ hs1 hp1
  rw [hs1]
  show wpAny _ _ (spliced ((false, eval (.Call (.Attribute e "values" apos) [] [] cpos) X.env) :: backTo pos (starEach [] X.env))) _ _ s
  refine Calls.spliced_cons ?_
  refine wpAny_Call_method (T := "dict") (id := "dict.values") hbase rfl hline F.plainAttrs_dict F.slot_dict_values F.type_dict_values (thn (he.run pins s σ H _ I h) fun u s1 ⟨x, H1, I1, rx, d, o, kvs, ex, hd, q⟩ => ?_)
  subst ex
  obtain rfl : u = Value.ref d := rx
  have zl : kvs.length ≤ sizeLine := by
    obtain ⟨_, z, _⟩ := I1.hok d _ hd
    exact z
  obtain ⟨hs, hgd, hx, es, ep, hdt, hsz, ent⟩ := frzTV I1 hd
  have hr : s1.heap.DictRaw d es ep := ⟨o, hgd, hx, hdt⟩
  refine ⟨hr.typeIs, noDictD hgd hx, ?_⟩
  have fin : wpAny (model X.prog X.w) X.A (call (.type "list") [.ref s1.heap.objs.size]) (EP X pins σ Q) X.xe { s1 with heap := s1.heap.push { cls := .type "dict_values", data := .fields #[.ref d] } } := by
    have K := PySem.KdlSrc.rawValues (prog := X.prog) (w := X.w) (r := s1.heap.objs.size) (d := d) (es := es) (ep := ep)
    have ok : (s1.heap.push { cls := .type "dict_values", data := .fields #[.ref d] }).IsValuesView s1.heap.objs.size d ∧ (s1.heap.push { cls := .type "dict_values", data := .fields #[.ref d] }).DictRaw d es ep := ⟨⟨_, Heap.get?_push_size _ rfl, rfl, rfl⟩, hr.at fun ob q => Heap.get?_push_of_some _ q⟩
    refine PySem.W.kdl_call K (I1.ok.hd hc) ok (by omega) fun h' tk acc c hk hD hacc => ?_
    have sz : (s1.heap.push { cls := .type "dict_values", data := .fields #[.ref d] }).objs.size = s1.heap.objs.size + 1 := size_push' _ _
    have rv : Vals (kvs.map Prod.snd) acc.toList := vals_by (by rw [Array.length_toList, hacc.1, List.length_map]; exact hsz) fun i v hv => vals_at (pins := pins) (σ := σ) (s := s1) hsz ent (hacc.2 i v (by rw [← Array.getElem?_toList]; exact hv))
    refine ⟨.ref _, upd H1 (s1.heap.objs.size + 1) (.lst (kvs.map Prod.snd)), I1.laid (t' := tk) (fun b o e => hk b o (Heap.get?_push_of_some _ e)) (Nat.le_succ _) ⟨by rw [List.length_map]; exact zl, acc.toList, c, rv, ?_⟩, ?_, q _ (I1.hok.fresh (Nat.le_succ _))⟩
    · rw [Array.toArray_toList, ← sz]
      exact hD
    · rw [← sz]
      exact rfl
  show wpAny _ _ (callWith cpos (.builtin "dict.values") [.ref d] [] []) _ X.xe s1
  exact method_meetsIn F.slot_dict_values F.entry_dict_values rfl (PySem.evalArgs_none ⟨rfl, hr.typeIs, F.args_dict_values_1 _, _, meets_dict_values_raw d hs, ⟨_, _, hr⟩, Calls.spliced_nil fin⟩)
def gListVals : D → Option D
  | .dT kvs => some (.list (kvs.map Prod.snd))
  | _ => none
theorem evn_listVals {e : Expr} {f : Den} {p0 apos cpos pos : Pos} (hc : X.calm = true) (hms : X.mg "list" = none) (hf : EvF X e f) (hgs : Gl X "list" := by rfl) (hbase : attributeBase e "values" X.env (eval e X.env) = eval e X.env := by rfl) (hline : (apos.endLine == cpos.line) = true := by rfl)
    (hs1 : starEach [.Call (.Attribute e "values" apos) [] [] cpos] X.env = (false, eval (.Call (.Attribute e "values" apos) [] [] cpos) X.env) :: starEach [] X.env := by rfl) (hp1 : (backTo pos (starEach [] X.env)).any (·.1) = false := by rfl) :
    EvN X (.Call (.Name "list" p0) [.Call (.Attribute e "values" apos) [] [] cpos] [] pos) (d1 gListVals f) := fun B env ds σ Hf H d ds' S hd Q q => by
  obtain ⟨v1, s1, e1, e2⟩ := bnd_eq hd
  obtain ⟨e3, rfl⟩ := op1_eq e2
  unfold gListVals at e3
  split at e3
  · cases e3
    refine SE.of (pe_listVals hc hgs hms (pe_se X e) hbase hline hs1 hp1) (hf B env ds σ Hf H _ _ S e1 _ fun v Hf1 H1 g1 S1 r1 => ?_)
    cases r1 with
    | dT h1 r => exact ⟨_, _, _, rfl, S1.sub _ _ h1, fun p np => (CN.step q g1).lst S1 (rpT_vals r) p np⟩
  · cases e3
end
end L2.Dn
set_option Elab.async false
set_option linter.all false
set_option maxRecDepth 100000
set_option maxHeartbeats 0
namespace Hd
open PySem PySem.Spec PyProof.Rows L2
def top (i : Nat) : Stmt := PySem.Challenge.pw_crosswires_k69_across_sums_at_ones.main.body.getD i (.Pass ⟨0, 0, 0, 0⟩)
def mk (x : Str) (i : Nat) : He.DefD := ⟨(x, none), x, x, defArgs (top i), defBody (top i), defScope (top i), [], []⟩
def fn : List He.DefD := [mk "is_number" 12, mk "are_exponents" 16, mk "is_polynomial_of" 17, mk "need_polynomial" 18, mk "need_both" 19, mk "without_noughts" 20, mk "plus_by" 21, mk "product_by" 22, mk "need_few_exponents" 23, mk "raised_number" 24, mk "plus_times" 25, mk "multiplied_out" 26, mk "at_numbers" 27, mk "at_ones" 28, mk "need_wires" 31, mk "swapped" 32, mk "is_sequence_of" 34, mk "need_sequence" 35, mk "doubles_by" 36, mk "crossings_by" 37, mk "back_by" 38, mk "then_by" 39, mk "cut_by" 41, mk "sum_by" 43, mk "sum_of" 44, mk "sum_at_ones" 46, mk "is_place" 48, mk "is_lot_of" 49, mk "read_by" 50, mk "pipes_by" 51, mk "need_lot" 52, mk "row_of_lot" 53, mk "pipes" 54, mk "_law_begun" 56, mk "_law_mixed" 57, mk "_law_take" 58, mk "_law_shuffled" 59, mk "_law_sequence" 60, mk "_law_swapped" 61, mk "_law_kept" 62, mk "_law_cut" 63, mk "_law_sum" 64, mk "_law_product" 65, mk "_law_small_sequence" 66, mk "law" 67]
def fa : List He.Fa := [.glo "is_number", .glo "are_exponents", .glo "is_polynomial_of", .glo "need_polynomial", .glo "need_both", .glo "without_noughts", .glo "plus_by", .glo "product_by", .glo "need_few_exponents", .glo "raised_number", .glo "plus_times", .glo "multiplied_out", .glo "at_numbers", .glo "at_ones", .glo "need_wires", .glo "swapped", .glo "is_sequence_of", .glo "need_sequence", .glo "doubles_by", .glo "crossings_by", .glo "back_by", .glo "then_by", .glo "cut_by", .glo "sum_by", .glo "sum_of", .glo "sum_at_ones", .glo "is_place", .glo "is_lot_of", .glo "read_by", .glo "pipes_by", .glo "need_lot", .glo "row_of_lot", .glo "pipes", .glo "_law_begun", .glo "_law_mixed", .glo "_law_take", .glo "_law_shuffled", .glo "_law_sequence", .glo "_law_swapped", .glo "_law_kept", .glo "_law_cut", .glo "_law_sum", .glo "_law_product", .glo "_law_small_sequence", .glo "law", .free "abs", .free "all", .free "bool", .free "dict", .free "int", .free "isinstance", .free "len", .free "list", .free "max", .free "min", .free "range", .free "sorted", .free "sum", .free "tuple", .free "zip", .int "UNKNOWNS" 5, .int "MOST_EXPONENT" 60, .int "MOST_WIRES" 6]
abbrev R : PySem.W.OpenRow := PySem.W.OpenLaw.row PySem.Challenge.rw_crosswires_k69_across_sums_at_ones
abbrev hk : PySem.W.Hook := He.hookX 4 fa fn [] [L2.Dn.QD] (fun _ => true)
def ob (s : PySem.W.SharedT) : He.AlX := He.obsX 4 fa fn [] [L2.Dn.QD] (fun _ => true) (HandSHeadRun.getT s)
theorem ob_eq (s : PySem.W.SharedT) : ob s = hk.obs s.abs := He.obsX_eq (HandSHeadRun.getT_eq s)
def loose : List PySem.Str := (["WireError", "BadLot", "BadMany", "BadNumbers", "BadOne", "BadOther", "BadPolynomial", "BadSequence", "BadWires", "TooMany", "is_number", "UNKNOWNS", "MOST_EXPONENT", "are_exponents", "is_polynomial_of", "need_polynomial", "need_both", "without_noughts", "plus_by", "product_by", "need_few_exponents", "raised_number", "plus_times", "multiplied_out", "at_numbers", "at_ones", "MOST_WIRES", "need_wires", "swapped", "is_sequence_of"] : List PySem.Str) ++ (["need_sequence", "doubles_by", "crossings_by", "back_by", "then_by", "cut_by", "sum_by", "sum_of", "sum_at_ones", "is_place", "is_lot_of", "read_by", "pipes_by", "need_lot", "row_of_lot", "pipes", "_law_begun", "_law_mixed", "_law_take", "_law_shuffled", "_law_sequence", "_law_swapped", "_law_kept", "_law_cut", "_law_sum", "_law_product", "_law_small_sequence"] : List PySem.Str)
theorem run (w : World) : HandSHeadRun.RunEq R (PySem.W.view R.prog [67]) hk ob 60000 loose w := by
  intro os
  kernel_rfl
end Hd
set_option Elab.async false
set_option linter.all false
set_option maxRecDepth 100000
set_option maxHeartbeats 0
namespace L2.Dn
open PySem PySem.Spec PyProof.Rows C8
def N_is_number : List Str := ["thing"]
def d_is_number : DenS := dSeq (dRet (dAnd (dIsi .int (dRd 0)) (dNot (dIsi .bool (dRd 0))))) (dNx)
def f_is_number : List D → Option D := fnP N_is_number.length d_is_number
def N_are_exponents : List Str := ["thing", "one"]
def d_are_exponents : DenS := dSeq (dIfS (tOrD (tNotD (dTest (dIsi .tuple (dRd 0)))) (dTest (d2 gNeU (dB gLen (aCons (dRd 0) (aNil))) (dC (.int 5))))) (dSeq (dRet (dC (.bool false))) (dNx)) (dNx)) (dSeq (dRet (dB gAll (aCons (dLc (dItems (dVar 0)) [1] (gNm 1) (tYesD) (dAnd (dCallP 1 f_is_number (aCons (dVar 1) (aNil))) (d3 gLe gLe (dC (.int 0)) (dRd 1) (dC (.int 60))))) (aNil)))) (dNx))
def f_are_exponents : List D → Option D := fnP N_are_exponents.length d_are_exponents
def N_is_polynomial_of : List Str := ["thing", "row", "number"]
def d_is_polynomial_of : DenS := dSeq (dIfS (tOrD (tNotD (dTest (dIsi .dict (dRd 0)))) (tNotD (dTest (dB gAll (aCons (dLc (dItems (dVar 0)) [1] (gNm 1) (tYesD) (dCallP 1 f_are_exponents (aCons (dVar 1) (aNil)))) (aNil)))))) (dSeq (dRet (dC (.bool false))) (dNx)) (dNx)) (dSeq (dRet (dB gAll (aCons (dLc (dIt valsD (dVar 0)) [2] (gNm 2) (tYesD) (dAnd (dCallP 1 f_is_number (aCons (dVar 2) (aNil))) (d2 gNeU (dRd 2) (dC (.int 0))))) (aNil)))) (dNx))
def f_is_polynomial_of : List D → Option D := fnP N_is_polynomial_of.length d_is_polynomial_of
def N_need_polynomial : List Str := ["polynomial"]
def d_need_polynomial : DenS := dSeq (dIfS (tNotD (dTest (dCallP 1 f_is_polynomial_of (aCons (dVar 0) (aNil))))) (dSeq (dDead) (dNx)) (dNx)) (dNx)
def f_need_polynomial : List D → Option D := fnP N_need_polynomial.length d_need_polynomial
def N_need_both : List Str := ["one", "other"]
def d_need_both : DenS := dSeq (dIfS (tNotD (dTest (dCallP 1 f_is_polynomial_of (aCons (dVar 0) (aNil))))) (dSeq (dDead) (dNx)) (dNx)) (dSeq (dIfS (tNotD (dTest (dCallP 1 f_is_polynomial_of (aCons (dVar 1) (aNil))))) (dSeq (dDead) (dNx)) (dNx)) (dNx))
def f_need_both : List D → Option D := fnP N_need_both.length d_need_both
def N_without_noughts : List Str := ["rows", "row", "number"]
def d_without_noughts : DenS := dSeq (dRet (dDc (dIt itemsD (dVar 0)) [1, 2] (gTp (gsCons (gNm 1) (gsCons (gNm 2) (gsNil)))) (dTest (d2 gNeU (dRd 2) (dC (.int 0)))) (dVar 1) (dVar 2))) (dNx)
def f_without_noughts : List D → Option D := fnP N_without_noughts.length d_without_noughts
def N_plus_by : List Str := ["one", "other", "many", "found", "row", "number"]
def d_plus_by : DenS := dSeq (dSet 3 true (dB gDict (aCons (dRd 0) (aNil)))) (dSeq (dFor (dIt itemsD (dVar 1)) (gTp (gsCons (gNm 4) (gsCons (gNm 5) (gsNil)))) (dSeq (dPut 3 (d2 gAdd (dGet2 (dRd 3) (dRd 4) (dC (.int 0))) (d2 gMul (dRd 2) (dRd 5))) (dRd 4)) (dNx))) (dSeq (dFrz 3 (dRet (dCallP 1 f_without_noughts (aCons (dVar 3) (aNil))))) (dNx)))
def f_plus_by : List D → Option D := fnP N_plus_by.length d_plus_by
def N_product_by : List Str := ["one", "other", "found", "row", "number", "late", "more", "both", "mine", "theirs"]
def d_product_by : DenS := dSeq (dSet 2 true (dC (.dT []))) (dSeq (dFor (dIt itemsD (dVar 0)) (gTp (gsCons (gNm 3) (gsCons (gNm 4) (gsNil)))) (dSeq (dFor (dIt itemsD (dVar 1)) (gTp (gsCons (gNm 5) (gsCons (gNm 6) (gsNil)))) (dSeq (dSet 7 false (dB gTupS (aCons (dLc (dZip (dVar 3) (dVar 5)) [8, 9] (gTp (gsCons (gNm 8) (gsCons (gNm 9) (gsNil)))) (tYesD) (d2 gAdd (dRd 8) (dRd 9))) (aNil)))) (dSeq (dPut 2 (d2 gAdd (dGet2 (dRd 2) (dRd 7) (dC (.int 0))) (d2 gMul (dRd 4) (dRd 6))) (dRd 7)) (dNx)))) (dNx))) (dSeq (dFrz 2 (dRet (dCallP 1 f_without_noughts (aCons (dVar 2) (aNil))))) (dNx)))
def f_product_by : List D → Option D := fnP N_product_by.length d_product_by
def N_need_few_exponents : List Str := ["polynomial", "row"]
def d_need_few_exponents : DenS := dSeq (dIfS (tNotD (dTest (dB gAll (aCons (dLc (dItems (dVar 0)) [1] (gNm 1) (tYesD) (dCallP 1 f_are_exponents (aCons (dVar 1) (aNil)))) (aNil))))) (dSeq (dDead) (dNx)) (dNx)) (dSeq (dRet (dVar 0)) (dNx))
def f_need_few_exponents : List D → Option D := fnP N_need_few_exponents.length d_need_few_exponents
def N_raised_number : List Str := ["base", "exponent", "found", "lap"]
def d_raised_number : DenS := dSeq (dSet 2 false (dC (.int 1))) (dSeq (dFor (dRg1 (dRd 1)) (gNm 3) (dSeq (dSet 2 false (d2 gMul (dRd 2) (dRd 0))) (dNx))) (dSeq (dRet (dVar 2)) (dNx)))
def f_raised_number : List D → Option D := fnP N_raised_number.length d_raised_number
def N_plus_times : List Str := ["one", "other", "many"]
def d_plus_times : DenS := dSeq (dDropS (dCallP 2 f_need_both (aCons (dVar 0) (aCons (dVar 1) (aNil))))) (dSeq (dIfS (tNotD (dTest (dCallP 1 f_is_number (aCons (dVar 2) (aNil))))) (dSeq (dDead) (dNx)) (dNx)) (dSeq (dRet (dCallP 3 f_plus_by (aCons (dVar 0) (aCons (dVar 1) (aCons (dVar 2) (aNil)))))) (dNx)))
def f_plus_times : List D → Option D := fnP N_plus_times.length d_plus_times
def N_multiplied_out : List Str := ["one", "other"]
def d_multiplied_out : DenS := dSeq (dDropS (dCallP 2 f_need_both (aCons (dVar 0) (aCons (dVar 1) (aNil))))) (dSeq (dRet (dCallP 1 f_need_few_exponents (aCons (dCallP 2 f_product_by (aCons (dVar 0) (aCons (dVar 1) (aNil)))) (aNil)))) (dNx))
def f_multiplied_out : List D → Option D := fnP N_multiplied_out.length d_multiplied_out
def N_at_numbers : List Str := ["polynomial", "numbers", "found", "row", "number", "base", "exponent", "one"]
def d_at_numbers : DenS := dSeq (dDropS (dCallP 1 f_need_polynomial (aCons (dVar 0) (aNil)))) (dSeq (dIfS (tOrD (tNotD (dTest (dIsi .tuple (dRd 1)))) (tOrD (dTest (d2 gNeU (dB gLen (aCons (dRd 1) (aNil))) (dC (.int 5)))) (tNotD (dTest (dB gAll (aCons (dLc (dItems (dVar 1)) [7] (gNm 7) (tYesD) (dCallP 1 f_is_number (aCons (dVar 7) (aNil)))) (aNil))))))) (dSeq (dDead) (dNx)) (dNx)) (dSeq (dSet 2 false (dC (.int 0))) (dSeq (dFor (dIt itemsD (dVar 0)) (gTp (gsCons (gNm 3) (gsCons (gNm 4) (gsNil)))) (dSeq (dFor (dZip (dVar 1) (dVar 3)) (gTp (gsCons (gNm 5) (gsCons (gNm 6) (gsNil)))) (dSeq (dSet 4 false (d2 gMul (dRd 4) (dCallP 2 f_raised_number (aCons (dVar 5) (aCons (dVar 6) (aNil)))))) (dNx))) (dSeq (dSet 2 false (d2 gAdd (dRd 2) (dRd 4))) (dNx)))) (dSeq (dRet (dVar 2)) (dNx)))))
def f_at_numbers : List D → Option D := fnP N_at_numbers.length d_at_numbers
def N_at_ones : List Str := ["polynomial"]
def d_at_ones : DenS := dSeq (dDropS (dCallP 1 f_need_polynomial (aCons (dVar 0) (aNil)))) (dSeq (dRet (d1 gSumVals (dVar 0))) (dNx))
def f_at_ones : List D → Option D := fnP N_at_ones.length d_at_ones
def N_need_wires : List Str := ["wires"]
def d_need_wires : DenS := dSeq (dIfS (tOrD (tNotD (dTest (dCallP 1 f_is_number (aCons (dVar 0) (aNil))))) (tNotD (dTest (d3 gLe gLe (dC (.int 1)) (dRd 0) (dC (.int 6)))))) (dSeq (dDead) (dNx)) (dNx)) (dNx)
def f_need_wires : List D → Option D := fnP N_need_wires.length d_need_wires
def N_swapped : List Str := ["sequence", "at"]
def d_swapped : DenS := dSeq (dRet (d2 gAdd (d2 gAdd (dSl (dRd 0) none (some (d2 gSub (dRd 1) (dC (.int 1))))) (dTup (aCons (d2 gIx (dRd 0) (dRd 1)) (aCons (d2 gIx (dRd 0) (d2 gSub (dRd 1) (dC (.int 1)))) (aNil))))) (dSl (dRd 0) (some (d2 gAdd (dRd 1) (dC (.int 1)))) none))) (dNx)
def f_swapped : List D → Option D := fnP N_swapped.length d_swapped
def N_is_sequence_of : List Str := ["thing", "wire"]
def d_is_sequence_of : DenS := dSeq (dIfS (tOrD (tNotD (dTest (dIsi .tuple (dRd 0)))) (tNotD (dTest (d3 gLe gLe (dC (.int 1)) (dB gLen (aCons (dRd 0) (aNil))) (dC (.int 6)))))) (dSeq (dRet (dC (.bool false))) (dNx)) (dNx)) (dSeq (dRet (dAnd (dB gAll (aCons (dLc (dItems (dVar 0)) [1] (gNm 1) (tYesD) (dCallP 1 f_is_number (aCons (dVar 1) (aNil)))) (aNil))) (d2 gEqU (dB gSorted (aCons (dRd 0) (aNil))) (dLstI (dRg2 (dC (.int 1)) (d2 gAdd (dB gLen (aCons (dRd 0) (aNil))) (dC (.int 1)))))))) (dNx))
def f_is_sequence_of : List D → Option D := fnP N_is_sequence_of.length d_is_sequence_of
def N_need_sequence : List Str := ["sequence"]
def d_need_sequence : DenS := dSeq (dIfS (tNotD (dTest (dCallP 1 f_is_sequence_of (aCons (dVar 0) (aNil))))) (dSeq (dDead) (dNx)) (dNx)) (dNx)
def f_need_sequence : List D → Option D := fnP N_need_sequence.length d_need_sequence
def N_doubles_by : List Str := ["sequence", "size", "i", "j"]
def d_doubles_by : DenS := dSeq (dSet 1 false (dB gLen (aCons (dRd 0) (aNil)))) (dSeq (dRet (dLc2 (dRg2 (dC (.int 1)) (dRd 1)) [2, 3] (gNm 2) (tYesD) (dRg2 (d2 gAdd (dRd 2) (dC (.int 1))) (d2 gAdd (dRd 1) (dC (.int 1)))) [3] (gNm 3) (dTest (d2 gGt (d2 gIx (dRd 0) (d2 gSub (dRd 2) (dC (.int 1)))) (d2 gIx (dRd 0) (d2 gSub (dRd 3) (dC (.int 1)))))) (dTup (aCons (dVar 2) (aCons (dVar 3) (aNil)))))) (dNx))
def f_doubles_by : List D → Option D := fnP N_doubles_by.length d_doubles_by
def N_crossings_by : List Str := ["sequence"]
def d_crossings_by : DenS := dSeq (dRet (dB gLen (aCons (dCallP 1 f_doubles_by (aCons (dVar 0) (aNil))) (aNil)))) (dNx)
def f_crossings_by : List D → Option D := fnP N_crossings_by.length d_crossings_by
def N_back_by : List Str := ["sequence", "wire"]
def d_back_by : DenS := dSeq (dRet (dB gTupS (aCons (dLc (dRg2 (dC (.int 1)) (d2 gAdd (dB gLen (aCons (dRd 0) (aNil))) (dC (.int 1)))) [1] (gNm 1) (tYesD) (d2 gAdd (d2 gIdx (dVar 0) (dRd 1)) (dC (.int 1)))) (aNil)))) (dNx)
def f_back_by : List D → Option D := fnP N_back_by.length d_back_by
def N_then_by : List Str := ["one", "other", "place"]
def d_then_by : DenS := dSeq (dRet (dB gTupS (aCons (dLc (dItems (dVar 1)) [2] (gNm 2) (tYesD) (d2 gIx (dRd 0) (d2 gSub (dRd 2) (dC (.int 1))))) (aNil)))) (dNx)
def f_then_by : List D → Option D := fnP N_then_by.length d_then_by
def N_cut_by : List Str := ["rows", "at", "found", "row", "number", "one", "other", "sign", "low", "high", "more", "late"]
def d_cut_by : DenS := dSeq (dSet 2 true (dC (.dT []))) (dSeq (dFor (dIt itemsD (dVar 0)) (gTp (gsCons (gNm 3) (gsCons (gNm 4) (gsNil)))) (dSeq (dPar 5 6 false false (d2 gIx (dRd 3) (d2 gSub (dRd 1) (dC (.int 1)))) (d2 gIx (dRd 3) (dRd 1))) (dSeq (dAsg (dIf (dTest (d2 gGt (dRd 5) (dRd 6))) (dTup (aCons (dC (.int 1)) (aCons (dVar 6) (aCons (dVar 5) (aNil))))) (dTup (aCons (d1 gNeg (dC (.int 1))) (aCons (dVar 5) (aCons (dVar 6) (aNil)))))) (gTp (gsCons (gNm 7) (gsCons (gNm 8) (gsCons (gNm 9) (gsNil)))))) (dSeq (dFor (dRg1 (d2 gSub (dRd 9) (dRd 8))) (gNm 10) (dSeq (dSet 11 false (d2 gAdd (d2 gAdd (dSl (dRd 3) none (some (d2 gSub (dRd 1) (dC (.int 1))))) (dTup (aCons (d2 gAdd (dRd 8) (dRd 10)) (aCons (d2 gSub (d2 gSub (dRd 9) (dC (.int 1))) (dRd 10)) (aNil))))) (dSl (dRd 3) (some (d2 gAdd (dRd 1) (dC (.int 1)))) none))) (dSeq (dPut 2 (d2 gAdd (dGet2 (dRd 2) (dRd 11) (dC (.int 0))) (d2 gMul (dRd 7) (dRd 4))) (dRd 11)) (dNx)))) (dNx))))) (dSeq (dFrz 2 (dRet (dCallP 1 f_without_noughts (aCons (dVar 2) (aNil))))) (dNx)))
def f_cut_by : List D → Option D := fnP N_cut_by.length d_cut_by
def N_sum_by : List Str := ["sequence", "many", "here", "road", "at", "rows", "row", "number"]
def d_sum_by : DenS := dSeq (dPar3 1 2 3 false false true (dB gLen (aCons (dRd 0) (aNil))) (dVar 0) (dLst (aNil))) (dSeq (whLoop (dTest (d2 gNeU (dRd 2) (dTupI (dRg3 (dRd 1) (dC (.int 0)))))) (dSeq (dSet 4 false (d2 gIx (dLc (dRg2 (dC (.int 1)) (dRd 1)) [4] (gNm 4) (dTest (d2 gLt (d2 gIx (dRd 2) (d2 gSub (dRd 4) (dC (.int 1)))) (d2 gIx (dRd 2) (dRd 4)))) (dVar 4)) (dC (.int 0)))) (dSeq (dSet 2 false (dCallP 2 f_swapped (aCons (dVar 2) (aCons (dVar 4) (aNil))))) (dSeq (dApp 3 (dVar 4)) (dNx)))) 1000) (dSeq (dSet 5 false (dDisp1 (dB gTupS (aCons (dLc (dRg2 (dC (.int 1)) (d2 gAdd (dC (.int 5)) (dC (.int 2)))) [4] (gNm 4) (tYesD) (dB gMax2 (aCons (d2 gSub (dRd 1) (dRd 4)) (aCons (dC (.int 0)) (aNil))))) (aNil))) (dC (.int 1)))) (dSeq (dFor (dItems (d1 gRevL (dRd 3))) (gNm 4) (dSeq (dSet 5 false (dCallP 2 f_cut_by (aCons (dVar 5) (aCons (dVar 4) (aNil))))) (dNx))) (dSeq (dRet (dDc (dIt itemsD (dVar 5)) [6, 7] (gTp (gsCons (gNm 6) (gsCons (gNm 7) (gsNil)))) (tYesD) (dSl (dRd 6) none (some (dC (.int 5)))) (dVar 7))) (dNx)))))
def f_sum_by : List D → Option D := fnP N_sum_by.length d_sum_by
def N_sum_of : List Str := ["sequence"]
def d_sum_of : DenS := dSeq (dDropS (dCallP 1 f_need_sequence (aCons (dVar 0) (aNil)))) (dSeq (dRet (dCallP 1 f_sum_by (aCons (dVar 0) (aNil)))) (dNx))
def f_sum_of : List D → Option D := fnP N_sum_of.length d_sum_of
def N_sum_at_ones : List Str := ["sequence"]
def d_sum_at_ones : DenS := dSeq (dDropS (dCallP 1 f_need_sequence (aCons (dVar 0) (aNil)))) (dSeq (dRet (d1 gSumVals (dCallP 1 f_sum_by (aCons (dVar 0) (aNil))))) (dNx))
def f_sum_at_ones : List D → Option D := fnP N_sum_at_ones.length d_sum_at_ones
def N_is_place : List Str := ["wires", "thing", "one"]
def d_is_place : DenS := dSeq (dIfS (tOrD (tNotD (dTest (dIsi .tuple (dRd 1)))) (tOrD (dTest (d2 gNeU (dB gLen (aCons (dRd 1) (aNil))) (dC (.int 2)))) (tNotD (dTest (dB gAll (aCons (dLc (dItems (dVar 1)) [2] (gNm 2) (tYesD) (dCallP 1 f_is_number (aCons (dVar 2) (aNil)))) (aNil))))))) (dSeq (dRet (dC (.bool false))) (dNx)) (dNx)) (dSeq (dRet (dAnd (d2 gGe (dB gMin1 (aCons (dRd 1) (aNil))) (dC (.int 1))) (d2 gLe (dB gSum2 (aCons (dRd 1) (aNil))) (dRd 0)))) (dNx))
def f_is_place : List D → Option D := fnP N_is_place.length d_is_place
def N_is_lot_of : List Str := ["wires", "thing", "place", "one", "other"]
def d_is_lot_of : DenS := dSeq (dIfS (tOrD (tNotD (dTest (dIsi .tuple (dRd 1)))) (tNotD (dTest (dB gAll (aCons (dLc (dItems (dVar 1)) [2] (gNm 2) (tYesD) (dCallP 2 f_is_place (aCons (dVar 0) (aCons (dVar 2) (aNil))))) (aNil)))))) (dSeq (dRet (dC (.bool false))) (dNx)) (dNx)) (dSeq (dRet (dB gAll (aCons (dLc (dZip (dVar 1) (dSl (dRd 1) (some (dC (.int 1))) none)) [3, 4] (gTp (gsCons (gNm 3) (gsCons (gNm 4) (gsNil)))) (tYesD) (d2 gLtX (dRd 3) (dRd 4))) (aNil)))) (dNx))
def f_is_lot_of : List D → Option D := fnP N_is_lot_of.length d_is_lot_of
def N_read_by : List Str := ["lot"]
def d_read_by : DenS := dSeq (dRet (d1 gSortPl (dRd 0))) (dNx)
def f_read_by : List D → Option D := fnP N_read_by.length d_read_by
def N_pipes_by : List Str := ["sequence", "wires", "due", "every", "lots", "place", "late", "lot", "here", "more", "rest", "i", "j"]
def d_pipes_by : DenS := dSeq (dAsg (dTup (aCons (dB gLen (aCons (dRd 0) (aNil))) (aCons (dCallP 1 f_crossings_by (aCons (dVar 0) (aNil))) (aNil)))) (gTp (gsCons (gNm 1) (gsCons (gNm 2) (gsNil))))) (dSeq (dSet 3 false (dCallP 1 f_read_by (aCons (dLc2 (dRg2 (dC (.int 1)) (dRd 1)) [11, 12] (gNm 11) (tYesD) (dRg2 (dC (.int 1)) (d2 gAdd (d2 gSub (dRd 1) (dRd 11)) (dC (.int 1)))) [12] (gNm 12) (tYesD) (dTup (aCons (dVar 11) (aCons (dVar 12) (aNil))))) (aNil)))) (dSeq (dSet 4 false (dLst (aCons (dTup (aCons (dTup (aNil)) (aCons (dTupI (dRg2 (dC (.int 1)) (d2 gAdd (dRd 1) (dC (.int 1))))) (aNil)))) (aNil)))) (dSeq (dFor (dItems (dVar 3)) (gNm 5) (dSeq (dSet 6 true (dLst (aNil))) (dSeq (dFor (dItems (dVar 4)) (gTp (gsCons (gNm 7) (gsCons (gNm 8) (gsNil)))) (dSeq (dApp 6 (dTup (aCons (dVar 7) (aCons (dVar 8) (aNil))))) (dSeq (dSet 9 false (dCallP 2 f_swapped (aCons (dVar 8) (aCons (d2 gSub (d2 gAdd (d2 gIx (dRd 5) (dC (.int 0))) (d2 gIx (dRd 5) (dC (.int 1)))) (dC (.int 1))) (aNil))))) (dSeq (dSet 10 false (dCallP 1 f_crossings_by (aCons (dCallP 2 f_then_by (aCons (dCallP 1 f_back_by (aCons (dVar 9) (aNil))) (aCons (dVar 0) (aNil)))) (aNil)))) (dSeq (dIfS (tAndD (dTest (d2 gGt (dCallP 1 f_crossings_by (aCons (dVar 9) (aNil))) (dCallP 1 f_crossings_by (aCons (dVar 8) (aNil))))) (dTest (d2 gEqU (d2 gAdd (dRd 10) (dCallP 1 f_crossings_by (aCons (dVar 9) (aNil)))) (dRd 2)))) (dSeq (dApp 6 (dTup (aCons (dTup (aStar (dRd 7) (aCons (dVar 5) (aNil)))) (aCons (dVar 9) (aNil))))) (dNx)) (dNx)) (dNx)))))) (dSeq (dFrz 6 (dSet 4 false (dVar 6))) (dNx))))) (dSeq (dRet (dB gSort2 (aCons (dLc (dItems (dVar 4)) [7, 8] (gTp (gsCons (gNm 7) (gsCons (gNm 8) (gsNil)))) (dTest (d2 gEqU (dRd 8) (dRd 0))) (dB gTupS (aCons (dB gSort2 (aCons (dRd 7) (aNil))) (aNil)))) (aNil)))) (dNx)))))
def f_pipes_by : List D → Option D := fnP N_pipes_by.length d_pipes_by
def N_need_lot : List Str := ["wires", "lot"]
def d_need_lot : DenS := dSeq (dDropS (dCallP 1 f_need_wires (aCons (dVar 0) (aNil)))) (dSeq (dIfS (tNotD (dTest (dCallP 2 f_is_lot_of (aCons (dVar 0) (aCons (dVar 1) (aNil)))))) (dSeq (dDead) (dNx)) (dNx)) (dNx))
def f_need_lot : List D → Option D := fnP N_need_lot.length d_need_lot
def N_row_of_lot : List Str := ["wires", "lot", "place"]
def d_row_of_lot : DenS := dSeq (dDropS (dCallP 2 f_need_lot (aCons (dVar 0) (aCons (dVar 1) (aNil))))) (dSeq (dRet (dB gTupS (aCons (dLc (dItems (dCallP 1 f_read_by (aCons (dVar 1) (aNil)))) [2] (gNm 2) (tYesD) (d2 gIx (dRd 2) (dC (.int 0)))) (aNil)))) (dNx))
def f_row_of_lot : List D → Option D := fnP N_row_of_lot.length d_row_of_lot
def N_pipes : List Str := ["sequence"]
def d_pipes : DenS := dSeq (dDropS (dCallP 1 f_need_sequence (aCons (dVar 0) (aNil)))) (dSeq (dRet (dB gTupS (aCons (dCallP 1 f_pipes_by (aCons (dVar 0) (aNil))) (aNil)))) (dNx))
def f_pipes : List D → Option D := fnP N_pipes.length d_pipes
def N__law_swapped : List Str := ["sequence", "at", "line"]
def d__law_swapped : DenS := dSeq (dSet 2 true (dB gListS (aCons (dRd 0) (aNil)))) (dSeq (dSwap 2 (dTup (aCons (d2 gIx (dRd 2) (dRd 1)) (aCons (d2 gIx (dRd 2) (d2 gSub (dRd 1) (dC (.int 1)))) (aNil)))) (d2 gSub (dRd 1) (dC (.int 1))) (dRd 1)) (dSeq (dRet (dB gTupS (aCons (dRd 2) (aNil)))) (dNx)))
def f__law_swapped : List D → Option D := fnP N__law_swapped.length d__law_swapped
def N__law_kept : List Str := ["found", "key"]
def d__law_kept : DenS := dSeq (dRet (dB gDictP (aCons (dLc (dItems (dVar 0)) [1] (gNm 1) (dTest (d2 gNeU (d2 gIx (dRd 0) (dRd 1)) (dC (.int 0)))) (dTup (aCons (dVar 1) (aCons (d2 gIx (dRd 0) (dRd 1)) (aNil))))) (aNil)))) (dNx)
def f__law_kept : List D → Option D := fnP N__law_kept.length d__law_kept
def N__law_cut : List Str := ["polynomial", "at", "found", "row", "high", "low", "sign", "lap", "late"]
def d__law_cut : DenS := dSeq (dSet 2 true (dC (.dT []))) (dSeq (dFor (dItems (dVar 0)) (gNm 3) (dSeq (dPar 4 5 false false (dB gMax2 (aCons (d2 gIx (dRd 3) (d2 gSub (dRd 1) (dC (.int 1)))) (aCons (d2 gIx (dRd 3) (dRd 1)) (aNil)))) (dB gMin2 (aCons (d2 gIx (dRd 3) (d2 gSub (dRd 1) (dC (.int 1)))) (aCons (d2 gIx (dRd 3) (dRd 1)) (aNil))))) (dSeq (dSet 6 false (dIf (dTest (d2 gGt (d2 gIx (dRd 3) (d2 gSub (dRd 1) (dC (.int 1)))) (d2 gIx (dRd 3) (dRd 1)))) (dC (.int 1)) (d1 gNeg (dC (.int 1))))) (dSeq (dFor (dRg1 (d2 gSub (dRd 4) (dRd 5))) (gNm 7) (dSeq (dSet 8 false (d2 gAdd (d2 gAdd (dSl (dRd 3) none (some (d2 gSub (dRd 1) (dC (.int 1))))) (dTup (aCons (d2 gSub (d2 gSub (dRd 4) (dC (.int 1))) (dRd 7)) (aCons (d2 gAdd (dRd 5) (dRd 7)) (aNil))))) (dSl (dRd 3) (some (d2 gAdd (dRd 1) (dC (.int 1)))) none))) (dSeq (dPut 2 (d2 gAdd (dGet2 (dRd 2) (dRd 8) (dC (.int 0))) (d2 gMul (dRd 6) (d2 gIx (dRd 0) (dRd 3)))) (dRd 8)) (dNx)))) (dNx))))) (dSeq (dFrz 2 (dRet (dCallP 1 f__law_kept (aCons (dVar 2) (aNil))))) (dNx)))
def f__law_cut : List D → Option D := fnP N__law_cut.length d__law_cut
def N__law_sum : List Str := ["sequence", "here", "path", "at", "found", "row"]
def d__law_sum : DenS := dSeq (dAsg (dTup (aCons (dVar 0) (aCons (dLst (aNil)) (aNil)))) (gTp (gsCons (gNm 1) (gsCons (gNm 2) (gsNil))))) (dSeq (whLoop (dTest (d2 gNeU (dLc (dRg2 (dC (.int 1)) (dB gLen (aCons (dRd 1) (aNil)))) [3] (gNm 3) (dTest (d2 gLt (d2 gIx (dRd 1) (d2 gSub (dRd 3) (dC (.int 1)))) (d2 gIx (dRd 1) (dRd 3)))) (dVar 3)) (dLst (aNil)))) (dSeq (dSet 3 false (d2 gIx (dLc (dRg2 (dC (.int 1)) (dB gLen (aCons (dRd 1) (aNil)))) [3] (gNm 3) (dTest (d2 gLt (d2 gIx (dRd 1) (d2 gSub (dRd 3) (dC (.int 1)))) (d2 gIx (dRd 1) (dRd 3)))) (dVar 3)) (dC (.int 0)))) (dSeq (dAsg (dTup (aCons (dCallP 2 f__law_swapped (aCons (dVar 1) (aCons (dVar 3) (aNil)))) (aCons (d2 gCat (dLst (aCons (dVar 3) (aNil))) (dRd 2)) (aNil)))) (gTp (gsCons (gNm 1) (gsCons (gNm 2) (gsNil))))) (dNx))) 1000) (dSeq (dSet 4 false (dDisp1 (dB gTupS (aCons (dLc (dRg2 (dC (.int 1)) (dC (.int 7))) [3] (gNm 3) (tYesD) (dB gMax2 (aCons (dC (.int 0)) (aCons (d2 gSub (dB gLen (aCons (dRd 0) (aNil))) (dRd 3)) (aNil))))) (aNil))) (dC (.int 1)))) (dSeq (dFor (dItems (dVar 2)) (gNm 3) (dSeq (dSet 4 false (dCallP 2 f__law_cut (aCons (dVar 4) (aCons (dVar 3) (aNil))))) (dNx))) (dSeq (dRet (dB gDictP (aCons (dLc (dItems (dVar 4)) [5] (gNm 5) (tYesD) (dTup (aCons (dSl (dRd 5) none (some (dC (.int 5)))) (aCons (d2 gIx (dRd 4) (dRd 5)) (aNil))))) (aNil)))) (dNx)))))
def f__law_sum : List D → Option D := fnP N__law_sum.length d__law_sum
def N__law_product : List Str := ["one", "other", "found", "row", "late", "both", "mine", "more"]
def d__law_product : DenS := dSeq (dSet 2 true (dC (.dT []))) (dSeq (dFor (dItems (dVar 0)) (gNm 3) (dSeq (dFor (dItems (dVar 1)) (gNm 4) (dSeq (dSet 5 false (dB gTupS (aCons (dLc (dZip (dVar 3) (dVar 4)) [6, 7] (gTp (gsCons (gNm 6) (gsCons (gNm 7) (gsNil)))) (tYesD) (d2 gAdd (dRd 6) (dRd 7))) (aNil)))) (dSeq (dPut 2 (d2 gAdd (dGet2 (dRd 2) (dRd 5) (dC (.int 0))) (d2 gMul (d2 gIx (dRd 0) (dRd 3)) (d2 gIx (dRd 1) (dRd 4)))) (dRd 5)) (dNx)))) (dNx))) (dSeq (dFrz 2 (dRet (dCallP 1 f__law_kept (aCons (dVar 2) (aNil))))) (dNx)))
def f__law_product : List D → Option D := fnP N__law_product.length d__law_product
def N__law_small_sequence : List Str := ["draw", "most"]
def d__law_small_sequence : DenS := dSeq (dRet (dCallD 0 1 f__law_sequence (aCons (d2 gAdd (dC (.int 1)) (dCallD 0 1 f__law_take (aCons (dVar 1) (aNil)))) (aNil)))) (dNx)
def f__law_small_sequence : List D → DS → Option (D × DS) := fnD N__law_small_sequence.length d__law_small_sequence
def N_swapped_p : List Str := ["sequence", "at"]
def d_swapped_p : DenS := dSeq (dRet (d2 gCatP (d2 gCatP (dSlP (dRd 0) none (some (d2 gSub (dRd 1) (dC (.int 1))))) (dTupP (aCons (d2 gIx (dRd 0) (dRd 1)) (aCons (d2 gIx (dRd 0) (d2 gSub (dRd 1) (dC (.int 1)))) (aNil))))) (dSlP (dRd 0) (some (d2 gAdd (dRd 1) (dC (.int 1)))) none))) (dNx)
def f_swapped_p : List D → Option D := fnP N_swapped_p.length d_swapped_p
def N_pipes_by_p : List Str := ["sequence", "wires", "due", "every", "lots", "place", "late", "lot", "here", "more", "rest", "i", "j"]
def d_pipes_by_p : DenS := dSeq (dAsg (dTup (aCons (dB gLen (aCons (dRd 0) (aNil))) (aCons (dCallP 1 f_crossings_by (aCons (dVar 0) (aNil))) (aNil)))) (gTp (gsCons (gNm 1) (gsCons (gNm 2) (gsNil))))) (dSeq (dSet 3 false (dCallP 1 f_read_by (aCons (dLc2 (dRg2 (dC (.int 1)) (dRd 1)) [11, 12] (gNm 11) (tYesD) (dRg2 (dC (.int 1)) (d2 gAdd (d2 gSub (dRd 1) (dRd 11)) (dC (.int 1)))) [12] (gNm 12) (tYesD) (dTup (aCons (dVar 11) (aCons (dVar 12) (aNil))))) (aNil)))) (dSeq (dSet 4 false (dLst (aCons (dTup (aCons (dTup (aNil)) (aCons (dTupI (dRg2 (dC (.int 1)) (d2 gAdd (dRd 1) (dC (.int 1))))) (aNil)))) (aNil)))) (dSeq (dFor (dItems (dVar 3)) (gNm 5) (dSeq (dSet 6 true (dLst (aNil))) (dSeq (dFor (dItems (dVar 4)) (gTp (gsCons (gNm 7) (gsCons (gNm 8) (gsNil)))) (dSeq (dApp 6 (dTup (aCons (dVar 7) (aCons (dVar 8) (aNil))))) (dSeq (dSet 9 false (dCallP 2 f_swapped_p (aCons (dVar 8) (aCons (d2 gSub (d2 gAdd (d2 gIx (dRd 5) (dC (.int 0))) (d2 gIx (dRd 5) (dC (.int 1)))) (dC (.int 1))) (aNil))))) (dSeq (dSet 10 false (dCallP 1 f_crossings_by (aCons (dCallP 2 f_then_by (aCons (dCallP 1 f_back_by (aCons (dVar 9) (aNil))) (aCons (dVar 0) (aNil)))) (aNil)))) (dSeq (dIfS (tAndD (dTest (d2 gGt (dCallP 1 f_crossings_by (aCons (dVar 9) (aNil))) (dCallP 1 f_crossings_by (aCons (dVar 8) (aNil))))) (dTest (d2 gEqU (d2 gAdd (dRd 10) (dCallP 1 f_crossings_by (aCons (dVar 9) (aNil)))) (dRd 2)))) (dSeq (dApp 6 (dTup (aCons (dTup (aStar (dRd 7) (aCons (dVar 5) (aNil)))) (aCons (dVar 9) (aNil))))) (dNx)) (dNx)) (dNx)))))) (dSeq (dFrz 6 (dSet 4 false (dVar 6))) (dNx))))) (dSeq (dRet (dB gSort2 (aCons (dLc (dItems (dVar 4)) [7, 8] (gTp (gsCons (gNm 7) (gsCons (gNm 8) (gsNil)))) (dTest (d2 gEqU (dRd 8) (dRd 0))) (dB gPtup (aCons (dB gSort2 (aCons (dRd 7) (aNil))) (aNil)))) (aNil)))) (dNx)))))
def f_pipes_by_p : List D → Option D := fnP N_pipes_by_p.length d_pipes_by_p
def N_pipes_p : List Str := ["sequence"]
def d_pipes_p : DenS := dSeq (dDropS (dCallP 1 f_need_sequence (aCons (dVar 0) (aNil)))) (dSeq (dRet (dB gPtup (aCons (dCallP 1 f_pipes_by_p (aCons (dVar 0) (aNil))) (aNil)))) (dNx))
def f_pipes_p : List D → Option D := fnP N_pipes_p.length d_pipes_p
def N_law : List Str := ["script", "draw", "turn", "one", "other", "numbers", "sums", "due", "lot", "part", "row", "product", "many", "ahead", "lap", "wire"]
def l_1 : DenS := dPar 3 4 false false (dCallD 1 1 f__law_small_sequence (aCons (dC (.int 5)) (aNil))) (dCallD 1 1 f__law_small_sequence (aCons (dC (.int 4)) (aNil)))
def l_2 : DenS := dSet 5 false (dB gTupS (aCons (dLc (dRg1 (dC (.int 5))) [14] (gNm 14) (tYesD) (d2 gSub (dCallD 1 1 f__law_take (aCons (dC (.int 7)) (aNil))) (dC (.int 3)))) (aNil)))
def l_3 : DenS := dSet 6 false (dLst (aCons (dCallP 1 f_sum_of (aCons (dVar 3) (aNil))) (aCons (dCallP 1 f_sum_of (aCons (dVar 4) (aNil))) (aNil))))
def l_4 : DenS := dSet 7 false (dC (.int 0))
def l_5 : DenS := dFor (dItems (dCallP 1 f_pipes_p (aCons (dVar 3) (aNil)))) (gNm 8) (dSeq (dSet 9 false (dC (.int 1))) (dSeq (dFor (dItems (dCallP 2 f_row_of_lot (aCons (dB gLen (aCons (dRd 3) (aNil))) (aCons (dVar 8) (aNil))))) (gNm 10) (dSeq (dSet 9 false (d2 gMul (dRd 9) (d2 gIx (dRd 5) (d2 gSub (dRd 10) (dC (.int 1)))))) (dNx))) (dSeq (dSet 7 false (d2 gAdd (dRd 7) (dRd 9))) (dNx))))
def l_6 : DenS := dIfS (tOrD (dTest (d2 gNeU (dCallP 2 f_at_numbers (aCons (d2 gIx (dRd 6) (dC (.int 0))) (aCons (dVar 5) (aNil)))) (dRd 7))) (tOrD (dTest (d2 gNeU (dCallP 1 f_at_ones (aCons (d2 gIx (dRd 6) (dC (.int 0))) (aNil))) (dCallP 1 f_sum_at_ones (aCons (dVar 3) (aNil))))) (dTest (d2 gNeU (dCallP 2 f_at_numbers (aCons (d2 gIx (dRd 6) (dC (.int 0))) (aCons (d2 gRepT (dTup (aCons (dC (.int 1)) (aNil))) (dC (.int 5))) (aNil)))) (dB gLen (aCons (dCallP 1 f_pipes_p (aCons (dVar 3) (aNil))) (aNil))))))) (dSeq (dRet (dC (.bool false))) (dNx)) (dNx)
def l_7 : DenS := dSet 11 false (dCallP 2 f_multiplied_out (aCons (d2 gIx (dRd 6) (dC (.int 0))) (aCons (d2 gIx (dRd 6) (dC (.int 1))) (aNil))))
def l_8 : DenS := dIfS (tOrD (dTest (d2 gNeU (dCallP 2 f_at_numbers (aCons (dVar 11) (aCons (dVar 5) (aNil)))) (d2 gMul (dRd 7) (dCallP 2 f_at_numbers (aCons (d2 gIx (dRd 6) (dC (.int 1))) (aCons (dVar 5) (aNil))))))) (tOrD (dTest (d2 gNeU (dCallP 1 f_at_ones (aCons (dVar 11) (aNil))) (d2 gMul (dCallP 1 f_sum_at_ones (aCons (dVar 3) (aNil))) (dCallP 1 f_sum_at_ones (aCons (dVar 4) (aNil)))))) (dTest (d2 gNeU (dRd 11) (dCallP 2 f__law_product (aCons (dCallP 1 f__law_sum (aCons (dVar 3) (aNil))) (aCons (dCallP 1 f__law_sum (aCons (dVar 4) (aNil))) (aNil)))))))) (dSeq (dRet (dC (.bool false))) (dNx)) (dNx)
def l_9 : DenS := dSet 12 false (d2 gSub (dCallD 1 1 f__law_take (aCons (dC (.int 9)) (aNil))) (dC (.int 4)))
def l_10 : DenS := dIfS (dTest (d2 gNeU (dCallP 2 f_at_numbers (aCons (dCallP 3 f_plus_times (aCons (d2 gIx (dRd 6) (dC (.int 0))) (aCons (d2 gIx (dRd 6) (dC (.int 1))) (aCons (dVar 12) (aNil))))) (aCons (dVar 5) (aNil)))) (d2 gAdd (dRd 7) (d2 gMul (dRd 12) (dCallP 2 f_at_numbers (aCons (d2 gIx (dRd 6) (dC (.int 1))) (aCons (dVar 5) (aNil)))))))) (dSeq (dRet (dC (.bool false))) (dNx)) (dNx)
def l_11 : DenS := dSet 13 false (d2 gCatP (dTup (aCons (dC (.int 1)) (aNil))) (dB gTupS (aCons (dLc (dItems (dVar 4)) [15] (gNm 15) (tYesD) (d2 gAdd (dRd 15) (dC (.int 1)))) (aNil))))
def l_12 : DenS := dIfS (tOrD (dTest (d2 gNeU (dCallP 1 f_sum_at_ones (aCons (dVar 13) (aNil))) (dB gSum (aCons (d1 gListVals (dCallP 1 f__law_sum (aCons (dVar 13) (aNil)))) (aNil))))) (dTest (d2 gNeU (dCallP 1 f_at_ones (aCons (dCallP 1 f_sum_of (aCons (dVar 13) (aNil))) (aNil))) (dCallP 1 f_sum_at_ones (aCons (dVar 13) (aNil)))))) (dSeq (dRet (dC (.bool false))) (dNx)) (dNx)
def d_law : DenS := dSeq (dFor (dRg1 (d2 gAdd (dC (.int 2)) (dB gMin2 (aCons (dLenS 0) (aCons (dC (.int 5)) (aNil)))))) (gNm 2) (dSeq l_1 (dSeq l_2 (dSeq l_3 (dSeq l_4 (dSeq l_5 (dSeq l_6 (dSeq l_7 (dSeq l_8 (dSeq l_9 (dSeq l_10 (dSeq l_11 (dSeq l_12 (dNx)))))))))))))) (dSeq (dRet (dC (.bool true))) (dNx))
end L2.Dn
set_option Elab.async false
set_option linter.all false
set_option maxRecDepth 100000
set_option maxHeartbeats 0
namespace L2.Dn
open PySem PySem.Spec PyProof.Rows C8
section
variable {P : Program} {w : World} {K : PySem.W.Frag} {mg : Str → Option Value} {base h0 : Heap}
theorem ok_is_number (X0 : K.In h0) (G : h0.Ns mainGlobals mg) (c : He.SaysD Hd.fa Hd.fn K) (tb : LamX.TabB base mg (He.codeOf K QD) (PTb K)) : Cal P w K mg base 1 "is_number" (spP K 1 f_is_number) [] := by
  obtain ⟨fd, F⟩ := c.def_ 0 (d := Hd.mk "is_number" 12) rfl
  have b_bool : mg "bool" = none := He.free_ok X0 G (c.fact 47 (f := .free "bool") rfl)
  have b_int : mg "int" = none := He.free_ok X0 G (c.fact 49 (f := .free "int") rfl)
  have b_isinstance : mg "isinstance" = none := He.free_ok X0 G (c.fact 50 (f := .free "isinstance") rfl)
  have Sc : FnScope N_is_number ["thing"] (defScope (Hd.top 12)) := C8.fnScope_by (by kernel_rfl)
  have nd : (N_is_number : List Str).Nodup := Sc.nd
  have Bd : Binds K fd ["thing"] [] := FunD.bindsN F fun _ _ _ _ _ _ us hl => match us, hl with | [_], _ => rfl
  refine calP (N := N_is_number) (ps := ["thing"]) (b := d_is_number) 1 F (He.glo_ok X0 G (c.fact 0 (f := .glo "is_number") rfl)) Sc rfl Bd fun cdv A outer s H E hr => ?_
  obtain ⟨u1, u8, u65, u100⟩ := hr.us
  exact evss_cons (evs_ret (evf_and (EvF.r (evf_isi .int boot_int b_isinstance b_int (evr_var 0))) (evf_one (evf_not (EvF.r (evf_isi .bool boot_bool b_isinstance b_bool (evr_var 0))))))) (evss_nil)
theorem ok_are_exponents (X0 : K.In h0) (G : h0.Ns mainGlobals mg) (c : He.SaysD Hd.fa Hd.fn K) (tb : LamX.TabB base mg (He.codeOf K QD) (PTb K)) : Cal P w K mg base 2 "are_exponents" (spP K 1 f_are_exponents) [] := by
  obtain ⟨fd, F⟩ := c.def_ 1 (d := Hd.mk "are_exponents" 16) rfl
  have b_all : mg "all" = none := He.free_ok X0 G (c.fact 46 (f := .free "all") rfl)
  have b_isinstance : mg "isinstance" = none := He.free_ok X0 G (c.fact 50 (f := .free "isinstance") rfl)
  have b_len : mg "len" = none := He.free_ok X0 G (c.fact 51 (f := .free "len") rfl)
  have b_tuple : mg "tuple" = none := He.free_ok X0 G (c.fact 58 (f := .free "tuple") rfl)
  have c_MOST_EXPONENT : ∃ t, mg "MOST_EXPONENT" = some (.int 60 t) := He.int_ok X0 G (c.fact 61 (f := .int "MOST_EXPONENT" 60) rfl)
  have c_UNKNOWNS : ∃ t, mg "UNKNOWNS" = some (.int 5 t) := He.int_ok X0 G (c.fact 60 (f := .int "UNKNOWNS" 5) rfl)
  have c_is_number := ok_is_number (P := P) (w := w) (base := base) X0 G c tb
  have Sc : FnScope N_are_exponents ["thing"] (defScope (Hd.top 16)) := C8.fnScope_by (by kernel_rfl)
  have nd : (N_are_exponents : List Str).Nodup := Sc.nd
  have Bd : Binds K fd ["thing"] [] := FunD.bindsN F fun _ _ _ _ _ _ us hl => match us, hl with | [_], _ => rfl
  refine calP (N := N_are_exponents) (ps := ["thing"]) (b := d_are_exponents) 1 F (He.glo_ok X0 G (c.fact 1 (f := .glo "are_exponents") rfl)) Sc rfl Bd fun cdv A outer s H E hr => ?_
  obtain ⟨u1, u8, u65, u100⟩ := hr.us
  exact evss_cons (evs_if (EvW.toT (evw_or (evt_not (evt_val (EvF.r (evf_isi .tuple boot_tuple b_isinstance b_tuple (evr_var 0))))) (evw_or1 (evt_cmp (op_neU u100) r2_neU (EvF.r (evf_callB cr_len rc_len b_len boot_len (evb_cons (evr_var 0) (evb_nil)))) (EvF.r (evf_glob c_UNKNOWNS)) (nomark _))))) (evss_cons (evs_ret (evf_bl)) (evss_nil)) (evss_nil)) (evss_cons (evs_ret (evf_callB (cr_all rfl) rc_all b_all (by decide +kernel) (evb_cons (EvN.r (evn_lc (own := [("one", 1)]) rfl nd (blkOk_by (by kernel_rfl)) (evi_val (evf_var 0)) (fun _ _ _ _ _ => evg_nm 1 nd) (evtb_nil) (fun _ _ _ _ _ => evf_and (EvF.r (evf_callP c_is_number hr (by decide) (eva_cons (evf_var 1) (eva_nil)))) (evf_one (evf_chain op_le op_le r2_cmp r2_cmp (EvF.r (evf_int)) (evr_var 1) (EvF.r (evf_glob c_MOST_EXPONENT)) rfl))) (by decide))) (evb_nil)))) (evss_nil))
theorem ok_is_polynomial_of (X0 : K.In h0) (G : h0.Ns mainGlobals mg) (c : He.SaysD Hd.fa Hd.fn K) (tb : LamX.TabB base mg (He.codeOf K QD) (PTb K)) : Cal P w K mg base 3 "is_polynomial_of" (spP K 1 f_is_polynomial_of) [] := by
  obtain ⟨fd, F⟩ := c.def_ 2 (d := Hd.mk "is_polynomial_of" 17) rfl
  have b_all : mg "all" = none := He.free_ok X0 G (c.fact 46 (f := .free "all") rfl)
  have b_dict : mg "dict" = none := He.free_ok X0 G (c.fact 48 (f := .free "dict") rfl)
  have b_isinstance : mg "isinstance" = none := He.free_ok X0 G (c.fact 50 (f := .free "isinstance") rfl)
  have c_are_exponents := ok_are_exponents (P := P) (w := w) (base := base) X0 G c tb
  have c_is_number := ok_is_number (P := P) (w := w) (base := base) X0 G c tb
  have Sc : FnScope N_is_polynomial_of ["thing"] (defScope (Hd.top 17)) := C8.fnScope_by (by kernel_rfl)
  have nd : (N_is_polynomial_of : List Str).Nodup := Sc.nd
  have Bd : Binds K fd ["thing"] [] := FunD.bindsN F fun _ _ _ _ _ _ us hl => match us, hl with | [_], _ => rfl
  refine calP (N := N_is_polynomial_of) (ps := ["thing"]) (b := d_is_polynomial_of) 1 F (He.glo_ok X0 G (c.fact 2 (f := .glo "is_polynomial_of") rfl)) Sc rfl Bd fun cdv A outer s H E hr => ?_
  obtain ⟨u1, u8, u65, u100⟩ := hr.us
  exact evss_cons (evs_if (EvW.toT (evw_or (evt_not (evt_val (EvF.r (evf_isi .dict boot_dict b_isinstance b_dict (evr_var 0))))) (evw_or1 (evt_not (evt_val (EvF.r (evf_callB (cr_all rfl) rc_all b_all (by decide +kernel) (evb_cons (EvN.r (evn_lc (own := [("row", 1)]) rfl nd (blkOk_by (by kernel_rfl)) (evi_val (evf_var 0)) (fun _ _ _ _ _ => evg_nm 1 nd) (evtb_nil) (fun _ _ _ _ _ => evf_callP c_are_exponents hr (by decide) (eva_cons (evf_var 1) (eva_nil))) (by decide))) (evb_nil))))))))) (evss_cons (evs_ret (evf_bl)) (evss_nil)) (evss_nil)) (evss_cons (evs_ret (evf_callB (cr_all rfl) rc_all b_all (by decide +kernel) (evb_cons (EvN.r (evn_lc (own := [("number", 2)]) rfl nd (blkOk_by (by kernel_rfl)) (evi_vals (evf_var 0)) (fun _ _ _ _ _ => evg_nm 2 nd) (evtb_nil) (fun _ _ _ _ _ => evf_and (EvF.r (evf_callP c_is_number hr (by decide) (eva_cons (evf_var 2) (eva_nil)))) (evf_one (evf_cmp (op_neU u100) r2_neU (evr_var 2) (EvF.r (evf_int)) (nomark _)))) (by decide))) (evb_nil)))) (evss_nil))
theorem ok_need_polynomial (X0 : K.In h0) (G : h0.Ns mainGlobals mg) (c : He.SaysD Hd.fa Hd.fn K) (tb : LamX.TabB base mg (He.codeOf K QD) (PTb K)) : Cal P w K mg base 4 "need_polynomial" (spP K 1 f_need_polynomial) [] := by
  obtain ⟨fd, F⟩ := c.def_ 3 (d := Hd.mk "need_polynomial" 18) rfl
  have c_is_polynomial_of := ok_is_polynomial_of (P := P) (w := w) (base := base) X0 G c tb
  have Sc : FnScope N_need_polynomial ["polynomial"] (defScope (Hd.top 18)) := C8.fnScope_by (by kernel_rfl)
  have nd : (N_need_polynomial : List Str).Nodup := Sc.nd
  have Bd : Binds K fd ["polynomial"] [] := FunD.bindsN F fun _ _ _ _ _ _ us hl => match us, hl with | [_], _ => rfl
  refine calP (N := N_need_polynomial) (ps := ["polynomial"]) (b := d_need_polynomial) 1 F (He.glo_ok X0 G (c.fact 3 (f := .glo "need_polynomial") rfl)) Sc rfl Bd fun cdv A outer s H E hr => ?_
  obtain ⟨u1, u8, u65, u100⟩ := hr.us
  exact evss_cons (evs_if (evt_not (evt_val (EvF.r (evf_callP c_is_polynomial_of hr (by decide) (eva_cons (evf_var 0) (eva_nil)))))) (evss_cons (evs_dead) (evss_nil)) (evss_nil)) (evss_nil)
theorem ok_need_both (X0 : K.In h0) (G : h0.Ns mainGlobals mg) (c : He.SaysD Hd.fa Hd.fn K) (tb : LamX.TabB base mg (He.codeOf K QD) (PTb K)) : Cal P w K mg base 4 "need_both" (spP K 2 f_need_both) [] := by
  obtain ⟨fd, F⟩ := c.def_ 4 (d := Hd.mk "need_both" 19) rfl
  have c_is_polynomial_of := ok_is_polynomial_of (P := P) (w := w) (base := base) X0 G c tb
  have Sc : FnScope N_need_both ["one", "other"] (defScope (Hd.top 19)) := C8.fnScope_by (by kernel_rfl)
  have nd : (N_need_both : List Str).Nodup := Sc.nd
  have Bd : Binds K fd ["one", "other"] [] := FunD.bindsN F fun _ _ _ _ _ _ us hl => match us, hl with | [_, _], _ => rfl
  refine calP (N := N_need_both) (ps := ["one", "other"]) (b := d_need_both) 2 F (He.glo_ok X0 G (c.fact 4 (f := .glo "need_both") rfl)) Sc rfl Bd fun cdv A outer s H E hr => ?_
  obtain ⟨u1, u8, u65, u100⟩ := hr.us
  exact evss_cons (evs_if (evt_not (evt_val (EvF.r (evf_callP c_is_polynomial_of hr (by decide) (eva_cons (evf_var 0) (eva_nil)))))) (evss_cons (evs_dead) (evss_nil)) (evss_nil)) (evss_cons (evs_if (evt_not (evt_val (EvF.r (evf_callP c_is_polynomial_of hr (by decide) (eva_cons (evf_var 1) (eva_nil)))))) (evss_cons (evs_dead) (evss_nil)) (evss_nil)) (evss_nil))
theorem ok_without_noughts (X0 : K.In h0) (G : h0.Ns mainGlobals mg) (c : He.SaysD Hd.fa Hd.fn K) (tb : LamX.TabB base mg (He.codeOf K QD) (PTb K)) : Cal P w K mg base 1 "without_noughts" (spP K 1 f_without_noughts) [] := by
  obtain ⟨fd, F⟩ := c.def_ 5 (d := Hd.mk "without_noughts" 20) rfl
  have Sc : FnScope N_without_noughts ["rows"] (defScope (Hd.top 20)) := C8.fnScope_by (by kernel_rfl)
  have nd : (N_without_noughts : List Str).Nodup := Sc.nd
  have Bd : Binds K fd ["rows"] [] := FunD.bindsN F fun _ _ _ _ _ _ us hl => match us, hl with | [_], _ => rfl
  refine calP (N := N_without_noughts) (ps := ["rows"]) (b := d_without_noughts) 1 F (He.glo_ok X0 G (c.fact 5 (f := .glo "without_noughts") rfl)) Sc rfl Bd fun cdv A outer s H E hr => ?_
  obtain ⟨u1, u8, u65, u100⟩ := hr.us
  exact evss_cons (evs_ret (EvN.toF (evn_dc (own := [("row", 1), ("number", 2)]) u8 rfl nd (blkOk_by (by kernel_rfl)) (evi_items (evf_var 0)) (fun _ _ _ _ _ => evg_tp rfl (evgs_cons (evg_nm 1 nd) (evgs_cons (evg_nm 2 nd) (evgs_nil))) rfl gs2) (evtb_one (fun _ _ _ _ _ => evt_cmp (op_neU u100) r2_neU (evr_var 2) (EvF.r (evf_int)) (nomark _))) (fun _ _ _ _ _ => evf_var 1) (fun _ _ _ _ _ => evf_var 2) (by decide)))) (evss_nil)
theorem ok_plus_by (X0 : K.In h0) (G : h0.Ns mainGlobals mg) (c : He.SaysD Hd.fa Hd.fn K) (tb : LamX.TabB base mg (He.codeOf K QD) (PTb K)) : Cal P w K mg base 2 "plus_by" (spP K 3 f_plus_by) [] := by
  obtain ⟨fd, F⟩ := c.def_ 6 (d := Hd.mk "plus_by" 21) rfl
  have b_dict : mg "dict" = none := He.free_ok X0 G (c.fact 48 (f := .free "dict") rfl)
  have c_without_noughts := ok_without_noughts (P := P) (w := w) (base := base) X0 G c tb
  have Sc : FnScope N_plus_by ["one", "other", "many"] (defScope (Hd.top 21)) := C8.fnScope_by (by kernel_rfl)
  have nd : (N_plus_by : List Str).Nodup := Sc.nd
  have Bd : Binds K fd ["one", "other", "many"] [] := FunD.bindsN F fun _ _ _ _ _ _ us hl => match us, hl with | [_, _, _], _ => rfl
  refine calP (N := N_plus_by) (ps := ["one", "other", "many"]) (b := d_plus_by) 3 F (He.glo_ok X0 G (c.fact 6 (f := .glo "plus_by") rfl)) Sc rfl Bd fun cdv A outer s H E hr => ?_
  obtain ⟨u1, u8, u65, u100⟩ := hr.us
  exact evss_cons (evs_set 3 nd (EvN.u (evn_callTy (call_dict u8) rc_dict b_dict boot_dict (evb_cons (evr_var 0) (evb_nil))))) (evss_cons (evs_for PassesOwn.never rfl (evi_items (evf_var 1)) (evg_tp rfl (evgs_cons (evg_nm 4 nd) (evgs_cons (evg_nm 5 nd) (evgs_nil))) rfl gs2) (evss_cons (evs_put 3 (ps_dput u1 (pv 3) (pe_se _ _) (pe_se _ _) rfl) (evf_op op_addA r2_add (EvF.r (evf_get u8 (evr_var 3) (evr_var 4) (evf_int) ⟨rfl, rfl, rfl, rfl⟩)) (EvF.r (evf_op op_mul r2_mul (evr_var 2) (evr_var 5)))) (evr_var 4)) (evss_nil))) (evss_cons (evs_frz 3 (evs_ret (evf_callP c_without_noughts hr (by decide) (eva_cons (evf_var 3) (eva_nil))))) (evss_nil)))
theorem ok_product_by (X0 : K.In h0) (G : h0.Ns mainGlobals mg) (c : He.SaysD Hd.fa Hd.fn K) (tb : LamX.TabB base mg (He.codeOf K QD) (PTb K)) : Cal P w K mg base 2 "product_by" (spP K 2 f_product_by) [] := by
  obtain ⟨fd, F⟩ := c.def_ 7 (d := Hd.mk "product_by" 22) rfl
  have b_tuple : mg "tuple" = none := He.free_ok X0 G (c.fact 58 (f := .free "tuple") rfl)
  have b_zip : mg "zip" = none := He.free_ok X0 G (c.fact 59 (f := .free "zip") rfl)
  have c_without_noughts := ok_without_noughts (P := P) (w := w) (base := base) X0 G c tb
  have Sc : FnScope N_product_by ["one", "other"] (defScope (Hd.top 22)) := C8.fnScope_by (by kernel_rfl)
  have nd : (N_product_by : List Str).Nodup := Sc.nd
  have Bd : Binds K fd ["one", "other"] [] := FunD.bindsN F fun _ _ _ _ _ _ us hl => match us, hl with | [_, _], _ => rfl
  refine calP (N := N_product_by) (ps := ["one", "other"]) (b := d_product_by) 2 F (He.glo_ok X0 G (c.fact 7 (f := .glo "product_by") rfl)) Sc rfl Bd fun cdv A outer s H E hr => ?_
  obtain ⟨u1, u8, u65, u100⟩ := hr.us
  exact evss_cons (evs_set 2 nd (EvN.u (evn_dT))) (evss_cons (evs_for PassesOwn.never rfl (evi_items (evf_var 0)) (evg_tp rfl (evgs_cons (evg_nm 3 nd) (evgs_cons (evg_nm 4 nd) (evgs_nil))) rfl gs2) (evss_cons (evs_for PassesOwn.never rfl (evi_items (evf_var 1)) (evg_tp rfl (evgs_cons (evg_nm 5 nd) (evgs_cons (evg_nm 6 nd) (evgs_nil))) rfl gs2) (evss_cons (evs_set 7 nd (EvF.u (evf_callTy call_tuple_of rc_tuple b_tuple boot_tuple (evb_cons (EvN.r (evn_lc (own := [("mine", 8), ("theirs", 9)]) rfl nd (blkOk_by (by kernel_rfl)) (evi_zip b_zip (evf_var 3) (evf_var 5)) (fun _ _ _ _ _ => evg_tp rfl (evgs_cons (evg_nm 8 nd) (evgs_cons (evg_nm 9 nd) (evgs_nil))) rfl gs2) (evtb_nil) (fun _ _ _ _ _ => evf_op op_addA r2_add (evr_var 8) (evr_var 9)) (by decide))) (evb_nil))))) (evss_cons (evs_put 2 (ps_dput u1 (pv 2) (pe_se _ _) (pe_se _ _) rfl) (evf_op op_addA r2_add (EvF.r (evf_get u8 (evr_var 2) (evr_var 7) (evf_int) ⟨rfl, rfl, rfl, rfl⟩)) (EvF.r (evf_op op_mul r2_mul (evr_var 4) (evr_var 6)))) (evr_var 7)) (evss_nil)))) (evss_nil))) (evss_cons (evs_frz 2 (evs_ret (evf_callP c_without_noughts hr (by decide) (eva_cons (evf_var 2) (eva_nil))))) (evss_nil)))
theorem ok_need_few_exponents (X0 : K.In h0) (G : h0.Ns mainGlobals mg) (c : He.SaysD Hd.fa Hd.fn K) (tb : LamX.TabB base mg (He.codeOf K QD) (PTb K)) : Cal P w K mg base 3 "need_few_exponents" (spP K 1 f_need_few_exponents) [] := by
  obtain ⟨fd, F⟩ := c.def_ 8 (d := Hd.mk "need_few_exponents" 23) rfl
  have b_all : mg "all" = none := He.free_ok X0 G (c.fact 46 (f := .free "all") rfl)
  have c_are_exponents := ok_are_exponents (P := P) (w := w) (base := base) X0 G c tb
  have Sc : FnScope N_need_few_exponents ["polynomial"] (defScope (Hd.top 23)) := C8.fnScope_by (by kernel_rfl)
  have nd : (N_need_few_exponents : List Str).Nodup := Sc.nd
  have Bd : Binds K fd ["polynomial"] [] := FunD.bindsN F fun _ _ _ _ _ _ us hl => match us, hl with | [_], _ => rfl
  refine calP (N := N_need_few_exponents) (ps := ["polynomial"]) (b := d_need_few_exponents) 1 F (He.glo_ok X0 G (c.fact 8 (f := .glo "need_few_exponents") rfl)) Sc rfl Bd fun cdv A outer s H E hr => ?_
  obtain ⟨u1, u8, u65, u100⟩ := hr.us
  exact evss_cons (evs_if (evt_not (evt_val (EvF.r (evf_callB (cr_all rfl) rc_all b_all (by decide +kernel) (evb_cons (EvN.r (evn_lc (own := [("row", 1)]) rfl nd (blkOk_by (by kernel_rfl)) (evi_val (evf_var 0)) (fun _ _ _ _ _ => evg_nm 1 nd) (evtb_nil) (fun _ _ _ _ _ => evf_callP c_are_exponents hr (by decide) (eva_cons (evf_var 1) (eva_nil))) (by decide))) (evb_nil)))))) (evss_cons (evs_dead) (evss_nil)) (evss_nil)) (evss_cons (evs_ret (evf_var 0)) (evss_nil))
theorem ok_raised_number (X0 : K.In h0) (G : h0.Ns mainGlobals mg) (c : He.SaysD Hd.fa Hd.fn K) (tb : LamX.TabB base mg (He.codeOf K QD) (PTb K)) : Cal P w K mg base 1 "raised_number" (spP K 2 f_raised_number) [] := by
  obtain ⟨fd, F⟩ := c.def_ 9 (d := Hd.mk "raised_number" 24) rfl
  have b_range : mg "range" = none := He.free_ok X0 G (c.fact 55 (f := .free "range") rfl)
  have Sc : FnScope N_raised_number ["base", "exponent"] (defScope (Hd.top 24)) := C8.fnScope_by (by kernel_rfl)
  have nd : (N_raised_number : List Str).Nodup := Sc.nd
  have Bd : Binds K fd ["base", "exponent"] [] := FunD.bindsN F fun _ _ _ _ _ _ us hl => match us, hl with | [_, _], _ => rfl
  refine calP (N := N_raised_number) (ps := ["base", "exponent"]) (b := d_raised_number) 2 F (He.glo_ok X0 G (c.fact 9 (f := .glo "raised_number") rfl)) Sc rfl Bd fun cdv A outer s H E hr => ?_
  obtain ⟨u1, u8, u65, u100⟩ := hr.us
  exact evss_cons (evs_set 2 nd (EvF.u (evf_int))) (evss_cons (evs_for PassesOwn.never rfl (evi_rg1 b_range (evr_var 1)) (evg_nm 3 nd) (evss_cons (evs_set 2 nd (EvF.u (evf_op op_mul r2_mul (evr_var 2) (evr_var 0)))) (evss_nil))) (evss_cons (evs_ret (evf_var 2)) (evss_nil)))
theorem ok_plus_times (X0 : K.In h0) (G : h0.Ns mainGlobals mg) (c : He.SaysD Hd.fa Hd.fn K) (tb : LamX.TabB base mg (He.codeOf K QD) (PTb K)) : Cal P w K mg base 5 "plus_times" (spP K 3 f_plus_times) [] := by
  obtain ⟨fd, F⟩ := c.def_ 10 (d := Hd.mk "plus_times" 25) rfl
  have c_is_number := ok_is_number (P := P) (w := w) (base := base) X0 G c tb
  have c_need_both := ok_need_both (P := P) (w := w) (base := base) X0 G c tb
  have c_plus_by := ok_plus_by (P := P) (w := w) (base := base) X0 G c tb
  have Sc : FnScope N_plus_times ["one", "other", "many"] (defScope (Hd.top 25)) := C8.fnScope_by (by kernel_rfl)
  have nd : (N_plus_times : List Str).Nodup := Sc.nd
  have Bd : Binds K fd ["one", "other", "many"] [] := FunD.bindsN F fun _ _ _ _ _ _ us hl => match us, hl with | [_, _, _], _ => rfl
  refine calP (N := N_plus_times) (ps := ["one", "other", "many"]) (b := d_plus_times) 3 F (He.glo_ok X0 G (c.fact 10 (f := .glo "plus_times") rfl)) Sc rfl Bd fun cdv A outer s H E hr => ?_
  obtain ⟨u1, u8, u65, u100⟩ := hr.us
  exact evss_cons (evs_drop (evf_callP c_need_both hr (by decide) (eva_cons (evf_var 0) (eva_cons (evf_var 1) (eva_nil))))) (evss_cons (evs_if (evt_not (evt_val (EvF.r (evf_callP c_is_number hr (by decide) (eva_cons (evf_var 2) (eva_nil)))))) (evss_cons (evs_dead) (evss_nil)) (evss_nil)) (evss_cons (evs_ret (evf_callP c_plus_by hr (by decide) (eva_cons (evf_var 0) (eva_cons (evf_var 1) (eva_cons (evf_var 2) (eva_nil)))))) (evss_nil)))
theorem ok_multiplied_out (X0 : K.In h0) (G : h0.Ns mainGlobals mg) (c : He.SaysD Hd.fa Hd.fn K) (tb : LamX.TabB base mg (He.codeOf K QD) (PTb K)) : Cal P w K mg base 5 "multiplied_out" (spP K 2 f_multiplied_out) [] := by
  obtain ⟨fd, F⟩ := c.def_ 11 (d := Hd.mk "multiplied_out" 26) rfl
  have c_need_both := ok_need_both (P := P) (w := w) (base := base) X0 G c tb
  have c_need_few_exponents := ok_need_few_exponents (P := P) (w := w) (base := base) X0 G c tb
  have c_product_by := ok_product_by (P := P) (w := w) (base := base) X0 G c tb
  have Sc : FnScope N_multiplied_out ["one", "other"] (defScope (Hd.top 26)) := C8.fnScope_by (by kernel_rfl)
  have nd : (N_multiplied_out : List Str).Nodup := Sc.nd
  have Bd : Binds K fd ["one", "other"] [] := FunD.bindsN F fun _ _ _ _ _ _ us hl => match us, hl with | [_, _], _ => rfl
  refine calP (N := N_multiplied_out) (ps := ["one", "other"]) (b := d_multiplied_out) 2 F (He.glo_ok X0 G (c.fact 11 (f := .glo "multiplied_out") rfl)) Sc rfl Bd fun cdv A outer s H E hr => ?_
  obtain ⟨u1, u8, u65, u100⟩ := hr.us
  exact evss_cons (evs_drop (evf_callP c_need_both hr (by decide) (eva_cons (evf_var 0) (eva_cons (evf_var 1) (eva_nil))))) (evss_cons (evs_ret (evf_callP c_need_few_exponents hr (by decide) (eva_cons (evf_callP c_product_by hr (by decide) (eva_cons (evf_var 0) (eva_cons (evf_var 1) (eva_nil)))) (eva_nil)))) (evss_nil))
theorem ok_at_numbers (X0 : K.In h0) (G : h0.Ns mainGlobals mg) (c : He.SaysD Hd.fa Hd.fn K) (tb : LamX.TabB base mg (He.codeOf K QD) (PTb K)) : Cal P w K mg base 5 "at_numbers" (spP K 2 f_at_numbers) [] := by
  obtain ⟨fd, F⟩ := c.def_ 12 (d := Hd.mk "at_numbers" 27) rfl
  have b_all : mg "all" = none := He.free_ok X0 G (c.fact 46 (f := .free "all") rfl)
  have b_isinstance : mg "isinstance" = none := He.free_ok X0 G (c.fact 50 (f := .free "isinstance") rfl)
  have b_len : mg "len" = none := He.free_ok X0 G (c.fact 51 (f := .free "len") rfl)
  have b_tuple : mg "tuple" = none := He.free_ok X0 G (c.fact 58 (f := .free "tuple") rfl)
  have b_zip : mg "zip" = none := He.free_ok X0 G (c.fact 59 (f := .free "zip") rfl)
  have c_UNKNOWNS : ∃ t, mg "UNKNOWNS" = some (.int 5 t) := He.int_ok X0 G (c.fact 60 (f := .int "UNKNOWNS" 5) rfl)
  have c_is_number := ok_is_number (P := P) (w := w) (base := base) X0 G c tb
  have c_need_polynomial := ok_need_polynomial (P := P) (w := w) (base := base) X0 G c tb
  have c_raised_number := ok_raised_number (P := P) (w := w) (base := base) X0 G c tb
  have Sc : FnScope N_at_numbers ["polynomial", "numbers"] (defScope (Hd.top 27)) := C8.fnScope_by (by kernel_rfl)
  have nd : (N_at_numbers : List Str).Nodup := Sc.nd
  have Bd : Binds K fd ["polynomial", "numbers"] [] := FunD.bindsN F fun _ _ _ _ _ _ us hl => match us, hl with | [_, _], _ => rfl
  refine calP (N := N_at_numbers) (ps := ["polynomial", "numbers"]) (b := d_at_numbers) 2 F (He.glo_ok X0 G (c.fact 12 (f := .glo "at_numbers") rfl)) Sc rfl Bd fun cdv A outer s H E hr => ?_
  obtain ⟨u1, u8, u65, u100⟩ := hr.us
  exact evss_cons (evs_drop (evf_callP c_need_polynomial hr (by decide) (eva_cons (evf_var 0) (eva_nil)))) (evss_cons (evs_if (EvW.toT (evw_or (evt_not (evt_val (EvF.r (evf_isi .tuple boot_tuple b_isinstance b_tuple (evr_var 1))))) (evw_or (evt_cmp (op_neU u100) r2_neU (EvF.r (evf_callB cr_len rc_len b_len boot_len (evb_cons (evr_var 1) (evb_nil)))) (EvF.r (evf_glob c_UNKNOWNS)) (nomark _)) (evw_or1 (evt_not (evt_val (EvF.r (evf_callB (cr_all rfl) rc_all b_all (by decide +kernel) (evb_cons (EvN.r (evn_lc (own := [("one", 7)]) rfl nd (blkOk_by (by kernel_rfl)) (evi_val (evf_var 1)) (fun _ _ _ _ _ => evg_nm 7 nd) (evtb_nil) (fun _ _ _ _ _ => evf_callP c_is_number hr (by decide) (eva_cons (evf_var 7) (eva_nil))) (by decide))) (evb_nil)))))))))) (evss_cons (evs_dead) (evss_nil)) (evss_nil)) (evss_cons (evs_set 2 nd (EvF.u (evf_int))) (evss_cons (evs_for PassesOwn.never rfl (evi_items (evf_var 0)) (evg_tp rfl (evgs_cons (evg_nm 3 nd) (evgs_cons (evg_nm 4 nd) (evgs_nil))) rfl gs2) (evss_cons (evs_for PassesOwn.never rfl (evi_zip b_zip (evf_var 1) (evf_var 3)) (evg_tp rfl (evgs_cons (evg_nm 5 nd) (evgs_cons (evg_nm 6 nd) (evgs_nil))) rfl gs2) (evss_cons (evs_set 4 nd (EvF.u (evf_op op_mul r2_mul (evr_var 4) (EvF.r (evf_callP c_raised_number hr (by decide) (eva_cons (evf_var 5) (eva_cons (evf_var 6) (eva_nil)))))))) (evss_nil))) (evss_cons (evs_set 2 nd (EvF.u (evf_op op_addA r2_add (evr_var 2) (evr_var 4)))) (evss_nil)))) (evss_cons (evs_ret (evf_var 2)) (evss_nil)))))
theorem ok_at_ones (X0 : K.In h0) (G : h0.Ns mainGlobals mg) (c : He.SaysD Hd.fa Hd.fn K) (tb : LamX.TabB base mg (He.codeOf K QD) (PTb K)) : Cal P w K mg base 5 "at_ones" (spP K 1 f_at_ones) [] := by
  obtain ⟨fd, F⟩ := c.def_ 13 (d := Hd.mk "at_ones" 28) rfl
  have b_sum : mg "sum" = none := He.free_ok X0 G (c.fact 57 (f := .free "sum") rfl)
  have c_need_polynomial := ok_need_polynomial (P := P) (w := w) (base := base) X0 G c tb
  have Sc : FnScope N_at_ones ["polynomial"] (defScope (Hd.top 28)) := C8.fnScope_by (by kernel_rfl)
  have nd : (N_at_ones : List Str).Nodup := Sc.nd
  have Bd : Binds K fd ["polynomial"] [] := FunD.bindsN F fun _ _ _ _ _ _ us hl => match us, hl with | [_], _ => rfl
  refine calP (N := N_at_ones) (ps := ["polynomial"]) (b := d_at_ones) 1 F (He.glo_ok X0 G (c.fact 13 (f := .glo "at_ones") rfl)) Sc rfl Bd fun cdv A outer s H E hr => ?_
  obtain ⟨u1, u8, u65, u100⟩ := hr.us
  exact evss_cons (evs_drop (evf_callP c_need_polynomial hr (by decide) (eva_cons (evf_var 0) (eva_nil)))) (evss_cons (evs_ret (evf_sumVals rfl b_sum (evf_var 0))) (evss_nil))
theorem ok_need_wires (X0 : K.In h0) (G : h0.Ns mainGlobals mg) (c : He.SaysD Hd.fa Hd.fn K) (tb : LamX.TabB base mg (He.codeOf K QD) (PTb K)) : Cal P w K mg base 2 "need_wires" (spP K 1 f_need_wires) [] := by
  obtain ⟨fd, F⟩ := c.def_ 14 (d := Hd.mk "need_wires" 31) rfl
  have c_MOST_WIRES : ∃ t, mg "MOST_WIRES" = some (.int 6 t) := He.int_ok X0 G (c.fact 62 (f := .int "MOST_WIRES" 6) rfl)
  have c_is_number := ok_is_number (P := P) (w := w) (base := base) X0 G c tb
  have Sc : FnScope N_need_wires ["wires"] (defScope (Hd.top 31)) := C8.fnScope_by (by kernel_rfl)
  have nd : (N_need_wires : List Str).Nodup := Sc.nd
  have Bd : Binds K fd ["wires"] [] := FunD.bindsN F fun _ _ _ _ _ _ us hl => match us, hl with | [_], _ => rfl
  refine calP (N := N_need_wires) (ps := ["wires"]) (b := d_need_wires) 1 F (He.glo_ok X0 G (c.fact 14 (f := .glo "need_wires") rfl)) Sc rfl Bd fun cdv A outer s H E hr => ?_
  obtain ⟨u1, u8, u65, u100⟩ := hr.us
  exact evss_cons (evs_if (EvW.toT (evw_or (evt_not (evt_val (EvF.r (evf_callP c_is_number hr (by decide) (eva_cons (evf_var 0) (eva_nil)))))) (evw_or1 (evt_not (evt_chain op_le op_le r2_cmp r2_cmp (EvF.r (evf_int)) (evr_var 0) (EvF.r (evf_glob c_MOST_WIRES)) rfl))))) (evss_cons (evs_dead) (evss_nil)) (evss_nil)) (evss_nil)
theorem ok_swapped (X0 : K.In h0) (G : h0.Ns mainGlobals mg) (c : He.SaysD Hd.fa Hd.fn K) (tb : LamX.TabB base mg (He.codeOf K QD) (PTb K)) : Cal P w K mg base 1 "swapped" (spP K 2 f_swapped) [] := by
  obtain ⟨fd, F⟩ := c.def_ 15 (d := Hd.mk "swapped" 32) rfl
  have Sc : FnScope N_swapped ["sequence", "at"] (defScope (Hd.top 32)) := C8.fnScope_by (by kernel_rfl)
  have nd : (N_swapped : List Str).Nodup := Sc.nd
  have Bd : Binds K fd ["sequence", "at"] [] := FunD.bindsN F fun _ _ _ _ _ _ us hl => match us, hl with | [_, _], _ => rfl
  refine calP (N := N_swapped) (ps := ["sequence", "at"]) (b := d_swapped) 2 F (He.glo_ok X0 G (c.fact 15 (f := .glo "swapped") rfl)) Sc rfl Bd fun cdv A outer s H E hr => ?_
  obtain ⟨u1, u8, u65, u100⟩ := hr.us
  exact evss_cons (evs_ret (evf_op op_addA r2_add (EvF.r (evf_op op_addA r2_add (EvF.r (evf_slice (evr_var 0) evp_none (evp_some (EvF.r (evf_op op_sub r2_sub (evr_var 1) (EvF.r (evf_int))))))) (EvF.r (evf_tup (eva_cons (evf_ix u1 (evr_var 0) (evr_var 1)) (eva_cons (evf_ix u1 (evr_var 0) (EvF.r (evf_op op_sub r2_sub (evr_var 1) (EvF.r (evf_int))))) (eva_nil))))))) (EvF.r (evf_slice (evr_var 0) (evp_some (EvF.r (evf_op op_addA r2_add (evr_var 1) (EvF.r (evf_int))))) evp_none)))) (evss_nil)
theorem ok_is_sequence_of (X0 : K.In h0) (G : h0.Ns mainGlobals mg) (c : He.SaysD Hd.fa Hd.fn K) (tb : LamX.TabB base mg (He.codeOf K QD) (PTb K)) : Cal P w K mg base 2 "is_sequence_of" (spP K 1 f_is_sequence_of) [] := by
  obtain ⟨fd, F⟩ := c.def_ 16 (d := Hd.mk "is_sequence_of" 34) rfl
  have b_all : mg "all" = none := He.free_ok X0 G (c.fact 46 (f := .free "all") rfl)
  have b_isinstance : mg "isinstance" = none := He.free_ok X0 G (c.fact 50 (f := .free "isinstance") rfl)
  have b_len : mg "len" = none := He.free_ok X0 G (c.fact 51 (f := .free "len") rfl)
  have b_list : mg "list" = none := He.free_ok X0 G (c.fact 52 (f := .free "list") rfl)
  have b_range : mg "range" = none := He.free_ok X0 G (c.fact 55 (f := .free "range") rfl)
  have b_sorted : mg "sorted" = none := He.free_ok X0 G (c.fact 56 (f := .free "sorted") rfl)
  have b_tuple : mg "tuple" = none := He.free_ok X0 G (c.fact 58 (f := .free "tuple") rfl)
  have c_MOST_WIRES : ∃ t, mg "MOST_WIRES" = some (.int 6 t) := He.int_ok X0 G (c.fact 62 (f := .int "MOST_WIRES" 6) rfl)
  have c_is_number := ok_is_number (P := P) (w := w) (base := base) X0 G c tb
  have Sc : FnScope N_is_sequence_of ["thing"] (defScope (Hd.top 34)) := C8.fnScope_by (by kernel_rfl)
  have nd : (N_is_sequence_of : List Str).Nodup := Sc.nd
  have Bd : Binds K fd ["thing"] [] := FunD.bindsN F fun _ _ _ _ _ _ us hl => match us, hl with | [_], _ => rfl
  refine calP (N := N_is_sequence_of) (ps := ["thing"]) (b := d_is_sequence_of) 1 F (He.glo_ok X0 G (c.fact 16 (f := .glo "is_sequence_of") rfl)) Sc rfl Bd fun cdv A outer s H E hr => ?_
  obtain ⟨u1, u8, u65, u100⟩ := hr.us
  exact evss_cons (evs_if (EvW.toT (evw_or (evt_not (evt_val (EvF.r (evf_isi .tuple boot_tuple b_isinstance b_tuple (evr_var 0))))) (evw_or1 (evt_not (evt_chain op_le op_le r2_cmp r2_cmp (EvF.r (evf_int)) (EvF.r (evf_callB cr_len rc_len b_len boot_len (evb_cons (evr_var 0) (evb_nil)))) (EvF.r (evf_glob c_MOST_WIRES)) rfl))))) (evss_cons (evs_ret (evf_bl)) (evss_nil)) (evss_nil)) (evss_cons (evs_ret (evf_and (EvF.r (evf_callB (cr_all rfl) rc_all b_all (by decide +kernel) (evb_cons (EvN.r (evn_lc (own := [("wire", 1)]) rfl nd (blkOk_by (by kernel_rfl)) (evi_val (evf_var 0)) (fun _ _ _ _ _ => evg_nm 1 nd) (evtb_nil) (fun _ _ _ _ _ => evf_callP c_is_number hr (by decide) (eva_cons (evf_var 1) (eva_nil))) (by decide))) (evb_nil)))) (evf_one (evf_cmp (op_eqU u100) r2_eqU (EvN.r (evn_callB cr_sorted2 rc_sorted b_sorted boot_sorted (evb_cons (evr_var 0) (evb_nil)))) (EvN.r (evn_listRg rfl b_list (evrg_2 b_range (EvF.r (evf_int)) (EvF.r (evf_op op_addA r2_add (EvF.r (evf_callB cr_len rc_len b_len boot_len (evb_cons (evr_var 0) (evb_nil)))) (EvF.r (evf_int))))))) (nomark _))))) (evss_nil))
theorem ok_need_sequence (X0 : K.In h0) (G : h0.Ns mainGlobals mg) (c : He.SaysD Hd.fa Hd.fn K) (tb : LamX.TabB base mg (He.codeOf K QD) (PTb K)) : Cal P w K mg base 3 "need_sequence" (spP K 1 f_need_sequence) [] := by
  obtain ⟨fd, F⟩ := c.def_ 17 (d := Hd.mk "need_sequence" 35) rfl
  have c_is_sequence_of := ok_is_sequence_of (P := P) (w := w) (base := base) X0 G c tb
  have Sc : FnScope N_need_sequence ["sequence"] (defScope (Hd.top 35)) := C8.fnScope_by (by kernel_rfl)
  have nd : (N_need_sequence : List Str).Nodup := Sc.nd
  have Bd : Binds K fd ["sequence"] [] := FunD.bindsN F fun _ _ _ _ _ _ us hl => match us, hl with | [_], _ => rfl
  refine calP (N := N_need_sequence) (ps := ["sequence"]) (b := d_need_sequence) 1 F (He.glo_ok X0 G (c.fact 17 (f := .glo "need_sequence") rfl)) Sc rfl Bd fun cdv A outer s H E hr => ?_
  obtain ⟨u1, u8, u65, u100⟩ := hr.us
  exact evss_cons (evs_if (evt_not (evt_val (EvF.r (evf_callP c_is_sequence_of hr (by decide) (eva_cons (evf_var 0) (eva_nil)))))) (evss_cons (evs_dead) (evss_nil)) (evss_nil)) (evss_nil)
theorem ok_doubles_by (X0 : K.In h0) (G : h0.Ns mainGlobals mg) (c : He.SaysD Hd.fa Hd.fn K) (tb : LamX.TabB base mg (He.codeOf K QD) (PTb K)) : Cal P w K mg base 1 "doubles_by" (spP K 1 f_doubles_by) [] := by
  obtain ⟨fd, F⟩ := c.def_ 18 (d := Hd.mk "doubles_by" 36) rfl
  have b_len : mg "len" = none := He.free_ok X0 G (c.fact 51 (f := .free "len") rfl)
  have b_range : mg "range" = none := He.free_ok X0 G (c.fact 55 (f := .free "range") rfl)
  have Sc : FnScope N_doubles_by ["sequence"] (defScope (Hd.top 36)) := C8.fnScope_by (by kernel_rfl)
  have nd : (N_doubles_by : List Str).Nodup := Sc.nd
  have Bd : Binds K fd ["sequence"] [] := FunD.bindsN F fun _ _ _ _ _ _ us hl => match us, hl with | [_], _ => rfl
  refine calP (N := N_doubles_by) (ps := ["sequence"]) (b := d_doubles_by) 1 F (He.glo_ok X0 G (c.fact 18 (f := .glo "doubles_by") rfl)) Sc rfl Bd fun cdv A outer s H E hr => ?_
  obtain ⟨u1, u8, u65, u100⟩ := hr.us
  exact evss_cons (evs_set 1 nd (EvF.u (evf_callB cr_len rc_len b_len boot_len (evb_cons (evr_var 0) (evb_nil))))) (evss_cons (evs_ret (EvN.toF (evn_lc2 (own := [("i", 2), ("j", 3)]) (vs1 := [3]) rfl nd (blkOk_by (by kernel_rfl)) (by decide) (evi_rg2 b_range (EvF.r (evf_int)) (evr_var 1)) (fun _ _ _ _ _ => evg_nm 2 nd) (gok_nm 2) (evtb_nil) (fun _ _ _ _ _ => evi_rg2 b_range (EvF.r (evf_op op_addA r2_add (evr_var 2) (EvF.r (evf_int)))) (EvF.r (evf_op op_addA r2_add (evr_var 1) (EvF.r (evf_int))))) (fun _ _ _ _ _ => evg_nm 3 nd) (evtb_one (fun _ _ _ _ _ => evt_cmp op_gt r2_cmp (EvF.r (evf_ix u1 (evr_var 0) (EvF.r (evf_op op_sub r2_sub (evr_var 2) (EvF.r (evf_int)))))) (EvF.r (evf_ix u1 (evr_var 0) (EvF.r (evf_op op_sub r2_sub (evr_var 3) (EvF.r (evf_int)))))) (nomark _))) (fun _ _ _ _ _ => evf_tup (eva_cons (evf_var 2) (eva_cons (evf_var 3) (eva_nil)))) (by decide) (by decide)))) (evss_nil))
theorem ok_crossings_by (X0 : K.In h0) (G : h0.Ns mainGlobals mg) (c : He.SaysD Hd.fa Hd.fn K) (tb : LamX.TabB base mg (He.codeOf K QD) (PTb K)) : Cal P w K mg base 2 "crossings_by" (spP K 1 f_crossings_by) [] := by
  obtain ⟨fd, F⟩ := c.def_ 19 (d := Hd.mk "crossings_by" 37) rfl
  have b_len : mg "len" = none := He.free_ok X0 G (c.fact 51 (f := .free "len") rfl)
  have c_doubles_by := ok_doubles_by (P := P) (w := w) (base := base) X0 G c tb
  have Sc : FnScope N_crossings_by ["sequence"] (defScope (Hd.top 37)) := C8.fnScope_by (by kernel_rfl)
  have nd : (N_crossings_by : List Str).Nodup := Sc.nd
  have Bd : Binds K fd ["sequence"] [] := FunD.bindsN F fun _ _ _ _ _ _ us hl => match us, hl with | [_], _ => rfl
  refine calP (N := N_crossings_by) (ps := ["sequence"]) (b := d_crossings_by) 1 F (He.glo_ok X0 G (c.fact 19 (f := .glo "crossings_by") rfl)) Sc rfl Bd fun cdv A outer s H E hr => ?_
  obtain ⟨u1, u8, u65, u100⟩ := hr.us
  exact evss_cons (evs_ret (evf_callB cr_len rc_len b_len boot_len (evb_cons (EvF.r (evf_callP c_doubles_by hr (by decide) (eva_cons (evf_var 0) (eva_nil)))) (evb_nil)))) (evss_nil)
theorem ok_back_by (X0 : K.In h0) (G : h0.Ns mainGlobals mg) (c : He.SaysD Hd.fa Hd.fn K) (tb : LamX.TabB base mg (He.codeOf K QD) (PTb K)) : Cal P w K mg base 1 "back_by" (spP K 1 f_back_by) [] := by
  obtain ⟨fd, F⟩ := c.def_ 20 (d := Hd.mk "back_by" 38) rfl
  have b_len : mg "len" = none := He.free_ok X0 G (c.fact 51 (f := .free "len") rfl)
  have b_range : mg "range" = none := He.free_ok X0 G (c.fact 55 (f := .free "range") rfl)
  have b_tuple : mg "tuple" = none := He.free_ok X0 G (c.fact 58 (f := .free "tuple") rfl)
  have Sc : FnScope N_back_by ["sequence"] (defScope (Hd.top 38)) := C8.fnScope_by (by kernel_rfl)
  have nd : (N_back_by : List Str).Nodup := Sc.nd
  have Bd : Binds K fd ["sequence"] [] := FunD.bindsN F fun _ _ _ _ _ _ us hl => match us, hl with | [_], _ => rfl
  refine calP (N := N_back_by) (ps := ["sequence"]) (b := d_back_by) 1 F (He.glo_ok X0 G (c.fact 20 (f := .glo "back_by") rfl)) Sc rfl Bd fun cdv A outer s H E hr => ?_
  obtain ⟨u1, u8, u65, u100⟩ := hr.us
  exact evss_cons (evs_ret (evf_callTy call_tuple_of rc_tuple b_tuple boot_tuple (evb_cons (EvN.r (evn_lc (own := [("wire", 1)]) rfl nd (blkOk_by (by kernel_rfl)) (evi_rg2 b_range (EvF.r (evf_int)) (EvF.r (evf_op op_addA r2_add (EvF.r (evf_callB cr_len rc_len b_len boot_len (evb_cons (evr_var 0) (evb_nil)))) (EvF.r (evf_int))))) (fun _ _ _ _ _ => evg_nm 1 nd) (evtb_nil) (fun _ _ _ _ _ => evf_op op_addA r2_add (EvF.r (evf_idx (pe_pm PySem.F.slot_tuple_index PySem.F.type_tuple_index mt_tupIndexI (pe_se _ _) (pa_cons (pe_se _ _) pa_nil)) (evf_var 0) (evr_var 1))) (EvF.r (evf_int))) (by decide))) (evb_nil)))) (evss_nil)
theorem ok_then_by (X0 : K.In h0) (G : h0.Ns mainGlobals mg) (c : He.SaysD Hd.fa Hd.fn K) (tb : LamX.TabB base mg (He.codeOf K QD) (PTb K)) : Cal P w K mg base 1 "then_by" (spP K 2 f_then_by) [] := by
  obtain ⟨fd, F⟩ := c.def_ 21 (d := Hd.mk "then_by" 39) rfl
  have b_tuple : mg "tuple" = none := He.free_ok X0 G (c.fact 58 (f := .free "tuple") rfl)
  have Sc : FnScope N_then_by ["one", "other"] (defScope (Hd.top 39)) := C8.fnScope_by (by kernel_rfl)
  have nd : (N_then_by : List Str).Nodup := Sc.nd
  have Bd : Binds K fd ["one", "other"] [] := FunD.bindsN F fun _ _ _ _ _ _ us hl => match us, hl with | [_, _], _ => rfl
  refine calP (N := N_then_by) (ps := ["one", "other"]) (b := d_then_by) 2 F (He.glo_ok X0 G (c.fact 21 (f := .glo "then_by") rfl)) Sc rfl Bd fun cdv A outer s H E hr => ?_
  obtain ⟨u1, u8, u65, u100⟩ := hr.us
  exact evss_cons (evs_ret (evf_callTy call_tuple_of rc_tuple b_tuple boot_tuple (evb_cons (EvN.r (evn_lc (own := [("place", 2)]) rfl nd (blkOk_by (by kernel_rfl)) (evi_val (evf_var 1)) (fun _ _ _ _ _ => evg_nm 2 nd) (evtb_nil) (fun _ _ _ _ _ => evf_ix u1 (evr_var 0) (EvF.r (evf_op op_sub r2_sub (evr_var 2) (EvF.r (evf_int))))) (by decide))) (evb_nil)))) (evss_nil)
theorem ok_cut_by (X0 : K.In h0) (G : h0.Ns mainGlobals mg) (c : He.SaysD Hd.fa Hd.fn K) (tb : LamX.TabB base mg (He.codeOf K QD) (PTb K)) : Cal P w K mg base 2 "cut_by" (spP K 2 f_cut_by) [] := by
  obtain ⟨fd, F⟩ := c.def_ 22 (d := Hd.mk "cut_by" 41) rfl
  have b_range : mg "range" = none := He.free_ok X0 G (c.fact 55 (f := .free "range") rfl)
  have c_without_noughts := ok_without_noughts (P := P) (w := w) (base := base) X0 G c tb
  have Sc : FnScope N_cut_by ["rows", "at"] (defScope (Hd.top 41)) := C8.fnScope_by (by kernel_rfl)
  have nd : (N_cut_by : List Str).Nodup := Sc.nd
  have Bd : Binds K fd ["rows", "at"] [] := FunD.bindsN F fun _ _ _ _ _ _ us hl => match us, hl with | [_, _], _ => rfl
  refine calP (N := N_cut_by) (ps := ["rows", "at"]) (b := d_cut_by) 2 F (He.glo_ok X0 G (c.fact 22 (f := .glo "cut_by") rfl)) Sc rfl Bd fun cdv A outer s H E hr => ?_
  obtain ⟨u1, u8, u65, u100⟩ := hr.us
  exact evss_cons (evs_set 2 nd (EvN.u (evn_dT))) (evss_cons (evs_for PassesOwn.never rfl (evi_items (evf_var 0)) (evg_tp rfl (evgs_cons (evg_nm 3 nd) (evgs_cons (evg_nm 4 nd) (evgs_nil))) rfl gs2) (evss_cons (evs_par 5 6 rfl nd (EvF.u (evf_ix u1 (evr_var 3) (EvF.r (evf_op op_sub r2_sub (evr_var 1) (EvF.r (evf_int)))))) (EvF.u (evf_ix u1 (evr_var 3) (evr_var 1))) (by decide)) (evss_cons (evs_asg (evf_if (evt_cmp op_gt r2_cmp (evr_var 5) (evr_var 6) (nomark _)) (evf_tup (eva_cons (evf_int) (eva_cons (evf_var 6) (eva_cons (evf_var 5) (eva_nil))))) (evf_tup (eva_cons (evf_neg (EvF.r (evf_int))) (eva_cons (evf_var 5) (eva_cons (evf_var 6) (eva_nil)))))) (evg_tp rfl (evgs_cons (evg_nm 7 nd) (evgs_cons (evg_nm 8 nd) (evgs_cons (evg_nm 9 nd) (evgs_nil)))) rfl gs3)) (evss_cons (evs_for PassesOwn.never rfl (evi_rg1 b_range (EvF.r (evf_op op_sub r2_sub (evr_var 9) (evr_var 8)))) (evg_nm 10 nd) (evss_cons (evs_set 11 nd (EvF.u (evf_op op_addA r2_add (EvF.r (evf_op op_addA r2_add (EvF.r (evf_slice (evr_var 3) evp_none (evp_some (EvF.r (evf_op op_sub r2_sub (evr_var 1) (EvF.r (evf_int))))))) (EvF.r (evf_tup (eva_cons (evf_op op_addA r2_add (evr_var 8) (evr_var 10)) (eva_cons (evf_op op_sub r2_sub (EvF.r (evf_op op_sub r2_sub (evr_var 9) (EvF.r (evf_int)))) (evr_var 10)) (eva_nil))))))) (EvF.r (evf_slice (evr_var 3) (evp_some (EvF.r (evf_op op_addA r2_add (evr_var 1) (EvF.r (evf_int))))) evp_none))))) (evss_cons (evs_put 2 (ps_dput u1 (pv 2) (pe_se _ _) (pe_se _ _) rfl) (evf_op op_addA r2_add (EvF.r (evf_get u8 (evr_var 2) (evr_var 11) (evf_int) ⟨rfl, rfl, rfl, rfl⟩)) (EvF.r (evf_op op_mul r2_mul (evr_var 7) (evr_var 4)))) (evr_var 11)) (evss_nil)))) (evss_nil))))) (evss_cons (evs_frz 2 (evs_ret (evf_callP c_without_noughts hr (by decide) (eva_cons (evf_var 2) (eva_nil))))) (evss_nil)))
theorem ok_sum_by (X0 : K.In h0) (G : h0.Ns mainGlobals mg) (c : He.SaysD Hd.fa Hd.fn K) (tb : LamX.TabB base mg (He.codeOf K QD) (PTb K)) : Cal P w K mg base 3 "sum_by" (spP K 1 f_sum_by) [] := by
  obtain ⟨fd, F⟩ := c.def_ 23 (d := Hd.mk "sum_by" 43) rfl
  have b_len : mg "len" = none := He.free_ok X0 G (c.fact 51 (f := .free "len") rfl)
  have b_max : mg "max" = none := He.free_ok X0 G (c.fact 53 (f := .free "max") rfl)
  have b_range : mg "range" = none := He.free_ok X0 G (c.fact 55 (f := .free "range") rfl)
  have b_tuple : mg "tuple" = none := He.free_ok X0 G (c.fact 58 (f := .free "tuple") rfl)
  have c_UNKNOWNS : ∃ t, mg "UNKNOWNS" = some (.int 5 t) := He.int_ok X0 G (c.fact 60 (f := .int "UNKNOWNS" 5) rfl)
  have c_cut_by := ok_cut_by (P := P) (w := w) (base := base) X0 G c tb
  have c_swapped := ok_swapped (P := P) (w := w) (base := base) X0 G c tb
  have Sc : FnScope N_sum_by ["sequence"] (defScope (Hd.top 43)) := C8.fnScope_by (by kernel_rfl)
  have nd : (N_sum_by : List Str).Nodup := Sc.nd
  have Bd : Binds K fd ["sequence"] [] := FunD.bindsN F fun _ _ _ _ _ _ us hl => match us, hl with | [_], _ => rfl
  refine calP (N := N_sum_by) (ps := ["sequence"]) (b := d_sum_by) 1 F (He.glo_ok X0 G (c.fact 23 (f := .glo "sum_by") rfl)) Sc rfl Bd fun cdv A outer s H E hr => ?_
  obtain ⟨u1, u8, u65, u100⟩ := hr.us
  exact evss_cons (evs_par3t 1 2 3 rfl nd (EvF.u (evf_callB cr_len rc_len b_len boot_len (evb_cons (evr_var 0) (evb_nil)))) (EvF.u (evf_var 0)) (EvN.u (evn_lst (eva_nil))) (by decide) (by decide) (by decide)) (evss_cons (evs_while 1000 PassesOwn.never (evt_cmp (op_neU u100) r2_neU (evr_var 2) (EvF.r (evf_tupRg3 rfl b_tuple b_range (evr_var 1) (EvF.r (evf_int)))) (nomark _)) (evss_cons (evs_set 4 nd (EvF.u (evf_ix u1 (EvN.r (evn_lc (own := [("at", 4)]) rfl nd (blkOk_by (by kernel_rfl)) (evi_rg2 b_range (EvF.r (evf_int)) (evr_var 1)) (fun _ _ _ _ _ => evg_nm 4 nd) (evtb_one (fun _ _ _ _ _ => evt_cmp op_lt r2_cmp (EvF.r (evf_ix u1 (evr_var 2) (EvF.r (evf_op op_sub r2_sub (evr_var 4) (EvF.r (evf_int)))))) (EvF.r (evf_ix u1 (evr_var 2) (evr_var 4))) (nomark _))) (fun _ _ _ _ _ => evf_var 4) (by decide))) (EvF.r (evf_int))))) (evss_cons (evs_set 2 nd (EvF.u (evf_callP c_swapped hr (by decide) (eva_cons (evf_var 2) (eva_cons (evf_var 4) (eva_nil)))))) (evss_cons (evs_app 3 (pe_bm PySem.F.plainAttrs_list PySem.F.slot_list_append PySem.F.type_list_append mt_append (pv 3) (pa_cons (pe_se _ _) pa_nil)) (evf_var 4)) (evss_nil))))) (evss_cons (evs_set 5 nd (EvF.u (EvN.toF (evn_disp1 u8 (evf_callTy call_tuple_of rc_tuple b_tuple boot_tuple (evb_cons (EvN.r (evn_lc (own := [("at", 4)]) rfl nd (blkOk_by (by kernel_rfl)) (evi_rg2 b_range (EvF.r (evf_int)) (EvF.r (evf_op op_addA r2_add (EvF.r (evf_glob c_UNKNOWNS)) (EvF.r (evf_int))))) (fun _ _ _ _ _ => evg_nm 4 nd) (evtb_nil) (fun _ _ _ _ _ => evf_callB (call_max2 rfl) rc_max2 b_max (by decide +kernel) (evb_cons (EvF.r (evf_op op_sub r2_sub (evr_var 1) (evr_var 4))) (evb_cons (EvF.r (evf_int)) (evb_nil)))) (by decide))) (evb_nil))) (evf_int))))) (evss_cons (evs_for PassesOwn.never rfl (evi_val (EvN.toF (evn_rev (evr_var 3)))) (evg_nm 4 nd) (evss_cons (evs_set 5 nd (EvF.u (evf_callP c_cut_by hr (by decide) (eva_cons (evf_var 5) (eva_cons (evf_var 4) (eva_nil)))))) (evss_nil))) (evss_cons (evs_ret (EvN.toF (evn_dc (own := [("row", 6), ("number", 7)]) u8 rfl nd (blkOk_by (by kernel_rfl)) (evi_items (evf_var 5)) (fun _ _ _ _ _ => evg_tp rfl (evgs_cons (evg_nm 6 nd) (evgs_cons (evg_nm 7 nd) (evgs_nil))) rfl gs2) (evtb_nil) (fun _ _ _ _ _ => evf_slice (evr_var 6) evp_none (evp_some (EvF.r (evf_glob c_UNKNOWNS)))) (fun _ _ _ _ _ => evf_var 7) (by decide)))) (evss_nil)))))
theorem ok_sum_of (X0 : K.In h0) (G : h0.Ns mainGlobals mg) (c : He.SaysD Hd.fa Hd.fn K) (tb : LamX.TabB base mg (He.codeOf K QD) (PTb K)) : Cal P w K mg base 4 "sum_of" (spP K 1 f_sum_of) [] := by
  obtain ⟨fd, F⟩ := c.def_ 24 (d := Hd.mk "sum_of" 44) rfl
  have c_need_sequence := ok_need_sequence (P := P) (w := w) (base := base) X0 G c tb
  have c_sum_by := ok_sum_by (P := P) (w := w) (base := base) X0 G c tb
  have Sc : FnScope N_sum_of ["sequence"] (defScope (Hd.top 44)) := C8.fnScope_by (by kernel_rfl)
  have nd : (N_sum_of : List Str).Nodup := Sc.nd
  have Bd : Binds K fd ["sequence"] [] := FunD.bindsN F fun _ _ _ _ _ _ us hl => match us, hl with | [_], _ => rfl
  refine calP (N := N_sum_of) (ps := ["sequence"]) (b := d_sum_of) 1 F (He.glo_ok X0 G (c.fact 24 (f := .glo "sum_of") rfl)) Sc rfl Bd fun cdv A outer s H E hr => ?_
  obtain ⟨u1, u8, u65, u100⟩ := hr.us
  exact evss_cons (evs_drop (evf_callP c_need_sequence hr (by decide) (eva_cons (evf_var 0) (eva_nil)))) (evss_cons (evs_ret (evf_callP c_sum_by hr (by decide) (eva_cons (evf_var 0) (eva_nil)))) (evss_nil))
theorem ok_sum_at_ones (X0 : K.In h0) (G : h0.Ns mainGlobals mg) (c : He.SaysD Hd.fa Hd.fn K) (tb : LamX.TabB base mg (He.codeOf K QD) (PTb K)) : Cal P w K mg base 4 "sum_at_ones" (spP K 1 f_sum_at_ones) [] := by
  obtain ⟨fd, F⟩ := c.def_ 25 (d := Hd.mk "sum_at_ones" 46) rfl
  have b_sum : mg "sum" = none := He.free_ok X0 G (c.fact 57 (f := .free "sum") rfl)
  have c_need_sequence := ok_need_sequence (P := P) (w := w) (base := base) X0 G c tb
  have c_sum_by := ok_sum_by (P := P) (w := w) (base := base) X0 G c tb
  have Sc : FnScope N_sum_at_ones ["sequence"] (defScope (Hd.top 46)) := C8.fnScope_by (by kernel_rfl)
  have nd : (N_sum_at_ones : List Str).Nodup := Sc.nd
  have Bd : Binds K fd ["sequence"] [] := FunD.bindsN F fun _ _ _ _ _ _ us hl => match us, hl with | [_], _ => rfl
  refine calP (N := N_sum_at_ones) (ps := ["sequence"]) (b := d_sum_at_ones) 1 F (He.glo_ok X0 G (c.fact 25 (f := .glo "sum_at_ones") rfl)) Sc rfl Bd fun cdv A outer s H E hr => ?_
  obtain ⟨u1, u8, u65, u100⟩ := hr.us
  exact evss_cons (evs_drop (evf_callP c_need_sequence hr (by decide) (eva_cons (evf_var 0) (eva_nil)))) (evss_cons (evs_ret (evf_sumVals rfl b_sum (evf_callP c_sum_by hr (by decide) (eva_cons (evf_var 0) (eva_nil))))) (evss_nil))
theorem ok_is_place (X0 : K.In h0) (G : h0.Ns mainGlobals mg) (c : He.SaysD Hd.fa Hd.fn K) (tb : LamX.TabB base mg (He.codeOf K QD) (PTb K)) : Cal P w K mg base 2 "is_place" (spP K 2 f_is_place) [] := by
  obtain ⟨fd, F⟩ := c.def_ 26 (d := Hd.mk "is_place" 48) rfl
  have b_all : mg "all" = none := He.free_ok X0 G (c.fact 46 (f := .free "all") rfl)
  have b_isinstance : mg "isinstance" = none := He.free_ok X0 G (c.fact 50 (f := .free "isinstance") rfl)
  have b_len : mg "len" = none := He.free_ok X0 G (c.fact 51 (f := .free "len") rfl)
  have b_min : mg "min" = none := He.free_ok X0 G (c.fact 54 (f := .free "min") rfl)
  have b_sum : mg "sum" = none := He.free_ok X0 G (c.fact 57 (f := .free "sum") rfl)
  have b_tuple : mg "tuple" = none := He.free_ok X0 G (c.fact 58 (f := .free "tuple") rfl)
  have c_is_number := ok_is_number (P := P) (w := w) (base := base) X0 G c tb
  have Sc : FnScope N_is_place ["wires", "thing"] (defScope (Hd.top 48)) := C8.fnScope_by (by kernel_rfl)
  have nd : (N_is_place : List Str).Nodup := Sc.nd
  have Bd : Binds K fd ["wires", "thing"] [] := FunD.bindsN F fun _ _ _ _ _ _ us hl => match us, hl with | [_, _], _ => rfl
  refine calP (N := N_is_place) (ps := ["wires", "thing"]) (b := d_is_place) 2 F (He.glo_ok X0 G (c.fact 26 (f := .glo "is_place") rfl)) Sc rfl Bd fun cdv A outer s H E hr => ?_
  obtain ⟨u1, u8, u65, u100⟩ := hr.us
  exact evss_cons (evs_if (EvW.toT (evw_or (evt_not (evt_val (EvF.r (evf_isi .tuple boot_tuple b_isinstance b_tuple (evr_var 1))))) (evw_or (evt_cmp (op_neU u100) r2_neU (EvF.r (evf_callB cr_len rc_len b_len boot_len (evb_cons (evr_var 1) (evb_nil)))) (EvF.r (evf_int)) (nomark _)) (evw_or1 (evt_not (evt_val (EvF.r (evf_callB (cr_all rfl) rc_all b_all (by decide +kernel) (evb_cons (EvN.r (evn_lc (own := [("one", 2)]) rfl nd (blkOk_by (by kernel_rfl)) (evi_val (evf_var 1)) (fun _ _ _ _ _ => evg_nm 2 nd) (evtb_nil) (fun _ _ _ _ _ => evf_callP c_is_number hr (by decide) (eva_cons (evf_var 2) (eva_nil))) (by decide))) (evb_nil)))))))))) (evss_cons (evs_ret (evf_bl)) (evss_nil)) (evss_nil)) (evss_cons (evs_ret (evf_and (EvF.r (evf_cmp op_ge r2_cmp (EvF.r (evf_callB (cr_min1 rfl) rc_min1 b_min (by decide +kernel) (evb_cons (evr_var 1) (evb_nil)))) (EvF.r (evf_int)) (nomark _))) (evf_one (evf_cmp op_le r2_cmp (EvF.r (evf_callB (cr_sum2 rfl) rc_sum2 b_sum (by decide +kernel) (evb_cons (evr_var 1) (evb_nil)))) (evr_var 0) (nomark _))))) (evss_nil))
theorem ok_is_lot_of (X0 : K.In h0) (G : h0.Ns mainGlobals mg) (c : He.SaysD Hd.fa Hd.fn K) (tb : LamX.TabB base mg (He.codeOf K QD) (PTb K)) : Cal P w K mg base 3 "is_lot_of" (spP K 2 f_is_lot_of) [] := by
  obtain ⟨fd, F⟩ := c.def_ 27 (d := Hd.mk "is_lot_of" 49) rfl
  have b_all : mg "all" = none := He.free_ok X0 G (c.fact 46 (f := .free "all") rfl)
  have b_isinstance : mg "isinstance" = none := He.free_ok X0 G (c.fact 50 (f := .free "isinstance") rfl)
  have b_tuple : mg "tuple" = none := He.free_ok X0 G (c.fact 58 (f := .free "tuple") rfl)
  have b_zip : mg "zip" = none := He.free_ok X0 G (c.fact 59 (f := .free "zip") rfl)
  have c_is_place := ok_is_place (P := P) (w := w) (base := base) X0 G c tb
  have Sc : FnScope N_is_lot_of ["wires", "thing"] (defScope (Hd.top 49)) := C8.fnScope_by (by kernel_rfl)
  have nd : (N_is_lot_of : List Str).Nodup := Sc.nd
  have Bd : Binds K fd ["wires", "thing"] [] := FunD.bindsN F fun _ _ _ _ _ _ us hl => match us, hl with | [_, _], _ => rfl
  refine calP (N := N_is_lot_of) (ps := ["wires", "thing"]) (b := d_is_lot_of) 2 F (He.glo_ok X0 G (c.fact 27 (f := .glo "is_lot_of") rfl)) Sc rfl Bd fun cdv A outer s H E hr => ?_
  obtain ⟨u1, u8, u65, u100⟩ := hr.us
  exact evss_cons (evs_if (EvW.toT (evw_or (evt_not (evt_val (EvF.r (evf_isi .tuple boot_tuple b_isinstance b_tuple (evr_var 1))))) (evw_or1 (evt_not (evt_val (EvF.r (evf_callB (cr_all rfl) rc_all b_all (by decide +kernel) (evb_cons (EvN.r (evn_lc (own := [("place", 2)]) rfl nd (blkOk_by (by kernel_rfl)) (evi_val (evf_var 1)) (fun _ _ _ _ _ => evg_nm 2 nd) (evtb_nil) (fun _ _ _ _ _ => evf_callP c_is_place hr (by decide) (eva_cons (evf_var 0) (eva_cons (evf_var 2) (eva_nil)))) (by decide))) (evb_nil))))))))) (evss_cons (evs_ret (evf_bl)) (evss_nil)) (evss_nil)) (evss_cons (evs_ret (evf_callB (cr_all rfl) rc_all b_all (by decide +kernel) (evb_cons (EvN.r (evn_lc (own := [("one", 3), ("other", 4)]) rfl nd (blkOk_by (by kernel_rfl)) (evi_zip b_zip (evf_var 1) (evf_slice (evr_var 1) (evp_some (EvF.r (evf_int))) evp_none)) (fun _ _ _ _ _ => evg_tp rfl (evgs_cons (evg_nm 3 nd) (evgs_cons (evg_nm 4 nd) (evgs_nil))) rfl gs2) (evtb_nil) (fun _ _ _ _ _ => evf_cmp (op_ltX (Nat.lt_of_succ_lt u1)) r2_ltX (evr_var 3) (evr_var 4) (nomark _)) (by decide))) (evb_nil)))) (evss_nil))
theorem ok_read_by (X0 : K.In h0) (G : h0.Ns mainGlobals mg) (c : He.SaysD Hd.fa Hd.fn K) (tb : LamX.TabB base mg (He.codeOf K QD) (PTb K)) : Cal P w K mg base 4 "read_by" (spP K 1 f_read_by) [] := by
  obtain ⟨fd, F⟩ := c.def_ 28 (d := Hd.mk "read_by" 50) rfl
  have b_sorted : mg "sorted" = none := He.free_ok X0 G (c.fact 56 (f := .free "sorted") rfl)
  have Sc : FnScope N_read_by ["lot"] (defScope (Hd.top 50)) := C8.fnScope_by (by kernel_rfl)
  have nd : (N_read_by : List Str).Nodup := Sc.nd
  have Bd : Binds K fd ["lot"] [] := FunD.bindsN F fun _ _ _ _ _ _ us hl => match us, hl with | [_], _ => rfl
  refine calPL (N := N_read_by) (ps := ["lot"]) (b := d_read_by) 1 F (He.glo_ok X0 G (c.fact 28 (f := .glo "read_by") rfl)) Sc rfl Bd rfl fun cdv A outer s H E hcd hr => ?_
  have hcd := hcd
  obtain ⟨u1, u8, u65, u100⟩ := hr.us
  exact evss_cons (evs_ret (EvN.toF (evn_sortPl ⟨tb, hcd, rfl⟩ u65 hr b_sorted (evr_var 0)))) (evss_nil)
theorem ok_pipes_by (X0 : K.In h0) (G : h0.Ns mainGlobals mg) (c : He.SaysD Hd.fa Hd.fn K) (tb : LamX.TabB base mg (He.codeOf K QD) (PTb K)) : Cal P w K mg base 5 "pipes_by" (spP K 1 f_pipes_by) [] := by
  obtain ⟨fd, F⟩ := c.def_ 29 (d := Hd.mk "pipes_by" 51) rfl
  have b_len : mg "len" = none := He.free_ok X0 G (c.fact 51 (f := .free "len") rfl)
  have b_range : mg "range" = none := He.free_ok X0 G (c.fact 55 (f := .free "range") rfl)
  have b_sorted : mg "sorted" = none := He.free_ok X0 G (c.fact 56 (f := .free "sorted") rfl)
  have b_tuple : mg "tuple" = none := He.free_ok X0 G (c.fact 58 (f := .free "tuple") rfl)
  have c_back_by := ok_back_by (P := P) (w := w) (base := base) X0 G c tb
  have c_crossings_by := ok_crossings_by (P := P) (w := w) (base := base) X0 G c tb
  have c_read_by := ok_read_by (P := P) (w := w) (base := base) X0 G c tb
  have c_swapped := ok_swapped (P := P) (w := w) (base := base) X0 G c tb
  have c_then_by := ok_then_by (P := P) (w := w) (base := base) X0 G c tb
  have Sc : FnScope N_pipes_by ["sequence"] (defScope (Hd.top 51)) := C8.fnScope_by (by kernel_rfl)
  have nd : (N_pipes_by : List Str).Nodup := Sc.nd
  have Bd : Binds K fd ["sequence"] [] := FunD.bindsN F fun _ _ _ _ _ _ us hl => match us, hl with | [_], _ => rfl
  refine calP (N := N_pipes_by) (ps := ["sequence"]) (b := d_pipes_by) 1 F (He.glo_ok X0 G (c.fact 29 (f := .glo "pipes_by") rfl)) Sc rfl Bd fun cdv A outer s H E hr => ?_
  obtain ⟨u1, u8, u65, u100⟩ := hr.us
  exact evss_cons (evs_asg (evf_tup (eva_cons (evf_callB cr_len rc_len b_len boot_len (evb_cons (evr_var 0) (evb_nil))) (eva_cons (evf_callP c_crossings_by hr (by decide) (eva_cons (evf_var 0) (eva_nil))) (eva_nil)))) (evg_tp rfl (evgs_cons (evg_nm 1 nd) (evgs_cons (evg_nm 2 nd) (evgs_nil))) rfl gs2)) (evss_cons (evs_set 3 nd (EvF.u (evf_callP c_read_by hr (by decide) (eva_cons (EvN.toF (evn_lc2 (own := [("i", 11), ("j", 12)]) (vs1 := [12]) rfl nd (blkOk_by (by kernel_rfl)) (by decide) (evi_rg2 b_range (EvF.r (evf_int)) (evr_var 1)) (fun _ _ _ _ _ => evg_nm 11 nd) (gok_nm 11) (evtb_nil) (fun _ _ _ _ _ => evi_rg2 b_range (EvF.r (evf_int)) (EvF.r (evf_op op_addA r2_add (EvF.r (evf_op op_sub r2_sub (evr_var 1) (evr_var 11))) (EvF.r (evf_int))))) (fun _ _ _ _ _ => evg_nm 12 nd) (evtb_nil) (fun _ _ _ _ _ => evf_tup (eva_cons (evf_var 11) (eva_cons (evf_var 12) (eva_nil)))) (by decide) (by decide))) (eva_nil))))) (evss_cons (evs_set 4 nd (EvF.u (EvN.toF (evn_lst (eva_cons (evf_tup (eva_cons (evf_tup (eva_nil)) (eva_cons (evf_tupRg rfl b_tuple (evrg_2 b_range (EvF.r (evf_int)) (EvF.r (evf_op op_addA r2_add (evr_var 1) (EvF.r (evf_int)))))) (eva_nil)))) (eva_nil)))))) (evss_cons (evs_for PassesOwn.never rfl (evi_val (evf_var 3)) (evg_nm 5 nd) (evss_cons (evs_set 6 nd (EvN.u (evn_lst (eva_nil)))) (evss_cons (evs_for PassesOwn.never rfl (evi_val (evf_var 4)) (evg_tp rfl (evgs_cons (evg_nm 7 nd) (evgs_cons (evg_nm 8 nd) (evgs_nil))) rfl gs2) (evss_cons (evs_app 6 (pe_bm PySem.F.plainAttrs_list PySem.F.slot_list_append PySem.F.type_list_append mt_append (pv 6) (pa_cons (pe_se _ _) pa_nil)) (evf_tup (eva_cons (evf_var 7) (eva_cons (evf_var 8) (eva_nil))))) (evss_cons (evs_set 9 nd (EvF.u (evf_callP c_swapped hr (by decide) (eva_cons (evf_var 8) (eva_cons (evf_op op_sub r2_sub (EvF.r (evf_op op_addA r2_add (EvF.r (evf_ix u1 (evr_var 5) (EvF.r (evf_int)))) (EvF.r (evf_ix u1 (evr_var 5) (EvF.r (evf_int)))))) (EvF.r (evf_int))) (eva_nil)))))) (evss_cons (evs_set 10 nd (EvF.u (evf_callP c_crossings_by hr (by decide) (eva_cons (evf_callP c_then_by hr (by decide) (eva_cons (evf_callP c_back_by hr (by decide) (eva_cons (evf_var 9) (eva_nil))) (eva_cons (evf_var 0) (eva_nil)))) (eva_nil))))) (evss_cons (evs_if (EvW.toT (evw_and (evt_cmp op_gt r2_cmp (EvF.r (evf_callP c_crossings_by hr (by decide) (eva_cons (evf_var 9) (eva_nil)))) (EvF.r (evf_callP c_crossings_by hr (by decide) (eva_cons (evf_var 8) (eva_nil)))) (nomark _)) (evw_and1 (evt_cmp (op_eqU u100) r2_eqU (EvF.r (evf_op op_addA r2_add (evr_var 10) (EvF.r (evf_callP c_crossings_by hr (by decide) (eva_cons (evf_var 9) (eva_nil)))))) (evr_var 2) (nomark _))))) (evss_cons (evs_app 6 (pe_bm PySem.F.plainAttrs_list PySem.F.slot_list_append PySem.F.type_list_append mt_append (pv 6) (pa_cons (pe_se _ _) pa_nil)) (evf_tup (eva_cons (evf_tup (eva_star (evr_var 7) (eva_cons (evf_var 5) (eva_nil)))) (eva_cons (evf_var 9) (eva_nil))))) (evss_nil)) (evss_nil)) (evss_nil)))))) (evss_cons (evs_frz 6 (evs_set 4 nd (EvF.u (evf_var 6)))) (evss_nil))))) (evss_cons (evs_ret (EvN.toF (evn_callB (cr_sort2 u65) rc_sort2 b_sorted boot_sorted (evb_cons (EvN.r (evn_lc (own := [("lot", 7), ("here", 8)]) rfl nd (blkOk_by (by kernel_rfl)) (evi_val (evf_var 4)) (fun _ _ _ _ _ => evg_tp rfl (evgs_cons (evg_nm 7 nd) (evgs_cons (evg_nm 8 nd) (evgs_nil))) rfl gs2) (evtb_one (fun _ _ _ _ _ => evt_cmp (op_eqU u100) r2_eqU (evr_var 8) (evr_var 0) (nomark _))) (fun _ _ _ _ _ => evf_callTy call_tuple_of rc_tuple b_tuple boot_tuple (evb_cons (EvN.r (evn_callB (cr_sort2 u65) rc_sort2 b_sorted boot_sorted (evb_cons (evr_var 7) (evb_nil)))) (evb_nil))) (by decide))) (evb_nil))))) (evss_nil)))))
theorem ok_need_lot (X0 : K.In h0) (G : h0.Ns mainGlobals mg) (c : He.SaysD Hd.fa Hd.fn K) (tb : LamX.TabB base mg (He.codeOf K QD) (PTb K)) : Cal P w K mg base 4 "need_lot" (spP K 2 f_need_lot) [] := by
  obtain ⟨fd, F⟩ := c.def_ 30 (d := Hd.mk "need_lot" 52) rfl
  have c_is_lot_of := ok_is_lot_of (P := P) (w := w) (base := base) X0 G c tb
  have c_need_wires := ok_need_wires (P := P) (w := w) (base := base) X0 G c tb
  have Sc : FnScope N_need_lot ["wires", "lot"] (defScope (Hd.top 52)) := C8.fnScope_by (by kernel_rfl)
  have nd : (N_need_lot : List Str).Nodup := Sc.nd
  have Bd : Binds K fd ["wires", "lot"] [] := FunD.bindsN F fun _ _ _ _ _ _ us hl => match us, hl with | [_, _], _ => rfl
  refine calP (N := N_need_lot) (ps := ["wires", "lot"]) (b := d_need_lot) 2 F (He.glo_ok X0 G (c.fact 30 (f := .glo "need_lot") rfl)) Sc rfl Bd fun cdv A outer s H E hr => ?_
  obtain ⟨u1, u8, u65, u100⟩ := hr.us
  exact evss_cons (evs_drop (evf_callP c_need_wires hr (by decide) (eva_cons (evf_var 0) (eva_nil)))) (evss_cons (evs_if (evt_not (evt_val (EvF.r (evf_callP c_is_lot_of hr (by decide) (eva_cons (evf_var 0) (eva_cons (evf_var 1) (eva_nil))))))) (evss_cons (evs_dead) (evss_nil)) (evss_nil)) (evss_nil))
theorem ok_row_of_lot (X0 : K.In h0) (G : h0.Ns mainGlobals mg) (c : He.SaysD Hd.fa Hd.fn K) (tb : LamX.TabB base mg (He.codeOf K QD) (PTb K)) : Cal P w K mg base 5 "row_of_lot" (spP K 2 f_row_of_lot) [] := by
  obtain ⟨fd, F⟩ := c.def_ 31 (d := Hd.mk "row_of_lot" 53) rfl
  have b_tuple : mg "tuple" = none := He.free_ok X0 G (c.fact 58 (f := .free "tuple") rfl)
  have c_need_lot := ok_need_lot (P := P) (w := w) (base := base) X0 G c tb
  have c_read_by := ok_read_by (P := P) (w := w) (base := base) X0 G c tb
  have Sc : FnScope N_row_of_lot ["wires", "lot"] (defScope (Hd.top 53)) := C8.fnScope_by (by kernel_rfl)
  have nd : (N_row_of_lot : List Str).Nodup := Sc.nd
  have Bd : Binds K fd ["wires", "lot"] [] := FunD.bindsN F fun _ _ _ _ _ _ us hl => match us, hl with | [_, _], _ => rfl
  refine calP (N := N_row_of_lot) (ps := ["wires", "lot"]) (b := d_row_of_lot) 2 F (He.glo_ok X0 G (c.fact 31 (f := .glo "row_of_lot") rfl)) Sc rfl Bd fun cdv A outer s H E hr => ?_
  obtain ⟨u1, u8, u65, u100⟩ := hr.us
  exact evss_cons (evs_drop (evf_callP c_need_lot hr (by decide) (eva_cons (evf_var 0) (eva_cons (evf_var 1) (eva_nil))))) (evss_cons (evs_ret (evf_callTy call_tuple_of rc_tuple b_tuple boot_tuple (evb_cons (EvN.r (evn_lc (own := [("place", 2)]) rfl nd (blkOk_by (by kernel_rfl)) (evi_val (evf_callP c_read_by hr (by decide) (eva_cons (evf_var 1) (eva_nil)))) (fun _ _ _ _ _ => evg_nm 2 nd) (evtb_nil) (fun _ _ _ _ _ => evf_ix u1 (evr_var 2) (EvF.r (evf_int))) (by decide))) (evb_nil)))) (evss_nil))
theorem ok_pipes (X0 : K.In h0) (G : h0.Ns mainGlobals mg) (c : He.SaysD Hd.fa Hd.fn K) (tb : LamX.TabB base mg (He.codeOf K QD) (PTb K)) : Cal P w K mg base 6 "pipes" (spP K 1 f_pipes) [] := by
  obtain ⟨fd, F⟩ := c.def_ 32 (d := Hd.mk "pipes" 54) rfl
  have b_tuple : mg "tuple" = none := He.free_ok X0 G (c.fact 58 (f := .free "tuple") rfl)
  have c_need_sequence := ok_need_sequence (P := P) (w := w) (base := base) X0 G c tb
  have c_pipes_by := ok_pipes_by (P := P) (w := w) (base := base) X0 G c tb
  have Sc : FnScope N_pipes ["sequence"] (defScope (Hd.top 54)) := C8.fnScope_by (by kernel_rfl)
  have nd : (N_pipes : List Str).Nodup := Sc.nd
  have Bd : Binds K fd ["sequence"] [] := FunD.bindsN F fun _ _ _ _ _ _ us hl => match us, hl with | [_], _ => rfl
  refine calP (N := N_pipes) (ps := ["sequence"]) (b := d_pipes) 1 F (He.glo_ok X0 G (c.fact 32 (f := .glo "pipes") rfl)) Sc rfl Bd fun cdv A outer s H E hr => ?_
  obtain ⟨u1, u8, u65, u100⟩ := hr.us
  exact evss_cons (evs_drop (evf_callP c_need_sequence hr (by decide) (eva_cons (evf_var 0) (eva_nil)))) (evss_cons (evs_ret (evf_callTy call_tuple_of rc_tuple b_tuple boot_tuple (evb_cons (EvF.r (evf_callP c_pipes_by hr (by decide) (eva_cons (evf_var 0) (eva_nil)))) (evb_nil)))) (evss_nil))
theorem ok__law_mixed (X0 : K.In h0) (G : h0.Ns mainGlobals mg) (c : He.SaysD Hd.fa Hd.fn K) (tb : LamX.TabB base mg (He.codeOf K QD) (PTb K)) : Cal P w K mg base 1 "_law_mixed" (spD K 0 f__law_mixed) [] := by
  obtain ⟨fd, F⟩ := c.def_ 34 (d := Hd.mk "_law_mixed" 57) rfl
  have b_int : mg "int" = none := He.free_ok X0 G (c.fact 49 (f := .free "int") rfl)
  have Sc : FnScope N__law_mixed ["draw"] (defScope (Hd.top 57)) := C8.fnScope_by (by kernel_rfl)
  have nd : (N__law_mixed : List Str).Nodup := Sc.nd
  have Bd : Binds K fd ["draw"] [] := FunD.bindsN F fun _ _ _ _ _ _ us hl => match us, hl with | [_], _ => rfl
  refine calD (N := N__law_mixed) (ps := ["draw"]) (b := d__law_mixed) 0 F (He.glo_ok X0 G (c.fact 34 (f := .glo "_law_mixed") rfl)) Sc rfl Bd fun cdv A outer s H E hr => ?_
  obtain ⟨u1, u8, u65, u100⟩ := hr.us
  exact evss_cons (evs_setTn 0 (ps_dput u1 (pv 0) pe_str (pe_se _ _) rfl) (EvF.r (evf_op op_addA r2_add (EvF.r (evf_turn 0 (pe_dget u1 (pv 0) pe_str (fun _ _ => rfl)))) (EvF.r (evf_int))))) (evss_cons (evs_par 1 2 rfl nd (EvF.u (evf_callTy call_int1 rc_int1 b_int boot_int (evb_cons (EvF.r (evf_turn 0 (pe_dget u1 (pv 0) pe_str (fun _ _ => rfl)))) (evb_nil)))) (EvF.u (evf_int)) (by decide)) (evss_cons (evs_for PassesOwn.never rfl (evi_val (EvN.toF (evn_lst (eva_cons (evf_int) (eva_cons (evf_int) (eva_cons (evf_int) (eva_nil))))))) (evg_nm 3 nd) (evss_cons (evs_set 4 nd (EvF.u (evf_op op_mod r2_mod (EvF.r (evf_op op_addA r2_add (EvF.r (evf_op op_mul r2_mul (evr_var 1) (EvF.r (evf_int)))) (EvF.r (evf_op op_fdivW r2_div (evr_var 3) (EvF.r (evf_int)))))) (evr_var 3)))) (evss_cons (evs_for PassesOwn.never rfl (evi_val (evf_cells 0 (pe_dget u1 (pv 0) pe_str (fun _ _ => rfl)))) (evg_nm 5 nd) (evss_cons (evs_set 4 nd (EvF.u (evf_op op_mod r2_mod (EvF.r (evf_op op_addA r2_add (EvF.r (evf_op op_addA r2_add (EvF.r (evf_op op_mul r2_mul (evr_var 4) (EvF.r (evf_int)))) (EvF.r (evf_callTy call_int1 rc_int1 b_int boot_int (evb_cons (evr_var 5) (evb_nil)))))) (evr_var 1))) (evr_var 3)))) (evss_nil))) (evss_cons (evs_set 2 nd (EvF.u (evf_op op_addA r2_add (EvF.r (evf_op op_mul r2_mul (evr_var 2) (EvF.r (evf_int)))) (EvF.r (evf_op op_mod r2_mod (EvF.r (evf_op op_pow r2_pow (evr_var 4) (EvF.r (evf_int)))) (evr_var 3)))))) (evss_nil))))) (evss_cons (evs_ret (evf_var 2)) (evss_nil))))
theorem ok__law_take (X0 : K.In h0) (G : h0.Ns mainGlobals mg) (c : He.SaysD Hd.fa Hd.fn K) (tb : LamX.TabB base mg (He.codeOf K QD) (PTb K)) : Cal P w K mg base 2 "_law_take" (spD K 1 f__law_take) [] := by
  obtain ⟨fd, F⟩ := c.def_ 35 (d := Hd.mk "_law_take" 58) rfl
  have b_int : mg "int" = none := He.free_ok X0 G (c.fact 49 (f := .free "int") rfl)
  have c__law_mixed := ok__law_mixed (P := P) (w := w) (base := base) X0 G c tb
  have Sc : FnScope N__law_take ["draw", "amount"] (defScope (Hd.top 58)) := C8.fnScope_by (by kernel_rfl)
  have nd : (N__law_take : List Str).Nodup := Sc.nd
  have Bd : Binds K fd ["draw", "amount"] [] := FunD.bindsN F fun _ _ _ _ _ _ us hl => match us, hl with | [_, _], _ => rfl
  refine calD (N := N__law_take) (ps := ["draw", "amount"]) (b := d__law_take) 1 F (He.glo_ok X0 G (c.fact 35 (f := .glo "_law_take") rfl)) Sc rfl Bd fun cdv A outer s H E hr => ?_
  obtain ⟨u1, u8, u65, u100⟩ := hr.us
  exact evss_cons (evs_if (evt_cmp (op_eqU u100) r2_eqU (EvF.r (evf_rest 0 (pe_dget u1 (pv 0) pe_str (fun _ _ => rfl)))) (EvF.r (evf_int)) (nomark _)) (evss_cons (evs_setR 0 (ps_dput u1 (pv 0) pe_str (pe_se _ _) rfl) (EvF.r (evf_if (evt_large u100 0 (pe_dget u1 (pv 0) pe_str (fun _ _ => rfl))) (evf_popL 0 (pe_bm PySem.F.plainAttrs_list PySem.F.slot_list_pop PySem.F.type_list_pop mt_popAt (pe_dget u1 (pv 0) pe_str (fun _ _ => rfl)) (pa_cons pe_int pa_nil))) (evf_callD 0 c__law_mixed hr (by decide) (pv 0) (eva_nil))))) (evss_nil)) (evss_nil)) (evss_cons (evs_set 2 nd (EvF.u (evf_op op_mod r2_mod (EvF.r (evf_callTy call_int1 rc_int1 b_int boot_int (evb_cons (EvF.r (evf_rest 0 (pe_dget u1 (pv 0) pe_str (fun _ _ => rfl)))) (evb_nil)))) (evr_var 1)))) (evss_cons (evs_setR 0 (ps_dput u1 (pv 0) pe_str (pe_se _ _) rfl) (EvF.r (evf_op op_fdivW r2_div (EvF.r (evf_callTy call_int1 rc_int1 b_int boot_int (evb_cons (EvF.r (evf_rest 0 (pe_dget u1 (pv 0) pe_str (fun _ _ => rfl)))) (evb_nil)))) (evr_var 1)))) (evss_cons (evs_ret (evf_var 2)) (evss_nil))))
theorem ok__law_shuffled (X0 : K.In h0) (G : h0.Ns mainGlobals mg) (c : He.SaysD Hd.fa Hd.fn K) (tb : LamX.TabB base mg (He.codeOf K QD) (PTb K)) : Cal P w K mg base 3 "_law_shuffled" (spD K 1 f__law_shuffled) [] := by
  obtain ⟨fd, F⟩ := c.def_ 36 (d := Hd.mk "_law_shuffled" 59) rfl
  have b_len : mg "len" = none := He.free_ok X0 G (c.fact 51 (f := .free "len") rfl)
  have b_list : mg "list" = none := He.free_ok X0 G (c.fact 52 (f := .free "list") rfl)
  have c__law_take := ok__law_take (P := P) (w := w) (base := base) X0 G c tb
  have Sc : FnScope N__law_shuffled ["draw", "some"] (defScope (Hd.top 59)) := C8.fnScope_by (by kernel_rfl)
  have nd : (N__law_shuffled : List Str).Nodup := Sc.nd
  have Bd : Binds K fd ["draw", "some"] [] := FunD.bindsN F fun _ _ _ _ _ _ us hl => match us, hl with | [_, _], _ => rfl
  refine calD (N := N__law_shuffled) (ps := ["draw", "some"]) (b := d__law_shuffled) 1 F (He.glo_ok X0 G (c.fact 36 (f := .glo "_law_shuffled") rfl)) Sc rfl Bd fun cdv A outer s H E hr => ?_
  obtain ⟨u1, u8, u65, u100⟩ := hr.us
  exact evss_cons (evs_par 2 3 rfl nd (EvN.u (evn_callTy call_list_of rc_list b_list boot_list (evb_cons (evr_var 1) (evb_nil)))) (EvN.u (evn_lst (eva_nil))) (by decide)) (evss_cons (evs_while 1000 PassesOwn.never (evt_cmp (op_neU u100) r2_neU (evr_var 2) (EvN.r (evn_lst (eva_nil))) (nomark _)) (evss_cons (evs_appPop 3 2 (by decide) (pe_bm PySem.F.plainAttrs_list PySem.F.slot_list_append PySem.F.type_list_append mt_append (pv 3) (pa_cons (pe_bm PySem.F.plainAttrs_list PySem.F.slot_list_pop PySem.F.type_list_pop mt_popAt (pv 2) (pa_cons (pe_se _ _) pa_nil)) pa_nil)) (EvF.r (evf_callD 0 c__law_take hr (by decide) (pv 0) (eva_cons (evf_callB cr_len rc_len b_len boot_len (evb_cons (evr_var 2) (evb_nil))) (eva_nil))))) (evss_nil))) (evss_cons (evs_frz 3 (evs_ret (evf_var 3))) (evss_nil)))
theorem ok__law_sequence (X0 : K.In h0) (G : h0.Ns mainGlobals mg) (c : He.SaysD Hd.fa Hd.fn K) (tb : LamX.TabB base mg (He.codeOf K QD) (PTb K)) : Cal P w K mg base 4 "_law_sequence" (spD K 1 f__law_sequence) [] := by
  obtain ⟨fd, F⟩ := c.def_ 37 (d := Hd.mk "_law_sequence" 60) rfl
  have b_list : mg "list" = none := He.free_ok X0 G (c.fact 52 (f := .free "list") rfl)
  have b_range : mg "range" = none := He.free_ok X0 G (c.fact 55 (f := .free "range") rfl)
  have b_tuple : mg "tuple" = none := He.free_ok X0 G (c.fact 58 (f := .free "tuple") rfl)
  have c__law_shuffled := ok__law_shuffled (P := P) (w := w) (base := base) X0 G c tb
  have Sc : FnScope N__law_sequence ["draw", "wires"] (defScope (Hd.top 60)) := C8.fnScope_by (by kernel_rfl)
  have nd : (N__law_sequence : List Str).Nodup := Sc.nd
  have Bd : Binds K fd ["draw", "wires"] [] := FunD.bindsN F fun _ _ _ _ _ _ us hl => match us, hl with | [_, _], _ => rfl
  refine calD (N := N__law_sequence) (ps := ["draw", "wires"]) (b := d__law_sequence) 1 F (He.glo_ok X0 G (c.fact 37 (f := .glo "_law_sequence") rfl)) Sc rfl Bd fun cdv A outer s H E hr => ?_
  obtain ⟨u1, u8, u65, u100⟩ := hr.us
  exact evss_cons (evs_ret (evf_callTy cr_ptup rc_ptup b_tuple boot_tuple (evb_cons (EvF.r (evf_callD 0 c__law_shuffled hr (by decide) (pv 0) (eva_cons (EvN.toF (evn_listRg rfl b_list (evrg_2 b_range (EvF.r (evf_int)) (EvF.r (evf_op op_addA r2_add (evr_var 1) (EvF.r (evf_int))))))) (eva_nil)))) (evb_nil)))) (evss_nil)
theorem ok__law_swapped (X0 : K.In h0) (G : h0.Ns mainGlobals mg) (c : He.SaysD Hd.fa Hd.fn K) (tb : LamX.TabB base mg (He.codeOf K QD) (PTb K)) : Cal P w K mg base 1 "_law_swapped" (spP K 2 f__law_swapped) [] := by
  obtain ⟨fd, F⟩ := c.def_ 38 (d := Hd.mk "_law_swapped" 61) rfl
  have b_list : mg "list" = none := He.free_ok X0 G (c.fact 52 (f := .free "list") rfl)
  have b_tuple : mg "tuple" = none := He.free_ok X0 G (c.fact 58 (f := .free "tuple") rfl)
  have Sc : FnScope N__law_swapped ["sequence", "at"] (defScope (Hd.top 61)) := C8.fnScope_by (by kernel_rfl)
  have nd : (N__law_swapped : List Str).Nodup := Sc.nd
  have Bd : Binds K fd ["sequence", "at"] [] := FunD.bindsN F fun _ _ _ _ _ _ us hl => match us, hl with | [_, _], _ => rfl
  refine calP (N := N__law_swapped) (ps := ["sequence", "at"]) (b := d__law_swapped) 2 F (He.glo_ok X0 G (c.fact 38 (f := .glo "_law_swapped") rfl)) Sc rfl Bd fun cdv A outer s H E hr => ?_
  obtain ⟨u1, u8, u65, u100⟩ := hr.us
  exact evss_cons (evs_set 2 nd (EvN.u (evn_callTy call_list_of rc_list b_list boot_list (evb_cons (evr_var 0) (evb_nil))))) (evss_cons (evs_swap 2 (ps_asg (pe_se _ _) (pg_tup rfl (pgs_cons (pg_sub (pv 2) (pe_se _ _) set_list) (pgs_cons (pg_sub (pv 2) (pe_se _ _) set_list) pgs_nil)))) (evf_tup (eva_cons (evf_ix u1 (evr_var 2) (evr_var 1)) (eva_cons (evf_ix u1 (evr_var 2) (EvF.r (evf_op op_sub r2_sub (evr_var 1) (EvF.r (evf_int))))) (eva_nil)))) (EvF.r (evf_op op_sub r2_sub (evr_var 1) (EvF.r (evf_int)))) (evr_var 1)) (evss_cons (evs_ret (evf_callTy call_tuple_of rc_tuple b_tuple boot_tuple (evb_cons (evr_var 2) (evb_nil)))) (evss_nil)))
theorem ok__law_kept (X0 : K.In h0) (G : h0.Ns mainGlobals mg) (c : He.SaysD Hd.fa Hd.fn K) (tb : LamX.TabB base mg (He.codeOf K QD) (PTb K)) : Cal P w K mg base 1 "_law_kept" (spP K 1 f__law_kept) [] := by
  obtain ⟨fd, F⟩ := c.def_ 39 (d := Hd.mk "_law_kept" 62) rfl
  have b_dict : mg "dict" = none := He.free_ok X0 G (c.fact 48 (f := .free "dict") rfl)
  have Sc : FnScope N__law_kept ["found"] (defScope (Hd.top 62)) := C8.fnScope_by (by kernel_rfl)
  have nd : (N__law_kept : List Str).Nodup := Sc.nd
  have Bd : Binds K fd ["found"] [] := FunD.bindsN F fun _ _ _ _ _ _ us hl => match us, hl with | [_], _ => rfl
  refine calP (N := N__law_kept) (ps := ["found"]) (b := d__law_kept) 1 F (He.glo_ok X0 G (c.fact 39 (f := .glo "_law_kept") rfl)) Sc rfl Bd fun cdv A outer s H E hr => ?_
  obtain ⟨u1, u8, u65, u100⟩ := hr.us
  exact evss_cons (evs_ret (EvN.toF (evn_callTy (call_dictP rfl u8) rc_dictP b_dict boot_dict (evb_cons (EvN.r (evn_lc (own := [("key", 1)]) rfl nd (blkOk_by (by kernel_rfl)) (evi_val (evf_var 0)) (fun _ _ _ _ _ => evg_nm 1 nd) (evtb_one (fun _ _ _ _ _ => evt_cmp (op_neU u100) r2_neU (EvF.r (evf_ix u1 (evr_var 0) (evr_var 1))) (EvF.r (evf_int)) (nomark _))) (fun _ _ _ _ _ => evf_tup (eva_cons (evf_var 1) (eva_cons (evf_ix u1 (evr_var 0) (evr_var 1)) (eva_nil)))) (by decide))) (evb_nil))))) (evss_nil)
theorem ok__law_cut (X0 : K.In h0) (G : h0.Ns mainGlobals mg) (c : He.SaysD Hd.fa Hd.fn K) (tb : LamX.TabB base mg (He.codeOf K QD) (PTb K)) : Cal P w K mg base 2 "_law_cut" (spP K 2 f__law_cut) [] := by
  obtain ⟨fd, F⟩ := c.def_ 40 (d := Hd.mk "_law_cut" 63) rfl
  have b_max : mg "max" = none := He.free_ok X0 G (c.fact 53 (f := .free "max") rfl)
  have b_min : mg "min" = none := He.free_ok X0 G (c.fact 54 (f := .free "min") rfl)
  have b_range : mg "range" = none := He.free_ok X0 G (c.fact 55 (f := .free "range") rfl)
  have c__law_kept := ok__law_kept (P := P) (w := w) (base := base) X0 G c tb
  have Sc : FnScope N__law_cut ["polynomial", "at"] (defScope (Hd.top 63)) := C8.fnScope_by (by kernel_rfl)
  have nd : (N__law_cut : List Str).Nodup := Sc.nd
  have Bd : Binds K fd ["polynomial", "at"] [] := FunD.bindsN F fun _ _ _ _ _ _ us hl => match us, hl with | [_, _], _ => rfl
  refine calP (N := N__law_cut) (ps := ["polynomial", "at"]) (b := d__law_cut) 2 F (He.glo_ok X0 G (c.fact 40 (f := .glo "_law_cut") rfl)) Sc rfl Bd fun cdv A outer s H E hr => ?_
  obtain ⟨u1, u8, u65, u100⟩ := hr.us
  exact evss_cons (evs_set 2 nd (EvN.u (evn_dT))) (evss_cons (evs_for PassesOwn.never rfl (evi_val (evf_var 0)) (evg_nm 3 nd) (evss_cons (evs_par 4 5 rfl nd (EvF.u (evf_callB (call_max2 rfl) rc_max2 b_max (by decide +kernel) (evb_cons (EvF.r (evf_ix u1 (evr_var 3) (EvF.r (evf_op op_sub r2_sub (evr_var 1) (EvF.r (evf_int)))))) (evb_cons (EvF.r (evf_ix u1 (evr_var 3) (evr_var 1))) (evb_nil))))) (EvF.u (evf_callB (call_min2 rfl) rc_min2 b_min (by decide +kernel) (evb_cons (EvF.r (evf_ix u1 (evr_var 3) (EvF.r (evf_op op_sub r2_sub (evr_var 1) (EvF.r (evf_int)))))) (evb_cons (EvF.r (evf_ix u1 (evr_var 3) (evr_var 1))) (evb_nil))))) (by decide)) (evss_cons (evs_set 6 nd (EvF.u (evf_if (evt_cmp op_gt r2_cmp (EvF.r (evf_ix u1 (evr_var 3) (EvF.r (evf_op op_sub r2_sub (evr_var 1) (EvF.r (evf_int)))))) (EvF.r (evf_ix u1 (evr_var 3) (evr_var 1))) (nomark _)) (evf_int) (evf_neg (EvF.r (evf_int)))))) (evss_cons (evs_for PassesOwn.never rfl (evi_rg1 b_range (EvF.r (evf_op op_sub r2_sub (evr_var 4) (evr_var 5)))) (evg_nm 7 nd) (evss_cons (evs_set 8 nd (EvF.u (evf_op op_addA r2_add (EvF.r (evf_op op_addA r2_add (EvF.r (evf_slice (evr_var 3) evp_none (evp_some (EvF.r (evf_op op_sub r2_sub (evr_var 1) (EvF.r (evf_int))))))) (EvF.r (evf_tup (eva_cons (evf_op op_sub r2_sub (EvF.r (evf_op op_sub r2_sub (evr_var 4) (EvF.r (evf_int)))) (evr_var 7)) (eva_cons (evf_op op_addA r2_add (evr_var 5) (evr_var 7)) (eva_nil))))))) (EvF.r (evf_slice (evr_var 3) (evp_some (EvF.r (evf_op op_addA r2_add (evr_var 1) (EvF.r (evf_int))))) evp_none))))) (evss_cons (evs_put 2 (ps_dput u1 (pv 2) (pe_se _ _) (pe_se _ _) rfl) (evf_op op_addA r2_add (EvF.r (evf_get u8 (evr_var 2) (evr_var 8) (evf_int) ⟨rfl, rfl, rfl, rfl⟩)) (EvF.r (evf_op op_mul r2_mul (evr_var 6) (EvF.r (evf_ix u1 (evr_var 0) (evr_var 3)))))) (evr_var 8)) (evss_nil)))) (evss_nil))))) (evss_cons (evs_frz 2 (evs_ret (evf_callP c__law_kept hr (by decide) (eva_cons (evf_var 2) (eva_nil))))) (evss_nil)))
theorem ok__law_sum (X0 : K.In h0) (G : h0.Ns mainGlobals mg) (c : He.SaysD Hd.fa Hd.fn K) (tb : LamX.TabB base mg (He.codeOf K QD) (PTb K)) : Cal P w K mg base 3 "_law_sum" (spP K 1 f__law_sum) [] := by
  obtain ⟨fd, F⟩ := c.def_ 41 (d := Hd.mk "_law_sum" 64) rfl
  have b_dict : mg "dict" = none := He.free_ok X0 G (c.fact 48 (f := .free "dict") rfl)
  have b_len : mg "len" = none := He.free_ok X0 G (c.fact 51 (f := .free "len") rfl)
  have b_max : mg "max" = none := He.free_ok X0 G (c.fact 53 (f := .free "max") rfl)
  have b_range : mg "range" = none := He.free_ok X0 G (c.fact 55 (f := .free "range") rfl)
  have b_tuple : mg "tuple" = none := He.free_ok X0 G (c.fact 58 (f := .free "tuple") rfl)
  have c__law_cut := ok__law_cut (P := P) (w := w) (base := base) X0 G c tb
  have c__law_swapped := ok__law_swapped (P := P) (w := w) (base := base) X0 G c tb
  have Sc : FnScope N__law_sum ["sequence"] (defScope (Hd.top 64)) := C8.fnScope_by (by kernel_rfl)
  have nd : (N__law_sum : List Str).Nodup := Sc.nd
  have Bd : Binds K fd ["sequence"] [] := FunD.bindsN F fun _ _ _ _ _ _ us hl => match us, hl with | [_], _ => rfl
  refine calP (N := N__law_sum) (ps := ["sequence"]) (b := d__law_sum) 1 F (He.glo_ok X0 G (c.fact 41 (f := .glo "_law_sum") rfl)) Sc rfl Bd fun cdv A outer s H E hr => ?_
  obtain ⟨u1, u8, u65, u100⟩ := hr.us
  exact evss_cons (evs_asg (evf_tup (eva_cons (evf_var 0) (eva_cons (EvN.toF (evn_lst (eva_nil))) (eva_nil)))) (evg_tp rfl (evgs_cons (evg_nm 1 nd) (evgs_cons (evg_nm 2 nd) (evgs_nil))) rfl gs2)) (evss_cons (evs_while 1000 PassesOwn.never (evt_cmp (op_neU u100) r2_neU (EvN.r (evn_lc (own := [("at", 3)]) rfl nd (blkOk_by (by kernel_rfl)) (evi_rg2 b_range (EvF.r (evf_int)) (EvF.r (evf_callB cr_len rc_len b_len boot_len (evb_cons (evr_var 1) (evb_nil))))) (fun _ _ _ _ _ => evg_nm 3 nd) (evtb_one (fun _ _ _ _ _ => evt_cmp op_lt r2_cmp (EvF.r (evf_ix u1 (evr_var 1) (EvF.r (evf_op op_sub r2_sub (evr_var 3) (EvF.r (evf_int)))))) (EvF.r (evf_ix u1 (evr_var 1) (evr_var 3))) (nomark _))) (fun _ _ _ _ _ => evf_var 3) (by decide))) (EvN.r (evn_lst (eva_nil))) (nomark _)) (evss_cons (evs_set 3 nd (EvF.u (evf_ix u1 (EvN.r (evn_lc (own := [("at", 3)]) rfl nd (blkOk_by (by kernel_rfl)) (evi_rg2 b_range (EvF.r (evf_int)) (EvF.r (evf_callB cr_len rc_len b_len boot_len (evb_cons (evr_var 1) (evb_nil))))) (fun _ _ _ _ _ => evg_nm 3 nd) (evtb_one (fun _ _ _ _ _ => evt_cmp op_lt r2_cmp (EvF.r (evf_ix u1 (evr_var 1) (EvF.r (evf_op op_sub r2_sub (evr_var 3) (EvF.r (evf_int)))))) (EvF.r (evf_ix u1 (evr_var 1) (evr_var 3))) (nomark _))) (fun _ _ _ _ _ => evf_var 3) (by decide))) (EvF.r (evf_int))))) (evss_cons (evs_asg (evf_tup (eva_cons (evf_callP c__law_swapped hr (by decide) (eva_cons (evf_var 1) (eva_cons (evf_var 3) (eva_nil)))) (eva_cons (EvN.toF (evn_op op_cat r2_cat (EvN.r (evn_lst (eva_cons (evf_var 3) (eva_nil)))) (evr_var 2))) (eva_nil)))) (evg_tp rfl (evgs_cons (evg_nm 1 nd) (evgs_cons (evg_nm 2 nd) (evgs_nil))) rfl gs2)) (evss_nil)))) (evss_cons (evs_set 4 nd (EvF.u (EvN.toF (evn_disp1 u8 (evf_callTy call_tuple_of rc_tuple b_tuple boot_tuple (evb_cons (EvN.r (evn_lc (own := [("at", 3)]) rfl nd (blkOk_by (by kernel_rfl)) (evi_rg2 b_range (EvF.r (evf_int)) (EvF.r (evf_int))) (fun _ _ _ _ _ => evg_nm 3 nd) (evtb_nil) (fun _ _ _ _ _ => evf_callB (call_max2 rfl) rc_max2 b_max (by decide +kernel) (evb_cons (EvF.r (evf_int)) (evb_cons (EvF.r (evf_op op_sub r2_sub (EvF.r (evf_callB cr_len rc_len b_len boot_len (evb_cons (evr_var 0) (evb_nil)))) (evr_var 3))) (evb_nil)))) (by decide))) (evb_nil))) (evf_int))))) (evss_cons (evs_for PassesOwn.never rfl (evi_val (evf_var 2)) (evg_nm 3 nd) (evss_cons (evs_set 4 nd (EvF.u (evf_callP c__law_cut hr (by decide) (eva_cons (evf_var 4) (eva_cons (evf_var 3) (eva_nil)))))) (evss_nil))) (evss_cons (evs_ret (EvN.toF (evn_callTy (call_dictP rfl u8) rc_dictP b_dict boot_dict (evb_cons (EvN.r (evn_lc (own := [("row", 5)]) rfl nd (blkOk_by (by kernel_rfl)) (evi_val (evf_var 4)) (fun _ _ _ _ _ => evg_nm 5 nd) (evtb_nil) (fun _ _ _ _ _ => evf_tup (eva_cons (evf_slice (evr_var 5) evp_none (evp_some (EvF.r (evf_int)))) (eva_cons (evf_ix u1 (evr_var 4) (evr_var 5)) (eva_nil)))) (by decide))) (evb_nil))))) (evss_nil)))))
theorem ok__law_product (X0 : K.In h0) (G : h0.Ns mainGlobals mg) (c : He.SaysD Hd.fa Hd.fn K) (tb : LamX.TabB base mg (He.codeOf K QD) (PTb K)) : Cal P w K mg base 2 "_law_product" (spP K 2 f__law_product) [] := by
  obtain ⟨fd, F⟩ := c.def_ 42 (d := Hd.mk "_law_product" 65) rfl
  have b_tuple : mg "tuple" = none := He.free_ok X0 G (c.fact 58 (f := .free "tuple") rfl)
  have b_zip : mg "zip" = none := He.free_ok X0 G (c.fact 59 (f := .free "zip") rfl)
  have c__law_kept := ok__law_kept (P := P) (w := w) (base := base) X0 G c tb
  have Sc : FnScope N__law_product ["one", "other"] (defScope (Hd.top 65)) := C8.fnScope_by (by kernel_rfl)
  have nd : (N__law_product : List Str).Nodup := Sc.nd
  have Bd : Binds K fd ["one", "other"] [] := FunD.bindsN F fun _ _ _ _ _ _ us hl => match us, hl with | [_, _], _ => rfl
  refine calP (N := N__law_product) (ps := ["one", "other"]) (b := d__law_product) 2 F (He.glo_ok X0 G (c.fact 42 (f := .glo "_law_product") rfl)) Sc rfl Bd fun cdv A outer s H E hr => ?_
  obtain ⟨u1, u8, u65, u100⟩ := hr.us
  exact evss_cons (evs_set 2 nd (EvN.u (evn_dT))) (evss_cons (evs_for PassesOwn.never rfl (evi_val (evf_var 0)) (evg_nm 3 nd) (evss_cons (evs_for PassesOwn.never rfl (evi_val (evf_var 1)) (evg_nm 4 nd) (evss_cons (evs_set 5 nd (EvF.u (evf_callTy call_tuple_of rc_tuple b_tuple boot_tuple (evb_cons (EvN.r (evn_lc (own := [("mine", 6), ("more", 7)]) rfl nd (blkOk_by (by kernel_rfl)) (evi_zip b_zip (evf_var 3) (evf_var 4)) (fun _ _ _ _ _ => evg_tp rfl (evgs_cons (evg_nm 6 nd) (evgs_cons (evg_nm 7 nd) (evgs_nil))) rfl gs2) (evtb_nil) (fun _ _ _ _ _ => evf_op op_addA r2_add (evr_var 6) (evr_var 7)) (by decide))) (evb_nil))))) (evss_cons (evs_put 2 (ps_dput u1 (pv 2) (pe_se _ _) (pe_se _ _) rfl) (evf_op op_addA r2_add (EvF.r (evf_get u8 (evr_var 2) (evr_var 5) (evf_int) ⟨rfl, rfl, rfl, rfl⟩)) (EvF.r (evf_op op_mul r2_mul (EvF.r (evf_ix u1 (evr_var 0) (evr_var 3))) (EvF.r (evf_ix u1 (evr_var 1) (evr_var 4)))))) (evr_var 5)) (evss_nil)))) (evss_nil))) (evss_cons (evs_frz 2 (evs_ret (evf_callP c__law_kept hr (by decide) (eva_cons (evf_var 2) (eva_nil))))) (evss_nil)))
theorem ok__law_small_sequence (X0 : K.In h0) (G : h0.Ns mainGlobals mg) (c : He.SaysD Hd.fa Hd.fn K) (tb : LamX.TabB base mg (He.codeOf K QD) (PTb K)) : Cal P w K mg base 5 "_law_small_sequence" (spD K 1 f__law_small_sequence) [] := by
  obtain ⟨fd, F⟩ := c.def_ 43 (d := Hd.mk "_law_small_sequence" 66) rfl
  have c__law_sequence := ok__law_sequence (P := P) (w := w) (base := base) X0 G c tb
  have c__law_take := ok__law_take (P := P) (w := w) (base := base) X0 G c tb
  have Sc : FnScope N__law_small_sequence ["draw", "most"] (defScope (Hd.top 66)) := C8.fnScope_by (by kernel_rfl)
  have nd : (N__law_small_sequence : List Str).Nodup := Sc.nd
  have Bd : Binds K fd ["draw", "most"] [] := FunD.bindsN F fun _ _ _ _ _ _ us hl => match us, hl with | [_, _], _ => rfl
  refine calD (N := N__law_small_sequence) (ps := ["draw", "most"]) (b := d__law_small_sequence) 1 F (He.glo_ok X0 G (c.fact 43 (f := .glo "_law_small_sequence") rfl)) Sc rfl Bd fun cdv A outer s H E hr => ?_
  obtain ⟨u1, u8, u65, u100⟩ := hr.us
  exact evss_cons (evs_ret (evf_callD 0 c__law_sequence hr (by decide) (pv 0) (eva_cons (evf_op op_addA r2_add (EvF.r (evf_int)) (EvF.r (evf_callD 0 c__law_take hr (by decide) (pv 0) (eva_cons (evf_var 1) (eva_nil))))) (eva_nil)))) (evss_nil)
theorem ok_swapped_p (X0 : K.In h0) (G : h0.Ns mainGlobals mg) (c : He.SaysD Hd.fa Hd.fn K) (tb : LamX.TabB base mg (He.codeOf K QD) (PTb K)) : Cal P w K mg base 1 "swapped" (spP K 2 f_swapped_p) [] := by
  obtain ⟨fd, F⟩ := c.def_ 15 (d := Hd.mk "swapped" 32) rfl
  have Sc : FnScope N_swapped_p ["sequence", "at"] (defScope (Hd.top 32)) := C8.fnScope_by (by kernel_rfl)
  have nd : (N_swapped_p : List Str).Nodup := Sc.nd
  have Bd : Binds K fd ["sequence", "at"] [] := FunD.bindsN F fun _ _ _ _ _ _ us hl => match us, hl with | [_, _], _ => rfl
  refine calP (N := N_swapped_p) (ps := ["sequence", "at"]) (b := d_swapped_p) 2 F (He.glo_ok X0 G (c.fact 15 (f := .glo "swapped") rfl)) Sc rfl Bd fun cdv A outer s H E hr => ?_
  obtain ⟨u1, u8, u65, u100⟩ := hr.us
  exact evss_cons (evs_ret (evf_op op_catP r2_catP (EvF.r (evf_op op_catP r2_catP (EvF.r (evf_sliceP (evr_var 0) evp_none (evp_some (EvF.r (evf_op op_sub r2_sub (evr_var 1) (EvF.r (evf_int))))))) (EvF.r (evf_tupP (eva_cons (evf_ix u1 (evr_var 0) (evr_var 1)) (eva_cons (evf_ix u1 (evr_var 0) (EvF.r (evf_op op_sub r2_sub (evr_var 1) (EvF.r (evf_int))))) (eva_nil))))))) (EvF.r (evf_sliceP (evr_var 0) (evp_some (EvF.r (evf_op op_addA r2_add (evr_var 1) (EvF.r (evf_int))))) evp_none)))) (evss_nil)
theorem ok_pipes_by_p (X0 : K.In h0) (G : h0.Ns mainGlobals mg) (c : He.SaysD Hd.fa Hd.fn K) (tb : LamX.TabB base mg (He.codeOf K QD) (PTb K)) : Cal P w K mg base 5 "pipes_by" (spP K 1 f_pipes_by_p) [] := by
  obtain ⟨fd, F⟩ := c.def_ 29 (d := Hd.mk "pipes_by" 51) rfl
  have b_len : mg "len" = none := He.free_ok X0 G (c.fact 51 (f := .free "len") rfl)
  have b_range : mg "range" = none := He.free_ok X0 G (c.fact 55 (f := .free "range") rfl)
  have b_sorted : mg "sorted" = none := He.free_ok X0 G (c.fact 56 (f := .free "sorted") rfl)
  have b_tuple : mg "tuple" = none := He.free_ok X0 G (c.fact 58 (f := .free "tuple") rfl)
  have c_back_by := ok_back_by (P := P) (w := w) (base := base) X0 G c tb
  have c_crossings_by := ok_crossings_by (P := P) (w := w) (base := base) X0 G c tb
  have c_read_by := ok_read_by (P := P) (w := w) (base := base) X0 G c tb
  have c_swapped_p := ok_swapped_p (P := P) (w := w) (base := base) X0 G c tb
  have c_then_by := ok_then_by (P := P) (w := w) (base := base) X0 G c tb
  have Sc : FnScope N_pipes_by_p ["sequence"] (defScope (Hd.top 51)) := C8.fnScope_by (by kernel_rfl)
  have nd : (N_pipes_by_p : List Str).Nodup := Sc.nd
  have Bd : Binds K fd ["sequence"] [] := FunD.bindsN F fun _ _ _ _ _ _ us hl => match us, hl with | [_], _ => rfl
  refine calP (N := N_pipes_by_p) (ps := ["sequence"]) (b := d_pipes_by_p) 1 F (He.glo_ok X0 G (c.fact 29 (f := .glo "pipes_by") rfl)) Sc rfl Bd fun cdv A outer s H E hr => ?_
  obtain ⟨u1, u8, u65, u100⟩ := hr.us
  exact evss_cons (evs_asg (evf_tup (eva_cons (evf_callB cr_len rc_len b_len boot_len (evb_cons (evr_var 0) (evb_nil))) (eva_cons (evf_callP c_crossings_by hr (by decide) (eva_cons (evf_var 0) (eva_nil))) (eva_nil)))) (evg_tp rfl (evgs_cons (evg_nm 1 nd) (evgs_cons (evg_nm 2 nd) (evgs_nil))) rfl gs2)) (evss_cons (evs_set 3 nd (EvF.u (evf_callP c_read_by hr (by decide) (eva_cons (EvN.toF (evn_lc2 (own := [("i", 11), ("j", 12)]) (vs1 := [12]) rfl nd (blkOk_by (by kernel_rfl)) (by decide) (evi_rg2 b_range (EvF.r (evf_int)) (evr_var 1)) (fun _ _ _ _ _ => evg_nm 11 nd) (gok_nm 11) (evtb_nil) (fun _ _ _ _ _ => evi_rg2 b_range (EvF.r (evf_int)) (EvF.r (evf_op op_addA r2_add (EvF.r (evf_op op_sub r2_sub (evr_var 1) (evr_var 11))) (EvF.r (evf_int))))) (fun _ _ _ _ _ => evg_nm 12 nd) (evtb_nil) (fun _ _ _ _ _ => evf_tup (eva_cons (evf_var 11) (eva_cons (evf_var 12) (eva_nil)))) (by decide) (by decide))) (eva_nil))))) (evss_cons (evs_set 4 nd (EvF.u (EvN.toF (evn_lst (eva_cons (evf_tup (eva_cons (evf_tup (eva_nil)) (eva_cons (evf_tupRg rfl b_tuple (evrg_2 b_range (EvF.r (evf_int)) (EvF.r (evf_op op_addA r2_add (evr_var 1) (EvF.r (evf_int)))))) (eva_nil)))) (eva_nil)))))) (evss_cons (evs_for PassesOwn.never rfl (evi_val (evf_var 3)) (evg_nm 5 nd) (evss_cons (evs_set 6 nd (EvN.u (evn_lst (eva_nil)))) (evss_cons (evs_for PassesOwn.never rfl (evi_val (evf_var 4)) (evg_tp rfl (evgs_cons (evg_nm 7 nd) (evgs_cons (evg_nm 8 nd) (evgs_nil))) rfl gs2) (evss_cons (evs_app 6 (pe_bm PySem.F.plainAttrs_list PySem.F.slot_list_append PySem.F.type_list_append mt_append (pv 6) (pa_cons (pe_se _ _) pa_nil)) (evf_tup (eva_cons (evf_var 7) (eva_cons (evf_var 8) (eva_nil))))) (evss_cons (evs_set 9 nd (EvF.u (evf_callP c_swapped_p hr (by decide) (eva_cons (evf_var 8) (eva_cons (evf_op op_sub r2_sub (EvF.r (evf_op op_addA r2_add (EvF.r (evf_ix u1 (evr_var 5) (EvF.r (evf_int)))) (EvF.r (evf_ix u1 (evr_var 5) (EvF.r (evf_int)))))) (EvF.r (evf_int))) (eva_nil)))))) (evss_cons (evs_set 10 nd (EvF.u (evf_callP c_crossings_by hr (by decide) (eva_cons (evf_callP c_then_by hr (by decide) (eva_cons (evf_callP c_back_by hr (by decide) (eva_cons (evf_var 9) (eva_nil))) (eva_cons (evf_var 0) (eva_nil)))) (eva_nil))))) (evss_cons (evs_if (EvW.toT (evw_and (evt_cmp op_gt r2_cmp (EvF.r (evf_callP c_crossings_by hr (by decide) (eva_cons (evf_var 9) (eva_nil)))) (EvF.r (evf_callP c_crossings_by hr (by decide) (eva_cons (evf_var 8) (eva_nil)))) (nomark _)) (evw_and1 (evt_cmp (op_eqU u100) r2_eqU (EvF.r (evf_op op_addA r2_add (evr_var 10) (EvF.r (evf_callP c_crossings_by hr (by decide) (eva_cons (evf_var 9) (eva_nil)))))) (evr_var 2) (nomark _))))) (evss_cons (evs_app 6 (pe_bm PySem.F.plainAttrs_list PySem.F.slot_list_append PySem.F.type_list_append mt_append (pv 6) (pa_cons (pe_se _ _) pa_nil)) (evf_tup (eva_cons (evf_tup (eva_star (evr_var 7) (eva_cons (evf_var 5) (eva_nil)))) (eva_cons (evf_var 9) (eva_nil))))) (evss_nil)) (evss_nil)) (evss_nil)))))) (evss_cons (evs_frz 6 (evs_set 4 nd (EvF.u (evf_var 6)))) (evss_nil))))) (evss_cons (evs_ret (EvN.toF (evn_callB (cr_sort2 u65) rc_sort2 b_sorted boot_sorted (evb_cons (EvN.r (evn_lc (own := [("lot", 7), ("here", 8)]) rfl nd (blkOk_by (by kernel_rfl)) (evi_val (evf_var 4)) (fun _ _ _ _ _ => evg_tp rfl (evgs_cons (evg_nm 7 nd) (evgs_cons (evg_nm 8 nd) (evgs_nil))) rfl gs2) (evtb_one (fun _ _ _ _ _ => evt_cmp (op_eqU u100) r2_eqU (evr_var 8) (evr_var 0) (nomark _))) (fun _ _ _ _ _ => evf_callTy cr_ptup rc_ptup b_tuple boot_tuple (evb_cons (EvN.r (evn_callB (cr_sort2 u65) rc_sort2 b_sorted boot_sorted (evb_cons (evr_var 7) (evb_nil)))) (evb_nil))) (by decide))) (evb_nil))))) (evss_nil)))))
theorem ok_pipes_p (X0 : K.In h0) (G : h0.Ns mainGlobals mg) (c : He.SaysD Hd.fa Hd.fn K) (tb : LamX.TabB base mg (He.codeOf K QD) (PTb K)) : Cal P w K mg base 6 "pipes" (spP K 1 f_pipes_p) [] := by
  obtain ⟨fd, F⟩ := c.def_ 32 (d := Hd.mk "pipes" 54) rfl
  have b_tuple : mg "tuple" = none := He.free_ok X0 G (c.fact 58 (f := .free "tuple") rfl)
  have c_need_sequence := ok_need_sequence (P := P) (w := w) (base := base) X0 G c tb
  have c_pipes_by_p := ok_pipes_by_p (P := P) (w := w) (base := base) X0 G c tb
  have Sc : FnScope N_pipes_p ["sequence"] (defScope (Hd.top 54)) := C8.fnScope_by (by kernel_rfl)
  have nd : (N_pipes_p : List Str).Nodup := Sc.nd
  have Bd : Binds K fd ["sequence"] [] := FunD.bindsN F fun _ _ _ _ _ _ us hl => match us, hl with | [_], _ => rfl
  refine calP (N := N_pipes_p) (ps := ["sequence"]) (b := d_pipes_p) 1 F (He.glo_ok X0 G (c.fact 32 (f := .glo "pipes") rfl)) Sc rfl Bd fun cdv A outer s H E hr => ?_
  obtain ⟨u1, u8, u65, u100⟩ := hr.us
  exact evss_cons (evs_drop (evf_callP c_need_sequence hr (by decide) (eva_cons (evf_var 0) (eva_nil)))) (evss_cons (evs_ret (evf_callTy cr_ptup rc_ptup b_tuple boot_tuple (evb_cons (EvF.r (evf_callP c_pipes_by_p hr (by decide) (eva_cons (evf_var 0) (eva_nil)))) (evb_nil)))) (evss_nil))
theorem ok__law_begun (X0 : K.In h0) (G : h0.Ns mainGlobals mg) (c : He.SaysD Hd.fa Hd.fn K) (tb : LamX.TabB base mg (He.codeOf K QD) (PTb K)) : Cal P w K mg base 1 "_law_begun" (spB bgLarge bgCells K) [] := by
  obtain ⟨fd, F⟩ := c.def_ 33 (d := Hd.mk "_law_begun" 56) rfl
  have b_abs : mg "abs" = none := He.free_ok X0 G (c.fact 45 (f := .free "abs") rfl)
  have Sc : FnScope N__law_begun ["script"] (defScope (Hd.top 56)) := C8.fnScope_by (by kernel_rfl)
  have nd : (N__law_begun : List Str).Nodup := Sc.nd
  have Bd : Binds K fd ["script"] [] := FunD.bindsN F fun _ _ _ _ _ _ us hl => match us, hl with | [_], _ => rfl
  refine calB (N := N__law_begun) (ps := ["script"]) (d1 := d1_begun) (c1 := c1_begun) F (He.glo_ok X0 G (c.fact 33 (f := .glo "_law_begun") rfl)) Sc rfl Bd begun_den fun cdv A outer s H E hr => ?_
  obtain ⟨u1, u8, u65, u100⟩ := hr.us
  exact ⟨evs_setLc 1 true (own := [("cell", 2)]) rfl nd (blkOk_by (by kernel_rfl)) (evi_scr 0 (pv 0)) (fun _ _ _ _ _ => evg_nm 2 nd) (evtb_one (fun _ _ _ _ _ => evt_cmp op_ge r2_cmp (EvF.r (evf_callB call_abs rc_abs b_abs boot_abs (evb_cons (evr_var 2) (evb_nil)))) (EvF.r (evf_op op_pow r2_pow (EvF.r (evf_int)) (EvF.r (evf_int)))) (nomark _))) (fun _ _ _ _ _ => evf_op op_sub r2_sub (EvF.r (evf_callB call_abs rc_abs b_abs boot_abs (evb_cons (evr_var 2) (evb_nil)))) (EvF.r (evf_op op_pow r2_pow (EvF.r (evf_int)) (EvF.r (evf_int))))) (by decide) (sw_true rfl rfl rfl rfl), pv 1, evn_lc (own := [("cell", 2)]) rfl nd (blkOk_by (by kernel_rfl)) (evi_scr 0 (pv 0)) (fun _ _ _ _ _ => evg_nm 2 nd) (evtb_nil) (fun _ _ _ _ _ => evf_callB call_abs rc_abs b_abs boot_abs (evb_cons (evr_var 2) (evb_nil))) (by decide)⟩
theorem ok_law (X0 : K.In h0) (G : h0.Ns mainGlobals mg) (c : He.SaysD Hd.fa Hd.fn K) (hd : LawHolds N_law d_law) : ∃ fd : FuncData, (∀ (s : Shared) (v : Value), BindsTo s fd ⟨[v], []⟩ [("script", v)]) ∧ ∀ base : Heap, LamX.TabB base mg (He.codeOf K QD) (PTb K) → FnOk P w K mg base CX0 7 (He.fAd K ("law", none)) fd ["script"] (spL K) := by
  obtain ⟨fd, F⟩ := c.def_ 44 (d := Hd.mk "law" 67) rfl
  have b := FunD.bindsA (ps := ["script"]) F fun _ _ _ _ _ _ us hl => match us, hl with | [_], _ => rfl
  refine ⟨fd, fun s v => b s [v] rfl, fun base tb => ?_⟩
  have b_len : mg "len" = none := He.free_ok X0 G (c.fact 51 (f := .free "len") rfl)
  have b_list : mg "list" = none := He.free_ok X0 G (c.fact 52 (f := .free "list") rfl)
  have b_min : mg "min" = none := He.free_ok X0 G (c.fact 54 (f := .free "min") rfl)
  have b_range : mg "range" = none := He.free_ok X0 G (c.fact 55 (f := .free "range") rfl)
  have b_sum : mg "sum" = none := He.free_ok X0 G (c.fact 57 (f := .free "sum") rfl)
  have b_tuple : mg "tuple" = none := He.free_ok X0 G (c.fact 58 (f := .free "tuple") rfl)
  have c__law_product := ok__law_product (P := P) (w := w) (base := base) X0 G c tb
  have c__law_small_sequence := ok__law_small_sequence (P := P) (w := w) (base := base) X0 G c tb
  have c__law_sum := ok__law_sum (P := P) (w := w) (base := base) X0 G c tb
  have c__law_take := ok__law_take (P := P) (w := w) (base := base) X0 G c tb
  have c_at_numbers := ok_at_numbers (P := P) (w := w) (base := base) X0 G c tb
  have c_at_ones := ok_at_ones (P := P) (w := w) (base := base) X0 G c tb
  have c_multiplied_out := ok_multiplied_out (P := P) (w := w) (base := base) X0 G c tb
  have c_pipes_p := ok_pipes_p (P := P) (w := w) (base := base) X0 G c tb
  have c_plus_times := ok_plus_times (P := P) (w := w) (base := base) X0 G c tb
  have c_row_of_lot := ok_row_of_lot (P := P) (w := w) (base := base) X0 G c tb
  have c_sum_at_ones := ok_sum_at_ones (P := P) (w := w) (base := base) X0 G c tb
  have c_sum_of := ok_sum_of (P := P) (w := w) (base := base) X0 G c tb
  have c_begun := ok__law_begun (P := P) (w := w) (base := base) X0 G c tb
  have Sc : FnScope N_law ["script"] (defScope (Hd.top 67)) := C8.fnScope_by (by kernel_rfl)
  have nd : (N_law : List Str).Nodup := Sc.nd
  refine calL (N := N_law) (ps := ["script"]) (d := d_law) (k := 6) F Sc rfl rfl c_begun (by decide) hd fun cdv A outer s H E hr => ?_
  obtain ⟨u1, u8, u65, u100⟩ := hr.us
  exact ⟨⟨pv 0, by first | exact Or.inl rfl | exact Or.inr rfl, by first | exact .inl rfl | exact .inr rfl, rfl, rfl, rfl, rfl⟩, evss_cons (evs_for PassesOwn.never rfl (evi_rg1 b_range (EvF.r (evf_op op_addA r2_add (EvF.r (evf_int)) (EvF.r (evf_callB (call_min2 rfl) rc_min2 b_min (by decide +kernel) (evb_cons (EvF.r (evf_lenS 0 (pe_callB call_len_seq rfl b_len boot_len (pa_cons (pv 0) pa_nil)))) (evb_cons (EvF.r (evf_int)) (evb_nil)))))))) (evg_nm 2 nd) (evss_cons (evs_par 3 4 rfl nd (EvF.u (evf_callD 1 c__law_small_sequence hr (by decide) (pv 1) (eva_cons (evf_int) (eva_nil)))) (EvF.u (evf_callD 1 c__law_small_sequence hr (by decide) (pv 1) (eva_cons (evf_int) (eva_nil)))) (by decide)) (evss_cons (evs_set 5 nd (EvF.u (evf_callTy call_tuple_of rc_tuple b_tuple boot_tuple (evb_cons (EvN.r (evn_lc (own := [("lap", 14)]) rfl nd (blkOk_by (by kernel_rfl)) (evi_rg1 b_range (EvF.r (evf_int))) (fun _ _ _ _ _ => evg_nm 14 nd) (evtb_nil) (fun _ _ _ _ _ => evf_op op_sub r2_sub (EvF.r (evf_callD 1 c__law_take hr (by decide) (pv 1) (eva_cons (evf_int) (eva_nil)))) (EvF.r (evf_int))) (by decide))) (evb_nil))))) (evss_cons (evs_set 6 nd (EvF.u (EvN.toF (evn_lst (eva_cons (evf_callP c_sum_of hr (by decide) (eva_cons (evf_var 3) (eva_nil))) (eva_cons (evf_callP c_sum_of hr (by decide) (eva_cons (evf_var 4) (eva_nil))) (eva_nil))))))) (evss_cons (evs_set 7 nd (EvF.u (evf_int))) (evss_cons (evs_for PassesOwn.never rfl (evi_val (evf_callP c_pipes_p hr (by decide) (eva_cons (evf_var 3) (eva_nil)))) (evg_nm 8 nd) (evss_cons (evs_set 9 nd (EvF.u (evf_int))) (evss_cons (evs_for PassesOwn.never rfl (evi_val (evf_callP c_row_of_lot hr (by decide) (eva_cons (evf_callB cr_len rc_len b_len boot_len (evb_cons (evr_var 3) (evb_nil))) (eva_cons (evf_var 8) (eva_nil))))) (evg_nm 10 nd) (evss_cons (evs_set 9 nd (EvF.u (evf_op op_mul r2_mul (evr_var 9) (EvF.r (evf_ix u1 (evr_var 5) (EvF.r (evf_op op_sub r2_sub (evr_var 10) (EvF.r (evf_int))))))))) (evss_nil))) (evss_cons (evs_set 7 nd (EvF.u (evf_op op_addA r2_add (evr_var 7) (evr_var 9)))) (evss_nil))))) (evss_cons (evs_if (EvW.toT (evw_or (evt_cmp (op_neU u100) r2_neU (EvF.r (evf_callP c_at_numbers hr (by decide) (eva_cons (evf_ix u1 (evr_var 6) (EvF.r (evf_int))) (eva_cons (evf_var 5) (eva_nil))))) (evr_var 7) (nomark _)) (evw_or (evt_cmp (op_neU u100) r2_neU (EvF.r (evf_callP c_at_ones hr (by decide) (eva_cons (evf_ix u1 (evr_var 6) (EvF.r (evf_int))) (eva_nil)))) (EvF.r (evf_callP c_sum_at_ones hr (by decide) (eva_cons (evf_var 3) (eva_nil)))) (nomark _)) (evw_or1 (evt_cmp (op_neU u100) r2_neU (EvF.r (evf_callP c_at_numbers hr (by decide) (eva_cons (evf_ix u1 (evr_var 6) (EvF.r (evf_int))) (eva_cons (evf_op op_repT r2_repT (EvF.r (evf_tup (eva_cons (evf_int) (eva_nil)))) (EvF.r (evf_int))) (eva_nil))))) (EvF.r (evf_callB cr_len rc_len b_len boot_len (evb_cons (EvF.r (evf_callP c_pipes_p hr (by decide) (eva_cons (evf_var 3) (eva_nil)))) (evb_nil)))) (nomark _)))))) (evss_cons (evs_ret (evf_bl)) (evss_nil)) (evss_nil)) (evss_cons (evs_set 11 nd (EvF.u (evf_callP c_multiplied_out hr (by decide) (eva_cons (evf_ix u1 (evr_var 6) (EvF.r (evf_int))) (eva_cons (evf_ix u1 (evr_var 6) (EvF.r (evf_int))) (eva_nil)))))) (evss_cons (evs_if (EvW.toT (evw_or (evt_cmp (op_neU u100) r2_neU (EvF.r (evf_callP c_at_numbers hr (by decide) (eva_cons (evf_var 11) (eva_cons (evf_var 5) (eva_nil))))) (EvF.r (evf_op op_mul r2_mul (evr_var 7) (EvF.r (evf_callP c_at_numbers hr (by decide) (eva_cons (evf_ix u1 (evr_var 6) (EvF.r (evf_int))) (eva_cons (evf_var 5) (eva_nil))))))) (nomark _)) (evw_or (evt_cmp (op_neU u100) r2_neU (EvF.r (evf_callP c_at_ones hr (by decide) (eva_cons (evf_var 11) (eva_nil)))) (EvF.r (evf_op op_mul r2_mul (EvF.r (evf_callP c_sum_at_ones hr (by decide) (eva_cons (evf_var 3) (eva_nil)))) (EvF.r (evf_callP c_sum_at_ones hr (by decide) (eva_cons (evf_var 4) (eva_nil)))))) (nomark _)) (evw_or1 (evt_cmp (op_neU u100) r2_neU (evr_var 11) (EvF.r (evf_callP c__law_product hr (by decide) (eva_cons (evf_callP c__law_sum hr (by decide) (eva_cons (evf_var 3) (eva_nil))) (eva_cons (evf_callP c__law_sum hr (by decide) (eva_cons (evf_var 4) (eva_nil))) (eva_nil))))) (nomark _)))))) (evss_cons (evs_ret (evf_bl)) (evss_nil)) (evss_nil)) (evss_cons (evs_set 12 nd (EvF.u (evf_op op_sub r2_sub (EvF.r (evf_callD 1 c__law_take hr (by decide) (pv 1) (eva_cons (evf_int) (eva_nil)))) (EvF.r (evf_int))))) (evss_cons (evs_if (evt_cmp (op_neU u100) r2_neU (EvF.r (evf_callP c_at_numbers hr (by decide) (eva_cons (evf_callP c_plus_times hr (by decide) (eva_cons (evf_ix u1 (evr_var 6) (EvF.r (evf_int))) (eva_cons (evf_ix u1 (evr_var 6) (EvF.r (evf_int))) (eva_cons (evf_var 12) (eva_nil))))) (eva_cons (evf_var 5) (eva_nil))))) (EvF.r (evf_op op_addA r2_add (evr_var 7) (EvF.r (evf_op op_mul r2_mul (evr_var 12) (EvF.r (evf_callP c_at_numbers hr (by decide) (eva_cons (evf_ix u1 (evr_var 6) (EvF.r (evf_int))) (eva_cons (evf_var 5) (eva_nil))))))))) (nomark _)) (evss_cons (evs_ret (evf_bl)) (evss_nil)) (evss_nil)) (evss_cons (evs_set 13 nd (EvF.u (evf_op op_catP r2_catP (EvF.r (evf_tup (eva_cons (evf_int) (eva_nil)))) (EvF.r (evf_callTy call_tuple_of rc_tuple b_tuple boot_tuple (evb_cons (EvN.r (evn_lc (own := [("wire", 15)]) rfl nd (blkOk_by (by kernel_rfl)) (evi_val (evf_var 4)) (fun _ _ _ _ _ => evg_nm 15 nd) (evtb_nil) (fun _ _ _ _ _ => evf_op op_addA r2_add (evr_var 15) (EvF.r (evf_int))) (by decide))) (evb_nil))))))) (evss_cons (evs_if (EvW.toT (evw_or (evt_cmp (op_neU u100) r2_neU (EvF.r (evf_callP c_sum_at_ones hr (by decide) (eva_cons (evf_var 13) (eva_nil)))) (EvF.r (evf_callB (cr_sum rfl) rc_sum b_sum (by decide +kernel) (evb_cons (EvN.r (evn_listVals rfl b_list (evf_callP c__law_sum hr (by decide) (eva_cons (evf_var 13) (eva_nil))))) (evb_nil)))) (nomark _)) (evw_or1 (evt_cmp (op_neU u100) r2_neU (EvF.r (evf_callP c_at_ones hr (by decide) (eva_cons (evf_callP c_sum_of hr (by decide) (eva_cons (evf_var 13) (eva_nil))) (eva_nil)))) (EvF.r (evf_callP c_sum_at_ones hr (by decide) (eva_cons (evf_var 13) (eva_nil)))) (nomark _))))) (evss_cons (evs_ret (evf_bl)) (evss_nil)) (evss_nil)) (evss_nil)))))))))))))) (evss_cons (evs_ret (evf_bl)) (evss_nil))⟩
end
end L2.Dn
set_option Elab.async false
set_option linter.all false
set_option maxRecDepth 100000
/-! polynomials as plain lists of rows and numbers; their form as data -/
namespace L2.Dn
open PySem PySem.Spec PyProof.Rows C8
abbrev PR := List (List Int × Int)
def beqL : List Int → List Int → Bool
  | [], [] => true
  | a :: r, b :: t => (match decide (a = b) with
    | true => beqL r t
    | false => false)
  | _, _ => false
theorem beqL_eq : ∀ (a b : List Int), beqL a b = decide (a = b)
  | [], [] => rfl
  | [], _ :: _ => by simp [beqL]
  | _ :: _, [] => by simp [beqL]
  | a :: r, b :: t => by
    unfold beqL
    rw [beqL_eq r t]
    by_cases h : a = b <;> simp [h]
def lookP : PR → List Int → Option Int
  | [], _ => none
  | (k', v) :: r, k => (match beqL k' k with
    | true => some v
    | false => lookP r k)
def addP : PR → List Int → Int → PR
  | [], k, c => [(k, 0 + c)]
  | (k', v) :: r, k, c => (match beqL k' k with
    | true => (k', v + c) :: r
    | false => (k', v) :: addP r k c)
def putP : PR → List Int → Int → PR
  | [], k, c => [(k, c)]
  | (k', v) :: r, k, c => (match beqL k' k with
    | true => (k', c) :: r
    | false => (k', v) :: putP r k c)
def accP (acc : PR) : PR → PR
  | [] => acc
  | (k, c) :: ts => accP (addP acc k c) ts
def keepP : PR → PR
  | [] => []
  | (k, v) :: r => (match decide (v = 0) with
    | true => keepP r
    | false => (k, v) :: keepP r)
def kysP (p : PR) : List (List Int) := p.map (·.1)
abbrev NdP (p : PR) : Prop := (kysP p).Nodup
/-- the number at a row, all entries added -/
def cfs : PR → List Int → Int
  | [], _ => 0
  | (k', v) :: r, k => (if k' = k then v else 0) + cfs r k
theorem cfs_cons (k' : List Int) (v : Int) (r : PR) (k : List Int) : cfs ((k', v) :: r) k = (if k' = k then v else 0) + cfs r k := rfl
theorem lookP_cons (k' : List Int) (v : Int) (r : PR) (k : List Int) : lookP ((k', v) :: r) k = (match beqL k' k with
    | true => some v
    | false => lookP r k) := rfl
theorem beqL_cons (a b : Int) (r t : List Int) : beqL (a :: r) (b :: t) = (match decide (a = b) with
    | true => beqL r t
    | false => false) := rfl
theorem cfs_append : ∀ (p q : PR) (k : List Int), cfs (p ++ q) k = cfs p k + cfs q k
  | [], q, k => by simp [cfs]
  | (k', v) :: r, q, k => by
    rw [List.cons_append, cfs_cons, cfs_cons, cfs_append r q k]
    omega
theorem cfs_addP : ∀ (p : PR) (k : List Int) (c : Int) (k2 : List Int), cfs (addP p k c) k2 = cfs p k2 + if k = k2 then c else 0
  | [], k, c, k2 => by
    simp [addP, cfs]
  | (k', v) :: r, k, c, k2 => by
    unfold addP
    rw [beqL_eq]
    by_cases h : k' = k
    · rw [decide_eq_true h]
      subst h
      simp only [cfs]
      split <;> omega
    · rw [decide_eq_false h]
      simp only [cfs]
      rw [cfs_addP r k c k2]
      omega
theorem cfs_accP : ∀ (ts acc : PR) (k : List Int), cfs (accP acc ts) k = cfs acc k + cfs ts k
  | [], acc, k => by simp [accP, cfs]
  | (k', c) :: ts, acc, k => by
    rw [accP, cfs_accP ts, cfs_addP]
    simp only [cfs]
    omega
theorem cfs_keepP : ∀ (p : PR) (k : List Int), cfs (keepP p) k = cfs p k
  | [], k => rfl
  | (k', v) :: r, k => by
    unfold keepP
    by_cases h : v = 0
    · rw [decide_eq_true h]
      simp only [cfs]
      rw [cfs_keepP r k, h]
      split <;> omega
    · rw [decide_eq_false h]
      simp only [cfs]
      rw [cfs_keepP r k]
theorem mem_addP : ∀ (p : PR) (k : List Int) (c : Int) (k2 : List Int), k2 ∈ kysP (addP p k c) ↔ k2 ∈ kysP p ∨ k2 = k
  | [], k, c, k2 => by simp [addP, kysP]
  | (k', v) :: r, k, c, k2 => by
    unfold addP
    rw [beqL_eq]
    by_cases h : k' = k
    · rw [decide_eq_true h]
      subst h
      simp only [kysP, List.map_cons, List.mem_cons]
      constructor
      · intro q; exact .inl q
      · rintro (q | q)
        · exact q
        · exact .inl q
    · rw [decide_eq_false h]
      have ih := mem_addP r k c k2
      simp only [kysP, List.map_cons, List.mem_cons] at ih ⊢
      rw [ih]
      constructor
      · rintro (q | q | q)
        · exact .inl (.inl q)
        · exact .inl (.inr q)
        · exact .inr q
      · rintro ((q | q) | q)
        · exact .inl q
        · exact .inr (.inl q)
        · exact .inr (.inr q)
theorem nd_addP : ∀ {p : PR} (k : List Int) (c : Int), NdP p → NdP (addP p k c)
  | [], k, c, _ => by simp [addP, kysP, NdP]
  | (k', v) :: r, k, c, h => by
    unfold addP
    rw [beqL_eq]
    have h' := List.nodup_cons.mp h
    by_cases e : k' = k
    · rw [decide_eq_true e]; exact h
    · rw [decide_eq_false e]
      refine List.nodup_cons.mpr ⟨fun m => ?_, nd_addP k c h'.2⟩
      rcases (mem_addP r k c k').mp m with q | q
      · exact h'.1 q
      · exact e q
theorem nd_accP : ∀ (ts : PR) {acc : PR}, NdP acc → NdP (accP acc ts)
  | [], _, h => h
  | (k, c) :: ts, _, h => nd_accP ts (nd_addP k c h)
theorem mem_accP : ∀ (ts acc : PR) (k : List Int), k ∈ kysP (accP acc ts) ↔ k ∈ kysP acc ∨ k ∈ kysP ts
  | [], acc, k => by simp [accP, kysP]
  | (k', c) :: ts, acc, k => by
    rw [accP, mem_accP ts, mem_addP]
    simp only [kysP, List.map_cons, List.mem_cons]
    constructor
    · rintro ((q | q) | q)
      · exact .inl q
      · exact .inr (.inl q)
      · exact .inr (.inr q)
    · rintro (q | q | q)
      · exact .inl (.inl q)
      · exact .inl (.inr q)
      · exact .inr q
theorem keepP_sub : ∀ (p : PR) (e : List Int × Int), e ∈ keepP p ↔ e ∈ p ∧ e.2 ≠ 0
  | [], e => by simp [keepP]
  | (k, v) :: r, e => by
    unfold keepP
    by_cases h : v = 0
    · rw [decide_eq_true h]
      rw [keepP_sub r e, List.mem_cons]
      constructor
      · rintro ⟨h1, h2⟩; exact ⟨.inr h1, h2⟩
      · rintro ⟨h1 | h1, h2⟩
        · subst h1; exact absurd h h2
        · exact ⟨h1, h2⟩
    · rw [decide_eq_false h]
      rw [List.mem_cons, List.mem_cons, keepP_sub r e]
      constructor
      · rintro (h1 | ⟨h1, h2⟩)
        · subst h1; exact ⟨.inl rfl, h⟩
        · exact ⟨.inr h1, h2⟩
      · rintro ⟨h1 | h1, h2⟩
        · exact .inl h1
        · exact .inr ⟨h1, h2⟩
theorem keepP_list : ∀ (p : PR), List.Sublist (keepP p) p
  | [] => .slnil
  | (k, v) :: r => by
    unfold keepP
    by_cases h : v = 0
    · rw [decide_eq_true h]; exact (keepP_list r).cons _
    · rw [decide_eq_false h]; exact (keepP_list r).cons₂ _
theorem nd_keepP {p : PR} (h : NdP p) : NdP (keepP p) := ((keepP_list p).map _).nodup h
theorem mem_keepP {p : PR} {k : List Int} (h : k ∈ kysP (keepP p)) : k ∈ kysP p := ((keepP_list p).map _).subset h
theorem addP_len : ∀ (p : PR) (k : List Int) (c : Int), (addP p k c).length ≤ p.length + 1
  | [], k, c => by simp [addP]
  | (k', v) :: r, k, c => by
    unfold addP
    have := addP_len r k c
    split <;> simp <;> omega
theorem accP_len : ∀ (ts acc : PR), (accP acc ts).length ≤ acc.length + ts.length
  | [], acc => by simp [accP]
  | (k, c) :: ts, acc => by
    have h1 := accP_len ts (addP acc k c)
    have h2 := addP_len acc k c
    rw [accP, List.length_cons]
    omega
theorem keepP_len (p : PR) : (keepP p).length ≤ p.length := (keepP_list p).length_le
/-- a polynomial: its rows differ, its numbers are not 0 -/
structure WfP (p : PR) : Prop where
  nd : NdP p
  nz : ∀ e ∈ p, e.2 ≠ 0
theorem wf_keepP {p : PR} (h : NdP p) : WfP (keepP p) := ⟨nd_keepP h, fun e m => ((keepP_sub p e).mp m).2⟩
theorem cfs_none : ∀ {p : PR} {k : List Int}, k ∉ kysP p → cfs p k = 0
  | [], _, _ => rfl
  | (k', v) :: r, k, h => by
    have h1 : k' ≠ k := fun e => h (by rw [e]; exact List.mem_cons_self ..)
    have h2 : k ∉ kysP r := fun e => h (List.mem_cons_of_mem _ e)
    rw [cfs_cons, if_neg h1, cfs_none h2]
    rfl
theorem cfs_mem : ∀ {p : PR} {k : List Int} {v : Int}, NdP p → (k, v) ∈ p → cfs p k = v
  | (k', v') :: r, k, v, h, m => by
    have h' := List.nodup_cons.mp h
    rw [cfs_cons]
    rcases List.mem_cons.mp m with q | q
    · cases q
      rw [if_pos rfl, cfs_none h'.1]
      omega
    · have : k' ≠ k := fun e => h'.1 (by rw [e]; exact List.mem_map.mpr ⟨_, q, rfl⟩)
      rw [if_neg this, cfs_mem h'.2 q]
      omega
theorem lookP_cfs : ∀ {p : PR} (k : List Int), NdP p → (lookP p k = none ∧ k ∉ kysP p ∧ cfs p k = 0) ∨ (lookP p k = some (cfs p k) ∧ (k, cfs p k) ∈ p)
  | [], k, _ => .inl ⟨rfl, by simp [kysP], rfl⟩
  | (k', v') :: r, k, h => by
    have h' := List.nodup_cons.mp h
    unfold lookP
    rw [beqL_eq]
    by_cases e : k' = k
    · rw [decide_eq_true e]
      subst e
      have : cfs ((k', v') :: r) k' = v' := cfs_mem h (List.mem_cons_self ..)
      rw [this]
      exact .inr ⟨rfl, List.mem_cons_self ..⟩
    · rw [decide_eq_false e]
      have : cfs ((k', v') :: r) k = cfs r k := by
        rw [cfs_cons, if_neg e, Int.zero_add]
      rw [this]
      rcases lookP_cfs k h'.2 with ⟨h1, h2, h3⟩ | ⟨h1, h2⟩
      · exact .inl ⟨h1, fun m => by
          rcases List.mem_cons.mp m with q | q
          · exact e q.symm
          · exact h2 q, h3⟩
      · exact .inr ⟨h1, List.mem_cons_of_mem _ h2⟩
theorem wf_mem {p : PR} (h : WfP p) (k : List Int) : k ∈ kysP p ↔ cfs p k ≠ 0 := by
  constructor
  · intro m
    obtain ⟨e, he, rfl⟩ := List.mem_map.mp m
    rw [cfs_mem h.nd he]
    exact h.nz e he
  · intro m
    exact Classical.byContradiction fun n => m (cfs_none n)
/-! as data -/
abbrev keyI (k : List Int) : List Key := k.map Sum.inl
def dP (p : PR) : List (List Key × D) := p.map fun e => (keyI e.1, D.int e.2)
abbrev toD (p : PR) : D := .dT (dP p)
abbrev rowD (k : List Int) : D := .tuple (k.map D.int)
theorem keyT_keyI (k : List Int) : keyT (keyI k) = rowD k := by
  unfold keyT keyI rowD
  rw [List.map_map]
  rfl
theorem keyOf_row (k : List Int) : keyOf? (rowD k) = some (keyI k) := by
  show keys? (k.map D.int) = some (keyI k)
  induction k with
  | nil => rfl
  | cons a r ih =>
    show (match keys? (r.map D.int) with | none => none | some ks => some (Sum.inl a :: ks)) = _
    rw [ih]
    rfl
theorem beqKs_inl : ∀ (a b : List Int), beqKs (keyI a) (keyI b) = beqL a b
  | [], [] => rfl
  | [], _ :: _ => rfl
  | _ :: _, [] => rfl
  | a :: r, b :: t => by
    show (beqK (.inl a) (.inl b) && beqKs (keyI r) (keyI t)) = _
    rw [beqKs_inl r t, beqL_cons]
    show (decide (a = b) && beqL r t) = _
    cases decide (a = b) <;> rfl
theorem lookT_dP : ∀ (p : PR) (k : List Int), lookT (dP p) (keyI k) = (lookP p k).map D.int
  | [], k => rfl
  | (k', v) :: r, k => by
    show (match beqKs (keyI k') (keyI k) with | true => some (D.int v) | false => lookT (dP r) (keyI k)) = _
    rw [beqKs_inl, lookT_dP r k, lookP_cons]
    cases beqL k' k <;> rfl
theorem hasT_dP : ∀ (p : PR) (k : List Int), hasT (dP p) (keyI k) = (lookP p k).isSome
  | [], k => rfl
  | (k', v) :: r, k => by
    show (match beqKs (keyI k') (keyI k) with | true => true | false => hasT (dP r) (keyI k)) = _
    rw [beqKs_inl, hasT_dP r k, lookP_cons]
    cases beqL k' k <;> rfl
theorem replT_none : ∀ (p : PR) (k : List Int) (x : D), k ∉ kysP p → replT (dP p) (keyI k) x = dP p
  | [], k, x, _ => rfl
  | (k', v) :: r, k, x, h => by
    have h1 : k' ≠ k := fun e => h (by rw [e]; exact List.mem_cons_self ..)
    have h2 : k ∉ kysP r := fun e => h (List.mem_cons_of_mem _ e)
    show (match beqKs (keyI k') (keyI k) with | true => (keyI k', x) :: replT (dP r) (keyI k) x | false => (keyI k', D.int v) :: replT (dP r) (keyI k) x) = _
    rw [beqKs_inl, beqL_eq, decide_eq_false h1, replT_none r k x h2]
    rfl
theorem putT_dP : ∀ (p : PR) (k : List Int) (c : Int), NdP p → putT (dP p) (keyI k) (.int c) = dP (putP p k c)
  | [], k, c, _ => rfl
  | (k', v) :: r, k, c, h => by
    have h' := List.nodup_cons.mp h
    have ih := putT_dP r k c h'.2
    unfold putT at ih ⊢
    rw [hasT_dP] at ih ⊢
    unfold lookP putP
    rw [beqL_eq]
    by_cases e : k' = k
    · rw [decide_eq_true e]
      subst e
      show replT ((keyI k', D.int v) :: dP r) (keyI k') (.int c) = _
      unfold replT
      rw [beqKs_inl, beqL_eq, decide_eq_true rfl, replT_none r k' _ h'.1]
      rfl
    · rw [decide_eq_false e]
      dsimp only
      cases hl : (lookP r k).isSome with
      | true =>
        rw [hl] at ih
        dsimp only at ih ⊢
        show replT ((keyI k', D.int v) :: dP r) (keyI k) (.int c) = _
        unfold replT
        rw [beqKs_inl, beqL_eq, decide_eq_false e]
        dsimp only
        rw [ih]
        rfl
      | false =>
        rw [hl] at ih
        dsimp only at ih ⊢
        show (keyI k', D.int v) :: (dP r ++ [(keyI k, D.int c)]) = _
        rw [ih]
        rfl
theorem addP_put : ∀ (p : PR) (k : List Int) (c : Int), addP p k c = putP p k ((match lookP p k with | some v => v | none => 0) + c)
  | [], k, c => rfl
  | (k', v) :: r, k, c => by
    unfold addP putP lookP
    cases e : beqL k' k with
    | true => rfl
    | false =>
      dsimp only
      rw [addP_put r k c]
/-- found[k] = found.get(k, 0) + c -/
theorem putAdd {i : Nat} {kd cd : Den} {env : En} {ds : DS} {p : PR} {k : List Int} {c : Int} (hi : env[i]? = some (some (.own (toD p)))) (hk : kd env ds = some (rowD k, ds)) (hc : cd env ds = some (.int c, ds)) (nd : NdP p) (hl : p.length < 100000) :
    dPut i (d2 gAdd (dGet2 (dRd i) kd (dC (.int 0))) cd) kd env ds = some (.nx (env.set i (some (.own (toD (addP p k c))))), ds) := by
  have h1 : dRd i env ds = some (toD p, ds) := by
    unfold dRd
    rw [hi]
  have h2 : dGet2 (dRd i) kd (dC (.int 0)) env ds = some (.int (match lookP p k with | some v => v | none => 0), ds) := by
    unfold dGet2
    rw [h1]
    unfold bnd
    dsimp only
    rw [hk]
    dsimp only
    show op1 (gGet (toD p) (rowD k) (.int 0)) ds = _
    have : gGet (toD p) (rowD k) (.int 0) = some (.int (match lookP p k with | some v => v | none => 0)) := by
      show (match keyOf? (rowD k) with | some ks => (match lookT (dP p) ks with | some v => some v | none => some (D.int 0)) | none => none) = _
      rw [keyOf_row]
      dsimp only
      rw [lookT_dP]
      cases lookP p k <;> rfl
    rw [this]
    rfl
  have h3 := d2_eq (g := gAdd) h2 hc (c := .int ((match lookP p k with | some v => v | none => 0) + c)) rfl
  unfold dPut
  rw [h3]
  unfold bnd
  dsimp only
  rw [hk]
  dsimp only
  rw [hi]
  dsimp only
  rw [keyOf_row]
  dsimp only
  rw [if_pos (by unfold dP; rw [List.length_map]; exact hl), putT_dP p k _ nd, ← addP_put]
end L2.Dn
set_option Elab.async false
set_option linter.all false
set_option maxRecDepth 100000
/-! the program's functions on polynomials, as plain functions -/
namespace L2.Dn
open PySem PySem.Spec PyProof.Rows C8
theorem putP_new : ∀ (p : PR) (k : List Int) (c : Int), k ∉ kysP p → putP p k c = p ++ [(k, c)]
  | [], k, c, _ => rfl
  | (k', v) :: r, k, c, h => by
    have h1 : k' ≠ k := fun e => h (by rw [e]; exact List.mem_cons_self ..)
    have h2 : k ∉ kysP r := fun e => h (List.mem_cons_of_mem _ e)
    unfold putP
    rw [beqL_eq, decide_eq_false h1, putP_new r k c h2]
    rfl
abbrev itsP (p : PR) : List D := p.map fun e => .tuple [rowD e.1, .int e.2]
theorem items_dP (p : PR) : itemsD (toD p) = some (itsP p) := by
  show some ((dP p).map _) = _
  unfold dP
  rw [List.map_map]
  congr 1
  apply List.map_congr_left
  intro e _
  show D.tuple [keyT (keyI e.1), D.int e.2] = _
  rw [keyT_keyI]
def gPair (i j : Nat) : DenG := gTp (gsCons (gNm i) (gsCons (gNm j) (gsNil)))
theorem kysP_append (p q : PR) : kysP (p ++ q) = kysP p ++ kysP q := List.map_append
section
variable {gg : DenG} {t : DenT} {fk fv : Den} {env0 env' : En} {d k v : D} {r : List D} {s s1 s2 s3 : DS} {acc : List (List Key × D)} {ks : List Key}
theorem dcLoop_f (h1 : gg d env0 = some env') (h2 : t env' s = some (false, s1)) : dcLoop gg t fk fv env0 (d :: r) s acc = dcLoop gg t fk fv env0 r s1 acc := by
  rw [dcLoop, h1]
  dsimp only
  rw [h2]
  rfl
theorem dcLoop_t (h1 : gg d env0 = some env') (h2 : t env' s = some (true, s1)) (h3 : fk env' s1 = some (k, s2)) (h4 : fv env' s2 = some (v, s3)) (h5 : keyOf? k = some ks) (h6 : acc.length < 100000) :
    dcLoop gg t fk fv env0 (d :: r) s acc = dcLoop gg t fk fv env0 r s3 (putT acc ks v) := by
  rw [dcLoop, h1]
  dsimp only
  rw [h2]
  unfold bnd
  dsimp only
  rw [h3]
  dsimp only
  rw [h4]
  dsimp only
  rw [h5]
  dsimp only
  rw [if_pos h6]
theorem dDc_eq {gi : DenA} {own : List Nat} {env : En} {ds : DS} {items : List D} {res : List (List Key × D)} (h1 : gi env ds = some (items, s)) (h2 : dcLoop gg t fk fv (wipeE env own) items s [] = some (res, s1)) : dDc gi own gg t fk fv env ds = some (.dT res, s1) := by
  unfold dDc
  rw [h1]
  unfold bnd
  dsimp only
  rw [h2]
theorem dIt_eq {g : D → Option (List D)} {f : Den} {env : En} {ds : DS} {a : D} {items : List D} (h1 : f env ds = some (a, s)) (h2 : g a = some items) : dIt g f env ds = some (items, s) := by
  unfold dIt
  rw [h1]
  unfold bnd
  dsimp only
  rw [h2]
  rfl
theorem dItems_eq {f : Den} {env : En} {ds : DS} {a : D} {items : List D} (h1 : f env ds = some (a, s)) (h2 : itemsOf a = some items) : dItems f env ds = some (items, s) := by
  unfold dItems
  rw [h1]
  unfold bnd
  dsimp only
  rw [h2]
  rfl
theorem dFor_eq {gi : DenA} {g : DenG} {f : DenS} {env : En} {ds : DS} {items : List D} (h1 : gi env ds = some (items, s)) : dFor gi g f env ds = forLoop g f items env s := by
  unfold dFor
  rw [h1]
  rfl
theorem forLoop_cons {g : DenG} {f : DenS} {e : En} (h1 : g d env0 = some env') (h2 : f env' s = some (.nx e, s1)) : forLoop g f (d :: r) env0 s = forLoop g f r e s1 := by
  rw [forLoop, h1]
  dsimp only
  rw [h2]
theorem gAddT {xs ys : List D} (h : xs.length + ys.length ≤ 100000) : gAdd (.tuple xs) (.tuple ys) = some (.tuple (xs ++ ys)) := if_pos h
theorem gMulL {i j : Int} (h : -(2 ^ 64) < i ∧ i < 2 ^ 64) : gMul (.int i) (.int j) = some (.int (i * j)) := if_pos (.inl h)
theorem dRet_eq {f : Den} {env : En} {ds : DS} {a : D} (h : f env ds = some (a, s)) : dRet f env ds = some (.rt a, s) := by
  unfold dRet
  rw [h]
  rfl
theorem dSeq_rt {f g : DenS} {env : En} {ds : DS} {a : D} (h : f env ds = some (.rt a, s)) : dSeq f g env ds = some (.rt a, s) := by
  unfold dSeq
  rw [h]
theorem dCallP_eq {n : Nat} {f : List D → Option D} {g : DenA} {env : En} {ds : DS} {as : List D} {a : D} (h1 : g env ds = some (as, s)) (h2 : as.length = n) (h3 : f as = some a) : dCallP n f g env ds = some (a, s) := by
  unfold dCallP
  rw [h1]
  unfold bnd
  dsimp only
  rw [if_pos h2, h3]
  rfl
end
theorem fnP_eq {n : Nat} {b : DenS} {args : List D} {a : D} {s : DS} (h : b (envP n args) ds0 = some (.rt a, s)) : fnP n b args = some a := by
  unfold fnP
  rw [h]
  rfl
theorem wn_loop (x : Option Sl) : ∀ (p acc : PR) (s : DS), NdP (acc ++ p) → acc.length + p.length < 100000 →
    dcLoop (gPair 1 2) (dTest (d2 gNeU (dRd 2) (dC (.int 0)))) (dVar 1) (dVar 2) [x, none, none] (itsP p) s (dP acc) = some (dP (acc ++ keepP p), s)
  | [], acc, s, _, _ => by
    show some (dP acc, s) = _
    unfold keepP
    rw [List.append_nil]
  | (k, v) :: r, acc, s, nd, hl => by
    have e0 : gPair 1 2 (.tuple [rowD k, .int v]) [x, none, none] = some [x, some (.val (rowD k)), some (.val (.int v))] := rfl
    have e1 : dTest (d2 gNeU (dRd 2) (dC (.int 0))) [x, some (.val (rowD k)), some (.val (.int v))] s = some (!decide (v = 0), s) := rfl
    have nd' : NdP (acc ++ r) := by
      have : List.Sublist (kysP (acc ++ r)) (kysP (acc ++ (k, v) :: r)) := ((List.sublist_cons_self (k, v) r).append_left acc).map _
      exact this.nodup nd
    simp only [List.length_cons] at hl
    show dcLoop (gPair 1 2) _ _ _ [x, none, none] (.tuple [rowD k, .int v] :: itsP r) s (dP acc) = _
    unfold keepP
    by_cases h : v = 0
    · rw [decide_eq_true h] at e1 ⊢
      rw [dcLoop_f e0 e1]
      exact wn_loop x r acc s nd' (by omega)
    · rw [decide_eq_false h] at e1 ⊢
      have nk : k ∉ kysP acc := by
        have nd2 : (kysP acc ++ k :: kysP r).Nodup := by
          have := nd
          unfold NdP at this
          rw [kysP_append] at this
          exact this
        intro m
        exact (List.nodup_append.mp nd2).2.2 k m k (List.mem_cons_self ..) rfl
      rw [dcLoop_t e0 e1 (k := rowD k) (s2 := s) rfl (v := .int v) (s3 := s) rfl (keyOf_row k) (by unfold dP; rw [List.length_map]; omega), putT_dP acc k v (by
        have : List.Sublist (kysP acc) (kysP (acc ++ (k, v) :: r)) := (List.sublist_append_left acc _).map _
        exact this.nodup nd), putP_new acc k v nk]
      have := wn_loop x r (acc ++ [(k, v)]) s (by rw [List.append_assoc]; exact nd) (by simp only [List.length_append, List.length_cons, List.length_nil]; omega)
      rw [List.append_assoc] at this
      exact this
theorem tr_wn (p : PR) (nd : NdP p) (hl : p.length < 100000) : f_without_noughts [toD p] = some (toD (keepP p)) := by
  have e := wn_loop (some (.val (toD p))) p [] ds0 nd (by simpa using hl)
  have e2 : dDc (dIt itemsD (dVar 0)) [1, 2] (gPair 1 2) (dTest (d2 gNeU (dRd 2) (dC (.int 0)))) (dVar 1) (dVar 2) [some (.val (toD p)), none, none] ds0 = some (toD (keepP p), ds0) :=
    dDc_eq (dIt_eq (a := toD p) rfl (items_dP p)) e
  exact fnP_eq (b := d_without_noughts) (dSeq_rt (dRet_eq e2))
/-! cut -/
def cutG (pre post : List Int) (low high c : Int) : Nat → Int → PR
  | 0, _ => []
  | n + 1, m => (pre ++ [low + m, high - 1 - m] ++ post, c) :: cutG pre post low high c n (m + 1)
def cutT (r : List Int) (c : Int) (i : Nat) : PR :=
  match decide (r.getD i 0 < r.getD (i - 1) 0) with
  | true => cutG (r.take (i - 1)) (r.drop (i + 1)) (r.getD i 0) (r.getD (i - 1) 0) (1 * c) (r.getD (i - 1) 0 - r.getD i 0).toNat 0
  | false => cutG (r.take (i - 1)) (r.drop (i + 1)) (r.getD (i - 1) 0) (r.getD i 0) (-1 * c) (r.getD i 0 - r.getD (i - 1) 0).toNat 0
def cutTs (i : Nat) : PR → PR
  | [] => []
  | (r, c) :: p => cutT r c i ++ cutTs i p
def cutP (p : PR) (i : Nat) : PR := keepP (accP [] (cutTs i p))
theorem accP_append : ∀ (ts us acc : PR), accP acc (ts ++ us) = accP (accP acc ts) us
  | [], us, acc => rfl
  | (k, c) :: ts, us, acc => accP_append ts us (addP acc k c)
theorem cutG_len (pre post : List Int) (low high c : Int) : ∀ (n : Nat) (m : Int), (cutG pre post low high c n m).length = n
  | 0, _ => rfl
  | n + 1, m => congrArg Nat.succ (cutG_len pre post low high c n (m + 1))
theorem cutD_pre (r : List Int) (i : Nat) (h : 1 ≤ i) (h2 : i < r.length) : cutD (r.map D.int) none (some ((i : Int) - 1)) = (r.take (i - 1)).map D.int := by
  unfold cutD
  have e : (some ((i : Int) - 1)) = some ((i - 1 : Nat) : Int) := by
    congr 1
    omega
  rw [e, HT.sIx_nat, HT.sIx_none, List.drop_zero, List.length_map, List.map_take]
  congr 1
  omega
theorem cutD_post (r : List Int) (i : Nat) (h2 : i < r.length) : cutD (r.map D.int) (some ((i : Int) + 1)) none = (r.drop (i + 1)).map D.int := by
  unfold cutD
  have e : (some ((i : Int) + 1)) = some ((i + 1 : Nat) : Int) := by
    congr 1
  rw [e, HT.sIx_nat, HT.sIx_none, List.length_map, List.map_drop]
  have : min (i + 1) r.length = i + 1 := by omega
  rw [this]
  apply List.take_of_length_le
  simp
def cutLate : Den := d2 gAdd (d2 gAdd (dSl (dRd 3) none (some (d2 gSub (dRd 1) (dC (.int 1))))) (dTup (aCons (d2 gAdd (dRd 8) (dRd 10)) (aCons (d2 gSub (d2 gSub (dRd 9) (dC (.int 1))) (dRd 10)) (aNil))))) (dSl (dRd 3) (some (d2 gAdd (dRd 1) (dC (.int 1)))) none)
def cutBody : DenS := dSeq (dSet 11 false cutLate) (dSeq (dPut 2 (d2 gAdd (dGet2 (dRd 2) (dRd 11) (dC (.int 0))) (d2 gMul (dRd 7) (dRd 4))) (dRd 11)) (dNx))
abbrev vS (d : D) : Option Sl := some (.val d)
def E12 (R : Option Sl) (i : Nat) (acc : PR) (a3 a4 a5 a6 a7 a8 a9 a10 a11 : Option Sl) : En := [R, vS (.int i), some (.own (toD acc)), a3, a4, a5, a6, a7, a8, a9, a10, a11]
theorem cutLate_eq (R : Option Sl) (i : Nat) (acc : PR) (r : List Int) (a4 a5 a6 a7 a11 : Option Sl) (low high m : Int) (h1 : 1 ≤ i) (h2 : i < r.length) (h3 : r.length < 1000) (ds : DS) :
    cutLate (E12 R i acc (vS (rowD r)) a4 a5 a6 a7 (vS (.int low)) (vS (.int high)) (vS (.int m)) a11) ds = some (rowD (r.take (i - 1) ++ [low + m, high - 1 - m] ++ r.drop (i + 1)), ds) := by
  have e1 : dSl (dRd 3) none (some (d2 gSub (dRd 1) (dC (.int 1)))) (E12 R i acc (vS (rowD r)) a4 a5 a6 a7 (vS (.int low)) (vS (.int high)) (vS (.int m)) a11) ds = some (.tuple (cutD (r.map D.int) none (some ((i : Int) - 1))), ds) := rfl
  have e2 : dTup (aCons (d2 gAdd (dRd 8) (dRd 10)) (aCons (d2 gSub (d2 gSub (dRd 9) (dC (.int 1))) (dRd 10)) (aNil))) (E12 R i acc (vS (rowD r)) a4 a5 a6 a7 (vS (.int low)) (vS (.int high)) (vS (.int m)) a11) ds = some (.tuple [.int (low + m), .int (high - 1 - m)], ds) := rfl
  have e3 : dSl (dRd 3) (some (d2 gAdd (dRd 1) (dC (.int 1)))) none (E12 R i acc (vS (rowD r)) a4 a5 a6 a7 (vS (.int low)) (vS (.int high)) (vS (.int m)) a11) ds = some (.tuple (cutD (r.map D.int) (some ((i : Int) + 1)) none), ds) := rfl
  rw [cutD_pre r i h1 h2] at e1
  rw [cutD_post r i h2] at e3
  have e4 := d2_eq (g := gAdd) e1 e2 (c := .tuple ((r.take (i - 1)).map D.int ++ [.int (low + m), .int (high - 1 - m)])) (gAddT (by simp; omega))
  have e5 := d2_eq (g := gAdd) e4 e3 (c := .tuple (((r.take (i - 1)).map D.int ++ [.int (low + m), .int (high - 1 - m)]) ++ (r.drop (i + 1)).map D.int)) (gAddT (by simp; omega))
  unfold cutLate
  rw [e5]
  simp [rowD]
theorem cut_in (R : Option Sl) (i : Nat) (r : List Int) (a5 a6 : Option Sl) (num sg low high : Int) (h1 : 1 ≤ i) (h2 : i < r.length) (h3 : r.length < 1000) (hs : -(2 ^ 64) < sg ∧ sg < 2 ^ 64) (ds : DS) :
    ∀ (n : Nat) (m : Int) (acc : PR) (a10 a11 : Option Sl), NdP acc → acc.length + n < 100000 →
      ∃ b10 b11, forLoop (gNm 10) cutBody (rgD m n) (E12 R i acc (vS (rowD r)) (vS (.int num)) a5 a6 (vS (.int sg)) (vS (.int low)) (vS (.int high)) a10 a11) ds =
        some (.nx (E12 R i (accP acc (cutG (r.take (i - 1)) (r.drop (i + 1)) low high (sg * num) n m)) (vS (rowD r)) (vS (.int num)) a5 a6 (vS (.int sg)) (vS (.int low)) (vS (.int high)) b10 b11), ds)
  | 0, m, acc, a10, a11, _, _ => ⟨a10, a11, rfl⟩
  | n + 1, m, acc, a10, a11, nd, hl => by
    let k := r.take (i - 1) ++ [low + m, high - 1 - m] ++ r.drop (i + 1)
    obtain ⟨b10, b11, ih⟩ := cut_in R i r a5 a6 num sg low high h1 h2 h3 hs ds n (m + 1) (addP acc k (sg * num)) (vS (.int m)) (vS (rowD k)) (nd_addP _ _ nd) (by have := addP_len acc k (sg * num); omega)
    refine ⟨b10, b11, ?_⟩
    have e1 : dSet 11 false cutLate (E12 R i acc (vS (rowD r)) (vS (.int num)) a5 a6 (vS (.int sg)) (vS (.int low)) (vS (.int high)) (vS (.int m)) a11) ds = some (.nx (E12 R i acc (vS (rowD r)) (vS (.int num)) a5 a6 (vS (.int sg)) (vS (.int low)) (vS (.int high)) (vS (.int m)) (vS (rowD k))), ds) :=
      dSet_eq (cutLate_eq R i acc r (vS (.int num)) a5 a6 (vS (.int sg)) a11 low high m h1 h2 h3 ds)
    have e2 := putAdd (i := 2) (kd := dRd 11) (cd := d2 gMul (dRd 7) (dRd 4)) (env := E12 R i acc (vS (rowD r)) (vS (.int num)) a5 a6 (vS (.int sg)) (vS (.int low)) (vS (.int high)) (vS (.int m)) (vS (rowD k))) (ds := ds) (p := acc) (k := k) (c := sg * num) rfl rfl (d2_eq (a := .int sg) (b := .int num) rfl rfl (gMulL hs)) nd (by omega)
    have e3 : cutBody (E12 R i acc (vS (rowD r)) (vS (.int num)) a5 a6 (vS (.int sg)) (vS (.int low)) (vS (.int high)) (vS (.int m)) a11) ds = some (.nx (E12 R i (addP acc k (sg * num)) (vS (rowD r)) (vS (.int num)) a5 a6 (vS (.int sg)) (vS (.int low)) (vS (.int high)) (vS (.int m)) (vS (rowD k))), ds) :=
      (dSeq_eq e1).trans ((dSeq_eq e2).trans rfl)
    rw [rgD, forLoop_cons (env' := E12 R i acc (vS (rowD r)) (vS (.int num)) a5 a6 (vS (.int sg)) (vS (.int low)) (vS (.int high)) (vS (.int m)) a11) rfl e3]
    exact ih
end L2.Dn
set_option Elab.async false
set_option linter.all false
set_option maxRecDepth 100000
namespace L2.Dn
open PySem PySem.Spec PyProof.Rows C8
section
variable {f h : Den} {t : DenT} {g : DenG} {env env' : En} {ds s s1 s2 : DS} {a b c : D}
theorem dPar_eq {i j : Nat} {k l : Bool} (h1 : f env ds = some (a, s)) (h2 : h env s = some (b, s1)) : dPar i j k l f h env ds = some (.nx ((env.set i (some (mkSl k a))).set j (some (mkSl l b))), s1) := by
  unfold dPar
  rw [h1]
  unfold bnd
  dsimp only
  rw [h2]
theorem dAsg_eq (h1 : f env ds = some (a, s)) (h2 : g a env = some env') : dAsg f g env ds = some (.nx env', s) := by
  unfold dAsg
  rw [h1]
  unfold bnd
  dsimp only
  rw [h2]
theorem dIf_t (h1 : t env ds = some (true, s)) : dIf t f h env ds = f env s := by
  unfold dIf
  rw [h1]
  rfl
theorem dIf_f (h1 : t env ds = some (false, s)) : dIf t f h env ds = h env s := by
  unfold dIf
  rw [h1]
  rfl
theorem dRg1_eq {n : Int} (h1 : f env ds = some (.int n, s)) (h2 : n < 100000 ∧ -100000 < n) : dRg1 f env ds = some (rgD 0 n.toNat, s) := by
  unfold dRg1
  rw [h1]
  unfold bnd
  dsimp only
  rw [if_pos h2]
end
theorem ixRow (r : List Int) (j : Nat) (h : j < r.length) : gIx (rowD r) (.int j) = some (.int (r.getD j 0)) := by
  show atI (r.map D.int) (j : Int) = _
  unfold atI ixN
  rw [if_pos (by omega), if_pos (by rw [List.length_map]; omega)]
  show (r.map D.int)[(j : Int).toNat]? = _
  rw [Int.toNat_natCast, List.getElem?_map, List.getElem?_eq_getElem h]
  simp [List.getD, h]
def cutRow : DenS := dSeq (dPar 5 6 false false (d2 gIx (dRd 3) (d2 gSub (dRd 1) (dC (.int 1)))) (d2 gIx (dRd 3) (dRd 1))) (dSeq (dAsg (dIf (dTest (d2 gGt (dRd 5) (dRd 6))) (dTup (aCons (dC (.int 1)) (aCons (dVar 6) (aCons (dVar 5) (aNil))))) (dTup (aCons (d1 gNeg (dC (.int 1))) (aCons (dVar 5) (aCons (dVar 6) (aNil)))))) (gTp (gsCons (gNm 7) (gsCons (gNm 8) (gsCons (gNm 9) (gsNil)))))) (dSeq (dFor (dRg1 (d2 gSub (dRd 9) (dRd 8))) (gNm 10) cutBody) (dNx)))
theorem cut_row (R : Option Sl) (i : Nat) (r : List Int) (num : Int) (h1 : 1 ≤ i) (h2 : i < r.length) (h3 : r.length < 1000) (acc : PR) (a5 a6 a7 a8 a9 a10 a11 : Option Sl) (nd : NdP acc) (hl : acc.length + (cutT r num i).length < 100000) (ds : DS) :
    ∃ b5 b6 b7 b8 b9 b10 b11, cutRow (E12 R i acc (vS (rowD r)) (vS (.int num)) a5 a6 a7 a8 a9 a10 a11) ds = some (.nx (E12 R i (accP acc (cutT r num i)) (vS (rowD r)) (vS (.int num)) b5 b6 b7 b8 b9 b10 b11), ds) := by
  have e1 : d2 gIx (dRd 3) (d2 gSub (dRd 1) (dC (.int 1))) (E12 R i acc (vS (rowD r)) (vS (.int num)) a5 a6 a7 a8 a9 a10 a11) ds = some (.int (r.getD (i - 1) 0), ds) := by
    refine d2_eq (a := rowD r) (b := .int ((i : Int) - 1)) rfl rfl ?_
    have : ((i : Int) - 1) = ((i - 1 : Nat) : Int) := by omega
    rw [this]
    exact ixRow r (i - 1) (by omega)
  have e2 : d2 gIx (dRd 3) (dRd 1) (E12 R i acc (vS (rowD r)) (vS (.int num)) a5 a6 a7 a8 a9 a10 a11) ds = some (.int (r.getD i 0), ds) := d2_eq (a := rowD r) (b := .int i) rfl rfl (ixRow r i h2)
  have e3 := dPar_eq (i := 5) (j := 6) (k := false) (l := false) e1 e2
  have e3' : dPar 5 6 false false (d2 gIx (dRd 3) (d2 gSub (dRd 1) (dC (.int 1)))) (d2 gIx (dRd 3) (dRd 1)) (E12 R i acc (vS (rowD r)) (vS (.int num)) a5 a6 a7 a8 a9 a10 a11) ds = some (.nx (E12 R i acc (vS (rowD r)) (vS (.int num)) (vS (.int (r.getD (i - 1) 0))) (vS (.int (r.getD i 0))) a7 a8 a9 a10 a11), ds) := e3
  unfold cutRow
  rw [dSeq_eq e3']
  unfold cutT at hl ⊢
  have e4 : dTest (d2 gGt (dRd 5) (dRd 6)) (E12 R i acc (vS (rowD r)) (vS (.int num)) (vS (.int (r.getD (i - 1) 0))) (vS (.int (r.getD i 0))) a7 a8 a9 a10 a11) ds = some (decide (r.getD i 0 < r.getD (i - 1) 0), ds) := rfl
  by_cases hc : r.getD i 0 < r.getD (i - 1) 0
  · rw [decide_eq_true hc] at e4 hl ⊢
    dsimp only at hl ⊢
    rw [cutG_len] at hl
    obtain ⟨b10, b11, e6⟩ := cut_in R i r (vS (.int (r.getD (i - 1) 0))) (vS (.int (r.getD i 0))) num 1 (r.getD i 0) (r.getD (i - 1) 0) h1 h2 h3 (by decide) ds (r.getD (i - 1) 0 - r.getD i 0).toNat 0 acc a10 a11 nd hl
    have e5 : dAsg (dIf (dTest (d2 gGt (dRd 5) (dRd 6))) (dTup (aCons (dC (.int 1)) (aCons (dVar 6) (aCons (dVar 5) (aNil))))) (dTup (aCons (d1 gNeg (dC (.int 1))) (aCons (dVar 5) (aCons (dVar 6) (aNil)))))) (gTp (gsCons (gNm 7) (gsCons (gNm 8) (gsCons (gNm 9) (gsNil))))) (E12 R i acc (vS (rowD r)) (vS (.int num)) (vS (.int (r.getD (i - 1) 0))) (vS (.int (r.getD i 0))) a7 a8 a9 a10 a11) ds =
        some (.nx (E12 R i acc (vS (rowD r)) (vS (.int num)) (vS (.int (r.getD (i - 1) 0))) (vS (.int (r.getD i 0))) (vS (.int 1)) (vS (.int (r.getD i 0))) (vS (.int (r.getD (i - 1) 0))) a10 a11), ds) :=
      dAsg_eq (a := .tuple [.int 1, .int (r.getD i 0), .int (r.getD (i - 1) 0)]) ((dIf_t e4).trans rfl) rfl
    have e7 : dFor (dRg1 (d2 gSub (dRd 9) (dRd 8))) (gNm 10) cutBody (E12 R i acc (vS (rowD r)) (vS (.int num)) (vS (.int (r.getD (i - 1) 0))) (vS (.int (r.getD i 0))) (vS (.int 1)) (vS (.int (r.getD i 0))) (vS (.int (r.getD (i - 1) 0))) a10 a11) ds = _ := (dFor_eq (dRg1_eq (n := r.getD (i - 1) 0 - r.getD i 0) rfl (by omega))).trans e6
    exact ⟨_, _, _, _, _, b10, b11, (dSeq_eq e5).trans ((dSeq_eq e7).trans rfl)⟩
  · rw [decide_eq_false hc] at e4 hl ⊢
    dsimp only at hl ⊢
    rw [cutG_len] at hl
    obtain ⟨b10, b11, e6⟩ := cut_in R i r (vS (.int (r.getD (i - 1) 0))) (vS (.int (r.getD i 0))) num (-1) (r.getD (i - 1) 0) (r.getD i 0) h1 h2 h3 (by decide) ds (r.getD i 0 - r.getD (i - 1) 0).toNat 0 acc a10 a11 nd hl
    have e5 : dAsg (dIf (dTest (d2 gGt (dRd 5) (dRd 6))) (dTup (aCons (dC (.int 1)) (aCons (dVar 6) (aCons (dVar 5) (aNil))))) (dTup (aCons (d1 gNeg (dC (.int 1))) (aCons (dVar 5) (aCons (dVar 6) (aNil)))))) (gTp (gsCons (gNm 7) (gsCons (gNm 8) (gsCons (gNm 9) (gsNil))))) (E12 R i acc (vS (rowD r)) (vS (.int num)) (vS (.int (r.getD (i - 1) 0))) (vS (.int (r.getD i 0))) a7 a8 a9 a10 a11) ds =
        some (.nx (E12 R i acc (vS (rowD r)) (vS (.int num)) (vS (.int (r.getD (i - 1) 0))) (vS (.int (r.getD i 0))) (vS (.int (-1))) (vS (.int (r.getD (i - 1) 0))) (vS (.int (r.getD i 0))) a10 a11), ds) :=
      dAsg_eq (a := .tuple [.int (-1), .int (r.getD (i - 1) 0), .int (r.getD i 0)]) ((dIf_f e4).trans rfl) rfl
    have e7 : dFor (dRg1 (d2 gSub (dRd 9) (dRd 8))) (gNm 10) cutBody (E12 R i acc (vS (rowD r)) (vS (.int num)) (vS (.int (r.getD (i - 1) 0))) (vS (.int (r.getD i 0))) (vS (.int (-1))) (vS (.int (r.getD (i - 1) 0))) (vS (.int (r.getD i 0))) a10 a11) ds = _ := (dFor_eq (dRg1_eq (n := r.getD i 0 - r.getD (i - 1) 0) rfl (by omega))).trans e6
    exact ⟨_, _, _, _, _, b10, b11, (dSeq_eq e5).trans ((dSeq_eq e7).trans rfl)⟩
/-- rows that a cut at i can read -/
def RowsOk (i : Nat) (p : PR) : Prop := ∀ e ∈ p, i < e.1.length ∧ e.1.length < 1000
theorem cut_out (R : Option Sl) (i : Nat) (h1 : 1 ≤ i) (ds : DS) : ∀ (p acc : PR) (a3 a4 a5 a6 a7 a8 a9 a10 a11 : Option Sl), RowsOk i p → NdP acc → acc.length + (cutTs i p).length < 100000 →
    ∃ b3 b4 b5 b6 b7 b8 b9 b10 b11, forLoop (gPair 3 4) cutRow (itsP p) (E12 R i acc a3 a4 a5 a6 a7 a8 a9 a10 a11) ds = some (.nx (E12 R i (accP acc (cutTs i p)) b3 b4 b5 b6 b7 b8 b9 b10 b11), ds)
  | [], acc, a3, a4, a5, a6, a7, a8, a9, a10, a11, _, _, _ => ⟨a3, a4, a5, a6, a7, a8, a9, a10, a11, rfl⟩
  | (r, c) :: p, acc, a3, a4, a5, a6, a7, a8, a9, a10, a11, ok, nd, hl => by
    obtain ⟨h2, h3⟩ := ok (r, c) (List.mem_cons_self ..)
    rw [cutTs, List.length_append] at hl
    obtain ⟨b5, b6, b7, b8, b9, b10, b11, e⟩ := cut_row R i r c h1 h2 h3 acc a5 a6 a7 a8 a9 a10 a11 nd (by omega) ds
    obtain ⟨c3, c4, c5, c6, c7, c8, c9, c10, c11, e2⟩ := cut_out R i h1 ds p (accP acc (cutT r c i)) (vS (rowD r)) (vS (.int c)) b5 b6 b7 b8 b9 b10 b11 (fun e m => ok e (List.mem_cons_of_mem _ m)) (nd_accP _ nd) (by have := accP_len (cutT r c i) acc; omega)
    refine ⟨c3, c4, c5, c6, c7, c8, c9, c10, c11, ?_⟩
    rw [cutTs, accP_append]
    exact (forLoop_cons (d := .tuple [rowD r, .int c]) rfl e).trans e2
theorem tr_cut (p : PR) (i : Nat) (h1 : 1 ≤ i) (ok : RowsOk i p) (hl : (cutTs i p).length < 100000) : f_cut_by [toD p, .int i] = some (toD (cutP p i)) := by
  obtain ⟨b3, b4, b5, b6, b7, b8, b9, b10, b11, e⟩ := cut_out (vS (toD p)) i h1 ds0 p [] none none none none none none none none none ok List.nodup_nil (by simpa using hl)
  have e1 : dSet 2 true (dC (.dT [])) (envP 12 [toD p, .int i]) ds0 = some (.nx (E12 (vS (toD p)) i [] none none none none none none none none none), ds0) := rfl
  have e2 : dFor (dIt itemsD (dVar 0)) (gPair 3 4) cutRow (E12 (vS (toD p)) i [] none none none none none none none none none) ds0 = _ := (dFor_eq (dIt_eq (a := toD p) rfl (items_dP p))).trans e
  have hl2 : (accP [] (cutTs i p)).length < 100000 := by
    have := accP_len (cutTs i p) []
    simp only [List.length_nil] at this
    omega
  have e3 : dFrz 2 (dRet (dCallP 1 f_without_noughts (aCons (dVar 2) (aNil)))) (E12 (vS (toD p)) i (accP [] (cutTs i p)) b3 b4 b5 b6 b7 b8 b9 b10 b11) ds0 = some (.rt (toD (cutP p i)), ds0) :=
    dRet_eq (env := [vS (toD p), vS (.int i), vS (toD (accP [] (cutTs i p))), b3, b4, b5, b6, b7, b8, b9, b10, b11]) (dCallP_eq (as := [toD (accP [] (cutTs i p))]) rfl rfl (tr_wn _ (nd_accP _ List.nodup_nil) hl2))
  exact fnP_eq (b := d_cut_by) ((dSeq_eq e1).trans ((dSeq_eq e2).trans (dSeq_rt e3)))
end L2.Dn
set_option Elab.async false
set_option linter.all false
set_option maxRecDepth 100000
/-! sums and products of polynomials -/
namespace L2.Dn
open PySem PySem.Spec PyProof.Rows C8
section
variable {f h : Den} {t : DenT} {g : DenG} {ga : DenA} {env env' : En} {ds s s1 s2 : DS} {a b c : D}
theorem dLc_eq {gi : DenA} {own : List Nat} {fe : Den} {items r : List D} (h1 : gi env ds = some (items, s)) (h2 : lcLoop g t fe (wipeE env own) items s = some (r, s1)) (h3 : r.length ≤ 100000) : dLc gi own g t fe env ds = some (.list r, s1) := by
  unfold dLc
  rw [h1]
  unfold bnd
  dsimp only
  rw [h2]
  dsimp only
  rw [if_pos h3]
theorem dB_eq {p : List D → Option D} {as : List D} (h1 : ga env ds = some (as, s)) (h2 : p as = some a) : dB p ga env ds = some (a, s) := by
  unfold dB
  rw [h1]
  unfold bnd
  dsimp only
  rw [h2]
  rfl
theorem lc_f {fe : Den} {d : D} {r : List D} (h1 : g d env = some env') (h2 : t env' ds = some (false, s)) : lcLoop g t fe env (d :: r) ds = lcLoop g t fe env r s := by
  rw [lcLoop, h1]
  dsimp only
  rw [h2]
  rfl
theorem lc_t {fe : Den} {d y : D} {r ys : List D} (h1 : g d env = some env') (h2 : t env' ds = some (true, s)) (h3 : fe env' s = some (y, s1)) (h4 : lcLoop g t fe env r s1 = some (ys, s2)) : lcLoop g t fe env (d :: r) ds = some (y :: ys, s2) := by
  rw [lcLoop, h1]
  dsimp only
  rw [h2]
  unfold bnd
  dsimp only
  rw [h3]
  dsimp only
  rw [h4]
theorem dZip_eq {xs ys : List D} (h1 : f env ds = some (.tuple xs, s)) (h2 : h env s = some (.tuple ys, s1)) : dZip f h env ds = some (zipD xs ys, s1) := by
  unfold dZip
  rw [h1]
  unfold bnd
  dsimp only
  rw [h2]
  rfl
end
/-! dict(p): no two rows have one hash -/
def hOk (p : PR) : Bool := match hashes? (dP p) with
  | some l => nodupI l
  | none => false
theorem gDict_P {p : PR} (h : hOk p = true) : gDict [toD p] = some (toD p) := by
  unfold hOk at h
  show (match hashes? (dP p) with | some l => if nodupI l = true then some (toD p) else none | none => none) = _
  cases e : hashes? (dP p) with
  | none => rw [e] at h; cases h
  | some l =>
    rw [e] at h
    dsimp only at h ⊢
    rw [if_pos h]
/-! p + m q -/
def scaleP (m : Int) : PR → PR
  | [] => []
  | (k, v) :: r => (k, m * v) :: scaleP m r
theorem scaleP_len (m : Int) : ∀ (q : PR), (scaleP m q).length = q.length
  | [] => rfl
  | (k, v) :: r => congrArg Nat.succ (scaleP_len m r)
def plusP (p q : PR) (m : Int) : PR := keepP (accP p (scaleP m q))
def E6 (a0 a1 : Option Sl) (m : Int) (acc : PR) (a4 a5 : Option Sl) : En := [a0, a1, vS (.int m), some (.own (toD acc)), a4, a5]
def SmallM (m : Int) (q : PR) : Prop := (-(2 ^ 64) < m ∧ m < 2 ^ 64) ∨ ∀ e ∈ q, -(2 ^ 64) < e.2 ∧ e.2 < 2 ^ 64
theorem gMulE {i j : Int} (h : (-(2 ^ 64) < i ∧ i < 2 ^ 64) ∨ (-(2 ^ 64) < j ∧ j < 2 ^ 64)) : gMul (.int i) (.int j) = some (.int (i * j)) := if_pos h
def plusBody : DenS := dSeq (dPut 3 (d2 gAdd (dGet2 (dRd 3) (dRd 4) (dC (.int 0))) (d2 gMul (dRd 2) (dRd 5))) (dRd 4)) (dNx)
theorem plus_loop (a0 a1 : Option Sl) (m : Int) (ds : DS) : ∀ (q acc : PR) (a4 a5 : Option Sl), SmallM m q → NdP acc → acc.length + q.length < 100000 →
    ∃ b4 b5, forLoop (gPair 4 5) plusBody (itsP q) (E6 a0 a1 m acc a4 a5) ds = some (.nx (E6 a0 a1 m (accP acc (scaleP m q)) b4 b5), ds)
  | [], acc, a4, a5, _, _, _ => ⟨a4, a5, rfl⟩
  | (k, v) :: q, acc, a4, a5, hm, nd, hl => by
    simp only [List.length_cons] at hl
    obtain ⟨b4, b5, ih⟩ := plus_loop a0 a1 m ds q (addP acc k (m * v)) (vS (rowD k)) (vS (.int v)) (hm.imp (fun x => x) fun x e he => x e (List.mem_cons_of_mem _ he)) (nd_addP _ _ nd) (by have := addP_len acc k (m * v); omega)
    refine ⟨b4, b5, ?_⟩
    have e2 := putAdd (i := 3) (kd := dRd 4) (cd := d2 gMul (dRd 2) (dRd 5)) (env := E6 a0 a1 m acc (vS (rowD k)) (vS (.int v))) (ds := ds) (p := acc) (k := k) (c := m * v) rfl rfl (d2_eq (a := .int m) (b := .int v) rfl rfl (gMulE (hm.imp (fun x => x) fun x => x (k, v) (List.mem_cons_self ..)))) nd (by omega)
    have e3 : plusBody (E6 a0 a1 m acc (vS (rowD k)) (vS (.int v))) ds = some (.nx (E6 a0 a1 m (addP acc k (m * v)) (vS (rowD k)) (vS (.int v))), ds) := (dSeq_eq e2).trans rfl
    exact (forLoop_cons (d := .tuple [rowD k, .int v]) rfl e3).trans ih
theorem tr_plus (p q : PR) (m : Int) (nd : NdP p) (hh : hOk p = true) (hm : SmallM m q) (hl : p.length + q.length < 100000) : f_plus_by [toD p, toD q, .int m] = some (toD (plusP p q m)) := by
  obtain ⟨b4, b5, e⟩ := plus_loop (vS (toD p)) (vS (toD q)) m ds0 q p none none hm nd hl
  have e1 : dSet 3 true (dB gDict (aCons (dRd 0) (aNil))) (envP 6 [toD p, toD q, .int m]) ds0 = some (.nx (E6 (vS (toD p)) (vS (toD q)) m p none none), ds0) :=
    dSet_eq (i := 3) (k := true) (env := envP 6 [toD p, toD q, .int m]) (dB_eq (as := [toD p]) rfl (gDict_P hh))
  have e2 : dFor (dIt itemsD (dVar 1)) (gPair 4 5) plusBody (E6 (vS (toD p)) (vS (toD q)) m p none none) ds0 = _ := (dFor_eq (dIt_eq (a := toD q) rfl (items_dP q))).trans e
  have hl2 : (accP p (scaleP m q)).length < 100000 := by
    have := accP_len (scaleP m q) p
    rw [scaleP_len] at this
    omega
  have e3 : dFrz 3 (dRet (dCallP 1 f_without_noughts (aCons (dVar 3) (aNil)))) (E6 (vS (toD p)) (vS (toD q)) m (accP p (scaleP m q)) b4 b5) ds0 = some (.rt (toD (plusP p q m)), ds0) :=
    dRet_eq (env := [vS (toD p), vS (toD q), vS (.int m), vS (toD (accP p (scaleP m q))), b4, b5]) (dCallP_eq (as := [toD (accP p (scaleP m q))]) rfl rfl (tr_wn _ (nd_accP _ nd) hl2))
  exact fnP_eq (b := d_plus_by) ((dSeq_eq e1).trans ((dSeq_eq e2).trans (dSeq_rt e3)))
/-! p q -/
def addR : List Int → List Int → List Int
  | a :: r, b :: t => (a + b) :: addR r t
  | _, _ => []
theorem addR_len : ∀ (r t : List Int), (addR r t).length = min r.length t.length
  | [], _ => by simp [addR]
  | _ :: _, [] => by simp [addR]
  | a :: r, b :: t => by
    simp only [addR, List.length_cons, addR_len r t]
    omega
theorem addR_loop (i j : Nat) (env0 : En) (h1 : ∀ x y, ((env0.set i (vS x)).set j (vS y))[i]? = some (vS x)) (h2 : ∀ x y, ((env0.set i (vS x)).set j (vS y))[j]? = some (vS y)) (s : DS) :
    ∀ (r t : List Int), lcLoop (gPair i j) tYesD (d2 gAdd (dRd i) (dRd j)) env0 (zipD (r.map D.int) (t.map D.int)) s = some ((addR r t).map D.int, s)
  | [], _ => rfl
  | _ :: _, [] => rfl
  | a :: r, b :: t => by
    have ih := addR_loop i j env0 h1 h2 s r t
    refine lc_t (env' := (env0.set i (vS (.int a))).set j (vS (.int b))) (s := s) (s1 := s) (y := .int (a + b)) rfl rfl ?_ ih
    refine d2_eq (a := .int a) (b := .int b) (s := s) ?_ ?_ rfl
    · unfold dRd
      rw [h1]
    · unfold dRd
      rw [h2]
def mulT (r : List Int) (c : Int) : PR → PR
  | [] => []
  | (k, v) :: q => (addR r k, c * v) :: mulT r c q
def mulTs (q : PR) : PR → PR
  | [] => []
  | (r, c) :: p => mulT r c q ++ mulTs q p
def mulP (p q : PR) : PR := keepP (accP [] (mulTs q p))
theorem mulT_len (r : List Int) (c : Int) : ∀ (q : PR), (mulT r c q).length = q.length
  | [] => rfl
  | (k, v) :: q => congrArg Nat.succ (mulT_len r c q)
theorem mulTs_len (q : PR) : ∀ (p : PR), (mulTs q p).length = p.length * q.length
  | [] => by simp [mulTs]
  | (r, c) :: p => by
    rw [mulTs, List.length_append, mulT_len, mulTs_len q p, List.length_cons, Nat.succ_mul]
    omega
def E10 (a0 a1 : Option Sl) (acc : PR) (a3 a4 a5 a6 a7 a8 a9 : Option Sl) : En := [a0, a1, some (.own (toD acc)), a3, a4, a5, a6, a7, a8, a9]
def mulBody : DenS := dSeq (dSet 7 false (dB gTupS (aCons (dLc (dZip (dVar 3) (dVar 5)) [8, 9] (gPair 8 9) (tYesD) (d2 gAdd (dRd 8) (dRd 9))) (aNil)))) (dSeq (dPut 2 (d2 gAdd (dGet2 (dRd 2) (dRd 7) (dC (.int 0))) (d2 gMul (dRd 4) (dRd 6))) (dRd 7)) (dNx))
def SmallP (p : PR) : Prop := ∀ e ∈ p, -(2 ^ 64) < e.2 ∧ e.2 < 2 ^ 64
theorem mul_in (a0 a1 : Option Sl) (r : List Int) (c : Int) (hc : -(2 ^ 64) < c ∧ c < 2 ^ 64) (hr : r.length ≤ 100000) (ds : DS) : ∀ (q acc : PR) (a5 a6 a7 a8 a9 : Option Sl), NdP acc → acc.length + q.length < 100000 →
    ∃ b5 b6 b7 b8 b9, forLoop (gPair 5 6) mulBody (itsP q) (E10 a0 a1 acc (vS (rowD r)) (vS (.int c)) a5 a6 a7 a8 a9) ds = some (.nx (E10 a0 a1 (accP acc (mulT r c q)) (vS (rowD r)) (vS (.int c)) b5 b6 b7 b8 b9), ds)
  | [], acc, a5, a6, a7, a8, a9, _, _ => ⟨a5, a6, a7, a8, a9, rfl⟩
  | (k, v) :: q, acc, a5, a6, a7, a8, a9, nd, hl => by
    simp only [List.length_cons] at hl
    let kk := addR r k
    obtain ⟨b5, b6, b7, b8, b9, ih⟩ := mul_in a0 a1 r c hc hr ds q (addP acc kk (c * v)) (vS (rowD k)) (vS (.int v)) (vS (rowD kk)) a8 a9 (nd_addP _ _ nd) (by have := addP_len acc kk (c * v); omega)
    refine ⟨b5, b6, b7, b8, b9, ?_⟩
    have e1 : dSet 7 false (dB gTupS (aCons (dLc (dZip (dVar 3) (dVar 5)) [8, 9] (gPair 8 9) (tYesD) (d2 gAdd (dRd 8) (dRd 9))) (aNil))) (E10 a0 a1 acc (vS (rowD r)) (vS (.int c)) (vS (rowD k)) (vS (.int v)) a7 a8 a9) ds = some (.nx (E10 a0 a1 acc (vS (rowD r)) (vS (.int c)) (vS (rowD k)) (vS (.int v)) (vS (rowD kk)) a8 a9), ds) :=
      dSet_eq (i := 7) (k := false) (env := E10 a0 a1 acc (vS (rowD r)) (vS (.int c)) (vS (rowD k)) (vS (.int v)) a7 a8 a9) (dB_eq (as := [.list (kk.map D.int)]) (aCons1 (dLc_eq (dZip_eq (xs := r.map D.int) (ys := k.map D.int) rfl rfl) (addR_loop 8 9 _ (fun _ _ => rfl) (fun _ _ => rfl) ds r k) (by rw [List.length_map, addR_len]; omega))) rfl)
    have e2 := putAdd (i := 2) (kd := dRd 7) (cd := d2 gMul (dRd 4) (dRd 6)) (env := E10 a0 a1 acc (vS (rowD r)) (vS (.int c)) (vS (rowD k)) (vS (.int v)) (vS (rowD kk)) a8 a9) (ds := ds) (p := acc) (k := kk) (c := c * v) rfl rfl (d2_eq (a := .int c) (b := .int v) rfl rfl (gMulL hc)) nd (by omega)
    have e3 : mulBody (E10 a0 a1 acc (vS (rowD r)) (vS (.int c)) (vS (rowD k)) (vS (.int v)) a7 a8 a9) ds = some (.nx (E10 a0 a1 (addP acc kk (c * v)) (vS (rowD r)) (vS (.int c)) (vS (rowD k)) (vS (.int v)) (vS (rowD kk)) a8 a9), ds) := (dSeq_eq e1).trans ((dSeq_eq e2).trans rfl)
    exact (forLoop_cons (d := .tuple [rowD k, .int v]) rfl e3).trans ih
def mulRow : DenS := dSeq (dFor (dIt itemsD (dVar 1)) (gPair 5 6) mulBody) (dNx)
theorem mul_out (a0 : Option Sl) (q : PR) (ds : DS) : ∀ (p acc : PR) (a3 a4 a5 a6 a7 a8 a9 : Option Sl), SmallP p → (∀ e ∈ p, e.1.length ≤ 100000) → NdP acc → acc.length + p.length * q.length < 100000 →
    ∃ b3 b4 b5 b6 b7 b8 b9, forLoop (gPair 3 4) mulRow (itsP p) (E10 a0 (vS (toD q)) acc a3 a4 a5 a6 a7 a8 a9) ds = some (.nx (E10 a0 (vS (toD q)) (accP acc (mulTs q p)) b3 b4 b5 b6 b7 b8 b9), ds)
  | [], acc, a3, a4, a5, a6, a7, a8, a9, _, _, _, _ => ⟨a3, a4, a5, a6, a7, a8, a9, rfl⟩
  | (r, c) :: p, acc, a3, a4, a5, a6, a7, a8, a9, hs, hr, nd, hl => by
    simp only [List.length_cons, Nat.succ_mul] at hl
    obtain ⟨b5, b6, b7, b8, b9, e⟩ := mul_in a0 (vS (toD q)) r c (hs (r, c) (List.mem_cons_self ..)) (hr (r, c) (List.mem_cons_self ..)) ds q acc a5 a6 a7 a8 a9 nd (by omega)
    obtain ⟨c3, c4, c5, c6, c7, c8, c9, e2⟩ := mul_out a0 q ds p (accP acc (mulT r c q)) (vS (rowD r)) (vS (.int c)) b5 b6 b7 b8 b9 (fun e m => hs e (List.mem_cons_of_mem _ m)) (fun e m => hr e (List.mem_cons_of_mem _ m)) (nd_accP _ nd) (by have := accP_len (mulT r c q) acc; rw [mulT_len] at this; omega)
    refine ⟨c3, c4, c5, c6, c7, c8, c9, ?_⟩
    have e3 : mulRow (E10 a0 (vS (toD q)) acc (vS (rowD r)) (vS (.int c)) a5 a6 a7 a8 a9) ds = some (.nx (E10 a0 (vS (toD q)) (accP acc (mulT r c q)) (vS (rowD r)) (vS (.int c)) b5 b6 b7 b8 b9), ds) :=
      (dSeq_eq ((dFor_eq (dIt_eq (a := toD q) rfl (items_dP q))).trans e)).trans rfl
    rw [mulTs, accP_append]
    exact (forLoop_cons (d := .tuple [rowD r, .int c]) rfl e3).trans e2
theorem tr_mul (p q : PR) (hs : SmallP p) (hr : ∀ e ∈ p, e.1.length ≤ 100000) (hl : p.length * q.length < 100000) : f_product_by [toD p, toD q] = some (toD (mulP p q)) := by
  obtain ⟨b3, b4, b5, b6, b7, b8, b9, e⟩ := mul_out (vS (toD p)) q ds0 p [] none none none none none none none hs hr List.nodup_nil (by simpa using hl)
  have e1 : dSet 2 true (dC (.dT [])) (envP 10 [toD p, toD q]) ds0 = some (.nx (E10 (vS (toD p)) (vS (toD q)) [] none none none none none none none), ds0) := rfl
  have e2 : dFor (dIt itemsD (dVar 0)) (gPair 3 4) mulRow (E10 (vS (toD p)) (vS (toD q)) [] none none none none none none none) ds0 = _ := (dFor_eq (dIt_eq (a := toD p) rfl (items_dP p))).trans e
  have hl2 : (accP [] (mulTs q p)).length < 100000 := by
    have := accP_len (mulTs q p) []
    rw [mulTs_len] at this
    simp only [List.length_nil] at this
    omega
  have e3 : dFrz 2 (dRet (dCallP 1 f_without_noughts (aCons (dVar 2) (aNil)))) (E10 (vS (toD p)) (vS (toD q)) (accP [] (mulTs q p)) b3 b4 b5 b6 b7 b8 b9) ds0 = some (.rt (toD (mulP p q)), ds0) :=
    dRet_eq (env := [vS (toD p), vS (toD q), vS (toD (accP [] (mulTs q p))), b3, b4, b5, b6, b7, b8, b9]) (dCallP_eq (as := [toD (accP [] (mulTs q p))]) rfl rfl (tr_wn _ (nd_accP _ List.nodup_nil) hl2))
  exact fnP_eq (b := d_product_by) ((dSeq_eq e1).trans ((dSeq_eq e2).trans (dSeq_rt e3)))
end L2.Dn
set_option Elab.async false
set_option linter.all false
set_option maxRecDepth 100000
/-! the law's own functions on polynomials -/
namespace L2.Dn
open PySem PySem.Spec PyProof.Rows C8
theorem aCons_eq {f : Den} {g : DenA} {env : En} {ds s s1 : DS} {a : D} {as : List D} (h1 : f env ds = some (a, s)) (h2 : g env s = some (as, s1)) : aCons f g env ds = some (a :: as, s1) := by
  unfold aCons
  rw [h1]
  unfold bnd
  dsimp only
  rw [h2]
abbrev kysD (p : PR) : List D := p.map fun e => rowD e.1
theorem keys_dP (p : PR) : itemsOf (toD p) = some (kysD p) := by
  show some ((dP p).map _) = _
  unfold dP
  rw [List.map_map]
  congr 1
  apply List.map_congr_left
  intro e _
  show keyT (keyI e.1) = _
  rw [keyT_keyI]
theorem ixP {p : PR} {k : List Int} {v : Int} (h : lookP p k = some v) : gIx (toD p) (rowD k) = some (.int v) := by
  show (match keyOf? (rowD k) with | some k => lookT (dP p) k | none => none) = _
  rw [keyOf_row]
  dsimp only
  rw [lookT_dP, h]
  rfl
def Has (P p : PR) : Prop := ∀ e ∈ p, lookP P e.1 = some e.2
theorem has_self {p : PR} (nd : NdP p) : Has p p := fun e m => by
  rcases lookP_cfs e.1 nd with ⟨_, h2, _⟩ | ⟨h1, h2⟩
  · exact absurd (List.mem_map.mpr ⟨e, m, rfl⟩) h2
  · rw [h1, cfs_mem nd (v := e.2) m]
theorem Has.tail {P p : PR} {e : List Int × Int} (h : Has P (e :: p)) : Has P p := fun x m => h x (List.mem_cons_of_mem _ m)
theorem Has.head {P p : PR} {k : List Int} {v : Int} (h : Has P ((k, v) :: p)) : lookP P k = some v := h (k, v) (List.mem_cons_self ..)
theorem kept_loop (P : PR) (s : DS) : ∀ (p : PR), Has P p → lcLoop (gNm 1) (dTest (d2 gNeU (d2 gIx (dRd 0) (dRd 1)) (dC (.int 0)))) (dTup (aCons (dVar 1) (aCons (d2 gIx (dRd 0) (dRd 1)) (aNil)))) [vS (toD P), none] (kysD p) s = some (itsP (keepP p), s)
  | [], _ => rfl
  | (k, v) :: p, h => by
    have ih := kept_loop P s p h.tail
    have e0 : d2 gIx (dRd 0) (dRd 1) [vS (toD P), vS (rowD k)] s = some (.int v, s) := d2_eq (a := toD P) (b := rowD k) rfl rfl (ixP h.head)
    have e1 : dTest (d2 gNeU (d2 gIx (dRd 0) (dRd 1)) (dC (.int 0))) [vS (toD P), vS (rowD k)] s = some (!decide (v = 0), s) := dTest_of (d2_eq (b := .int 0) e0 rfl rfl)
    unfold keepP
    by_cases hv : v = 0
    · rw [decide_eq_true hv] at e1 ⊢
      exact (lc_f (env' := [vS (toD P), vS (rowD k)]) rfl e1).trans ih
    · rw [decide_eq_false hv] at e1 ⊢
      refine lc_t (env' := [vS (toD P), vS (rowD k)]) rfl e1 (y := .tuple [rowD k, .int v]) (s1 := s) ?_ ih
      unfold dTup
      have e2 : aCons (dVar 1) (aCons (d2 gIx (dRd 0) (dRd 1)) (aNil)) [vS (toD P), vS (rowD k)] s = some ([rowD k, .int v], s) := by
        unfold aCons
        show bnd (some (rowD k, s)) _ = _
        unfold bnd
        dsimp only
        rw [e0]
        rfl
      rw [e2]
      rfl
theorem pairs_its : ∀ (p : PR), pairsD? (itsP p) = some (dP p)
  | [] => rfl
  | (k, v) :: p => by
    show (match keyOf? (rowD k) with | some ks => (match pairsD? (itsP p) with | some l => some ((ks, D.int v) :: l) | none => none) | none => none) = _
    rw [keyOf_row, pairs_its p]
    rfl
theorem foldPutD_dP : ∀ (p acc : PR), NdP (acc ++ p) → foldPutD (dP p) (dP acc) = dP (acc ++ p)
  | [], acc, _ => by
    rw [List.append_nil]
    rfl
  | (k, v) :: p, acc, nd => by
    have nd2 : (kysP acc ++ k :: kysP p).Nodup := by
      have := nd
      unfold NdP at this
      rw [kysP_append] at this
      exact this
    have nk : k ∉ kysP acc := fun m => (List.nodup_append.mp nd2).2.2 k m k (List.mem_cons_self ..) rfl
    show foldPutD (dP p) (putT (dP acc) (keyI k) (.int v)) = _
    rw [putT_dP acc k v (List.nodup_append.mp nd2).1, putP_new acc k v nk, foldPutD_dP p _ (by rw [List.append_assoc]; exact nd), List.append_assoc]
    rfl
theorem gDictP_its {p : PR} (nd : NdP p) : gDictP [.list (itsP p)] = some (toD p) := by
  show (match pairsD? (itsP p) with | some l => some (D.dT (foldPutD l [])) | none => none) = _
  rw [pairs_its]
  show some (D.dT (foldPutD (dP p) (dP []))) = _
  rw [foldPutD_dP p [] nd]
  rfl
theorem tr_kept (p : PR) (nd : NdP p) (hl : p.length ≤ 100000) : f__law_kept [toD p] = some (toD (keepP p)) := by
  have e : dB gDictP (aCons (dLc (dItems (dVar 0)) [1] (gNm 1) (dTest (d2 gNeU (d2 gIx (dRd 0) (dRd 1)) (dC (.int 0)))) (dTup (aCons (dVar 1) (aCons (d2 gIx (dRd 0) (dRd 1)) (aNil))))) (aNil)) [vS (toD p), none] ds0 = some (toD (keepP p), ds0) :=
    dB_eq (as := [.list (itsP (keepP p))]) (aCons1 (dLc_eq (dItems_eq (a := toD p) rfl (keys_dP p)) (kept_loop p ds0 p (has_self nd)) (by rw [List.length_map]; have := keepP_len p; omega))) (gDictP_its (nd_keepP nd))
  exact fnP_eq (b := d__law_kept) (dSeq_rt (dRet_eq e))
/-! the law's cut -/
def lcutG (pre post : List Int) (low high c : Int) : Nat → Int → PR
  | 0, _ => []
  | n + 1, m => (pre ++ [high - 1 - m, low + m] ++ post, c) :: lcutG pre post low high c n (m + 1)
theorem lcutG_len (pre post : List Int) (low high c : Int) : ∀ (n : Nat) (m : Int), (lcutG pre post low high c n m).length = n
  | 0, _ => rfl
  | n + 1, m => congrArg Nat.succ (lcutG_len pre post low high c n (m + 1))
def mx (a b : Int) : Int := if b > a then b else a
def mn (a b : Int) : Int := if b < a then b else a
def lcutT (r : List Int) (c : Int) (i : Nat) : PR :=
  lcutG (r.take (i - 1)) (r.drop (i + 1)) (mn (r.getD (i - 1) 0) (r.getD i 0)) (mx (r.getD (i - 1) 0) (r.getD i 0)) ((if r.getD i 0 < r.getD (i - 1) 0 then 1 else -1) * c) (mx (r.getD (i - 1) 0) (r.getD i 0) - mn (r.getD (i - 1) 0) (r.getD i 0)).toNat 0
def lcutTs (i : Nat) : PR → PR
  | [] => []
  | (r, c) :: p => lcutT r c i ++ lcutTs i p
def lcutP (p : PR) (i : Nat) : PR := keepP (accP [] (lcutTs i p))
def E9 (P : PR) (i : Nat) (acc : PR) (a3 a4 a5 a6 a7 a8 : Option Sl) : En := [vS (toD P), vS (.int i), some (.own (toD acc)), a3, a4, a5, a6, a7, a8]
def lcutLate : Den := d2 gAdd (d2 gAdd (dSl (dRd 3) none (some (d2 gSub (dRd 1) (dC (.int 1))))) (dTup (aCons (d2 gSub (d2 gSub (dRd 4) (dC (.int 1))) (dRd 7)) (aCons (d2 gAdd (dRd 5) (dRd 7)) (aNil))))) (dSl (dRd 3) (some (d2 gAdd (dRd 1) (dC (.int 1)))) none)
def lcutBody : DenS := dSeq (dSet 8 false lcutLate) (dSeq (dPut 2 (d2 gAdd (dGet2 (dRd 2) (dRd 8) (dC (.int 0))) (d2 gMul (dRd 6) (d2 gIx (dRd 0) (dRd 3)))) (dRd 8)) (dNx))
theorem lcutLate_eq (P : PR) (i : Nat) (acc : PR) (r : List Int) (a6 a8 : Option Sl) (low high m : Int) (h1 : 1 ≤ i) (h2 : i < r.length) (h3 : r.length < 1000) (ds : DS) :
    lcutLate (E9 P i acc (vS (rowD r)) (vS (.int high)) (vS (.int low)) a6 (vS (.int m)) a8) ds = some (rowD (r.take (i - 1) ++ [high - 1 - m, low + m] ++ r.drop (i + 1)), ds) := by
  have e1 : dSl (dRd 3) none (some (d2 gSub (dRd 1) (dC (.int 1)))) (E9 P i acc (vS (rowD r)) (vS (.int high)) (vS (.int low)) a6 (vS (.int m)) a8) ds = some (.tuple (cutD (r.map D.int) none (some ((i : Int) - 1))), ds) := rfl
  have e2 : dTup (aCons (d2 gSub (d2 gSub (dRd 4) (dC (.int 1))) (dRd 7)) (aCons (d2 gAdd (dRd 5) (dRd 7)) (aNil))) (E9 P i acc (vS (rowD r)) (vS (.int high)) (vS (.int low)) a6 (vS (.int m)) a8) ds = some (.tuple [.int (high - 1 - m), .int (low + m)], ds) := rfl
  have e3 : dSl (dRd 3) (some (d2 gAdd (dRd 1) (dC (.int 1)))) none (E9 P i acc (vS (rowD r)) (vS (.int high)) (vS (.int low)) a6 (vS (.int m)) a8) ds = some (.tuple (cutD (r.map D.int) (some ((i : Int) + 1)) none), ds) := rfl
  rw [cutD_pre r i h1 h2] at e1
  rw [cutD_post r i h2] at e3
  have e4 := d2_eq (g := gAdd) e1 e2 (c := .tuple ((r.take (i - 1)).map D.int ++ [.int (high - 1 - m), .int (low + m)])) (gAddT (by simp; omega))
  have e5 := d2_eq (g := gAdd) e4 e3 (c := .tuple (((r.take (i - 1)).map D.int ++ [.int (high - 1 - m), .int (low + m)]) ++ (r.drop (i + 1)).map D.int)) (gAddT (by simp; omega))
  unfold lcutLate
  rw [e5]
  simp [rowD]
theorem lcut_in (P : PR) (i : Nat) (r : List Int) (num sg low high : Int) (hP : lookP P r = some num) (h1 : 1 ≤ i) (h2 : i < r.length) (h3 : r.length < 1000) (hs : -(2 ^ 64) < sg ∧ sg < 2 ^ 64) (ds : DS) :
    ∀ (n : Nat) (m : Int) (acc : PR) (a7 a8 : Option Sl), NdP acc → acc.length + n < 100000 →
      ∃ b7 b8, forLoop (gNm 7) lcutBody (rgD m n) (E9 P i acc (vS (rowD r)) (vS (.int high)) (vS (.int low)) (vS (.int sg)) a7 a8) ds =
        some (.nx (E9 P i (accP acc (lcutG (r.take (i - 1)) (r.drop (i + 1)) low high (sg * num) n m)) (vS (rowD r)) (vS (.int high)) (vS (.int low)) (vS (.int sg)) b7 b8), ds)
  | 0, m, acc, a7, a8, _, _ => ⟨a7, a8, rfl⟩
  | n + 1, m, acc, a7, a8, nd, hl => by
    let k := r.take (i - 1) ++ [high - 1 - m, low + m] ++ r.drop (i + 1)
    obtain ⟨b7, b8, ih⟩ := lcut_in P i r num sg low high hP h1 h2 h3 hs ds n (m + 1) (addP acc k (sg * num)) (vS (.int m)) (vS (rowD k)) (nd_addP _ _ nd) (by have := addP_len acc k (sg * num); omega)
    refine ⟨b7, b8, ?_⟩
    have e1 : dSet 8 false lcutLate (E9 P i acc (vS (rowD r)) (vS (.int high)) (vS (.int low)) (vS (.int sg)) (vS (.int m)) a8) ds = some (.nx (E9 P i acc (vS (rowD r)) (vS (.int high)) (vS (.int low)) (vS (.int sg)) (vS (.int m)) (vS (rowD k))), ds) :=
      dSet_eq (lcutLate_eq P i acc r (vS (.int sg)) a8 low high m h1 h2 h3 ds)
    have e0 : d2 gIx (dRd 0) (dRd 3) (E9 P i acc (vS (rowD r)) (vS (.int high)) (vS (.int low)) (vS (.int sg)) (vS (.int m)) (vS (rowD k))) ds = some (.int num, ds) := d2_eq (a := toD P) (b := rowD r) rfl rfl (ixP hP)
    have e2 := putAdd (i := 2) (kd := dRd 8) (cd := d2 gMul (dRd 6) (d2 gIx (dRd 0) (dRd 3))) (env := E9 P i acc (vS (rowD r)) (vS (.int high)) (vS (.int low)) (vS (.int sg)) (vS (.int m)) (vS (rowD k))) (ds := ds) (p := acc) (k := k) (c := sg * num) rfl rfl (d2_eq (a := .int sg) (b := .int num) rfl e0 (gMulL hs)) nd (by omega)
    have e3 : lcutBody (E9 P i acc (vS (rowD r)) (vS (.int high)) (vS (.int low)) (vS (.int sg)) (vS (.int m)) a8) ds = some (.nx (E9 P i (addP acc k (sg * num)) (vS (rowD r)) (vS (.int high)) (vS (.int low)) (vS (.int sg)) (vS (.int m)) (vS (rowD k))), ds) :=
      (dSeq_eq e1).trans ((dSeq_eq e2).trans rfl)
    rw [rgD, forLoop_cons (env' := E9 P i acc (vS (rowD r)) (vS (.int high)) (vS (.int low)) (vS (.int sg)) (vS (.int m)) a8) rfl e3]
    exact ih
def lcutRow : DenS := dSeq (dPar 4 5 false false (dB gMax2 (aCons (d2 gIx (dRd 3) (d2 gSub (dRd 1) (dC (.int 1)))) (aCons (d2 gIx (dRd 3) (dRd 1)) (aNil)))) (dB gMin2 (aCons (d2 gIx (dRd 3) (d2 gSub (dRd 1) (dC (.int 1)))) (aCons (d2 gIx (dRd 3) (dRd 1)) (aNil))))) (dSeq (dSet 6 false (dIf (dTest (d2 gGt (d2 gIx (dRd 3) (d2 gSub (dRd 1) (dC (.int 1)))) (d2 gIx (dRd 3) (dRd 1)))) (dC (.int 1)) (d1 gNeg (dC (.int 1))))) (dSeq (dFor (dRg1 (d2 gSub (dRd 4) (dRd 5))) (gNm 7) lcutBody) (dNx)))
theorem lcut_row (P : PR) (i : Nat) (r : List Int) (num : Int) (hP : lookP P r = some num) (h1 : 1 ≤ i) (h2 : i < r.length) (h3 : r.length < 1000) (acc : PR) (a4 a5 a6 a7 a8 : Option Sl) (nd : NdP acc) (hl : acc.length + (lcutT r num i).length < 100000) (ds : DS) :
    ∃ b4 b5 b6 b7 b8, lcutRow (E9 P i acc (vS (rowD r)) a4 a5 a6 a7 a8) ds = some (.nx (E9 P i (accP acc (lcutT r num i)) (vS (rowD r)) b4 b5 b6 b7 b8), ds) := by
  have e1 : ∀ (a4 a5 a6 a7 a8 : Option Sl), d2 gIx (dRd 3) (d2 gSub (dRd 1) (dC (.int 1))) (E9 P i acc (vS (rowD r)) a4 a5 a6 a7 a8) ds = some (.int (r.getD (i - 1) 0), ds) := fun a4 a5 a6 a7 a8 => by
    refine d2_eq (a := rowD r) (b := .int ((i : Int) - 1)) rfl rfl ?_
    have : ((i : Int) - 1) = ((i - 1 : Nat) : Int) := by omega
    rw [this]
    exact ixRow r (i - 1) (by omega)
  have e2 : ∀ (a4 a5 a6 a7 a8 : Option Sl), d2 gIx (dRd 3) (dRd 1) (E9 P i acc (vS (rowD r)) a4 a5 a6 a7 a8) ds = some (.int (r.getD i 0), ds) := fun a4 a5 a6 a7 a8 => d2_eq (a := rowD r) (b := .int i) rfl rfl (ixRow r i h2)
  have e3 : dB gMax2 (aCons (d2 gIx (dRd 3) (d2 gSub (dRd 1) (dC (.int 1)))) (aCons (d2 gIx (dRd 3) (dRd 1)) (aNil))) (E9 P i acc (vS (rowD r)) a4 a5 a6 a7 a8) ds = some (.int (mx (r.getD (i - 1) 0) (r.getD i 0)), ds) := dB_eq (aCons_eq (e1 ..) (aCons1 (e2 ..))) rfl
  have e4 : dB gMin2 (aCons (d2 gIx (dRd 3) (d2 gSub (dRd 1) (dC (.int 1)))) (aCons (d2 gIx (dRd 3) (dRd 1)) (aNil))) (E9 P i acc (vS (rowD r)) a4 a5 a6 a7 a8) ds = some (.int (mn (r.getD (i - 1) 0) (r.getD i 0)), ds) := dB_eq (aCons_eq (e1 ..) (aCons1 (e2 ..))) rfl
  have e5 : dPar 4 5 false false (dB gMax2 (aCons (d2 gIx (dRd 3) (d2 gSub (dRd 1) (dC (.int 1)))) (aCons (d2 gIx (dRd 3) (dRd 1)) (aNil)))) (dB gMin2 (aCons (d2 gIx (dRd 3) (d2 gSub (dRd 1) (dC (.int 1)))) (aCons (d2 gIx (dRd 3) (dRd 1)) (aNil)))) (E9 P i acc (vS (rowD r)) a4 a5 a6 a7 a8) ds = some (.nx (E9 P i acc (vS (rowD r)) (vS (.int (mx (r.getD (i - 1) 0) (r.getD i 0)))) (vS (.int (mn (r.getD (i - 1) 0) (r.getD i 0)))) a6 a7 a8), ds) := dPar_eq (i := 4) (j := 5) e3 e4
  let b4 := vS (.int (mx (r.getD (i - 1) 0) (r.getD i 0)))
  let b5 := vS (.int (mn (r.getD (i - 1) 0) (r.getD i 0)))
  have e6 : dTest (d2 gGt (d2 gIx (dRd 3) (d2 gSub (dRd 1) (dC (.int 1)))) (d2 gIx (dRd 3) (dRd 1))) (E9 P i acc (vS (rowD r)) b4 b5 a6 a7 a8) ds = some (decide (r.getD i 0 < r.getD (i - 1) 0), ds) := dTest_of (d2_eq (e1 ..) (e2 ..) rfl)
  have e7 : dSet 6 false (dIf (dTest (d2 gGt (d2 gIx (dRd 3) (d2 gSub (dRd 1) (dC (.int 1)))) (d2 gIx (dRd 3) (dRd 1)))) (dC (.int 1)) (d1 gNeg (dC (.int 1)))) (E9 P i acc (vS (rowD r)) b4 b5 a6 a7 a8) ds = some (.nx (E9 P i acc (vS (rowD r)) b4 b5 (vS (.int (if r.getD i 0 < r.getD (i - 1) 0 then 1 else -1))) a7 a8), ds) := by
    refine dSet_eq (i := 6) (k := false) (env := E9 P i acc (vS (rowD r)) b4 b5 a6 a7 a8) (a := .int (if r.getD i 0 < r.getD (i - 1) 0 then 1 else -1)) ?_
    by_cases hc : r.getD i 0 < r.getD (i - 1) 0
    · rw [decide_eq_true hc] at e6
      rw [dIf_t e6, if_pos hc]
      rfl
    · rw [decide_eq_false hc] at e6
      rw [dIf_f e6, if_neg hc]
      rfl
  unfold lcutT at hl ⊢
  rw [lcutG_len] at hl
  have hmm : mn (r.getD (i - 1) 0) (r.getD i 0) ≤ mx (r.getD (i - 1) 0) (r.getD i 0) := by
    unfold mn mx
    split <;> split <;> omega
  obtain ⟨b7, b8, e8⟩ := lcut_in P i r num (if r.getD i 0 < r.getD (i - 1) 0 then 1 else -1) (mn (r.getD (i - 1) 0) (r.getD i 0)) (mx (r.getD (i - 1) 0) (r.getD i 0)) hP h1 h2 h3 (by split <;> decide) ds _ 0 acc a7 a8 nd hl
  have e9 : dFor (dRg1 (d2 gSub (dRd 4) (dRd 5))) (gNm 7) lcutBody (E9 P i acc (vS (rowD r)) b4 b5 (vS (.int (if r.getD i 0 < r.getD (i - 1) 0 then 1 else -1))) a7 a8) ds = _ := (dFor_eq (dRg1_eq (n := mx (r.getD (i - 1) 0) (r.getD i 0) - mn (r.getD (i - 1) 0) (r.getD i 0)) rfl (by omega))).trans e8
  exact ⟨_, _, _, b7, b8, (dSeq_eq e5).trans ((dSeq_eq e7).trans ((dSeq_eq e9).trans rfl))⟩
theorem lcut_out (P : PR) (i : Nat) (h1 : 1 ≤ i) (ds : DS) : ∀ (p acc : PR) (a3 a4 a5 a6 a7 a8 : Option Sl), Has P p → RowsOk i p → NdP acc → acc.length + (lcutTs i p).length < 100000 →
    ∃ b3 b4 b5 b6 b7 b8, forLoop (gNm 3) lcutRow (kysD p) (E9 P i acc a3 a4 a5 a6 a7 a8) ds = some (.nx (E9 P i (accP acc (lcutTs i p)) b3 b4 b5 b6 b7 b8), ds)
  | [], acc, a3, a4, a5, a6, a7, a8, _, _, _, _ => ⟨a3, a4, a5, a6, a7, a8, rfl⟩
  | (r, c) :: p, acc, a3, a4, a5, a6, a7, a8, hP, ok, nd, hl => by
    obtain ⟨h2, h3⟩ := ok (r, c) (List.mem_cons_self ..)
    rw [lcutTs, List.length_append] at hl
    obtain ⟨b4, b5, b6, b7, b8, e⟩ := lcut_row P i r c hP.head h1 h2 h3 acc a4 a5 a6 a7 a8 nd (by omega) ds
    obtain ⟨c3, c4, c5, c6, c7, c8, e2⟩ := lcut_out P i h1 ds p (accP acc (lcutT r c i)) (vS (rowD r)) b4 b5 b6 b7 b8 hP.tail (fun e m => ok e (List.mem_cons_of_mem _ m)) (nd_accP _ nd) (by have := accP_len (lcutT r c i) acc; omega)
    refine ⟨c3, c4, c5, c6, c7, c8, ?_⟩
    rw [lcutTs, accP_append]
    exact (forLoop_cons (d := rowD r) rfl e).trans e2
theorem tr_lcut (p : PR) (i : Nat) (nd : NdP p) (h1 : 1 ≤ i) (ok : RowsOk i p) (hl : (lcutTs i p).length < 100000) : f__law_cut [toD p, .int i] = some (toD (lcutP p i)) := by
  obtain ⟨b3, b4, b5, b6, b7, b8, e⟩ := lcut_out p i h1 ds0 p [] none none none none none none (has_self nd) ok List.nodup_nil (by simpa using hl)
  have e1 : dSet 2 true (dC (.dT [])) (envP 9 [toD p, .int i]) ds0 = some (.nx (E9 p i [] none none none none none none), ds0) := rfl
  have e2 : dFor (dItems (dVar 0)) (gNm 3) lcutRow (E9 p i [] none none none none none none) ds0 = _ := (dFor_eq (dItems_eq (a := toD p) rfl (keys_dP p))).trans e
  have hl2 : (accP [] (lcutTs i p)).length ≤ 100000 := by
    have := accP_len (lcutTs i p) []
    simp only [List.length_nil] at this
    omega
  have e3 : dFrz 2 (dRet (dCallP 1 f__law_kept (aCons (dVar 2) (aNil)))) (E9 p i (accP [] (lcutTs i p)) b3 b4 b5 b6 b7 b8) ds0 = some (.rt (toD (lcutP p i)), ds0) :=
    dRet_eq (env := [vS (toD p), vS (.int i), vS (toD (accP [] (lcutTs i p))), b3, b4, b5, b6, b7, b8]) (dCallP_eq (as := [toD (accP [] (lcutTs i p))]) rfl rfl (tr_kept _ (nd_accP _ List.nodup_nil) hl2))
  exact fnP_eq (b := d__law_cut) ((dSeq_eq e1).trans ((dSeq_eq e2).trans (dSeq_rt e3)))
/-! the law's product -/
def E8 (P Q : PR) (acc : PR) (a3 a4 a5 a6 a7 : Option Sl) : En := [vS (toD P), vS (toD Q), some (.own (toD acc)), a3, a4, a5, a6, a7]
def lmulBody : DenS := dSeq (dSet 5 false (dB gTupS (aCons (dLc (dZip (dVar 3) (dVar 4)) [6, 7] (gPair 6 7) (tYesD) (d2 gAdd (dRd 6) (dRd 7))) (aNil)))) (dSeq (dPut 2 (d2 gAdd (dGet2 (dRd 2) (dRd 5) (dC (.int 0))) (d2 gMul (d2 gIx (dRd 0) (dRd 3)) (d2 gIx (dRd 1) (dRd 4)))) (dRd 5)) (dNx))
theorem lmul_in (P Q : PR) (r : List Int) (c : Int) (hP : lookP P r = some c) (hc : -(2 ^ 64) < c ∧ c < 2 ^ 64) (hr : r.length ≤ 100000) (ds : DS) : ∀ (q acc : PR) (a4 a5 a6 a7 : Option Sl), Has Q q → NdP acc → acc.length + q.length < 100000 →
    ∃ b4 b5 b6 b7, forLoop (gNm 4) lmulBody (kysD q) (E8 P Q acc (vS (rowD r)) a4 a5 a6 a7) ds = some (.nx (E8 P Q (accP acc (mulT r c q)) (vS (rowD r)) b4 b5 b6 b7), ds)
  | [], acc, a4, a5, a6, a7, _, _, _ => ⟨a4, a5, a6, a7, rfl⟩
  | (k, v) :: q, acc, a4, a5, a6, a7, hQ, nd, hl => by
    simp only [List.length_cons] at hl
    let kk := addR r k
    obtain ⟨b4, b5, b6, b7, ih⟩ := lmul_in P Q r c hP hc hr ds q (addP acc kk (c * v)) (vS (rowD k)) (vS (rowD kk)) a6 a7 hQ.tail (nd_addP _ _ nd) (by have := addP_len acc kk (c * v); omega)
    refine ⟨b4, b5, b6, b7, ?_⟩
    have e1 : dSet 5 false (dB gTupS (aCons (dLc (dZip (dVar 3) (dVar 4)) [6, 7] (gPair 6 7) (tYesD) (d2 gAdd (dRd 6) (dRd 7))) (aNil))) (E8 P Q acc (vS (rowD r)) (vS (rowD k)) a5 a6 a7) ds = some (.nx (E8 P Q acc (vS (rowD r)) (vS (rowD k)) (vS (rowD kk)) a6 a7), ds) :=
      dSet_eq (i := 5) (k := false) (env := E8 P Q acc (vS (rowD r)) (vS (rowD k)) a5 a6 a7) (dB_eq (as := [.list (kk.map D.int)]) (aCons1 (dLc_eq (dZip_eq (xs := r.map D.int) (ys := k.map D.int) rfl rfl) (addR_loop 6 7 _ (fun _ _ => rfl) (fun _ _ => rfl) ds r k) (by rw [List.length_map, addR_len]; omega))) rfl)
    have e2 := putAdd (i := 2) (kd := dRd 5) (cd := d2 gMul (d2 gIx (dRd 0) (dRd 3)) (d2 gIx (dRd 1) (dRd 4))) (env := E8 P Q acc (vS (rowD r)) (vS (rowD k)) (vS (rowD kk)) a6 a7) (ds := ds) (p := acc) (k := kk) (c := c * v) rfl rfl (d2_eq (d2_eq (a := toD P) (b := rowD r) rfl rfl (ixP hP)) (d2_eq (a := toD Q) (b := rowD k) rfl rfl (ixP hQ.head)) (gMulL hc)) nd (by omega)
    have e3 : lmulBody (E8 P Q acc (vS (rowD r)) (vS (rowD k)) a5 a6 a7) ds = some (.nx (E8 P Q (addP acc kk (c * v)) (vS (rowD r)) (vS (rowD k)) (vS (rowD kk)) a6 a7), ds) := (dSeq_eq e1).trans ((dSeq_eq e2).trans rfl)
    exact (forLoop_cons (d := rowD k) rfl e3).trans ih
def lmulRow : DenS := dSeq (dFor (dItems (dVar 1)) (gNm 4) lmulBody) (dNx)
theorem lmul_out (P q : PR) (ndq : NdP q) (ds : DS) : ∀ (p acc : PR) (a3 a4 a5 a6 a7 : Option Sl), Has P p → SmallP p → (∀ e ∈ p, e.1.length ≤ 100000) → NdP acc → acc.length + p.length * q.length < 100000 →
    ∃ b3 b4 b5 b6 b7, forLoop (gNm 3) lmulRow (kysD p) (E8 P q acc a3 a4 a5 a6 a7) ds = some (.nx (E8 P q (accP acc (mulTs q p)) b3 b4 b5 b6 b7), ds)
  | [], acc, a3, a4, a5, a6, a7, _, _, _, _, _ => ⟨a3, a4, a5, a6, a7, rfl⟩
  | (r, c) :: p, acc, a3, a4, a5, a6, a7, hP, hs, hr, nd, hl => by
    simp only [List.length_cons, Nat.succ_mul] at hl
    obtain ⟨b4, b5, b6, b7, e⟩ := lmul_in P q r c hP.head (hs (r, c) (List.mem_cons_self ..)) (hr (r, c) (List.mem_cons_self ..)) ds q acc a4 a5 a6 a7 (has_self ndq) nd (by omega)
    obtain ⟨c3, c4, c5, c6, c7, e2⟩ := lmul_out P q ndq ds p (accP acc (mulT r c q)) (vS (rowD r)) b4 b5 b6 b7 hP.tail (fun e m => hs e (List.mem_cons_of_mem _ m)) (fun e m => hr e (List.mem_cons_of_mem _ m)) (nd_accP _ nd) (by have := accP_len (mulT r c q) acc; rw [mulT_len] at this; omega)
    refine ⟨c3, c4, c5, c6, c7, ?_⟩
    have e3 : lmulRow (E8 P q acc (vS (rowD r)) a4 a5 a6 a7) ds = some (.nx (E8 P q (accP acc (mulT r c q)) (vS (rowD r)) b4 b5 b6 b7), ds) :=
      (dSeq_eq ((dFor_eq (dItems_eq (a := toD q) rfl (keys_dP q))).trans e)).trans rfl
    rw [mulTs, accP_append]
    exact (forLoop_cons (d := rowD r) rfl e3).trans e2
theorem tr_lmul (p q : PR) (ndp : NdP p) (ndq : NdP q) (hs : SmallP p) (hr : ∀ e ∈ p, e.1.length ≤ 100000) (hl : p.length * q.length < 100000) : f__law_product [toD p, toD q] = some (toD (mulP p q)) := by
  obtain ⟨b3, b4, b5, b6, b7, e⟩ := lmul_out p q ndq ds0 p [] none none none none none (has_self ndp) hs hr List.nodup_nil (by simpa using hl)
  have e1 : dSet 2 true (dC (.dT [])) (envP 8 [toD p, toD q]) ds0 = some (.nx (E8 p q [] none none none none none), ds0) := rfl
  have e2 : dFor (dItems (dVar 0)) (gNm 3) lmulRow (E8 p q [] none none none none none) ds0 = _ := (dFor_eq (dItems_eq (a := toD p) rfl (keys_dP p))).trans e
  have hl2 : (accP [] (mulTs q p)).length ≤ 100000 := by
    have := accP_len (mulTs q p) []
    rw [mulTs_len] at this
    simp only [List.length_nil] at this
    omega
  have e3 : dFrz 2 (dRet (dCallP 1 f__law_kept (aCons (dVar 2) (aNil)))) (E8 p q (accP [] (mulTs q p)) b3 b4 b5 b6 b7) ds0 = some (.rt (toD (mulP p q)), ds0) :=
    dRet_eq (env := [vS (toD p), vS (toD q), vS (toD (accP [] (mulTs q p))), b3, b4, b5, b6, b7]) (dCallP_eq (as := [toD (accP [] (mulTs q p))]) rfl rfl (tr_kept _ (nd_accP _ List.nodup_nil) hl2))
  exact fnP_eq (b := d__law_product) ((dSeq_eq e1).trans ((dSeq_eq e2).trans (dSeq_rt e3)))
end L2.Dn
set_option Elab.async false
set_option linter.all false
set_option maxRecDepth 100000
/-! the sum of a sequence -/
namespace L2.Dn
open PySem PySem.Spec PyProof.Rows C8
theorem mem_putP : ∀ (p : PR) (k : List Int) (c : Int) (k2 : List Int), k2 ∈ kysP (putP p k c) ↔ k2 ∈ kysP p ∨ k2 = k
  | [], k, c, k2 => by simp [putP, kysP]
  | (k', v) :: r, k, c, k2 => by
    unfold putP
    rw [beqL_eq]
    by_cases h : k' = k
    · rw [decide_eq_true h]
      subst h
      simp only [kysP, List.map_cons, List.mem_cons]
      constructor
      · intro q; exact .inl q
      · rintro (q | q)
        · exact q
        · exact .inl q
    · rw [decide_eq_false h]
      have ih := mem_putP r k c k2
      simp only [kysP, List.map_cons, List.mem_cons] at ih ⊢
      rw [ih]
      constructor
      · rintro (q | q | q)
        · exact .inl (.inl q)
        · exact .inl (.inr q)
        · exact .inr q
      · rintro ((q | q) | q)
        · exact .inl q
        · exact .inr (.inl q)
        · exact .inr (.inr q)
theorem nd_putP : ∀ {p : PR} (k : List Int) (c : Int), NdP p → NdP (putP p k c)
  | [], k, c, _ => by simp [putP, kysP, NdP]
  | (k', v) :: r, k, c, h => by
    unfold putP
    rw [beqL_eq]
    have h' := List.nodup_cons.mp h
    by_cases e : k' = k
    · rw [decide_eq_true e]; exact h
    · rw [decide_eq_false e]
      refine List.nodup_cons.mpr ⟨fun m => ?_, nd_putP k c h'.2⟩
      rcases (mem_putP r k c k').mp m with q | q
      · exact h'.1 q
      · exact e q
theorem putP_len : ∀ (p : PR) (k : List Int) (c : Int), (putP p k c).length ≤ p.length + 1
  | [], k, c => by simp [putP]
  | (k', v) :: r, k, c => by
    unfold putP
    have := putP_len r k c
    split <;> simp <;> omega
def putsP (acc : PR) : PR → PR
  | [] => acc
  | (k, v) :: r => putsP (putP acc k v) r
def take5 : PR → PR
  | [] => []
  | (k, v) :: r => (k.take 5, v) :: take5 r
theorem take5_len : ∀ (p : PR), (take5 p).length = p.length
  | [] => rfl
  | (k, v) :: r => congrArg Nat.succ (take5_len r)
theorem nd_putsP : ∀ (q : PR) {acc : PR}, NdP acc → NdP (putsP acc q)
  | [], _, h => h
  | (k, v) :: q, _, h => nd_putsP q (nd_putP k v h)
theorem foldPutD_puts : ∀ (q acc : PR), NdP acc → foldPutD (dP q) (dP acc) = dP (putsP acc q)
  | [], acc, _ => rfl
  | (k, v) :: q, acc, nd => by
    show foldPutD (dP q) (putT (dP acc) (keyI k) (.int v)) = _
    rw [putT_dP acc k v nd, foldPutD_puts q _ (nd_putP k v nd)]
    rfl
theorem gDictP_puts (p : PR) : gDictP [.list (itsP p)] = some (toD (putsP [] p)) := by
  show (match pairsD? (itsP p) with | some l => some (D.dT (foldPutD l [])) | none => none) = _
  rw [pairs_its]
  show some (D.dT (foldPutD (dP p) (dP []))) = _
  rw [foldPutD_puts p [] List.nodup_nil]
theorem cutD_take (r : List Int) (n : Nat) : cutD (r.map D.int) none (some (n : Int)) = (r.take n).map D.int := by
  unfold cutD
  rw [HT.sIx_nat, HT.sIx_none, List.drop_zero, List.length_map, Nat.sub_zero, List.map_take]
  by_cases h : n ≤ r.length
  · congr 1
    omega
  · rw [List.take_of_length_le (by simp; omega), List.take_of_length_le (by simp; omega)]
theorem proj_loop (a0 a1 a2 a3 a4 a5 : Option Sl) (s : DS) : ∀ (p acc : PR), NdP acc → acc.length + p.length < 100000 →
    dcLoop (gPair 6 7) tYesD (dSl (dRd 6) none (some (dC (.int 5)))) (dVar 7) [a0, a1, a2, a3, a4, a5, none, none] (itsP p) s (dP acc) = some (dP (putsP acc (take5 p)), s)
  | [], acc, _, _ => rfl
  | (k, v) :: p, acc, nd, hl => by
    simp only [List.length_cons] at hl
    have e1 : dSl (dRd 6) none (some (dC (.int 5))) [a0, a1, a2, a3, a4, a5, vS (rowD k), vS (.int v)] s = some (.tuple (cutD (k.map D.int) none (some (5 : Nat))), s) := rfl
    rw [cutD_take] at e1
    show dcLoop _ _ _ _ _ (.tuple [rowD k, .int v] :: itsP p) s (dP acc) = _
    rw [dcLoop_t (env' := [a0, a1, a2, a3, a4, a5, vS (rowD k), vS (.int v)]) (s1 := s) rfl rfl e1 (v := .int v) (s3 := s) rfl (keyOf_row _) (by unfold dP; rw [List.length_map]; omega), putT_dP acc _ v nd]
    exact proj_loop a0 a1 a2 a3 a4 a5 s p _ (nd_putP _ _ nd) (by have := putP_len acc (k.take 5) v; omega)
/-! checked cuts -/
def rowsOk (i : Nat) : PR → Bool
  | [] => true
  | (r, _) :: p => (match decide (i < r.length) with
    | true => (match decide (r.length < 1000) with
      | true => rowsOk i p
      | false => false)
    | false => false)
theorem rowsOk_ok {i : Nat} : ∀ {p : PR}, rowsOk i p = true → RowsOk i p
  | [], _, e, m => nomatch m
  | (r, c) :: p, h, e, m => by
    unfold rowsOk at h
    split at h
    · rename_i h1
      split at h
      · rename_i h2
        rcases List.mem_cons.mp m with q | q
        · subst q
          exact ⟨of_decide_eq_true h1, of_decide_eq_true h2⟩
        · exact rowsOk_ok h e q
      · cases h
    · cases h
def cutC (p : PR) (i : Nat) : Option PR := match decide (1 ≤ i) && rowsOk i p && decide ((cutTs i p).length < 100000) with
  | true => some (cutP p i)
  | false => none
theorem cutC_ok {p q : PR} {i : Nat} (h : cutC p i = some q) : q = cutP p i ∧ f_cut_by [toD p, .int i] = some (toD q) := by
  unfold cutC at h
  split at h
  · rename_i e
    cases h
    simp only [Bool.and_eq_true, decide_eq_true_eq] at e
    exact ⟨rfl, tr_cut p i e.1.1 (rowsOk_ok e.1.2) e.2⟩
  · cases h
def cutsC (p : PR) : List Nat → Option PR
  | [] => some p
  | i :: l => (match cutC p i with
    | some q => cutsC q l
    | none => none)
theorem nd_cutP (p : PR) (i : Nat) : NdP (cutP p i) := nd_keepP (nd_accP _ List.nodup_nil)
theorem nd_cutsC : ∀ {l : List Nat} {p q : PR}, NdP p → cutsC p l = some q → NdP q
  | [], p, q, nd, h => by cases h; exact nd
  | i :: l, p, q, nd, h => by
    unfold cutsC at h
    split at h
    · rename_i p' e
      obtain ⟨rfl, _⟩ := cutC_ok e
      exact nd_cutsC (nd_cutP p i) h
    · cases h
theorem nd_lcutP (p : PR) (i : Nat) : NdP (lcutP p i) := nd_keepP (nd_accP _ List.nodup_nil)
def lcutC (p : PR) (i : Nat) : Option PR := match decide (1 ≤ i) && rowsOk i p && decide ((lcutTs i p).length < 100000) with
  | true => some (lcutP p i)
  | false => none
theorem lcutC_ok {p q : PR} {i : Nat} (nd : NdP p) (h : lcutC p i = some q) : q = lcutP p i ∧ f__law_cut [toD p, .int i] = some (toD q) := by
  unfold lcutC at h
  split at h
  · rename_i e
    cases h
    simp only [Bool.and_eq_true, decide_eq_true_eq] at e
    exact ⟨rfl, tr_lcut p i nd e.1.1 (rowsOk_ok e.1.2) e.2⟩
  · cases h
def lcutsC (p : PR) : List Nat → Option PR
  | [] => some p
  | i :: l => (match lcutC p i with
    | some q => lcutsC q l
    | none => none)
theorem nd_lcutsC : ∀ {l : List Nat} {p q : PR}, NdP p → lcutsC p l = some q → NdP q
  | [], p, q, nd, h => by cases h; exact nd
  | i :: l, p, q, nd, h => by
    unfold lcutsC at h
    split at h
    · rename_i p' e
      obtain ⟨rfl, _⟩ := lcutC_ok nd e
      exact nd_lcutsC (nd_lcutP p i) h
    · cases h
/-! sum_by: its road, then the cuts -/
def sumA : DenS := dPar3 1 2 3 false false true (dB gLen (aCons (dRd 0) (aNil))) (dVar 0) (dLst (aNil))
def sumW : DenS := whLoop (dTest (d2 gNeU (dRd 2) (dTupI (dRg3 (dRd 1) (dC (.int 0)))))) (dSeq (dSet 4 false (d2 gIx (dLc (dRg2 (dC (.int 1)) (dRd 1)) [4] (gNm 4) (dTest (d2 gLt (d2 gIx (dRd 2) (d2 gSub (dRd 4) (dC (.int 1)))) (d2 gIx (dRd 2) (dRd 4)))) (dVar 4)) (dC (.int 0)))) (dSeq (dSet 2 false (dCallP 2 f_swapped (aCons (dVar 2) (aCons (dVar 4) (aNil))))) (dSeq (dApp 3 (dVar 4)) (dNx)))) 1000
def sumI : DenS := dSet 5 false (dDisp1 (dB gTupS (aCons (dLc (dRg2 (dC (.int 1)) (d2 gAdd (dC (.int 5)) (dC (.int 2)))) [4] (gNm 4) (tYesD) (dB gMax2 (aCons (d2 gSub (dRd 1) (dRd 4)) (aCons (dC (.int 0)) (aNil))))) (aNil))) (dC (.int 1)))
def sumB : DenS := dSeq (dSet 5 false (dCallP 2 f_cut_by (aCons (dVar 5) (aCons (dVar 4) (aNil))))) (dNx)
def sumF : DenS := dFor (dItems (d1 gRevL (dRd 3))) (gNm 4) sumB
def sumE : DenS := dRet (dDc (dIt itemsD (dVar 5)) [6, 7] (gPair 6 7) (tYesD) (dSl (dRd 6) none (some (dC (.int 5)))) (dVar 7))
theorem sum_den : d_sum_by = dSeq sumA (dSeq sumW (dSeq sumI (dSeq sumF (dSeq sumE dNx)))) := rfl
def nats? : List D → Option (List Nat)
  | [] => some []
  | .int i :: r => (match decide (0 ≤ i) with
    | true => (match nats? r with
      | some l => some (i.toNat :: l)
      | none => none)
    | false => none)
  | _ => none
abbrev natD (l : List Nat) : List D := l.map fun (n : Nat) => D.int (n : Int)
theorem nats_eq : ∀ {xs : List D} {l : List Nat}, nats? xs = some l → xs = natD l
  | [], _, h => by cases h; rfl
  | .int i :: r, l, h => by
    unfold nats? at h
    split at h
    · rename_i h1
      split at h
      · rename_i l' e
        cases h
        rw [nats_eq e]
        show D.int i :: natD l' = D.int ((i.toNat : Nat) : Int) :: natD l'
        rw [Int.toNat_of_nonneg (of_decide_eq_true h1)]
      · cases h
    · cases h
  | .none :: _, _, h => by simp [nats?] at h
  | .bool _ :: _, _, h => by simp [nats?] at h
  | .str _ :: _, _, h => by simp [nats?] at h
  | .list _ :: _, _, h => by simp [nats?] at h
  | .tuple _ :: _, _, h => by simp [nats?] at h
  | .ptup _ :: _, _, h => by simp [nats?] at h
  | .dT _ :: _, _, h => by simp [nats?] at h
  | .dK _ :: _, _, h => by simp [nats?] at h
def prjR : Option (Out × DS) → Option (Int × List Nat)
  | some (.nx [_, some (.val (.int m)), _, some (.own (.list xs)), _, _, none, none], _) => (match nats? xs with
    | some l => some (m, l)
    | none => none)
  | _ => none
theorem prjR_eq {o : Option (Out × DS)} {m : Int} {l : List Nat} (h : prjR o = some (m, l)) : ∃ a0 a2 a4 a5 s, o = some (.nx [a0, vS (.int m), a2, some (.own (.list (natD l))), a4, a5, none, none], s) := by
  unfold prjR at h
  split at h
  · split at h
    · rename_i e
      cases h
      rw [nats_eq e]
      exact ⟨_, _, _, _, _, rfl⟩
    · cases h
  · cases h
def roadR (s : D) : Option (Int × List Nat) := prjR (dSeq sumA sumW (envP 8 [s]) ds0)
def rowI (m : Int) : List Int := [mx (m - 1) 0, mx (m - 2) 0, mx (m - 3) 0, mx (m - 4) 0, mx (m - 5) 0, mx (m - 6) 0]
theorem sumF_loop (a0 a1 a2 a3 : Option Sl) (s : DS) : ∀ (l : List Nat) (p q : PR) (a4 : Option Sl), cutsC p l = some q → ∃ b4, forLoop (gNm 4) sumB (natD l) [a0, a1, a2, a3, a4, vS (toD p), none, none] s = some (.nx [a0, a1, a2, a3, b4, vS (toD q), none, none], s)
  | [], p, q, a4, h => by
    cases h
    exact ⟨a4, rfl⟩
  | i :: l, p, q, a4, h => by
    unfold cutsC at h
    split at h
    · rename_i p' e
      obtain ⟨_, e1⟩ := cutC_ok e
      obtain ⟨b4, e2⟩ := sumF_loop a0 a1 a2 a3 s l p' q (vS (.int i)) h
      refine ⟨b4, ?_⟩
      have e3 : dSet 5 false (dCallP 2 f_cut_by (aCons (dVar 5) (aCons (dVar 4) (aNil)))) [a0, a1, a2, a3, vS (.int i), vS (toD p), none, none] s = some (.nx [a0, a1, a2, a3, vS (.int i), vS (toD p'), none, none], s) :=
        dSet_eq (i := 5) (k := false) (env := [a0, a1, a2, a3, vS (.int i), vS (toD p), none, none]) (dCallP_eq (as := [toD p, .int i]) rfl rfl e1)
      exact (forLoop_cons (d := .int i) (env' := [a0, a1, a2, a3, vS (.int i), vS (toD p), none, none]) rfl ((dSeq_eq e3).trans rfl)).trans e2
    · cases h
def sumC (m : Int) (road : List Nat) : Option PR := match cutsC [(rowI m, 1)] road.reverse with
  | some q => (match decide (q.length < 100000) with
    | true => some (putsP [] (take5 q))
    | false => none)
  | none => none
theorem dSeq_assoc {f g h : DenS} {env e : En} {ds s : DS} (h1 : dSeq f g env ds = some (.nx e, s)) : dSeq f (dSeq g h) env ds = h e s := by
  unfold dSeq at h1 ⊢
  cases hf : f env ds with
  | none => rw [hf] at h1; cases h1
  | some p =>
    obtain ⟨o, s1⟩ := p
    rw [hf] at h1
    cases o with
    | nx e1 =>
      dsimp only at h1 ⊢
      rw [h1]
    | _ => cases h1
theorem tr_sum {s : D} {m : Int} {road : List Nat} {q : PR} (h1 : roadR s = some (m, road)) (h2 : sumC m road = some q) : f_sum_by [s] = some (toD q) := by
  obtain ⟨a0, a2, a4, a5, s1, e1⟩ := prjR_eq h1
  unfold sumC at h2
  split at h2
  · rename_i r er
    split at h2
    · rename_i hl
      cases h2
      have hl := of_decide_eq_true hl
      let env1 : En := [a0, vS (.int m), a2, some (.own (.list (natD road))), a4, a5, none, none]
      have e2 : sumI env1 s1 = some (.nx [a0, vS (.int m), a2, some (.own (.list (natD road))), a4, vS (toD [(rowI m, 1)]), none, none], s1) := rfl
      obtain ⟨b4, e3⟩ := sumF_loop a0 (vS (.int m)) a2 (some (.own (.list (natD road)))) s1 road.reverse [(rowI m, 1)] r a4 er
      have e4 : sumF [a0, vS (.int m), a2, some (.own (.list (natD road))), a4, vS (toD [(rowI m, 1)]), none, none] s1 = some (.nx [a0, vS (.int m), a2, some (.own (.list (natD road))), b4, vS (toD r), none, none], s1) := by
        refine (dFor_eq (s := s1) (items := (natD road).reverse) (dItems_eq (a := .list (natD road).reverse) rfl rfl)).trans ?_
        unfold natD
        rw [← List.map_reverse]
        exact e3
      have e5 : sumE [a0, vS (.int m), a2, some (.own (.list (natD road))), b4, vS (toD r), none, none] s1 = some (.rt (toD (putsP [] (take5 r))), s1) :=
        dRet_eq (dDc_eq (dIt_eq (a := toD r) rfl (items_dP r)) (proj_loop a0 (vS (.int m)) a2 (some (.own (.list (natD road)))) b4 (vS (toD r)) s1 r [] List.nodup_nil (by simpa using hl)))
      refine fnP_eq (b := d_sum_by) (s := s1) ?_
      show d_sum_by (envP 8 [s]) ds0 = _
      rw [sum_den, dSeq_assoc e1, dSeq_eq e2, dSeq_eq e4]
      exact dSeq_rt e5
    · cases h2
  · cases h2
end L2.Dn
set_option Elab.async false
set_option linter.all false
set_option maxRecDepth 100000
/-! tests and equality of polynomials, the last row, tellings -/
namespace L2.Dn
open PySem PySem.Spec PyProof.Rows C8
def rowL (m : Int) : List Int := [mx 0 (m - 1), mx 0 (m - 2), mx 0 (m - 3), mx 0 (m - 4), mx 0 (m - 5), mx 0 (m - 6)]
/-! the law's sum -/
def lsA : DenS := dAsg (dTup (aCons (dVar 0) (aCons (dLst (aNil)) (aNil)))) (gTp (gsCons (gNm 1) (gsCons (gNm 2) (gsNil))))
def lsW : DenS := whLoop (dTest (d2 gNeU (dLc (dRg2 (dC (.int 1)) (dB gLen (aCons (dRd 1) (aNil)))) [3] (gNm 3) (dTest (d2 gLt (d2 gIx (dRd 1) (d2 gSub (dRd 3) (dC (.int 1)))) (d2 gIx (dRd 1) (dRd 3)))) (dVar 3)) (dLst (aNil)))) (dSeq (dSet 3 false (d2 gIx (dLc (dRg2 (dC (.int 1)) (dB gLen (aCons (dRd 1) (aNil)))) [3] (gNm 3) (dTest (d2 gLt (d2 gIx (dRd 1) (d2 gSub (dRd 3) (dC (.int 1)))) (d2 gIx (dRd 1) (dRd 3)))) (dVar 3)) (dC (.int 0)))) (dSeq (dAsg (dTup (aCons (dCallP 2 f__law_swapped (aCons (dVar 1) (aCons (dVar 3) (aNil)))) (aCons (d2 gCat (dLst (aCons (dVar 3) (aNil))) (dRd 2)) (aNil)))) (gTp (gsCons (gNm 1) (gsCons (gNm 2) (gsNil))))) (dNx))) 1000
def lsI : DenS := dSet 4 false (dDisp1 (dB gTupS (aCons (dLc (dRg2 (dC (.int 1)) (dC (.int 7))) [3] (gNm 3) (tYesD) (dB gMax2 (aCons (dC (.int 0)) (aCons (d2 gSub (dB gLen (aCons (dRd 0) (aNil))) (dRd 3)) (aNil))))) (aNil))) (dC (.int 1)))
def lsB : DenS := dSeq (dSet 4 false (dCallP 2 f__law_cut (aCons (dVar 4) (aCons (dVar 3) (aNil))))) (dNx)
def lsF : DenS := dFor (dItems (dVar 2)) (gNm 3) lsB
def lsE : DenS := dRet (dB gDictP (aCons (dLc (dItems (dVar 4)) [5] (gNm 5) (tYesD) (dTup (aCons (dSl (dRd 5) none (some (dC (.int 5)))) (aCons (d2 gIx (dRd 4) (dRd 5)) (aNil))))) (aNil)))
theorem lsum_den : d__law_sum = dSeq lsA (dSeq lsW (dSeq lsI (dSeq lsF (dSeq lsE dNx)))) := rfl
def prjL : Option (Out × DS) → Option (Nat × List Nat)
  | some (.nx [some (.val d), _, some (.val (.list xs)), _, _, none], _) => (match tupD? d with
    | some ys => (match nats? xs with
      | some l => some (ys.length, l)
      | none => none)
    | none => none)
  | _ => none
theorem prjL_eq {o : Option (Out × DS)} {m : Nat} {l : List Nat} (h : prjL o = some (m, l)) : ∃ d ys a1 a3 a4 s, tupD? d = some ys ∧ ys.length = m ∧ o = some (.nx [vS d, a1, vS (.list (natD l)), a3, a4, none], s) := by
  unfold prjL at h
  split at h
  · split at h
    · rename_i hd
      split at h
      · rename_i e
        cases h
        rw [nats_eq e]
        exact ⟨_, _, _, _, _, _, hd, rfl, rfl⟩
      · cases h
    · cases h
  · cases h
def roadL (s : D) : Option (Nat × List Nat) := prjL (dSeq lsA lsW (envP 6 [s]) ds0)
theorem lsF_loop (a0 a1 a2 : Option Sl) (s : DS) : ∀ (l : List Nat) (p q : PR) (a3 : Option Sl), NdP p → lcutsC p l = some q → ∃ b3, forLoop (gNm 3) lsB (natD l) [a0, a1, a2, a3, vS (toD p), none] s = some (.nx [a0, a1, a2, b3, vS (toD q), none], s)
  | [], p, q, a3, _, h => by
    cases h
    exact ⟨a3, rfl⟩
  | i :: l, p, q, a3, nd, h => by
    unfold lcutsC at h
    split at h
    · rename_i p' e
      obtain ⟨e0, e1⟩ := lcutC_ok nd e
      obtain ⟨b3, e2⟩ := lsF_loop a0 a1 a2 s l p' q (vS (.int i)) (by rw [e0]; exact nd_lcutP p i) h
      refine ⟨b3, ?_⟩
      have e3 : dSet 4 false (dCallP 2 f__law_cut (aCons (dVar 4) (aCons (dVar 3) (aNil)))) [a0, a1, a2, vS (.int i), vS (toD p), none] s = some (.nx [a0, a1, a2, vS (.int i), vS (toD p'), none], s) :=
        dSet_eq (i := 4) (k := false) (env := [a0, a1, a2, vS (.int i), vS (toD p), none]) (dCallP_eq (as := [toD p, .int i]) rfl rfl e1)
      exact (forLoop_cons (d := .int i) (env' := [a0, a1, a2, vS (.int i), vS (toD p), none]) rfl ((dSeq_eq e3).trans rfl)).trans e2
    · cases h
theorem lproj_loop (a0 a1 a2 a3 : Option Sl) (P : PR) (s : DS) : ∀ (p : PR), Has P p → lcLoop (gNm 5) tYesD (dTup (aCons (dSl (dRd 5) none (some (dC (.int 5)))) (aCons (d2 gIx (dRd 4) (dRd 5)) (aNil)))) [a0, a1, a2, a3, vS (toD P), none] (kysD p) s = some (itsP (take5 p), s)
  | [], _ => rfl
  | (k, v) :: p, h => by
    have ih := lproj_loop a0 a1 a2 a3 P s p h.tail
    have e1 : dSl (dRd 5) none (some (dC (.int 5))) [a0, a1, a2, a3, vS (toD P), vS (rowD k)] s = some (.tuple (cutD (k.map D.int) none (some (5 : Nat))), s) := rfl
    rw [cutD_take] at e1
    have e2 : d2 gIx (dRd 4) (dRd 5) [a0, a1, a2, a3, vS (toD P), vS (rowD k)] s = some (.int v, s) := d2_eq (a := toD P) (b := rowD k) rfl rfl (ixP h.head)
    refine lc_t (env' := [a0, a1, a2, a3, vS (toD P), vS (rowD k)]) (s := s) rfl rfl (y := .tuple [rowD (k.take 5), .int v]) (s1 := s) ?_ ih
    unfold dTup
    rw [aCons_eq e1 (aCons1 e2)]
    rfl
def lsumC (m : Nat) (road : List Nat) : Option PR := match lcutsC [(rowL m, 1)] road with
  | some q => (match decide (q.length < 100000) with
    | true => some (putsP [] (take5 q))
    | false => none)
  | none => none
theorem tr_lsum {s : D} {m : Nat} {road : List Nat} {q : PR} (h1 : roadL s = some (m, road)) (h2 : lsumC m road = some q) : f__law_sum [s] = some (toD q) := by
  obtain ⟨d, ys, a1, a3, a4, s1, hd, el, e1⟩ := prjL_eq h1
  subst el
  unfold lsumC at h2
  split at h2
  · rename_i r er
    split at h2
    · rename_i hl
      cases h2
      have hl := of_decide_eq_true hl
      have e2 : lsI [vS d, a1, vS (.list (natD road)), a3, a4, none] s1 = some (.nx [vS d, a1, vS (.list (natD road)), a3, vS (toD [(rowL (ys.length : Nat), 1)]), none], s1) := by
        cases d with
        | tuple xs => cases hd; rfl
        | ptup xs => cases hd; rfl
        | _ => cases hd
      have nd0 : NdP [(rowL (ys.length : Nat), (1 : Int))] := List.nodup_cons.mpr ⟨by simp, List.nodup_nil⟩
      obtain ⟨b3, e3⟩ := lsF_loop (vS d) a1 (vS (.list (natD road))) s1 road [(rowL (ys.length : Nat), 1)] r a3 nd0 er
      have e4 : lsF [vS d, a1, vS (.list (natD road)), a3, vS (toD [(rowL (ys.length : Nat), 1)]), none] s1 = some (.nx [vS d, a1, vS (.list (natD road)), b3, vS (toD r), none], s1) :=
        (dFor_eq (s := s1) (items := natD road) (dItems_eq (a := .list (natD road)) rfl rfl)).trans e3
      have ndr := nd_lcutsC nd0 er
      have e5 : lsE [vS d, a1, vS (.list (natD road)), b3, vS (toD r), none] s1 = some (.rt (toD (putsP [] (take5 r))), s1) :=
        dRet_eq (dB_eq (as := [.list (itsP (take5 r))]) (aCons1 (dLc_eq (dItems_eq (a := toD r) rfl (keys_dP r)) (lproj_loop _ _ _ _ r s1 r (has_self ndr)) (by rw [List.length_map, take5_len]; omega))) (gDictP_puts _))
      refine fnP_eq (b := d__law_sum) (s := s1) ?_
      show d__law_sum (envP 6 [s]) ds0 = _
      rw [lsum_den, dSeq_assoc e1, dSeq_eq e2, dSeq_eq e4]
      exact dSeq_rt e5
    · cases h2
  · cases h2
/-! is_polynomial_of -/
def expOk (x : Int) : Bool := match decide (0 ≤ x) with
  | true => decide (x ≤ 60)
  | false => false
def allE : List Int → Bool
  | [] => true
  | x :: r => (match expOk x with
    | true => allE r
    | false => false)
theorem exps_loop (a0 : Option Sl) (s : DS) : ∀ (r : List Int), allE r = true → lcLoop (gNm 1) tYesD (dAnd (dCallP 1 f_is_number (aCons (dVar 1) (aNil))) (d3 gLe gLe (dC (.int 0)) (dRd 1) (dC (.int 60)))) [a0, none] (r.map D.int) s = some (r.map fun _ => .bool true, s)
  | [], _ => rfl
  | x :: r, h => by
    unfold allE at h
    split at h
    · rename_i hx
      have ih := exps_loop a0 s r h
      refine lc_t (env' := [a0, vS (.int x)]) (s := s) (s1 := s) (y := .bool true) rfl rfl ?_ ih
      unfold expOk at hx
      split at hx
      · rename_i h0
        have e1 : dCallP 1 f_is_number (aCons (dVar 1) (aNil)) [a0, vS (.int x)] s = some (.bool true, s) := rfl
        unfold dAnd
        rw [e1]
        show d3 gLe gLe (dC (.int 0)) (dRd 1) (dC (.int 60)) [a0, vS (.int x)] s = _
        show (match (some (D.bool (decide (0 ≤ x))) : Option D) with | some (.bool true) => bnd (dC (.int 60) [a0, vS (.int x)] s) fun c s2 => op1 (gLe (.int x) c) s2 | some (.bool false) => some (.bool false, s) | _ => none) = _
        rw [h0]
        show some (D.bool (decide (x ≤ 60)), s) = _
        rw [hx]
      · cases hx
    · cases h
theorem bools_true {α : Type} (r : List α) : bools? (r.map fun _ => D.bool true) = some (r.map fun _ => true) := by
  induction r with
  | nil => rfl
  | cons a r ih =>
    show (bools? (r.map fun _ => D.bool true)).map (true :: ·) = _
    rw [ih]
    rfl
theorem gAll_true {α : Type} (r : List α) : gAll [.list (r.map fun _ => D.bool true)] = some (.bool true) := by
  show (match bools? (r.map fun _ => D.bool true) with | some bs => some (D.bool (bs.all id)) | none => none) = _
  rw [bools_true]
  show some (D.bool _) = _
  congr 2
  rw [List.all_eq_true]
  intro x hx
  obtain ⟨_, _, rfl⟩ := List.mem_map.mp hx
  rfl
theorem dIfS_f' {t : DenT} {f g : DenS} {env : En} {ds s : DS} (h : t env ds = some (false, s)) : dIfS t f g env ds = g env s := dIfS_f h
theorem tr_exps (r : List Int) (h1 : r.length = 5) (h2 : allE r = true) : f_are_exponents [rowD r] = some (.bool true) := by
  have e0 : tOrD (tNotD (dTest (dIsi .tuple (dRd 0)))) (dTest (d2 gNeU (dB gLen (aCons (dRd 0) (aNil))) (dC (.int 5)))) [vS (rowD r), none] ds0 = some (false, ds0) := by
    have q : dTest (d2 gNeU (dB gLen (aCons (dRd 0) (aNil))) (dC (.int 5))) [vS (rowD r), none] ds0 = some (!decide (((r.map D.int).length : Int) = 5), ds0) := rfl
    rw [List.length_map, h1] at q
    show dTest (d2 gNeU (dB gLen (aCons (dRd 0) (aNil))) (dC (.int 5))) [vS (rowD r), none] ds0 = _
    rw [q]
    rfl
  have e1 : dRet (dB gAll (aCons (dLc (dItems (dVar 0)) [1] (gNm 1) (tYesD) (dAnd (dCallP 1 f_is_number (aCons (dVar 1) (aNil))) (d3 gLe gLe (dC (.int 0)) (dRd 1) (dC (.int 60))))) (aNil))) [vS (rowD r), none] ds0 = some (.rt (.bool true), ds0) :=
    dRet_eq (dB_eq (as := [.list (r.map fun _ => .bool true)]) (aCons1 (dLc_eq (dItems_eq (a := rowD r) rfl rfl) (exps_loop (vS (rowD r)) ds0 r h2) (by rw [List.length_map]; omega))) (gAll_true r))
  exact fnP_eq (b := d_are_exponents) ((dSeq_eq ((dIfS_f e0).trans rfl)).trans (dSeq_rt e1))
def polyOk : PR → Bool
  | [] => true
  | (r, v) :: p => (match decide (r.length = 5) with
    | true => (match allE r with
      | true => (match decide (v = 0) with
        | true => false
        | false => polyOk p)
      | false => false)
    | false => false)
theorem polyOk_cons {r : List Int} {v : Int} {p : PR} (h : polyOk ((r, v) :: p) = true) : r.length = 5 ∧ allE r = true ∧ v ≠ 0 ∧ polyOk p = true := by
  unfold polyOk at h
  split at h
  · rename_i h1
    split at h
    · rename_i h2
      split at h
      · cases h
      · rename_i h3
        exact ⟨of_decide_eq_true h1, h2, of_decide_eq_false h3, h⟩
    · cases h
  · cases h
theorem pol_loop1 (a0 a2 : Option Sl) (s : DS) : ∀ (p : PR), polyOk p = true → lcLoop (gNm 1) tYesD (dCallP 1 f_are_exponents (aCons (dVar 1) (aNil))) [a0, none, a2] (kysD p) s = some (p.map fun _ => .bool true, s)
  | [], _ => rfl
  | (r, v) :: p, h => by
    obtain ⟨h1, h2, _, h4⟩ := polyOk_cons h
    exact lc_t (env' := [a0, vS (rowD r), a2]) (s := s) (s1 := s) (y := .bool true) rfl rfl (dCallP_eq (as := [rowD r]) rfl rfl (tr_exps r h1 h2)) (pol_loop1 a0 a2 s p h4)
theorem pol_loop2 (a0 a1 : Option Sl) (s : DS) : ∀ (p : PR), polyOk p = true → lcLoop (gNm 2) tYesD (dAnd (dCallP 1 f_is_number (aCons (dVar 2) (aNil))) (d2 gNeU (dRd 2) (dC (.int 0)))) [a0, a1, none] (p.map fun e => .int e.2) s = some (p.map fun _ => .bool true, s)
  | [], _ => rfl
  | (r, v) :: p, h => by
    obtain ⟨_, _, h3, h4⟩ := polyOk_cons h
    refine lc_t (env' := [a0, a1, vS (.int v)]) (s := s) (s1 := s) (y := .bool true) rfl rfl ?_ (pol_loop2 a0 a1 s p h4)
    show some (D.bool (!decide (v = 0)), s) = _
    rw [decide_eq_false h3]
    rfl
theorem vals_dP (p : PR) : valsD (toD p) = some (p.map fun e => .int e.2) := by
  show some ((dP p).map (·.2)) = _
  unfold dP
  rw [List.map_map]
  rfl
theorem tr_pol (p : PR) (h : polyOk p = true) (hl : p.length ≤ 100000) : f_is_polynomial_of [toD p] = some (.bool true) := by
  have e0 : dB gAll (aCons (dLc (dItems (dVar 0)) [1] (gNm 1) (tYesD) (dCallP 1 f_are_exponents (aCons (dVar 1) (aNil)))) (aNil)) [vS (toD p), none, none] ds0 = some (.bool true, ds0) :=
    dB_eq (as := [.list (p.map fun _ => .bool true)]) (aCons1 (dLc_eq (dItems_eq (a := toD p) rfl (keys_dP p)) (pol_loop1 (vS (toD p)) none ds0 p h) (by rw [List.length_map]; exact hl))) (gAll_true p)
  have e1 : tOrD (tNotD (dTest (dIsi .dict (dRd 0)))) (tNotD (dTest (dB gAll (aCons (dLc (dItems (dVar 0)) [1] (gNm 1) (tYesD) (dCallP 1 f_are_exponents (aCons (dVar 1) (aNil)))) (aNil))))) [vS (toD p), none, none] ds0 = some (false, ds0) := by
    show tNotD (dTest (dB gAll (aCons (dLc (dItems (dVar 0)) [1] (gNm 1) (tYesD) (dCallP 1 f_are_exponents (aCons (dVar 1) (aNil)))) (aNil)))) [vS (toD p), none, none] ds0 = _
    unfold tNotD
    rw [dTest_of e0]
    rfl
  have e2 : dRet (dB gAll (aCons (dLc (dIt valsD (dVar 0)) [2] (gNm 2) (tYesD) (dAnd (dCallP 1 f_is_number (aCons (dVar 2) (aNil))) (d2 gNeU (dRd 2) (dC (.int 0))))) (aNil))) [vS (toD p), none, none] ds0 = some (.rt (.bool true), ds0) :=
    dRet_eq (dB_eq (as := [.list (p.map fun _ => .bool true)]) (aCons1 (dLc_eq (dIt_eq (a := toD p) rfl (vals_dP p)) (pol_loop2 (vS (toD p)) none ds0 p h) (by rw [List.length_map]; exact hl))) (gAll_true p))
  exact fnP_eq (b := d_is_polynomial_of) ((dSeq_eq ((dIfS_f e1).trans rfl)).trans (dSeq_rt e2))
/-! equality -/
def eqEntP (q : PR) : PR → Bool
  | [] => true
  | (k, v) :: r => (match lookP q k with
    | none => false
    | some j => v == j && eqEntP q r)
def eqP (p q : PR) : Bool := match Nat.beq p.length q.length with
  | false => false
  | true => eqEntP q p
theorem eqEnt_dP (q : PR) : ∀ (p : PR), eqEnt (dP q) (dP p) = some (eqEntP q p)
  | [] => rfl
  | (k, v) :: r => by
    show (match lookT (dP q) (keyI k) with | none => some false | some (.int j) => (match eqEnt (dP q) (dP r) with | some b => some ((v == j) && b) | none => none) | some _ => none) = _
    rw [lookT_dP, eqEnt_dP q r]
    show _ = some (match lookP q k with | none => false | some j => v == j && eqEntP q r)
    cases lookP q k with
    | none => rfl
    | some j => rfl
theorem eqDT_dP (p q : PR) : eqDT (dP p) (dP q) = some (eqP p q) := by
  unfold eqDT eqP
  rw [eqEnt_dP]
  unfold dP
  rw [List.length_map, List.length_map]
  cases Nat.beq p.length q.length <;> rfl
theorem gNeU_P (p q : PR) : gNeU (toD p) (toD q) = some (.bool (!eqP p q)) := by
  show (match eqDT (dP p) (dP q) with | some b => some (D.bool (xor true b)) | none => none) = _
  rw [eqDT_dP]
  cases eqP p q <;> rfl
theorem gEqU_P (p q : PR) : gEqU (toD p) (toD q) = some (.bool (eqP p q)) := by
  show (match eqDT (dP p) (dP q) with | some b => some (D.bool (xor false b)) | none => none) = _
  rw [eqDT_dP]
  cases eqP p q <;> rfl
/-! the last row -/
def lastG (k rk : List Int) : PR → List Int
  | [] => k
  | (k', _) :: r => (match gtI k'.reverse rk with
    | true => lastG k' k'.reverse r
    | false => lastG k rk r)
abbrev revs (p : PR) : List (List Key × List Int) := p.map fun (e : List Int × Int) => (keyI e.1, e.1.reverse)
def lastP : PR → List Int
  | [] => []
  | (k, _) :: r => lastG k k.reverse r
theorem ints_map : ∀ (l : List Int), ints? (l.map D.int) = some l
  | [] => rfl
  | x :: l => by
    show (ints? (l.map D.int)).map (x :: ·) = _
    rw [ints_map l]
    rfl
theorem maxL_dP : ∀ (p : PR) (k rk : List Int), maxL (keyI k) rk (revs p) = keyI (lastG k rk p)
  | [], k, rk => rfl
  | (k', v) :: r, k, rk => by
    show (match gtI k'.reverse rk with | true => maxL (keyI k') k'.reverse (revs r) | false => maxL (keyI k) rk (revs r)) = _
    unfold lastG
    cases gtI k'.reverse rk with
    | true => exact maxL_dP r k' k'.reverse
    | false => exact maxL_dP r k rk
/-! tellings -/
theorem wh_step {c : DenT} {f : DenS} {n : Nat} {env e : En} {ds s s1 : DS} (h1 : c env ds = some (true, s)) (h2 : f env s = some (.nx e, s1)) : whLoop c f (n + 1) env ds = whLoop c f n e s1 := by
  rw [whLoop, h1]
  unfold bnd
  dsimp only
  rw [h2]
theorem wh_stop {c : DenT} {f : DenS} {n : Nat} {env : En} {ds s : DS} (h1 : c env ds = some (false, s)) : whLoop c f (n + 1) env ds = some (.nx env, s) := by
  rw [whLoop, h1]
  rfl
theorem putAt {i : Nat} {kd vd : Den} {env : En} {ds : DS} {p : PR} {k : List Int} {c : Int} (hi : env[i]? = some (some (.own (toD p)))) (hk : kd env ds = some (rowD k, ds)) (hc : vd env ds = some (.int c, ds)) (nd : NdP p) (hl : p.length < 100000) :
    dPut i vd kd env ds = some (.nx (env.set i (some (.own (toD (putP p k c))))), ds) := by
  unfold dPut
  rw [hc]
  unfold bnd
  dsimp only
  rw [hk]
  dsimp only
  rw [hi]
  dsimp only
  rw [keyOf_row]
  dsimp only
  rw [if_pos (by unfold dP; rw [List.length_map]; exact hl), putT_dP p k _ nd]
end L2.Dn
set_option Elab.async false
set_option linter.all false
set_option maxRecDepth 100000
/-! polynomials by their coefficients -/
namespace L2.Dn
open PySem PySem.Spec PyProof.Rows C8
def eqv (p q : PR) : Prop := ∀ k, cfs p k = cfs q k
theorem eqv.refl (p : PR) : eqv p p := fun _ => rfl
theorem eqv.symm {p q : PR} (h : eqv p q) : eqv q p := fun k => (h k).symm
theorem eqv.trans {p q r : PR} (h : eqv p q) (h2 : eqv q r) : eqv p r := fun k => (h k).trans (h2 k)
def sumL (f : List Int → Int) : List (List Int) → Int
  | [] => 0
  | r :: R => f r + sumL f R
theorem sumL_add (f g : List Int → Int) : ∀ R, sumL (fun r => f r + g r) R = sumL f R + sumL g R
  | [] => rfl
  | r :: R => by
    show f r + g r + sumL _ R = f r + sumL f R + (g r + sumL g R)
    rw [sumL_add f g R]
    omega
theorem sumL_zero {f : List Int → Int} : ∀ {R : List (List Int)}, (∀ r ∈ R, f r = 0) → sumL f R = 0
  | [], _ => rfl
  | r :: R, h => by
    show f r + sumL f R = 0
    rw [h r (List.mem_cons_self ..), sumL_zero fun x m => h x (List.mem_cons_of_mem _ m)]
    rfl
theorem sumL_congr {f g : List Int → Int} : ∀ {R : List (List Int)}, (∀ r ∈ R, f r = g r) → sumL f R = sumL g R
  | [], _ => rfl
  | r :: R, h => by
    show f r + sumL f R = g r + sumL g R
    rw [h r (List.mem_cons_self ..), sumL_congr fun x m => h x (List.mem_cons_of_mem _ m)]
theorem sumL_one (k : List Int) (v : Int) : ∀ {R : List (List Int)}, R.Nodup → k ∈ R → sumL (fun r => if k = r then v else 0) R = v
  | r :: R, nd, m => by
    have nd' := List.nodup_cons.mp nd
    show (if k = r then v else 0) + sumL _ R = v
    by_cases e : k = r
    · rw [if_pos e, sumL_zero]
      · omega
      · intro x hx
        rw [if_neg]
        intro e2
        exact nd'.1 (by rw [← e, e2]; exact hx)
    · rw [if_neg e, sumL_one k v nd'.2 ((List.mem_cons.mp m).resolve_left e)]
      omega
/-- a weight of rows, over a list of entries -/
def lin (w : List Int → Int) : PR → Int
  | [] => 0
  | (k, v) :: p => v * w k + lin w p
theorem lin_sum (w : List Int → Int) : ∀ (p : PR) (R : List (List Int)), R.Nodup → (∀ k ∈ kysP p, k ∈ R) → lin w p = sumL (fun r => cfs p r * w r) R
  | [], R, _, _ => (sumL_zero fun r _ => by show (0 : Int) * w r = 0; exact Int.zero_mul _).symm
  | (k, v) :: p, R, nd, h => by
    have ih := lin_sum w p R nd fun x m => h x (List.mem_cons_of_mem _ m)
    have e : (fun r => cfs ((k, v) :: p) r * w r) = fun r => (if k = r then v * w k else 0) + cfs p r * w r := by
      funext r
      rw [cfs_cons, Int.add_mul]
      by_cases q : k = r
      · rw [if_pos q, if_pos q, q]
      · rw [if_neg q, if_neg q, Int.zero_mul]
    rw [e, sumL_add, sumL_one k _ nd (h k (List.mem_cons_self ..)), ← ih]
    rfl
theorem lin_congr (w : List Int → Int) {p q : PR} (h : eqv p q) : lin w p = lin w q := by
  have nd : NdP (accP [] (p ++ q)) := nd_accP _ List.nodup_nil
  have m : ∀ k, k ∈ kysP p ∨ k ∈ kysP q → k ∈ kysP (accP [] (p ++ q)) := fun k hk => (mem_accP _ _ _).mpr (.inr (by rw [kysP_append]; exact List.mem_append.mpr hk))
  rw [lin_sum w p _ nd fun k hk => m k (.inl hk), lin_sum w q _ nd fun k hk => m k (.inr hk)]
  exact sumL_congr fun r _ => by rw [h r]
theorem lin_append (w : List Int → Int) : ∀ (p q : PR), lin w (p ++ q) = lin w p + lin w q
  | [], q => by
    show lin w q = 0 + lin w q
    omega
  | (k, v) :: p, q => by
    show v * w k + lin w (p ++ q) = v * w k + lin w p + lin w q
    rw [lin_append w p q]
    omega
/-! ### cut -/
theorem cfs_cutG_scale (pre post : List Int) (low high a c : Int) (k : List Int) : ∀ (n : Nat) (m : Int), cfs (cutG pre post low high (a * c) n m) k = c * cfs (cutG pre post low high a n m) k
  | 0, _ => by show (0 : Int) = c * 0; omega
  | n + 1, m => by
    rw [cutG, cutG, cfs_cons, cfs_cons, cfs_cutG_scale pre post low high a c k n (m + 1), Int.mul_add]
    congr 1
    split
    · exact Int.mul_comm a c
    · omega
def cutW (i : Nat) (k r : List Int) : Int := cfs (cutT r 1 i) k
theorem cfs_cutT (r : List Int) (c : Int) (i : Nat) (k : List Int) : cfs (cutT r c i) k = c * cutW i k r := by
  unfold cutW cutT
  by_cases h : r.getD i 0 < r.getD (i - 1) 0
  · rw [decide_eq_true h]
    dsimp only
    rw [cfs_cutG_scale _ _ _ _ 1 c]
    rfl
  · rw [decide_eq_false h]
    dsimp only
    rw [cfs_cutG_scale _ _ _ _ (-1) c]
    rfl
theorem cfs_cutTs (i : Nat) (k : List Int) : ∀ (p : PR), cfs (cutTs i p) k = lin (cutW i k) p
  | [] => rfl
  | (r, c) :: p => by
    rw [cutTs, cfs_append, cfs_cutT, cfs_cutTs i k p]
    rfl
theorem cfs_cutP (p : PR) (i : Nat) (k : List Int) : cfs (cutP p i) k = lin (cutW i k) p := by
  unfold cutP
  rw [cfs_keepP, cfs_accP, cfs_cutTs]
  show 0 + _ = _
  omega
theorem cut_congr {p q : PR} (h : eqv p q) (i : Nat) : eqv (cutP p i) (cutP q i) := fun k => by
  rw [cfs_cutP, cfs_cutP, lin_congr _ h]
theorem cutG_app (pre post : List Int) (low high c : Int) : ∀ (n : Nat) (m : Int), cutG pre post low high c (n + 1) m = cutG pre post low high c n m ++ [(pre ++ [low + (m + n), high - 1 - (m + n)] ++ post, c)]
  | 0, m => by
    show [(pre ++ [low + m, high - 1 - m] ++ post, c)] = [(pre ++ [low + (m + ((0 : Nat) : Int)), high - 1 - (m + ((0 : Nat) : Int))] ++ post, c)]
    rw [show m + ((0 : Nat) : Int) = m by omega]
  | n + 1, m => by
    rw [cutG, cutG_app pre post low high c n (m + 1), cutG]
    have : m + 1 + (n : Int) = m + ((n + 1 : Nat) : Int) := by omega
    rw [this]
    rfl
/-- the law's order is the other way round -/
theorem cfs_lcutG (pre post : List Int) (low high c : Int) (k : List Int) : ∀ (n : Nat) (a : Int), a + n = high - low → cfs (lcutG pre post low high c n a) k = cfs (cutG pre post low high c n 0) k
  | 0, a, _ => rfl
  | n + 1, a, h => by
    rw [lcutG, cfs_cons, cutG_app, cfs_append, cfs_cons, cfs_lcutG pre post low high c k n (a + 1) (by omega)]
    have e1 : high - 1 - a = low + (0 + (n : Int)) := by omega
    have e2 : low + a = high - 1 - (0 + (n : Int)) := by omega
    rw [e1, e2]
    show _ = _ + (_ + 0)
    omega
theorem cfs_lcutT (r : List Int) (c : Int) (i : Nat) (k : List Int) : cfs (lcutT r c i) k = cfs (cutT r c i) k := by
  unfold lcutT cutT mx mn
  generalize r.getD i 0 = b
  generalize r.getD (i - 1) 0 = a
  by_cases h : b < a
  · rw [decide_eq_true h, if_pos h, if_pos h, if_neg (by omega)]
    exact cfs_lcutG _ _ _ _ _ k _ 0 (by omega)
  · rw [decide_eq_false h, if_neg h, if_neg h]
    by_cases h2 : b > a
    · rw [if_pos h2]
      exact cfs_lcutG _ _ _ _ _ k _ 0 (by omega)
    · rw [if_neg h2]
      have : b = a := by omega
      subst this
      exact cfs_lcutG _ _ _ _ _ k _ 0 (by omega)
theorem cfs_lcutTs (i : Nat) (k : List Int) : ∀ (p : PR), cfs (lcutTs i p) k = cfs (cutTs i p) k
  | [] => rfl
  | (r, c) :: p => by
    rw [lcutTs, cutTs, cfs_append, cfs_append, cfs_lcutT, cfs_lcutTs i k p]
theorem lcut_eqv (p : PR) (i : Nat) : eqv (lcutP p i) (cutP p i) := fun k => by
  unfold lcutP cutP
  rw [cfs_keepP, cfs_accP, cfs_keepP, cfs_accP, cfs_lcutTs]
/-! ### products, sums -/
def mulW (q : PR) (k r : List Int) : Int := cfs (mulT r 1 q) k
theorem cfs_mulT (r : List Int) (c : Int) (k : List Int) : ∀ (q : PR), cfs (mulT r c q) k = c * mulW q k r
  | [] => by show (0 : Int) = c * 0; omega
  | (k', v) :: q => by
    have ih := cfs_mulT r c k q
    unfold mulW at ih ⊢
    rw [mulT, mulT, cfs_cons, cfs_cons, ih, Int.mul_add]
    congr 1
    split
    · rw [Int.one_mul]
    · omega
theorem cfs_mulTs (q : PR) (k : List Int) : ∀ (p : PR), cfs (mulTs q p) k = lin (mulW q k) p
  | [] => rfl
  | (r, c) :: p => by
    rw [mulTs, cfs_append, cfs_mulT, cfs_mulTs q k p]
    rfl
theorem mulW_lin (k r : List Int) : ∀ (q : PR), mulW q k r = lin (fun t => if addR r t = k then 1 else 0) q
  | [] => rfl
  | (k', v) :: q => by
    have ih := mulW_lin k r q
    unfold mulW at ih ⊢
    rw [mulT, cfs_cons, ih]
    show _ = v * (if addR r k' = k then 1 else 0) + _
    split <;> omega
theorem cfs_mulP (p q : PR) (k : List Int) : cfs (mulP p q) k = lin (mulW q k) p := by
  unfold mulP
  rw [cfs_keepP, cfs_accP, cfs_mulTs]
  show 0 + _ = _
  omega
theorem lin_ext {w w' : List Int → Int} (h : ∀ r, w r = w' r) (p : PR) : lin w p = lin w' p := by
  rw [show w = w' from funext h]
theorem mul_congr {p p' q q' : PR} (h : eqv p p') (h2 : eqv q q') : eqv (mulP p q) (mulP p' q') := fun k => by
  rw [cfs_mulP, cfs_mulP, lin_congr _ h]
  exact lin_ext (fun r => by rw [mulW_lin, mulW_lin, lin_congr _ h2]) p'
theorem lin_addw (w w' : List Int → Int) : ∀ (p : PR), lin (fun r => w r + w' r) p = lin w p + lin w' p
  | [] => rfl
  | (k, v) :: p => by
    show v * (w k + w' k) + _ = v * w k + lin w p + (v * w' k + lin w' p)
    rw [lin_addw w w' p, Int.mul_add]
    omega
theorem lin_mulw (c : Int) (w : List Int → Int) : ∀ (p : PR), lin (fun r => c * w r) p = c * lin w p
  | [] => by show (0 : Int) = c * 0; omega
  | (k, v) :: p => by
    show v * (c * w k) + _ = c * (v * w k + lin w p)
    rw [lin_mulw c w p, Int.mul_add]
    congr 1
    rw [← Int.mul_assoc, ← Int.mul_assoc, Int.mul_comm v c]
theorem lin_zero : ∀ (p : PR), lin (fun _ => 0) p = 0
  | [] => rfl
  | (k, v) :: p => by
    show v * 0 + _ = 0
    rw [lin_zero p]
    omega
theorem lin_swap (f : List Int → List Int → Int) : ∀ (p q : PR), lin (fun r => lin (fun t => f r t) q) p = lin (fun t => lin (fun r => f r t) p) q
  | [], q => (lin_zero q).symm
  | (k, v) :: p, q => by
    show v * lin (fun t => f k t) q + lin _ p = lin (fun t => v * f k t + lin (fun r => f r t) p) q
    rw [lin_swap f p q, lin_addw, lin_mulw]
theorem addR_comm : ∀ (r t : List Int), addR r t = addR t r
  | [], [] => rfl
  | [], _ :: _ => rfl
  | _ :: _, [] => rfl
  | a :: r, b :: t => by
    rw [addR, addR, addR_comm r t, Int.add_comm]
theorem mul_comm' (p q : PR) : eqv (mulP p q) (mulP q p) := fun k => by
  rw [cfs_mulP, cfs_mulP, lin_ext (fun r => mulW_lin k r q) p, lin_ext (fun r => mulW_lin k r p) q, lin_swap]
  exact lin_ext (fun t => lin_ext (fun r => by rw [addR_comm]) p) q
theorem cfs_scaleP (m : Int) (k : List Int) : ∀ (q : PR), cfs (scaleP m q) k = m * cfs q k
  | [] => by show (0 : Int) = m * 0; omega
  | (k', v) :: q => by
    rw [scaleP, cfs_cons, cfs_cons, cfs_scaleP m k q, Int.mul_add]
    congr 1
    split <;> omega
theorem cfs_plusP (p q : PR) (m : Int) (k : List Int) : cfs (plusP p q m) k = cfs p k + m * cfs q k := by
  unfold plusP
  rw [cfs_keepP, cfs_accP, cfs_scaleP]
/-! ### equal dicts -/
theorem eqEntP_iff {q : PR} (ndq : NdP q) : ∀ (p : PR), eqEntP q p = true ↔ ∀ e ∈ p, lookP q e.1 = some e.2
  | [] => by simp [eqEntP]
  | (k, v) :: r => by
    have ih := eqEntP_iff ndq r
    have e0 : eqEntP q ((k, v) :: r) = (match lookP q k with | none => false | some j => v == j && eqEntP q r) := rfl
    rw [e0]
    cases h : lookP q k with
    | none =>
      constructor
      · intro x; cases x
      · intro x
        have := x (k, v) (List.mem_cons_self ..)
        rw [h] at this
        cases this
    | some j =>
      show (v == j && eqEntP q r) = true ↔ _
      rw [Bool.and_eq_true, beq_iff_eq, ih]
      constructor
      · rintro ⟨rfl, h2⟩ e m
        rcases List.mem_cons.mp m with x | x
        · subst x; exact h
        · exact h2 e x
      · intro x
        have h1 := x (k, v) (List.mem_cons_self ..)
        rw [h] at h1
        cases h1
        exact ⟨rfl, fun e m => x e (List.mem_cons_of_mem _ m)⟩
theorem lookP_some {p : PR} {k : List Int} {v : Int} (nd : NdP p) : lookP p k = some v ↔ (k, v) ∈ p := by
  constructor
  · intro h
    rcases lookP_cfs k nd with ⟨h1, _⟩ | ⟨h1, h2⟩
    · rw [h1] at h; cases h
    · rw [h1] at h; cases h; exact h2
  · intro h
    exact has_self nd (k, v) h
theorem wf_ext {p q : PR} (hp : WfP p) (hq : WfP q) (h : eqv p q) : ∀ e, e ∈ p ↔ e ∈ q := by
  have one : ∀ {p q : PR}, WfP p → WfP q → eqv p q → ∀ e ∈ p, e ∈ q := fun {p q} hp hq h e m => by
    have e1 : cfs p e.1 = e.2 := cfs_mem hp.nd m
    have e2 : e.1 ∈ kysP q := (wf_mem hq e.1).mpr (by rw [← h, e1]; exact hp.nz e m)
    obtain ⟨x, hx, ex⟩ := List.mem_map.mp e2
    have e3 : cfs q x.1 = x.2 := cfs_mem hq.nd hx
    have : x = e := Prod.ext ex (by rw [← e3, ex, ← h, e1])
    rw [← this]
    exact hx
  exact fun e => ⟨one hp hq h e, one hq hp h.symm e⟩
theorem nd_pairs {p : PR} (h : NdP p) : p.Nodup := by
  unfold NdP kysP at h
  rw [List.Nodup, List.pairwise_map] at h
  exact h.imp fun hab e => hab (by rw [e])
theorem wf_perm {p q : PR} (hp : WfP p) (hq : WfP q) (h : eqv p q) : p.Perm q := (List.perm_ext_iff_of_nodup (nd_pairs hp.nd) (nd_pairs hq.nd)).mpr (wf_ext hp hq h)
theorem perm_of_sub : ∀ (p q : PR), p.Nodup → (∀ e ∈ p, e ∈ q) → q.length ≤ p.length → p.Perm q
  | [], q, _, _, h => by
    cases q with
    | nil => exact List.Perm.refl _
    | cons a r => simp at h
  | a :: p, q, nd, sub, h => by
    have nd' := List.nodup_cons.mp nd
    have ha : a ∈ q := sub a (List.mem_cons_self ..)
    have e := List.perm_cons_erase ha
    have hl := e.length_eq
    simp only [List.length_cons] at h hl
    have ih := perm_of_sub p (q.erase a) nd'.2 (fun x m => (List.mem_erase_of_ne (fun z => nd'.1 (by rw [← z]; exact m))).mpr (sub x (List.mem_cons_of_mem _ m))) (by omega)
    exact (List.Perm.cons a ih).trans e.symm
theorem eqP_iff {p q : PR} (hp : WfP p) (hq : WfP q) : eqP p q = true ↔ eqv p q := by
  constructor
  · intro h k
    unfold eqP at h
    split at h
    · cases h
    · rename_i hl
      have hl := Nat.eq_of_beq_eq_true hl
      have hs := (eqEntP_iff hq.nd p).mp h
      have sub : ∀ e ∈ p, e ∈ q := fun e m => (lookP_some hq.nd).mp (hs e m)
      have perm : p.Perm q := perm_of_sub p q (nd_pairs hp.nd) sub (by omega)
      by_cases m : k ∈ kysP p
      · obtain ⟨e, he, rfl⟩ := List.mem_map.mp m
        rw [cfs_mem hp.nd he, cfs_mem hq.nd (sub e he)]
      · rw [cfs_none m, cfs_none]
        intro m2
        exact m ((perm.map _).mem_iff.mpr m2)
  · intro h
    have perm := wf_perm hp hq h
    unfold eqP
    rw [show Nat.beq p.length q.length = true from by rw [perm.length_eq]; exact Nat.beq_refl _]
    exact (eqEntP_iff hq.nd p).mpr fun e m => (lookP_some hq.nd).mpr (perm.mem_iff.mp m)
theorem eqP_false {p q : PR} (hp : WfP p) (hq : WfP q) (h : ¬ eqv p q) : eqP p q = false := by
  cases e : eqP p q with
  | false => rfl
  | true => exact absurd ((eqP_iff hp hq).mp e) h
theorem eqv_nil {p : PR} (hp : WfP p) (h : ∀ k, cfs p k = 0) : p = [] := by
  cases p with
  | nil => rfl
  | cons e r =>
    have := cfs_mem hp.nd (List.mem_cons_self (a := e) (l := r))
    rw [h] at this
    exact absurd this.symm (hp.nz e (List.mem_cons_self ..))
theorem wf_cutP (p : PR) (i : Nat) : WfP (cutP p i) := wf_keepP (nd_accP _ List.nodup_nil)
theorem wf_lcutP (p : PR) (i : Nat) : WfP (lcutP p i) := wf_keepP (nd_accP _ List.nodup_nil)
theorem wf_mulP (p q : PR) : WfP (mulP p q) := wf_keepP (nd_accP _ List.nodup_nil)
theorem wf_plusP {p : PR} (q : PR) (m : Int) (h : NdP p) : WfP (plusP p q m) := wf_keepP (nd_accP _ h)
end L2.Dn
set_option Elab.async false
set_option linter.all false
set_option maxRecDepth 100000
/-! what does not hang on the order of the rows; sums of sequences within a box -/
namespace L2.Dn
open PySem PySem.Spec PyProof.Rows C8
theorem gtI_cons (x y : Int) (xs ys : List Int) : gtI (x :: xs) (y :: ys) = (match decide (x = y) with
    | true => gtI xs ys
    | false => decide (y < x)) := rfl
theorem gtI_trans : ∀ (a b c : List Int), gtI a b = true → gtI b c = true → gtI a c = true
  | [], _, _, h, _ => by simp [gtI] at h
  | _ :: _, [], _, _, h => by simp [gtI] at h
  | _ :: _, _ :: _, [], _, _ => rfl
  | x :: xs, y :: ys, z :: zs, h1, h2 => by
    rw [gtI_cons] at h1 h2 ⊢
    by_cases e1 : x = y
    · subst e1
      rw [decide_eq_true rfl] at h1
      dsimp only at h1
      by_cases e2 : x = z
      · subst e2
        rw [decide_eq_true rfl] at h2 ⊢
        exact gtI_trans xs ys zs h1 h2
      · rw [decide_eq_false e2] at h2 ⊢
        exact h2
    · rw [decide_eq_false e1] at h1
      have h1 := of_decide_eq_true h1
      by_cases e2 : y = z
      · subst e2
        rw [decide_eq_false e1]
        exact decide_eq_true h1
      · rw [decide_eq_false e2] at h2
        have h2 := of_decide_eq_true h2
        rw [decide_eq_false (by omega)]
        exact decide_eq_true (by omega)
theorem gtI_eq : ∀ (a b : List Int), gtI a b = false → gtI b a = false → a = b
  | [], [], _, _ => rfl
  | [], _ :: _, _, h => by simp [gtI] at h
  | _ :: _, [], h, _ => by simp [gtI] at h
  | x :: xs, y :: ys, h1, h2 => by
    rw [gtI_cons] at h1 h2
    by_cases e : x = y
    · subst e
      rw [decide_eq_true rfl] at h1 h2
      rw [gtI_eq xs ys h1 h2]
    · rw [decide_eq_false e] at h1
      rw [decide_eq_false (fun q => e q.symm)] at h2
      have h1 := of_decide_eq_false h1
      have h2 := of_decide_eq_false h2
      omega
theorem lastG_ok : ∀ (p : PR) (k : List Int), (lastG k k.reverse p = k ∨ lastG k k.reverse p ∈ kysP p) ∧ gtI k.reverse (lastG k k.reverse p).reverse = false ∧ ∀ x ∈ kysP p, gtI x.reverse (lastG k k.reverse p).reverse = false
  | [], k => ⟨.inl rfl, by
      show gtI k.reverse k.reverse = false
      have : ∀ l : List Int, gtI l l = false := fun l => by
        induction l with
        | nil => rfl
        | cons a l ih => rw [gtI_cons, decide_eq_true rfl]; exact ih
      exact this _, fun x hx => nomatch hx⟩
  | (k', v) :: r, k => by
    have e0 : lastG k k.reverse ((k', v) :: r) = (match gtI k'.reverse k.reverse with | true => lastG k' k'.reverse r | false => lastG k k.reverse r) := rfl
    rw [e0]
    cases h : gtI k'.reverse k.reverse with
    | true =>
      dsimp only
      obtain ⟨h1, h2, h3⟩ := lastG_ok r k'
      refine ⟨.inr ?_, ?_, fun x hx => ?_⟩
      · rcases h1 with h1 | h1
        · rw [h1]; exact List.mem_cons_self ..
        · exact List.mem_cons_of_mem _ h1
      · cases q : gtI k.reverse (lastG k' k'.reverse r).reverse with
        | false => rfl
        | true =>
          rw [gtI_trans _ _ _ h q] at h2
          cases h2
      · rcases List.mem_cons.mp hx with rfl | hx
        · exact h2
        · exact h3 x hx
    | false =>
      dsimp only
      obtain ⟨h1, h2, h3⟩ := lastG_ok r k
      refine ⟨?_, h2, fun x hx => ?_⟩
      · rcases h1 with h1 | h1
        · exact .inl h1
        · exact .inr (List.mem_cons_of_mem _ h1)
      · rcases List.mem_cons.mp hx with rfl | hx
        · cases q : gtI x.reverse (lastG k k.reverse r).reverse with
          | false => rfl
          | true =>
            -- x > last, x not > k: then k >= x > last
            cases q2 : gtI k.reverse x.reverse with
            | true =>
              rw [gtI_trans _ _ _ q2 q] at h2
              cases h2
            | false =>
              have := gtI_eq _ _ h q2
              have this : x.reverse = k.reverse := this
              rw [this] at q
              rw [q] at h2
              cases h2
        · exact h3 x hx
theorem lastP_ok {p : PR} (h : p ≠ []) : lastP p ∈ kysP p ∧ ∀ x ∈ kysP p, gtI x.reverse (lastP p).reverse = false := by
  cases p with
  | nil => exact absurd rfl h
  | cons e r =>
    obtain ⟨k, v⟩ := e
    obtain ⟨h1, h2, h3⟩ := lastG_ok r k
    show lastG k k.reverse r ∈ _ ∧ _
    refine ⟨?_, fun x hx => ?_⟩
    · rcases h1 with h1 | h1
      · rw [h1]; exact List.mem_cons_self ..
      · exact List.mem_cons_of_mem _ h1
    · rcases List.mem_cons.mp hx with rfl | hx
      · exact h2
      · exact h3 x hx
theorem lastP_only {p : PR} {k : List Int} (h : k ∈ kysP p) (h2 : ∀ x ∈ kysP p, gtI x.reverse k.reverse = false) : lastP p = k := by
  have hp : p ≠ [] := fun e => by rw [e] at h; exact nomatch h
  obtain ⟨h3, h4⟩ := lastP_ok hp
  have := gtI_eq _ _ (h2 _ h3) (h4 _ h)
  have := congrArg List.reverse this
  rwa [List.reverse_reverse, List.reverse_reverse] at this
theorem lastP_perm {p q : PR} (h : p.Perm q) (hp : p ≠ []) : lastP p = lastP q := by
  have hk := (h.map (·.1)).mem_iff (a := lastP q)
  have hq : q ≠ [] := fun e => hp (by rw [e] at h; exact h.eq_nil)
  obtain ⟨h1, h2⟩ := lastP_ok hq
  exact lastP_only (hk.mpr h1) fun x hx => h2 x ((h.map (·.1)).mem_iff.mp hx)
/-! ### checks and permutations -/
theorem kInts_keyI : ∀ (k : List Int), kInts (keyI k) = some k
  | [] => rfl
  | a :: r => by
    show (match kInts (keyI r) with | some l => some (a :: l) | none => none) = _
    rw [kInts_keyI r]
theorem hashes_dP : ∀ (p : PR), hashes? (dP p) = some (p.map fun e => hT e.1)
  | [] => rfl
  | (k, v) :: r => by
    show (match kInts (keyI k) with | some ns => (match hashes? (dP r) with | some l => some (hT ns :: l) | none => none) | none => none) = _
    rw [kInts_keyI, hashes_dP r]
    rfl
theorem memI_iff (x : Int) : ∀ (l : List Int), memI x l = true ↔ x ∈ l
  | [] => by simp [memI]
  | y :: r => by
    have ih := memI_iff x r
    have e0 : memI x (y :: r) = (match decide (x = y) with | true => true | false => memI x r) := rfl
    rw [e0, List.mem_cons]
    by_cases h : x = y
    · rw [decide_eq_true h]; simp [h]
    · rw [decide_eq_false h]; simp [h, ih]
theorem nodupI_iff : ∀ (l : List Int), nodupI l = true ↔ l.Nodup
  | [] => by simp [nodupI]
  | x :: r => by
    have ih := nodupI_iff r
    have e0 : nodupI (x :: r) = (match memI x r with | true => false | false => nodupI r) := rfl
    rw [e0, List.nodup_cons, ← memI_iff x r]
    cases memI x r with
    | true => simp
    | false => simp [ih]
theorem hOk_iff (p : PR) : hOk p = true ↔ (p.map fun e => hT e.1).Nodup := by
  unfold hOk
  rw [hashes_dP]
  exact nodupI_iff _
theorem hOk_perm {p q : PR} (h : p.Perm q) (hq : hOk q = true) : hOk p = true := (hOk_iff p).mpr ((h.map _).nodup_iff.mpr ((hOk_iff q).mp hq))
theorem hOk_sub {p : PR} {q : PR} (h : ∀ k ∈ kysP p, k ∈ kysP q) (nd : NdP p) (hq : hOk q = true) : hOk p = true := by
  rw [hOk_iff] at hq ⊢
  have inj : ∀ a ∈ kysP q, ∀ b ∈ kysP q, hT a = hT b → a = b := by
    have e : (q.map fun e => hT e.1) = (kysP q).map hT := by unfold kysP; rw [List.map_map]; rfl
    rw [e] at hq
    generalize kysP q = l at hq
    induction l with
    | nil => intro a ha; exact nomatch ha
    | cons x l ih =>
      have hq' := List.nodup_cons.mp hq
      intro a ha b hb hab
      rcases List.mem_cons.mp ha with ea | ha2
      · rcases List.mem_cons.mp hb with eb | hb2
        · rw [ea, eb]
        · rw [ea] at hab
          exact absurd (List.mem_map.mpr ⟨b, hb2, hab.symm⟩) hq'.1
      · rcases List.mem_cons.mp hb with eb | hb2
        · rw [eb] at hab
          exact absurd (List.mem_map.mpr ⟨a, ha2, hab⟩) hq'.1
        · exact ih hq'.2 a ha2 b hb2 hab
  have e : (p.map fun e => hT e.1) = (kysP p).map hT := by unfold kysP; rw [List.map_map]; rfl
  rw [e]
  unfold NdP at nd
  generalize kysP p = l at nd h
  induction l with
  | nil => exact List.nodup_nil
  | cons x l ih =>
    have nd' := List.nodup_cons.mp nd
    rw [List.map_cons]
    refine List.nodup_cons.mpr ⟨fun m => ?_, ih nd'.2 (fun k hk => h k (List.mem_cons_of_mem _ hk))⟩
    obtain ⟨y, hy, e⟩ := List.mem_map.mp m
    have := inj y (h y (List.mem_cons_of_mem _ hy)) x (h x (List.mem_cons_self ..)) e
    exact nd'.1 (by rw [← this]; exact hy)
theorem polyOk_iff : ∀ (p : PR), polyOk p = true ↔ ∀ e ∈ p, e.1.length = 5 ∧ allE e.1 = true ∧ e.2 ≠ 0
  | [] => by simp [polyOk]
  | (r, v) :: p => by
    have ih := polyOk_iff p
    constructor
    · intro h e m
      obtain ⟨h1, h2, h3, h4⟩ := polyOk_cons h
      rcases List.mem_cons.mp m with q | q
      · subst q; exact ⟨h1, h2, h3⟩
      · exact ih.mp h4 e q
    · intro h
      obtain ⟨h1, h2, h3⟩ := h (r, v) (List.mem_cons_self ..)
      have h4 := ih.mpr fun e m => h e (List.mem_cons_of_mem _ m)
      have h1 : r.length = 5 := h1
      have h3 : v ≠ 0 := h3
      have h2 : allE r = true := h2
      unfold polyOk
      rw [decide_eq_true h1, h2, decide_eq_false h3]
      exact h4
theorem polyOk_perm {p q : PR} (h : p.Perm q) (hq : polyOk q = true) : polyOk p = true := (polyOk_iff p).mpr fun e m => (polyOk_iff q).mp hq e (h.mem_iff.mp m)
/-! ### boxes -/
def Box (B : Int) (n : Nat) (p : PR) : Prop := ∀ e ∈ p, e.1.length = n ∧ ∀ x ∈ e.1, 0 ≤ x ∧ x ≤ B
theorem box_cutG {B : Int} {n : Nat} {pre post : List Int} {low high c : Int} (h0 : 0 ≤ low) (hB : high ≤ B) (hpre : ∀ x ∈ pre, 0 ≤ x ∧ x ≤ B) (hpost : ∀ x ∈ post, 0 ≤ x ∧ x ≤ B) (hn : pre.length + 2 + post.length = n) : ∀ (k : Nat) (m : Int), 0 ≤ m → m + k ≤ high - low → Box B n (cutG pre post low high c k m)
  | 0, m, _, _, e, he => nomatch he
  | k + 1, m, h1, h2, e, he => by
    rcases List.mem_cons.mp he with rfl | he
    · refine ⟨by simp; omega, fun x hx => ?_⟩
      rcases List.mem_append.mp hx with hx | hx
      · rcases List.mem_append.mp hx with hx | hx
        · exact hpre x hx
        · simp only [List.mem_cons, List.not_mem_nil, or_false] at hx
          rcases hx with rfl | rfl <;> omega
      · exact hpost x hx
    · exact box_cutG h0 hB hpre hpost hn k (m + 1) (by omega) (by omega) e he
theorem getD_box {B : Int} (hB : 0 ≤ B) {r : List Int} (h : ∀ x ∈ r, 0 ≤ x ∧ x ≤ B) (i : Nat) : 0 ≤ r.getD i 0 ∧ r.getD i 0 ≤ B := by
  by_cases hi : i < r.length
  · have : r.getD i 0 = r[i] := by simp [List.getD, hi]
    rw [this]
    exact h _ (List.getElem_mem hi)
  · have : r.getD i 0 = 0 := by simp [List.getD, hi]
    rw [this]
    omega
theorem box_cutT {B : Int} {n : Nat} (hB : 0 ≤ B) {r : List Int} {c : Int} {i : Nat} (hl : r.length = n) (h : ∀ x ∈ r, 0 ≤ x ∧ x ≤ B) (h1 : 1 ≤ i) (h2 : i < n) : Box B n (cutT r c i) ∧ (cutT r c i).length ≤ B.toNat := by
  have ha := getD_box hB h (i - 1)
  have hb := getD_box hB h i
  have hpre : ∀ x ∈ r.take (i - 1), 0 ≤ x ∧ x ≤ B := fun x hx => h x (List.mem_of_mem_take hx)
  have hpost : ∀ x ∈ r.drop (i + 1), 0 ≤ x ∧ x ≤ B := fun x hx => h x (List.mem_of_mem_drop hx)
  have hn : (r.take (i - 1)).length + 2 + (r.drop (i + 1)).length = n := by simp; omega
  unfold cutT
  generalize r.getD i 0 = b at *
  generalize r.getD (i - 1) 0 = a at *
  by_cases hc : b < a
  · rw [decide_eq_true hc]
    dsimp only
    exact ⟨box_cutG (by omega) (by omega) hpre hpost hn _ 0 (by omega) (by omega), by rw [cutG_len]; omega⟩
  · rw [decide_eq_false hc]
    dsimp only
    exact ⟨box_cutG (by omega) (by omega) hpre hpost hn _ 0 (by omega) (by omega), by rw [cutG_len]; omega⟩
theorem box_cutTs {B : Int} {n : Nat} (hB : 0 ≤ B) {i : Nat} (h1 : 1 ≤ i) (h2 : i < n) : ∀ {p : PR}, Box B n p → Box B n (cutTs i p) ∧ (cutTs i p).length ≤ B.toNat * p.length
  | [], _ => ⟨fun e m => (nomatch m), by simp [cutTs]⟩
  | (r, c) :: p, hp => by
    obtain ⟨h3, h4⟩ := hp (r, c) (List.mem_cons_self ..)
    have h3 : r.length = n := h3
    have h4 : ∀ x ∈ r, 0 ≤ x ∧ x ≤ B := h4
    obtain ⟨h5, h6⟩ := box_cutT hB (c := c) (i := i) h3 h4 h1 h2
    obtain ⟨h7, h8⟩ := box_cutTs hB h1 h2 (p := p) fun e m => hp e (List.mem_cons_of_mem _ m)
    rw [cutTs]
    refine ⟨fun e m => ?_, ?_⟩
    · rcases List.mem_append.mp m with m | m
      · exact h5 e m
      · exact h7 e m
    · rw [List.length_append, List.length_cons, Nat.mul_succ]
      omega
theorem box_keys {B : Int} {n : Nat} {p q : PR} (h : ∀ k ∈ kysP q, k ∈ kysP p) (hp : Box B n p) : Box B n q := fun e m => by
  obtain ⟨x, hx, ex⟩ := List.mem_map.mp (h e.1 (List.mem_map.mpr ⟨e, m, rfl⟩))
  have := hp x hx
  rw [ex] at this
  exact this
theorem box_cutP {B : Int} {n : Nat} (hB : 0 ≤ B) {i : Nat} (h1 : 1 ≤ i) (h2 : i < n) {p : PR} (hp : Box B n p) : Box B n (cutP p i) := by
  refine box_keys (fun k hk => ?_) (box_cutTs hB h1 h2 hp).1
  have := mem_keepP hk
  exact ((mem_accP _ _ _).mp this).resolve_left fun z => nomatch z
/-! ### the sum of a sequence, plainly -/
def ascP : List Int → Nat → Option Nat
  | a :: b :: r, i => (match decide (a < b) with
    | true => some i
    | false => ascP (b :: r) (i + 1))
  | _, _ => none
def swpP (s : List Int) (i : Nat) : List Int := s.take (i - 1) ++ [s.getD i 0, s.getD (i - 1) 0] ++ s.drop (i + 1)
def roadP : Nat → List Int → List Nat
  | 0, _ => []
  | n + 1, s => (match ascP s 1 with
    | none => []
    | some i => i :: roadP n (swpP s i))
def cutsV (p : PR) : List Nat → PR
  | [] => p
  | i :: l => cutsV (cutP p i) l
def lcutsV (p : PR) : List Nat → PR
  | [] => p
  | i :: l => lcutsV (lcutP p i) l
/-- places from 1 to 5, few rows all the way -/
def cutsB (p : PR) : List Nat → Bool
  | [] => decide (p.length < 16000)
  | i :: l => (match decide (p.length < 16000) && decide (1 ≤ i) && decide (i ≤ 5) with
    | true => cutsB (cutP p i) l
    | false => false)
theorem cutsC_of : ∀ {l : List Nat} {p : PR}, Box 5 6 p → cutsB p l = true → cutsC p l = some (cutsV p l)
  | [], _, _, _ => rfl
  | i :: l, p, hp, h => by
    unfold cutsB at h
    split at h
    · rename_i e
      simp only [Bool.and_eq_true, decide_eq_true_eq] at e
      obtain ⟨h1, h2⟩ := box_cutTs (B := 5) (n := 6) (by decide) (i := i) e.1.2 (by omega) hp
      have ro : rowsOk i p = true := by
        have : ∀ p : PR, Box 5 6 p → rowsOk i p = true := by
          intro p
          induction p with
          | nil => intro _; rfl
          | cons x p ih =>
            intro hp
            obtain ⟨r, c⟩ := x
            have h3 : r.length = 6 := (hp (r, c) (List.mem_cons_self ..)).1
            unfold rowsOk
            rw [decide_eq_true (by omega), decide_eq_true (by omega)]
            exact ih fun e m => hp e (List.mem_cons_of_mem _ m)
        exact this p hp
      have h2 : (cutTs i p).length ≤ 5 * p.length := h2
      have c : cutC p i = some (cutP p i) := by
        unfold cutC
        rw [decide_eq_true e.1.2, ro, decide_eq_true (by omega)]
        rfl
      show (match cutC p i with | some q => cutsC q l | none => none) = _
      rw [c]
      exact cutsC_of (box_cutP (by decide) e.1.2 (by omega) hp) h
    · cases h
theorem cutsB_len : ∀ {l : List Nat} {p : PR}, cutsB p l = true → (cutsV p l).length < 16000
  | [], p, h => of_decide_eq_true h
  | i :: l, p, h => by
    unfold cutsB at h
    split at h
    · exact cutsB_len (l := l) h
    · cases h
/-- the law's cuts are the same but for the order -/
theorem lcuts_of : ∀ {l : List Nat} {p q : PR}, Box 5 6 p → WfP p → WfP q → q.Perm p → cutsB p l = true → lcutsC q l = some (lcutsV q l) ∧ (lcutsV q l).Perm (cutsV p l) ∧ WfP (cutsV p l) ∧ Box 5 6 (cutsV p l)
  | [], p, q, hb, wp, wq, hpq, _ => ⟨rfl, hpq, wp, hb⟩
  | i :: l, p, q, hb, wp, wq, hpq, h => by
    unfold cutsB at h
    split at h
    · rename_i e
      simp only [Bool.and_eq_true, decide_eq_true_eq] at e
      have heq : eqv q p := fun k => by
        by_cases m : k ∈ kysP q
        · obtain ⟨x, hx, rfl⟩ := List.mem_map.mp m
          rw [cfs_mem wq.nd hx, cfs_mem wp.nd (hpq.mem_iff.mp hx)]
        · rw [cfs_none m, cfs_none fun m2 => m ((hpq.map _).mem_iff.mpr m2)]
      have pc : (lcutP q i).Perm (cutP p i) := wf_perm (wf_lcutP q i) (wf_cutP p i) ((lcut_eqv q i).trans (cut_congr heq i))
      have hbq : Box 5 6 q := fun x m => hb x (hpq.mem_iff.mp m)
      have ro : rowsOk i q = true := by
        have : ∀ p : PR, Box 5 6 p → rowsOk i p = true := by
          intro p
          induction p with
          | nil => intro _; rfl
          | cons x p ih =>
            intro hp
            obtain ⟨r, c⟩ := x
            have h3 : r.length = 6 := (hp (r, c) (List.mem_cons_self ..)).1
            unfold rowsOk
            rw [decide_eq_true (by omega), decide_eq_true (by omega)]
            exact ih fun e m => hp e (List.mem_cons_of_mem _ m)
        exact this q hbq
      have tl : ∀ (p : PR), (lcutTs i p).length = (cutTs i p).length := by
        intro p
        induction p with
        | nil => rfl
        | cons x p ih =>
          obtain ⟨r, c⟩ := x
          rw [lcutTs, cutTs, List.length_append, List.length_append, ih]
          congr 1
          unfold lcutT cutT mx mn
          rw [lcutG_len]
          generalize r.getD i 0 = b
          generalize r.getD (i - 1) 0 = a
          by_cases hc : b < a
          · rw [decide_eq_true hc, if_pos hc, if_neg (by omega)]
            dsimp only
            rw [cutG_len]
          · rw [decide_eq_false hc, if_neg hc]
            dsimp only
            rw [cutG_len]
            split
            · rfl
            · omega
      have h2 : (cutTs i q).length ≤ 5 * q.length := (box_cutTs (B := 5) (n := 6) (by decide) (i := i) e.1.2 (by omega) hbq).2
      have hlq := hpq.length_eq
      have c : lcutC q i = some (lcutP q i) := by
        unfold lcutC
        rw [decide_eq_true e.1.2, ro, decide_eq_true (by rw [tl]; omega)]
        rfl
      obtain ⟨r1, r2, r3, r4⟩ := lcuts_of (l := l) (box_cutP (B := 5) (n := 6) (by decide) e.1.2 (by omega) hb) (wf_cutP p i) (wf_lcutP q i) pc h
      refine ⟨?_, r2, r3, r4⟩
      show (match lcutC q i with | some q => lcutsC q l | none => none) = _
      rw [c]
      exact r1
    · cases h
def zero6 : PR → Bool
  | [] => true
  | (r, _) :: p => (match decide (r.getD 5 0 = 0) with
    | true => zero6 p
    | false => false)
theorem putsP_fresh : ∀ (q acc : PR), NdP (acc ++ q) → putsP acc q = acc ++ q
  | [], acc, _ => (List.append_nil _).symm
  | (k, v) :: q, acc, nd => by
    have nd2 : (kysP acc ++ k :: kysP q).Nodup := by
      have := nd
      unfold NdP at this
      rw [kysP_append] at this
      exact this
    have nk : k ∉ kysP acc := fun m => (List.nodup_append.mp nd2).2.2 k m k (List.mem_cons_self ..) rfl
    rw [putsP, putP_new acc k v nk, putsP_fresh q _ (by rw [List.append_assoc]; exact nd), List.append_assoc]
    rfl
theorem take5_mem : ∀ {p : PR} {k : List Int}, k ∈ kysP (take5 p) → ∃ e ∈ p, k = e.1.take 5
  | (r, v) :: p, k, h => by
    rcases List.mem_cons.mp h with rfl | h
    · exact ⟨(r, v), List.mem_cons_self .., rfl⟩
    · obtain ⟨e, he, ek⟩ := take5_mem h
      exact ⟨e, List.mem_cons_of_mem _ he, ek⟩
theorem row6 {r : List Int} (h1 : r.length = 6) (h2 : r.getD 5 0 = 0) : r = r.take 5 ++ [0] := by
  match r, h1, h2 with
  | [a, b, c, d, e, f], _, h2 =>
    have : f = 0 := h2
    subst this
    rfl
theorem zero6_iff : ∀ (p : PR), zero6 p = true ↔ ∀ e ∈ p, e.1.getD 5 0 = 0
  | [] => by simp [zero6]
  | (r, v) :: p => by
    have ih := zero6_iff p
    have e0 : zero6 ((r, v) :: p) = (match decide (r.getD 5 0 = 0) with | true => zero6 p | false => false) := rfl
    rw [e0]
    by_cases h : r.getD 5 0 = 0
    · rw [decide_eq_true h]
      dsimp only
      rw [ih]
      constructor
      · intro x e m
        rcases List.mem_cons.mp m with q | q
        · subst q; exact h
        · exact x e q
      · intro x e m
        exact x e (List.mem_cons_of_mem _ m)
    · rw [decide_eq_false h]
      constructor
      · intro x; cases x
      · intro x
        exact absurd (x (r, v) (List.mem_cons_self ..)) h
theorem nd_take5 : ∀ {p : PR}, Box 5 6 p → zero6 p = true → NdP p → NdP (take5 p)
  | [], _, _, _ => List.nodup_nil
  | (r, v) :: p, hb, hz, nd => by
    have nd' := List.nodup_cons.mp nd
    have hz' := (zero6_iff _).mp hz
    refine List.nodup_cons.mpr ⟨fun m => ?_, nd_take5 (fun e m => hb e (List.mem_cons_of_mem _ m)) ((zero6_iff p).mpr fun e m => hz' e (List.mem_cons_of_mem _ m)) nd'.2⟩
    obtain ⟨e, he, ek⟩ := take5_mem m
    have e1 := row6 (hb (r, v) (List.mem_cons_self ..)).1 (hz' (r, v) (List.mem_cons_self ..))
    have e2 := row6 (hb e (List.mem_cons_of_mem _ he)).1 (hz' e (List.mem_cons_of_mem _ he))
    have ek : r.take 5 = e.1.take 5 := ek
    have e1 : r = r.take 5 ++ [0] := e1
    have : r = e.1 := by rw [e1, ek, ← e2]
    exact nd'.1 (by show r ∈ _; rw [this]; exact List.mem_map.mpr ⟨e, he, rfl⟩)
theorem mx_box (m j : Int) (h1 : m ≤ 6) (h2 : 1 ≤ j) : 0 ≤ mx (m - j) 0 ∧ mx (m - j) 0 ≤ 5 := by
  unfold mx
  split <;> omega
theorem box_init (m : Int) (h1 : m ≤ 6) : Box 5 6 [(rowI m, 1)] := fun e he => by
  rcases List.mem_cons.mp he with rfl | he
  · refine ⟨rfl, fun x hx => ?_⟩
    unfold rowI at hx
    simp only [List.mem_cons, List.not_mem_nil, or_false] at hx
    rcases hx with rfl | rfl | rfl | rfl | rfl | rfl <;> exact mx_box m _ h1 (by decide)
  · exact nomatch he
theorem rowL_eq (m : Int) : rowL m = rowI m := by
  have : ∀ x : Int, mx 0 x = mx x 0 := fun x => by
    unfold mx
    split <;> split <;> omega
  unfold rowL rowI
  simp only [this]
def sumV (s : List Int) : PR := take5 (cutsV [(rowI (s.length : Nat), 1)] (roadP 20 s).reverse)
def lsumV (s : List Int) : PR := take5 (lcutsV [(rowL (s.length : Nat), 1)] (roadP 20 s).reverse)
def sumB1 (s : List Int) : Bool := decide (s.length ≤ 6) && cutsB [(rowI (s.length : Nat), 1)] (roadP 20 s).reverse && zero6 (cutsV [(rowI (s.length : Nat), 1)] (roadP 20 s).reverse)
theorem take5_perm {p q : PR} (h : p.Perm q) : (take5 p).Perm (take5 q) := by
  have : ∀ p : PR, take5 p = p.map fun e => (e.1.take 5, e.2) := by
    intro p
    induction p with
    | nil => rfl
    | cons x p ih =>
      obtain ⟨k, v⟩ := x
      rw [take5, ih]
      rfl
  rw [this, this]
  exact h.map _
theorem take5_nz {p : PR} (h : ∀ e ∈ p, e.2 ≠ 0) : ∀ e ∈ take5 p, e.2 ≠ 0 := by
  induction p with
  | nil => intro e m; exact nomatch m
  | cons x p ih =>
    obtain ⟨k, v⟩ := x
    intro e m
    rcases List.mem_cons.mp m with rfl | m
    · exact h (k, v) (List.mem_cons_self ..)
    · exact ih (fun e m => h e (List.mem_cons_of_mem _ m)) e m
theorem cutsV_ok : ∀ {l : List Nat} {p : PR}, Box 5 6 p → WfP p → cutsB p l = true → WfP (cutsV p l) ∧ Box 5 6 (cutsV p l)
  | [], p, hb, wp, _ => ⟨wp, hb⟩
  | i :: l, p, hb, wp, h => by
    unfold cutsB at h
    split at h
    · rename_i e
      simp only [Bool.and_eq_true, decide_eq_true_eq] at e
      exact cutsV_ok (l := l) (box_cutP (B := 5) (n := 6) (by decide) e.1.2 (by omega) hb) (wf_cutP p i) h
    · cases h
theorem wf_init (m : Int) : WfP [(rowI m, (1 : Int))] := ⟨List.nodup_cons.mpr ⟨by simp, List.nodup_nil⟩, fun e m => by
    rcases List.mem_cons.mp m with rfl | m
    · show (1 : Int) ≠ 0
      decide
    · exact nomatch m⟩
theorem sum_one {s : List Int} (h : sumB1 s = true) (r1 : roadR (rowD s) = some (((s.length : Nat) : Int), roadP 20 s)) : f_sum_by [rowD s] = some (toD (sumV s)) ∧ WfP (sumV s) := by
  unfold sumB1 at h
  simp only [Bool.and_eq_true, decide_eq_true_eq] at h
  obtain ⟨⟨h1, h2⟩, h3⟩ := h
  have hb := box_init (s.length : Nat) (by omega)
  have wf0 := wf_init (s.length : Nat)
  have e1 := cutsC_of hb h2
  have hl := cutsB_len h2
  obtain ⟨l3, l4⟩ := cutsV_ok hb wf0 h2
  have nd5 := nd_take5 l4 h3 l3.nd
  have wfs : WfP (sumV s) := ⟨nd5, take5_nz l3.nz⟩
  refine ⟨?_, wfs⟩
  refine tr_sum r1 ?_
  unfold sumC
  rw [e1]
  dsimp only
  rw [decide_eq_true (by omega)]
  dsimp only
  rw [putsP_fresh _ [] nd5]
  rfl
theorem sum_all {s : List Int} (h : sumB1 s = true) (r1 : roadR (rowD s) = some (((s.length : Nat) : Int), roadP 20 s)) :
    f_sum_by [rowD s] = some (toD (sumV s)) ∧ WfP (sumV s) ∧ (roadL (rowD s) = some (s.length, (roadP 20 s).reverse) → f__law_sum [rowD s] = some (toD (lsumV s)) ∧ WfP (lsumV s) ∧ (lsumV s).Perm (sumV s)) := by
  have one := sum_one h r1
  unfold sumB1 at h
  simp only [Bool.and_eq_true, decide_eq_true_eq] at h
  obtain ⟨⟨h1, h2⟩, h3⟩ := h
  have hb := box_init (s.length : Nat) (by omega)
  have wf0 := wf_init (s.length : Nat)
  have hl := cutsB_len h2
  obtain ⟨l1, l2, l3, l4⟩ := lcuts_of hb wf0 wf0 (List.Perm.refl _) h2
  refine ⟨one.1, one.2, fun r2 => ?_⟩
  have pm := take5_perm l2
  have hz : zero6 (lcutsV [(rowI ((s.length : Nat) : Int), 1)] (roadP 20 s).reverse) = true := (zero6_iff _).mpr fun e m => (zero6_iff _).mp h3 e (l2.mem_iff.mp m)
  have hb2 : Box 5 6 (lcutsV [(rowI ((s.length : Nat) : Int), 1)] (roadP 20 s).reverse) := fun e m => l4 e (l2.mem_iff.mp m)
  have ndl : NdP (lcutsV [(rowI ((s.length : Nat) : Int), 1)] (roadP 20 s).reverse) := (l2.map _).nodup_iff.mpr l3.nd
  have nd6 := nd_take5 hb2 hz ndl
  have el : lsumV s = take5 (lcutsV [(rowI ((s.length : Nat) : Int), 1)] (roadP 20 s).reverse) := by
    unfold lsumV
    rw [rowL_eq]
  rw [el]
  refine ⟨tr_lsum r2 ?_, ⟨nd6, take5_nz fun e m => l3.nz e (l2.mem_iff.mp m)⟩, pm⟩
  unfold lsumC
  rw [rowL_eq, l1]
  dsimp only
  rw [decide_eq_true (by rw [l2.length_eq]; omega)]
  dsimp only
  rw [putsP_fresh _ [] nd6]
  rfl
end L2.Dn
set_option Elab.async false
set_option linter.all false
set_option maxRecDepth 100000
set_option maxHeartbeats 0
/-! all sequences of so many wires -/
namespace L2.Dn
open PySem PySem.Spec PyProof.Rows C8
def insP {α : Type} (x : α) : List α → List (List α)
  | [] => [[x]]
  | y :: ys => (x :: y :: ys) :: (insP x ys).map (y :: ·)
def permsP {α : Type} : List α → List (List α)
  | [] => [[]]
  | x :: xs => (permsP xs).flatMap (insP x)
theorem insP_mem {α : Type} (x : α) : ∀ (l r : List α), l ++ x :: r ∈ insP x (l ++ r)
  | [], [] => by simp [insP]
  | [], y :: ys => by simp [insP]
  | y :: l, r => by
    have ih := insP_mem x l r
    show y :: (l ++ x :: r) ∈ (x :: y :: (l ++ r)) :: (insP x (l ++ r)).map (y :: ·)
    exact List.mem_cons_of_mem _ (List.mem_map.mpr ⟨_, ih, rfl⟩)
theorem permsP_mem {α : Type} : ∀ (xs ys : List α), ys.Perm xs → ys ∈ permsP xs
  | [], ys, h => by
    rw [List.Perm.eq_nil h]
    exact List.mem_singleton.mpr rfl
  | x :: xs, ys, h => by
    have hx : x ∈ ys := h.mem_iff.mpr (List.mem_cons_self ..)
    obtain ⟨l, r, rfl⟩ := List.append_of_mem hx
    have h2 : (l ++ r).Perm xs := (List.perm_middle.symm.trans h).cons_inv
    exact List.mem_flatMap.mpr ⟨_, permsP_mem xs _ h2, insP_mem x l r⟩
theorem insP_map {α β : Type} (f : α → β) (x : α) : ∀ (l : List α), insP (f x) (l.map f) = (insP x l).map (List.map f)
  | [] => rfl
  | y :: l => by
    show (f x :: f y :: l.map f) :: (insP (f x) (l.map f)).map (f y :: ·) = _
    rw [insP_map f x l]
    simp [insP, List.map_map, Function.comp_def]
theorem permsP_map {α β : Type} (f : α → β) : ∀ (l : List α), permsP (l.map f) = (permsP l).map (List.map f)
  | [] => rfl
  | x :: l => by
    show (permsP (l.map f)).flatMap (insP (f x)) = _
    rw [permsP_map f l]
    show _ = ((permsP l).flatMap (insP x)).map (List.map f)
    rw [List.map_flatMap, List.flatMap_map]
    congr 1
    funext y
    exact insP_map f x y
def rgL (a : Int) : Nat → List Int
  | 0 => []
  | n + 1 => a :: rgL (a + 1) n
theorem rgD_map : ∀ (n : Nat) (a : Int), rgD a n = (rgL a n).map D.int
  | 0, _ => rfl
  | n + 1, a => by
    show D.int a :: rgD (a + 1) n = D.int a :: (rgL (a + 1) n).map D.int
    rw [rgD_map n (a + 1)]
def seqsI (n : Nat) : List (List Int) := permsP (rgL 1 n)
theorem seqsI_of {n : Nat} {ys : List D} (h : ys.Perm (rgD 1 n)) : ∃ l ∈ seqsI n, ys = l.map D.int := by
  have m := permsP_mem _ _ h
  rw [rgD_map, permsP_map] at m
  obtain ⟨l, hl, e⟩ := List.mem_map.mp m
  exact ⟨l, hl, e.symm⟩
theorem insP_perm {α : Type} (x : α) : ∀ (l m : List α), m ∈ insP x l → m.Perm (x :: l)
  | [], m, h => by
    rw [List.mem_singleton.mp h]
  | y :: l, m, h => by
    rcases List.mem_cons.mp h with rfl | h
    · exact List.Perm.refl _
    · obtain ⟨t, ht, rfl⟩ := List.mem_map.mp h
      exact ((insP_perm x l t ht).cons y).trans (List.Perm.swap ..)
theorem permsP_perm {α : Type} : ∀ (l m : List α), m ∈ permsP l → m.Perm l
  | [], m, h => by rw [List.mem_singleton.mp h]
  | x :: l, m, h => by
    obtain ⟨t, ht, hm⟩ := List.mem_flatMap.mp h
    exact (insP_perm x t m hm).trans ((permsP_perm l t ht).cons x)
theorem rgL_len : ∀ (n : Nat) (a : Int), (rgL a n).length = n
  | 0, _ => rfl
  | n + 1, a => congrArg Nat.succ (rgL_len n (a + 1))
theorem seqsI_len {n : Nat} {l : List Int} (h : l ∈ seqsI n) : l.length = n := by
  rw [(permsP_perm _ _ h).length_eq, rgL_len]
end L2.Dn
set_option Elab.async false
set_option linter.all false
set_option maxRecDepth 100000
/-! tests, the plus of the law, unknowns exchanged -/
namespace L2.Dn
open PySem PySem.Spec PyProof.Rows C8
def isOk (o : Option D) : Bool := o.isSome
theorem isOk_ok {o : Option D} (h : isOk o = true) : ∃ d, o = some d := Option.isSome_iff_exists.mp h
def isT (o : Option D) : Bool := match o with
  | some (.bool b) => b
  | _ => false
theorem isT_ok {o : Option D} (h : isT o = true) : o = some (.bool true) := by
  unfold isT at h
  split at h
  · rw [h]
  · cases h
def tupIs (o : Option D) (s : List Int) : Bool := match o with
  | some (.tuple xs) => (match ints? xs with
    | some l => beqL l s
    | none => false)
  | _ => false
theorem tupIs_ok {o : Option D} {s : List Int} (h : tupIs o s = true) : o = some (rowD s) := by
  unfold tupIs at h
  split at h
  · split at h
    · rename_i e
      rw [beqL_eq] at h
      rw [ints_eq e, of_decide_eq_true h]
    · cases h
  · cases h
theorem dDrop_eq {f : Den} {env : En} {ds s : DS} {a : D} (h : f env ds = some (a, s)) : dDropS f env ds = some (.nx env, s) := by
  unfold dDropS
  rw [h]
  rfl
theorem tNot_t {f : Den} {env : En} {ds s : DS} (h : f env ds = some (.bool true, s)) : tNotD (dTest f) env ds = some (false, s) := by
  unfold tNotD
  rw [dTest_of h]
  rfl
theorem dOr_f {t u : DenT} {env : En} {ds s s1 : DS} {b : Bool} (h1 : t env ds = some (false, s)) (h2 : u env s = some (b, s1)) : tOrD t u env ds = some (b, s1) := by
  unfold tOrD
  rw [h1]
  exact h2
/-! unknowns exchanged -/
def swpR (r : List Int) (i : Nat) : List Int := r.take (i - 1) ++ [r.getD i 0, r.getD (i - 1) 0] ++ r.drop (i + 1)
def turnTs (i : Nat) : PR → PR
  | [] => []
  | (r, c) :: p => (swpR r i, c) :: turnTs i p
def turnP (p : PR) (i : Nat) : PR := putsP [] (turnTs i p)
def swpDen (j : Nat) (l : Nat) : Den := d2 gAdd (d2 gAdd (dSl (dRd j) none (some (d2 gSub (dRd l) (dC (.int 1))))) (dTup (aCons (d2 gIx (dRd j) (dRd l)) (aCons (d2 gIx (dRd j) (d2 gSub (dRd l) (dC (.int 1)))) (aNil))))) (dSl (dRd j) (some (d2 gAdd (dRd l) (dC (.int 1)))) none)
theorem swpDen_eq {j l : Nat} {env : En} {ds : DS} {r : List Int} {i : Nat} (hj : dRd j env ds = some (rowD r, ds)) (hi : dRd l env ds = some (.int (i : Nat), ds)) (h1 : 1 ≤ i) (h2 : i < r.length) (h3 : r.length < 1000) : swpDen j l env ds = some (rowD (swpR r i), ds) := by
  have hm : d2 gSub (dRd l) (dC (.int 1)) env ds = some (.int ((i : Int) - 1), ds) := d2_eq hi (b := .int 1) rfl rfl
  have hp : d2 gAdd (dRd l) (dC (.int 1)) env ds = some (.int ((i : Int) + 1), ds) := d2_eq hi (b := .int 1) rfl rfl
  have e1 : dSl (dRd j) none (some (d2 gSub (dRd l) (dC (.int 1)))) env ds = some (.tuple (cutD (r.map D.int) none (some ((i : Int) - 1))), ds) := by
    unfold dSl dPart
    rw [hj]
    unfold bnd
    dsimp only
    rw [hm]
  have e3 : dSl (dRd j) (some (d2 gAdd (dRd l) (dC (.int 1)))) none env ds = some (.tuple (cutD (r.map D.int) (some ((i : Int) + 1)) none), ds) := by
    unfold dSl dPart
    rw [hj]
    unfold bnd
    dsimp only
    rw [hp]
  have x1 : d2 gIx (dRd j) (dRd l) env ds = some (.int (r.getD i 0), ds) := d2_eq hj hi (ixRow r i h2)
  have x2 : d2 gIx (dRd j) (d2 gSub (dRd l) (dC (.int 1))) env ds = some (.int (r.getD (i - 1) 0), ds) := by
    refine d2_eq hj hm ?_
    have : ((i : Int) - 1) = ((i - 1 : Nat) : Int) := by omega
    rw [this]
    exact ixRow r (i - 1) (by omega)
  have e2 : dTup (aCons (d2 gIx (dRd j) (dRd l)) (aCons (d2 gIx (dRd j) (d2 gSub (dRd l) (dC (.int 1)))) (aNil))) env ds = some (.tuple [.int (r.getD i 0), .int (r.getD (i - 1) 0)], ds) := by
    unfold dTup
    rw [aCons_eq x1 (aCons1 x2)]
    rfl
  rw [cutD_pre r i h1 h2] at e1
  rw [cutD_post r i h2] at e3
  have e4 := d2_eq (g := gAdd) e1 e2 (c := .tuple ((r.take (i - 1)).map D.int ++ [.int (r.getD i 0), .int (r.getD (i - 1) 0)])) (gAddT (by simp; omega))
  have e5 := d2_eq (g := gAdd) e4 e3 (c := .tuple (((r.take (i - 1)).map D.int ++ [.int (r.getD i 0), .int (r.getD (i - 1) 0)]) ++ (r.drop (i + 1)).map D.int)) (gAddT (by simp; omega))
  unfold swpDen
  rw [e5]
  simp [rowD, swpR]
def U5 (R : Option Sl) (i : Nat) (acc : PR) (a3 a4 : Option Sl) : En := [R, vS (.int (i : Nat)), some (.own (toD acc)), a3, a4]
def turnBody : DenS := dSeq (dPut 2 (dVar 4) (swpDen 3 1)) (dNx)
theorem turn_loop (R : Option Sl) (i : Nat) (h1 : 1 ≤ i) (ds : DS) : ∀ (p acc : PR) (a3 a4 : Option Sl), RowsOk i p → NdP acc → acc.length + p.length < 100000 →
    ∃ b3 b4, forLoop (gPair 3 4) turnBody (itsP p) (U5 R i acc a3 a4) ds = some (.nx (U5 R i (putsP acc (turnTs i p)) b3 b4), ds)
  | [], acc, a3, a4, _, _, _ => ⟨a3, a4, rfl⟩
  | (r, c) :: p, acc, a3, a4, ok, nd, hl => by
    obtain ⟨h2, h3⟩ := ok (r, c) (List.mem_cons_self ..)
    simp only [List.length_cons] at hl
    obtain ⟨b3, b4, ih⟩ := turn_loop R i h1 ds p (putP acc (swpR r i) c) (vS (rowD r)) (vS (.int c)) (fun e m => ok e (List.mem_cons_of_mem _ m)) (nd_putP _ _ nd) (by have := putP_len acc (swpR r i) c; omega)
    refine ⟨b3, b4, ?_⟩
    have e1 := putAt (i := 2) (kd := swpDen 3 1) (vd := dVar 4) (env := U5 R i acc (vS (rowD r)) (vS (.int c))) (ds := ds) (p := acc) (k := swpR r i) (c := c) rfl (swpDen_eq rfl rfl h1 h2 h3) rfl nd (by omega)
    have e2 : turnBody (U5 R i acc (vS (rowD r)) (vS (.int c))) ds = some (.nx (U5 R i (putP acc (swpR r i) c) (vS (rowD r)) (vS (.int c))), ds) := (dSeq_eq e1).trans rfl
    exact (forLoop_cons (d := .tuple [rowD r, .int c]) rfl e2).trans ih
theorem turnTs_len (i : Nat) : ∀ (p : PR), (turnTs i p).length = p.length
  | [] => rfl
  | (r, c) :: p => congrArg Nat.succ (turnTs_len i p)
end L2.Dn
set_option Elab.async false
set_option linter.all false
set_option maxRecDepth 100000
/-! tellings: a basis of sums, what they come to -/
namespace L2.Dn
open PySem PySem.Spec PyProof.Rows C8
theorem nd_len {α : Type} [DecidableEq α] : ∀ (l m : List α), l.Nodup → (∀ x ∈ l, x ∈ m) → l.length ≤ m.length
  | [], m, _, _ => Nat.zero_le _
  | a :: l, m, nd, sub => by
    have nd' := List.nodup_cons.mp nd
    have ha : a ∈ m := sub a (List.mem_cons_self ..)
    have hl := (List.perm_cons_erase ha).length_eq
    have ih := nd_len l (m.erase a) nd'.2 fun x hx => (List.mem_erase_of_ne (fun z => nd'.1 (by rw [← z]; exact hx))).mpr (sub x (List.mem_cons_of_mem _ hx))
    simp only [List.length_cons] at hl ⊢
    omega
def smallB : PR → Bool
  | [] => true
  | (_, v) :: r => (match decide (-(2 ^ 64) < v) && decide (v < 2 ^ 64) with
    | true => smallB r
    | false => false)
theorem smallB_ok : ∀ {p : PR}, smallB p = true → SmallP p
  | [], _, e, m => nomatch m
  | (k, v) :: r, h, e, m => by
    unfold smallB at h
    split at h
    · rename_i h1
      rcases List.mem_cons.mp m with q | q
      · subst q
        rw [Bool.and_eq_true] at h1
        exact ⟨of_decide_eq_true h1.1, of_decide_eq_true h1.2⟩
      · exact smallB_ok h e q
    · cases h
def lkIs (o : Option Int) (n : Int) : Bool := match o with
  | some m => decide (m = n)
  | none => false
theorem lkIs_ok {o : Option Int} {n : Int} (h : lkIs o n = true) : o = some n := by
  unfold lkIs at h
  split at h
  · rw [of_decide_eq_true h]
  · cases h
def beqN : List Nat → List Nat → Bool
  | [], [] => true
  | a :: r, b :: t => (match Nat.beq a b with
    | true => beqN r t
    | false => false)
  | _, _ => false
theorem beqN_ok : ∀ {a b : List Nat}, beqN a b = true → a = b
  | [], [], _ => rfl
  | [], _ :: _, h => by cases h
  | _ :: _, [], h => by cases h
  | a :: r, b :: t, h => by
    unfold beqN at h
    split at h
    · rename_i e
      rw [Nat.eq_of_beq_eq_true e, beqN_ok h]
    · cases h
def seqR (s : List Int) : Bool := match roadR (rowD s) with
  | some (m, l) => (match decide (m = ((s.length : Nat) : Int)) with
    | true => beqN l (roadP 20 s)
    | false => false)
  | none => false
theorem seqR_ok {s : List Int} (h : seqR s = true) : roadR (rowD s) = some (((s.length : Nat) : Int), roadP 20 s) := by
  unfold seqR at h
  split at h
  · rename_i m l e
    split at h
    · rename_i e2
      rw [e, of_decide_eq_true e2, beqN_ok h]
    · cases h
  · cases h
def subB (ST : List (List Int)) : PR → Bool
  | [] => true
  | (k, _) :: p => (match ST.any (fun x => beqL k x) with
    | true => subB ST p
    | false => false)
theorem subB_ok {ST : List (List Int)} : ∀ {p : PR}, subB ST p = true → ∀ k ∈ kysP p, k ∈ ST
  | [], _, k, m => nomatch m
  | (k', v) :: p, h, k, m => by
    unfold subB at h
    split at h
    · rename_i e
      rcases List.mem_cons.mp m with rfl | m
      · obtain ⟨x, hx, e⟩ := List.any_eq_true.mp e
        rw [beqL_eq] at e
        rw [of_decide_eq_true e]
        exact hx
      · exact subB_ok h k m
    · cases h
theorem hOk_in {ST : List (List Int)} (hs : nodupI (ST.map hT) = true) {p : PR} (nd : NdP p) (h : ∀ k ∈ kysP p, k ∈ ST) : hOk p = true := by
  refine hOk_sub (q := ST.map fun r => (r, 1)) (fun k hk => ?_) nd ?_
  · have e : kysP (ST.map fun r => (r, (1 : Int))) = ST := by
      unfold kysP
      rw [List.map_map]
      exact List.map_id _
    rw [e]
    exact h k hk
  · rw [hOk_iff, List.map_map]
    exact (nodupI_iff _).mp hs
theorem lin_ne (w : List Int → Int) : ∀ (p : PR), lin w p ≠ 0 → ∃ e ∈ p, w e.1 ≠ 0
  | [], h => absurd rfl h
  | (k, v) :: p, h => by
    by_cases e : w k = 0
    · have : lin w p ≠ 0 := fun q => h (by show v * w k + lin w p = 0; rw [e, q]; omega)
      obtain ⟨x, hx, h2⟩ := lin_ne w p this
      exact ⟨x, List.mem_cons_of_mem _ hx, h2⟩
    · exact ⟨(k, v), List.mem_cons_self .., e⟩
theorem sub_len {ST : List (List Int)} {p : PR} (nd : NdP p) (h : ∀ k ∈ kysP p, k ∈ ST) : p.length ≤ ST.length := by
  have := nd_len (kysP p) ST nd h
  unfold kysP at this
  rwa [List.length_map] at this
theorem gtI_tot {a b : List Int} (h : a ≠ b) (h2 : gtI a b = false) : gtI b a = true := by
  cases q : gtI b a with
  | true => rfl
  | false => exact absurd (gtI_eq _ _ h2 q) h
theorem gtI_le {x a r : List Int} (h1 : gtI x a = false) (h2 : gtI a r = false) : gtI x r = false := by
  cases q : gtI x r with
  | false => rfl
  | true =>
    by_cases e : a = r
    · rw [e] at h1
      rw [q] at h1
      cases h1
    · rw [gtI_trans _ _ _ q (gtI_tot e h2)] at h1
      cases h1
theorem lin_at (w : List Int → Int) (s : List Int) : ∀ {T : PR}, NdP T → w s = 1 → (∀ e ∈ T, e.1 ≠ s → w e.1 = 0) → lin w T = cfs T s
  | [], _, _, _ => rfl
  | (k, v) :: T, nd, h1, h2 => by
    have nd' := List.nodup_cons.mp nd
    have ih := lin_at w s nd'.2 h1 fun e m => h2 e (List.mem_cons_of_mem _ m)
    show v * w k + lin w T = _
    rw [ih, cfs_cons]
    by_cases e : k = s
    · rw [if_pos e, e, h1, Int.mul_one]
    · rw [if_neg e, h2 (k, v) (List.mem_cons_self ..) e, Int.mul_zero]
def remP (s : List Int) : PR → PR
  | [] => []
  | (k, v) :: T => (match beqL k s with
    | true => T
    | false => (k, v) :: remP s T)
theorem lin_remP (w : List Int → Int) (s : List Int) (n : Int) : ∀ {T : PR}, NdP T → (s, n) ∈ T → lin w T = n * w s + lin w (remP s T)
  | (k, v) :: T, nd, m => by
    have nd' := List.nodup_cons.mp nd
    unfold remP
    rw [beqL_eq]
    rcases List.mem_cons.mp m with q | q
    · cases q
      rw [decide_eq_true rfl]
      rfl
    · have : k ≠ s := fun e => nd'.1 (by rw [e]; exact List.mem_map.mpr ⟨_, q, rfl⟩)
      rw [decide_eq_false this]
      show v * w k + lin w T = n * w s + (v * w k + lin w (remP s T))
      rw [lin_remP w s n nd'.2 q]
      omega
theorem remP_sub (s : List Int) : ∀ (T : PR), List.Sublist (remP s T) T
  | [] => .slnil
  | (k, v) :: T => by
    unfold remP
    split
    · exact List.sublist_cons_self _ _
    · exact (remP_sub s T).cons₂ _
theorem remP_len {s : List Int} : ∀ {T : PR} {n : Int}, (s, n) ∈ T → (remP s T).length + 1 = T.length
  | (k, v) :: T, n, m => by
    unfold remP
    rw [beqL_eq]
    by_cases e : k = s
    · rw [decide_eq_true e]
      rfl
    · rw [decide_eq_false e]
      rcases List.mem_cons.mp m with q | q
      · cases q
        exact absurd rfl e
      · have := remP_len q
        simp only [List.length_cons]
        omega
theorem remP_key {s : List Int} : ∀ {T : PR}, NdP T → s ∉ kysP (remP s T)
  | [], _, h => nomatch h
  | (k, v) :: T, nd, h => by
    have nd' := List.nodup_cons.mp nd
    unfold remP at h
    rw [beqL_eq] at h
    by_cases e : k = s
    · rw [decide_eq_true e] at h
      rw [e] at nd'
      exact nd'.1 h
    · rw [decide_eq_false e] at h
      rcases List.mem_cons.mp h with q | q
      · exact e q.symm
      · exact remP_key nd'.2 q
theorem cfs_lin : ∀ (T : PR) (s : List Int), cfs T s = lin (fun x => if x = s then 1 else 0) T
  | [], _ => rfl
  | (k, v) :: T, s => by
    show (if k = s then v else 0) + cfs T s = v * (if k = s then 1 else 0) + lin _ T
    rw [cfs_lin T s]
    split <;> omega
end L2.Dn
set_option Elab.async false
set_option linter.all false
set_option maxRecDepth 100000
/-! the program's functions with their tests; cut and exchanged by coefficients -/
namespace L2.Dn
open PySem PySem.Spec PyProof.Rows C8
theorem allE_ok : ∀ {r : List Int}, allE r = true → ∀ x ∈ r, 0 ≤ x ∧ x ≤ 60
  | [], _, x, m => nomatch m
  | y :: r, h, x, m => by
    unfold allE at h
    split at h
    · rename_i e
      rcases List.mem_cons.mp m with rfl | m
      · unfold expOk at e
        split at e
        · rename_i e0
          exact ⟨of_decide_eq_true e0, of_decide_eq_true e⟩
        · cases e
      · exact allE_ok h x m
    · cases h
theorem allE_of : ∀ {r : List Int}, (∀ x ∈ r, 0 ≤ x ∧ x ≤ 60) → allE r = true
  | [], _ => rfl
  | y :: r, h => by
    have h1 := h y (List.mem_cons_self ..)
    unfold allE expOk
    rw [decide_eq_true h1.1, decide_eq_true h1.2]
    exact allE_of fun x m => h x (List.mem_cons_of_mem _ m)
theorem box_poly {p : PR} (h : polyOk p = true) : Box 60 5 p := fun e m => by
  obtain ⟨h1, h2, _⟩ := (polyOk_iff p).mp h e m
  exact ⟨h1, allE_ok h2⟩
theorem poly_box {p : PR} (w : WfP p) (h : Box 60 5 p) : polyOk p = true := (polyOk_iff p).mpr fun e m => ⟨(h e m).1, allE_of (h e m).2, w.nz e m⟩
theorem poly_rows {p : PR} (h : polyOk p = true) {i : Nat} (hi : i ≤ 4) : RowsOk i p := fun e m => by
  have := (box_poly h e m).1
  omega
theorem needpoly {p : PR} (h : polyOk p = true) (hl : p.length ≤ 100000) : f_need_polynomial [toD p] = some .none := by
  have e1 : tNotD (dTest (dCallP 1 f_is_polynomial_of (aCons (dVar 0) (aNil)))) (envP 1 [toD p]) ds0 = some (false, ds0) := tNot_t (dCallP_eq (as := [toD p]) rfl rfl (tr_pol p h hl))
  have e2 : d_need_polynomial (envP 1 [toD p]) ds0 = some (.nx (envP 1 [toD p]), ds0) := (dSeq_eq ((dIfS_f e1).trans rfl)).trans rfl
  show (outD (d_need_polynomial (envP 1 [toD p]) ds0)).map (·.1) = _
  rw [e2]
  rfl
theorem needboth {p q : PR} (h1 : polyOk p = true) (h2 : polyOk q = true) (l1 : p.length ≤ 100000) (l2 : q.length ≤ 100000) : f_need_both [toD p, toD q] = some .none := by
  have e1 : tNotD (dTest (dCallP 1 f_is_polynomial_of (aCons (dVar 0) (aNil)))) (envP 2 [toD p, toD q]) ds0 = some (false, ds0) := tNot_t (dCallP_eq (as := [toD p]) rfl rfl (tr_pol p h1 l1))
  have e2 : tNotD (dTest (dCallP 1 f_is_polynomial_of (aCons (dVar 1) (aNil)))) (envP 2 [toD p, toD q]) ds0 = some (false, ds0) := tNot_t (dCallP_eq (as := [toD q]) rfl rfl (tr_pol q h2 l2))
  have e3 : d_need_both (envP 2 [toD p, toD q]) ds0 = some (.nx (envP 2 [toD p, toD q]), ds0) := (dSeq_eq ((dIfS_f e1).trans rfl)).trans ((dSeq_eq ((dIfS_f e2).trans rfl)).trans rfl)
  show (outD (d_need_both (envP 2 [toD p, toD q]) ds0)).map (·.1) = _
  rw [e3]
  rfl
theorem cutTs_len60 {p : PR} (h : polyOk p = true) {i : Nat} (h1 : 1 ≤ i) (h2 : i ≤ 4) : (cutTs i p).length ≤ 60 * p.length := (box_cutTs (B := 60) (n := 5) (by decide) h1 (by omega) (box_poly h)).2
theorem isnum (m : Int) : f_is_number [.int m] = some (.bool true) := rfl
theorem w_plust {p q : PR} {m : Int} (h1 : polyOk p = true) (h2 : polyOk q = true) (nd : NdP p) (hh : hOk p = true) (hm : SmallM m q) (hl : p.length + q.length < 100000) : f_plus_times [toD p, toD q, .int m] = some (toD (plusP p q m)) := by
  have e := tr_plus p q m nd hh hm hl
  have n1 := needboth h1 h2 (by omega) (by omega)
  have e1 : tNotD (dTest (dCallP 1 f_is_number (aCons (dVar 2) (aNil)))) (envP 3 [toD p, toD q, .int m]) ds0 = some (false, ds0) := tNot_t (dCallP_eq (as := [.int m]) rfl rfl (isnum m))
  exact fnP_eq (b := d_plus_times) ((dSeq_eq (dDrop_eq (env := envP 3 [toD p, toD q, .int m]) (dCallP_eq (as := [toD p, toD q]) rfl rfl n1))).trans ((dSeq_eq ((dIfS_f e1).trans rfl)).trans (dSeq_rt (dRet_eq (dCallP_eq (as := [toD p, toD q, .int m]) rfl rfl e)))))
theorem mulP_len (p q : PR) : (mulP p q).length ≤ p.length * q.length := by
  have h1 := keepP_len (accP [] (mulTs q p))
  have h2 := accP_len (mulTs q p) []
  rw [mulTs_len] at h2
  simp only [List.length_nil] at h2
  unfold mulP
  omega
theorem gEqU_row (s : List Int) : gEqU (rowD s) (rowD s) = some (.bool true) := by
  have e1 : eqOk 8 (rowD s) = true := by
    show (s.map D.int).all (eqOk 7) = true
    rw [List.all_eq_true]
    intro x hx
    obtain ⟨y, _, rfl⟩ := List.mem_map.mp hx
    rfl
  have e2 : deq 8 (rowD s) (rowD s) = true := by
    show all2 (deq 7) (s.map D.int) (s.map D.int) = true
    induction s with
    | nil => rfl
    | cons a s ih =>
      show (decide (a = a) && all2 (deq 7) (s.map D.int) (s.map D.int)) = true
      rw [ih (by
        show (s.map D.int).all (eqOk 7) = true
        rw [List.all_eq_true]
        intro x hx
        obtain ⟨y, _, rfl⟩ := List.mem_map.mp hx
        rfl)]
      simp
  unfold gEqU gEqD
  rw [e1, e2]
  rfl
/-! ### by coefficients -/
theorem lin_cong2 {w w' : List Int → Int} : ∀ {T : PR}, (∀ e ∈ T, w e.1 = w' e.1) → lin w T = lin w' T
  | [], _ => rfl
  | (k, v) :: T, h => by
    show v * w k + lin w T = v * w' k + lin w' T
    have h1 : w k = w' k := h (k, v) (List.mem_cons_self ..)
    rw [h1, lin_cong2 fun e m => h e (List.mem_cons_of_mem _ m)]
theorem cfs_turnTs (i : Nat) (k : List Int) : ∀ (p : PR), cfs (turnTs i p) k = lin (fun r => if swpR r i = k then 1 else 0) p
  | [] => rfl
  | (r, c) :: p => by
    show (if swpR r i = k then c else 0) + cfs (turnTs i p) k = c * (if swpR r i = k then 1 else 0) + lin _ p
    rw [cfs_turnTs i k p]
    split <;> omega
theorem swpR_len {r : List Int} {i : Nat} (h1 : 1 ≤ i) (h2 : i < r.length) : (swpR r i).length = r.length := by
  unfold swpR
  simp
  omega
theorem swpR_inv {r : List Int} {i : Nat} (h1 : 1 ≤ i) (h2 : i < r.length) : swpR (swpR r i) i = r := by
  have hd : r = r.take (i - 1) ++ (r.getD (i - 1) 0 :: r.getD i 0 :: r.drop (i + 1)) := by
    have a1 : r.drop (i - 1) = r.getD (i - 1) 0 :: r.drop i := by
      rw [List.drop_eq_getElem_cons (by omega)]
      have : i - 1 + 1 = i := by omega
      rw [this]
      simp [List.getD, show i - 1 < r.length by omega]
    have a2 : r.drop i = r.getD i 0 :: r.drop (i + 1) := by
      rw [List.drop_eq_getElem_cons h2]
      simp [List.getD, h2]
    rw [← a2, ← a1, List.take_append_drop]
  generalize hp : r.take (i - 1) = pre at hd
  generalize hq : r.drop (i + 1) = post at hd
  generalize hx : r.getD (i - 1) 0 = x at hd
  generalize hy : r.getD i 0 = y at hd
  have lp : pre.length = i - 1 := by rw [← hp, List.length_take]; omega
  have e1 : swpR r i = pre ++ (y :: x :: post) := by
    unfold swpR
    rw [hp, hq, hx, hy]
    simp
  rw [e1]
  unfold swpR
  have t1 : (pre ++ (y :: x :: post)).take (i - 1) = pre := by rw [← lp]; simp
  have t2 : (pre ++ (y :: x :: post)).drop (i + 1) = post := by
    have : i + 1 = pre.length + 2 := by omega
    rw [this]
    simp
  have t3 : (pre ++ (y :: x :: post)).getD i 0 = x := by
    have : i = pre.length + 1 := by omega
    rw [this]
    simp [List.getD]
  have t4 : (pre ++ (y :: x :: post)).getD (i - 1) 0 = y := by
    rw [← lp]
    simp [List.getD]
  rw [t1, t2, t3, t4, hd]
  simp
theorem nd_turnTs {i : Nat} (h1 : 1 ≤ i) : ∀ {p : PR}, RowsOk i p → NdP p → NdP (turnTs i p)
  | [], _, _ => List.nodup_nil
  | (r, c) :: p, ok, nd => by
    have nd' := List.nodup_cons.mp nd
    refine List.nodup_cons.mpr ⟨fun m => ?_, nd_turnTs h1 (fun e m => ok e (List.mem_cons_of_mem _ m)) nd'.2⟩
    have : ∀ p : PR, ∀ k ∈ kysP (turnTs i p), ∃ e ∈ p, k = swpR e.1 i := by
      intro p
      induction p with
      | nil => intro k hk; exact nomatch hk
      | cons x p ih =>
        intro k hk
        obtain ⟨r, c⟩ := x
        rcases List.mem_cons.mp hk with rfl | hk
        · exact ⟨(r, c), List.mem_cons_self .., rfl⟩
        · obtain ⟨e, he, ek⟩ := ih k hk
          exact ⟨e, List.mem_cons_of_mem _ he, ek⟩
    obtain ⟨e, he, ek⟩ := this p _ m
    have ek : swpR r i = swpR e.1 i := ek
    have h2 : i < r.length := (ok (r, c) (List.mem_cons_self ..)).1
    have h3 := (ok e (List.mem_cons_of_mem _ he)).1
    have : r = e.1 := by rw [← swpR_inv h1 h2, ek, swpR_inv h1 h3]
    exact nd'.1 (by show r ∈ _; rw [this]; exact List.mem_map.mpr ⟨e, he, rfl⟩)
theorem turnP_eq {i : Nat} (h1 : 1 ≤ i) {p : PR} (ok : RowsOk i p) (nd : NdP p) : turnP p i = turnTs i p := putsP_fresh _ [] (nd_turnTs h1 ok nd)
theorem wf_turnP {i : Nat} (h1 : 1 ≤ i) {p : PR} (ok : RowsOk i p) (w : WfP p) : WfP (turnP p i) := by
  rw [turnP_eq h1 ok w.nd]
  refine ⟨nd_turnTs h1 ok w.nd, ?_⟩
  have : ∀ p : PR, (∀ e ∈ p, e.2 ≠ 0) → ∀ e ∈ turnTs i p, e.2 ≠ 0 := by
    intro p
    induction p with
    | nil => intro _ e m; exact nomatch m
    | cons x p ih =>
      intro h e m
      obtain ⟨r, c⟩ := x
      rcases List.mem_cons.mp m with rfl | m
      · exact h (r, c) (List.mem_cons_self ..)
      · exact ih (fun e m => h e (List.mem_cons_of_mem _ m)) e m
  exact this p w.nz
theorem cfs_turnP {i : Nat} (h1 : 1 ≤ i) {p : PR} (ok : RowsOk i p) (nd : NdP p) (k : List Int) : cfs (turnP p i) k = lin (fun r => if swpR r i = k then 1 else 0) p := by
  rw [turnP_eq h1 ok nd, cfs_turnTs]
end L2.Dn
set_option Elab.async false
set_option linter.all false
set_option maxRecDepth 100000
set_option maxHeartbeats 4000000
/-! k69: sequences, what the program's functions say of them -/
namespace L2.Dn
open PySem PySem.Spec PyProof.Rows C8
abbrev pD (s : List Int) : D := .ptup (s.map D.int)
theorem swp_split {r : List Int} {i : Nat} (h1 : 1 ≤ i) (h2 : i < r.length) : r = r.take (i - 1) ++ (r.getD (i - 1) 0 :: r.getD i 0 :: r.drop (i + 1)) := by
  have a1 : r.drop (i - 1) = r.getD (i - 1) 0 :: r.drop i := by
    rw [List.drop_eq_getElem_cons (by omega)]
    have : i - 1 + 1 = i := by omega
    rw [this]
    simp [List.getD, show i - 1 < r.length by omega]
  have a2 : r.drop i = r.getD i 0 :: r.drop (i + 1) := by
    rw [List.drop_eq_getElem_cons h2]
    simp [List.getD, h2]
  rw [← a2, ← a1, List.take_append_drop]
theorem swp_mid (pre post : List Int) (x y : Int) : swpP (pre ++ x :: y :: post) (pre.length + 1) = pre ++ y :: x :: post := by
  unfold swpP
  have t1 : (pre ++ (x :: y :: post)).take (pre.length + 1 - 1) = pre := by simp
  have t2 : (pre ++ (x :: y :: post)).drop (pre.length + 1 + 1) = post := by
    have : pre.length + 1 + 1 = pre.length + 2 := rfl
    rw [this]
    simp
  have t3 : (pre ++ (x :: y :: post)).getD (pre.length + 1) 0 = y := by simp [List.getD]
  have t4 : (pre ++ (x :: y :: post)).getD (pre.length + 1 - 1) 0 = x := by simp [List.getD]
  rw [t1, t2, t3, t4]
  simp
/-- a row split at a place -/
theorem swp_at {r : List Int} {i : Nat} (h1 : 1 ≤ i) (h2 : i < r.length) : ∃ pre post x y, r = pre ++ x :: y :: post ∧ i = pre.length + 1 := by
  refine ⟨r.take (i - 1), r.drop (i + 1), r.getD (i - 1) 0, r.getD i 0, swp_split h1 h2, ?_⟩
  rw [List.length_take]
  omega
theorem swp_len {r : List Int} {i : Nat} (h1 : 1 ≤ i) (h2 : i < r.length) : (swpP r i).length = r.length := by
  obtain ⟨pre, post, x, y, rfl, rfl⟩ := swp_at h1 h2
  rw [swp_mid]
  simp
theorem swp_perm {r : List Int} {i : Nat} (h1 : 1 ≤ i) (h2 : i < r.length) : (swpP r i).Perm r := by
  obtain ⟨pre, post, x, y, rfl, rfl⟩ := swp_at h1 h2
  rw [swp_mid]
  exact List.Perm.append_left _ (List.Perm.swap ..)
theorem swp_inv {r : List Int} {i : Nat} (h1 : 1 ≤ i) (h2 : i < r.length) : swpP (swpP r i) i = r := by
  obtain ⟨pre, post, x, y, rfl, rfl⟩ := swp_at h1 h2
  rw [swp_mid, swp_mid]
theorem swp_map (f : Int → Int) {r : List Int} {i : Nat} (h1 : 1 ≤ i) (h2 : i < r.length) : swpP (r.map f) i = (swpP r i).map f := by
  obtain ⟨pre, post, x, y, rfl, rfl⟩ := swp_at h1 h2
  rw [swp_mid]
  have := swp_mid (pre.map f) (post.map f) (f x) (f y)
  rw [List.length_map] at this
  simp only [List.map_append, List.map_cons]
  exact this
theorem swp_snoc {r : List Int} {i : Nat} (c : Int) (h1 : 1 ≤ i) (h2 : i < r.length) : swpP (r ++ [c]) i = swpP r i ++ [c] := by
  obtain ⟨pre, post, x, y, rfl, rfl⟩ := swp_at h1 h2
  rw [swp_mid]
  have := swp_mid pre (post ++ [c]) x y
  simpa using this
theorem swp_cons {r : List Int} {i : Nat} (c : Int) (h1 : 1 ≤ i) (h2 : i < r.length) : swpP (c :: r) (i + 1) = c :: swpP r i := by
  obtain ⟨pre, post, x, y, rfl, rfl⟩ := swp_at h1 h2
  rw [swp_mid]
  exact swp_mid (c :: pre) post x y
/-! ### drawings -/
theorem mapint_inj : ∀ {a b : List Int}, a.map D.int = b.map D.int → a = b
  | [], [], _ => rfl
  | [], _ :: _, h => by cases h
  | _ :: _, [], h => by cases h
  | x :: a, y :: b, h => by
    rw [List.map_cons, List.map_cons] at h
    injection h with h1 h2
    injection h1 with h1
    rw [h1, mapint_inj h2]
theorem swp_mem {n : Nat} {s : List Int} (hs : s ∈ seqsI n) {i : Nat} (h1 : 1 ≤ i) (h2 : i < n) : swpP s i ∈ seqsI n := by
  have hl := seqsI_len hs
  have p : ((swpP s i).map D.int).Perm (rgD 1 n) := by
    rw [rgD_map]
    exact ((swp_perm h1 (by omega)).trans (permsP_perm _ _ hs)).map _
  obtain ⟨m, hm, e⟩ := seqsI_of p
  rw [mapint_inj e]
  exact hm
theorem gCatP_pp {a b : List D} (h : a.length + b.length ≤ 100000) : gCatP (.ptup a) (.ptup b) = some (.ptup (a ++ b)) := by
  show (if a.length + b.length ≤ 100000 then some (match a, b with | [], _ => D.ptup b | _, [] => .ptup a | _, _ => .ptup (a ++ b)) else none) = _
  rw [if_pos h]
  cases a with
  | nil => rfl
  | cons x a =>
    cases b with
    | nil => rw [List.append_nil]
    | cons y b => rfl
theorem tr_swpP {d : D} {r : List Int} {i : Nat} (hd : tupD? d = some (r.map D.int)) (h1 : 1 ≤ i) (h2 : i < r.length) (h3 : r.length < 1000) : f_swapped_p [d, .int (i : Nat)] = some (pD (swpP r i)) := by
  have x0 : gIx d (.int (i : Nat)) = some (.int (r.getD i 0)) := by
    cases d with
    | tuple xs => cases hd; exact ixRow r i h2
    | ptup xs => cases hd; exact ixRow r i h2
    | _ => cases hd
  have x1 : gIx d (.int ((i : Int) - 1)) = some (.int (r.getD (i - 1) 0)) := by
    have : ((i : Int) - 1) = ((i - 1 : Nat) : Int) := by omega
    rw [this]
    cases d with
    | tuple xs => cases hd; exact ixRow r (i - 1) (by omega)
    | ptup xs => cases hd; exact ixRow r (i - 1) (by omega)
    | _ => cases hd
  let env : En := [vS d, vS (.int (i : Nat))]
  have e1 : dSlP (dRd 0) none (some (d2 gSub (dRd 1) (dC (.int 1)))) env ds0 = some (.ptup ((r.take (i - 1)).map D.int), ds0) := by
    show (match tupD? d with | some xs => some (if HT.sIx xs.length 0 none = 0 ∧ HT.sIx xs.length xs.length (some ((i : Int) - 1)) = xs.length then d else .ptup (cutD xs none (some ((i : Int) - 1))), ds0) | none => none) = _
    rw [hd]
    dsimp only
    rw [if_neg (fun z => by
      have z := z.2
      have e : ((i : Int) - 1) = ((i - 1 : Nat) : Int) := by omega
      rw [e, HT.sIx_nat, List.length_map] at z
      omega), cutD_pre r i h1 h2]
  have e3 : dSlP (dRd 0) (some (d2 gAdd (dRd 1) (dC (.int 1)))) none env ds0 = some (.ptup ((r.drop (i + 1)).map D.int), ds0) := by
    show (match tupD? d with | some xs => some (if HT.sIx xs.length 0 (some ((i : Int) + 1)) = 0 ∧ HT.sIx xs.length xs.length none = xs.length then d else .ptup (cutD xs (some ((i : Int) + 1)) none), ds0) | none => none) = _
    rw [hd]
    dsimp only
    rw [if_neg (fun z => by
      have z := z.1
      have e : ((i : Int) + 1) = ((i + 1 : Nat) : Int) := by omega
      rw [e, HT.sIx_nat, List.length_map] at z
      omega), cutD_post r i h2]
  have e2 : dTupP (aCons (d2 gIx (dRd 0) (dRd 1)) (aCons (d2 gIx (dRd 0) (d2 gSub (dRd 1) (dC (.int 1)))) (aNil))) env ds0 = some (.ptup [.int (r.getD i 0), .int (r.getD (i - 1) 0)], ds0) := by
    unfold dTupP
    rw [aCons_eq (d2_eq (a := d) (b := .int (i : Nat)) rfl rfl x0) (aCons1 (d2_eq (a := d) (b := .int ((i : Int) - 1)) rfl rfl x1))]
    rfl
  have e4 := d2_eq (g := gCatP) e1 e2 (gCatP_pp (by simp; omega))
  have e5 := d2_eq (g := gCatP) e4 e3 (gCatP_pp (by simp; omega))
  refine fnP_eq (b := d_swapped_p) (s := ds0) (dSeq_rt (dRet_eq (e5.trans ?_)))
  simp [swpP]
def isI (o : Option D) (n : Int) : Bool := match o with
  | some (.int m) => decide (m = n)
  | _ => false
theorem isI_ok {o : Option D} {n : Int} (h : isI o n = true) : o = some (.int n) := by
  unfold isI at h
  split at h
  · rw [of_decide_eq_true h]
  · cases h
theorem tup_two {d : D} {xs : List D} (h : tupD? d = some xs) : d = .tuple xs ∨ d = .ptup xs := by
  cases d with
  | tuple ys => cases h; exact .inl rfl
  | ptup ys => cases h; exact .inr rfl
  | _ => cases h
def lessN (x : Int) : List Int → Nat
  | [] => 0
  | y :: r => (match decide (y < x) with
    | true => Nat.succ (lessN x r)
    | false => lessN x r)
def invP : List Int → Nat
  | [] => 0
  | x :: r => Nat.add (lessN x r) (invP r)
/-- the place of a wire -/
def plcP (w : Int) : Int → List Int → Int
  | a, [] => a
  | a, x :: r => (match decide (x = w) with
    | true => a
    | false => plcP w (a + 1) r)
def backP (n : Nat) (s : List Int) : List Int := (rgL 1 n).map fun w => plcP w 1 s
def thnP (e f : List Int) : List Int := f.map fun p => e.getD (p.toNat - 1) 0
def isRowB (o : Option D) (s : List Int) : Bool := match o with
  | some (.tuple xs) => (match ints? xs with
    | some l => beqL l s
    | none => false)
  | _ => false
theorem isRowB_ok {o : Option D} {s : List Int} (h : isRowB o s = true) : o = some (rowD s) := by
  unfold isRowB at h
  split at h
  · rename_i xs
    split at h
    · rename_i l e
      rw [beqL_eq] at h
      rw [ints_eq e, of_decide_eq_true h]
    · cases h
  · cases h
def isNil (o : Option D) : Bool := match o with
  | some .none => true
  | _ => false
theorem isNil_ok {o : Option D} (h : isNil o = true) : o = some .none := by
  unfold isNil at h
  split at h
  · rfl
  · cases h
def memS (n : Nat) (s : List Int) : Bool := (seqsI n).any fun l => beqL l s
theorem memS_ok {n : Nat} {s : List Int} (h : memS n s = true) : s ∈ seqsI n := by
  obtain ⟨l, hl, e⟩ := List.any_eq_true.mp h
  rw [beqL_eq] at e
  rw [← of_decide_eq_true e]
  exact hl
/-- what is looked at, sequence by sequence -/
def seqF (n : Nat) (h : List Int) : Bool := isI (f_crossings_by [pD h]) (invP h) && isI (f_crossings_by [rowD h]) (invP h) && isRowB (f_back_by [pD h]) (backP n h) && memS n (backP n h) && isNil (f_need_sequence [pD h]) && isNil (f_need_sequence [rowD h]) && beqL (thnP h (rgL 1 n)) h && h.all fun x => decide (1 ≤ x) && decide (x ≤ n)
theorem seqF1 : (seqsI 1).all (seqF 1) = true := by kernel_rfl
theorem seqF2 : (seqsI 2).all (seqF 2) = true := by kernel_rfl
theorem seqF3 : (seqsI 3).all (seqF 3) = true := by kernel_rfl
theorem seqF4 : (seqsI 4).all (seqF 4) = true := by kernel_rfl
theorem seqF5a : ((seqsI 5).take 40).all (seqF 5) = true := by kernel_rfl
theorem seqF5b : (((seqsI 5).drop 40).take 40).all (seqF 5) = true := by kernel_rfl
theorem seqF5c : ((seqsI 5).drop 80).all (seqF 5) = true := by kernel_rfl
theorem seqF5 : (seqsI 5).all (seqF 5) = true := by
  have e : seqsI 5 = (seqsI 5).take 40 ++ (((seqsI 5).drop 40).take 40 ++ (seqsI 5).drop 80) := by kernel_rfl
  rw [e, List.all_append, List.all_append, seqF5a, seqF5b, seqF5c]
  rfl
theorem five {n : Nat} (h1 : 1 ≤ n) (h5 : n ≤ 5) : n = 1 ∨ n = 2 ∨ n = 3 ∨ n = 4 ∨ n = 5 := by omega
structure Sq (n : Nat) (h : List Int) : Prop where
  crp : f_crossings_by [pD h] = some (.int (invP h))
  crr : f_crossings_by [rowD h] = some (.int (invP h))
  bk : f_back_by [pD h] = some (rowD (backP n h))
  bm : backP n h ∈ seqsI n
  ndp : f_need_sequence [pD h] = some .none
  ndr : f_need_sequence [rowD h] = some .none
  id : thnP h (rgL 1 n) = h
  rg : ∀ x ∈ h, 1 ≤ x ∧ x ≤ n
theorem sq_of {n : Nat} (h1 : 1 ≤ n) (h5 : n ≤ 5) {h : List Int} (hm : h ∈ seqsI n) : Sq n h := by
  have k : seqF n h = true := by
    rcases five h1 h5 with rfl | rfl | rfl | rfl | rfl
    · exact List.all_eq_true.mp seqF1 h hm
    · exact List.all_eq_true.mp seqF2 h hm
    · exact List.all_eq_true.mp seqF3 h hm
    · exact List.all_eq_true.mp seqF4 h hm
    · exact List.all_eq_true.mp seqF5 h hm
  unfold seqF at k
  simp only [Bool.and_eq_true] at k
  obtain ⟨⟨⟨⟨⟨⟨⟨k1, k2⟩, k3⟩, k4⟩, k5⟩, k6⟩, k7⟩, k8⟩ := k
  rw [beqL_eq] at k7
  refine ⟨isI_ok k1, isI_ok k2, isRowB_ok k3, memS_ok k4, isNil_ok k5, isNil_ok k6, of_decide_eq_true k7, fun x hx => ?_⟩
  have := List.all_eq_true.mp k8 x hx
  rw [Bool.and_eq_true] at this
  exact ⟨of_decide_eq_true this.1, of_decide_eq_true this.2⟩
theorem thn_mem {n : Nat} (h1 : 1 ≤ n) (h5 : n ≤ 5) {a s : List Int} (ha : a ∈ seqsI n) (hs : s ∈ seqsI n) : thnP a s ∈ seqsI n := by
  have p : ((thnP a s).map D.int).Perm (rgD 1 n) := by
    rw [rgD_map]
    refine List.Perm.map _ ?_
    have p1 : (thnP a s).Perm (thnP a (rgL 1 n)) := (permsP_perm _ _ hs).map _
    rw [(sq_of h1 h5 ha).id] at p1
    exact p1.trans (permsP_perm _ _ ha)
  obtain ⟨m, hm, e⟩ := seqsI_of p
  rw [mapint_inj e]
  exact hm
theorem then_loop {n : Nat} {a : List Int} (ha : a.length = n) (d : D) (b : Option Sl) (ds : DS) : ∀ s : List Int, (∀ x ∈ s, 1 ≤ x ∧ x ≤ n) → lcLoop (gNm 2) tYesD (d2 gIx (dRd 0) (d2 gSub (dRd 2) (dC (.int 1)))) [vS (rowD a), vS d, b] (s.map D.int) ds = some ((thnP a s).map D.int, ds)
  | [], _ => rfl
  | x :: s, h => by
    have hx := h x (List.mem_cons_self ..)
    refine lc_t (env' := [vS (rowD a), vS d, vS (.int x)]) (s := ds) rfl rfl (d2_eq (a := rowD a) (b := .int (x - 1)) rfl rfl ?_) (then_loop ha d b ds s fun y m => h y (List.mem_cons_of_mem _ m))
    have e : x - 1 = ((x.toNat - 1 : Nat) : Int) := by omega
    rw [e]
    exact ixRow a (x.toNat - 1) (by omega)
theorem tr_then {n : Nat} {a s : List Int} {d : D} (ha : a.length = n) (hn : s.length ≤ 1000) (hd : tupD? d = some (s.map D.int)) (h : ∀ x ∈ s, 1 ≤ x ∧ x ≤ n) : f_then_by [rowD a, d] = some (rowD (thnP a s)) := by
  have e1 : dLc (dItems (dVar 1)) [2] (gNm 2) (tYesD) (d2 gIx (dRd 0) (d2 gSub (dRd 2) (dC (.int 1)))) [vS (rowD a), vS d, none] ds0 = some (.list ((thnP a s).map D.int), ds0) := by
    refine dLc_eq (items := s.map D.int) (s := ds0) (dItems_eq (a := d) rfl ?_) (then_loop ha d none ds0 s h) (by simp [thnP]; omega)
    rcases tup_two hd with rfl | rfl <;> rfl
  exact fnP_eq (b := d_then_by) (s := ds0) (dSeq_rt (dRet_eq (dB_eq (aCons1 e1) rfl)))
/-! ### equal sequences -/
theorem ints_all7 (l : List Int) : (l.map D.int).all (eqOk 7) = true := by
  rw [List.all_eq_true]
  intro x hx
  obtain ⟨y, _, rfl⟩ := List.mem_map.mp hx
  rfl
theorem ints_two7 : ∀ l m : List Int, all2 (deq 7) (l.map D.int) (m.map D.int) = beqL l m
  | [], [] => rfl
  | [], _ :: _ => rfl
  | _ :: _, [] => rfl
  | a :: l, b :: m => by
    show (decide (a = b) && all2 (deq 7) (l.map D.int) (m.map D.int)) = beqL (a :: l) (b :: m)
    rw [ints_two7 l m, beqL_cons]
    cases decide (a = b) <;> rfl
theorem gEqU_rowD {a b : D} {l m : List Int} (ha : tupD? a = some (l.map D.int)) (hb : tupD? b = some (m.map D.int)) : gEqU a b = some (.bool (beqL l m)) := by
  have e1 : ∀ (d : D) (l : List Int), tupD? d = some (l.map D.int) → eqOk 8 d = true := fun d l hd => by
    rcases tup_two hd with rfl | rfl
    · exact ints_all7 l
    · exact ints_all7 l
  have e2 : deq 8 a b = beqL l m := by
    rcases tup_two ha with rfl | rfl <;> rcases tup_two hb with rfl | rfl <;> exact ints_two7 l m
  unfold gEqU gEqD
  rw [e1 a l ha, e1 b m hb, e2]
  rfl
end L2.Dn
set_option Elab.async false
set_option linter.all false
set_option maxRecDepth 100000
set_option maxHeartbeats 4000000
/-! k69: the pipes of a sequence, plainly -/
namespace L2.Dn
open PySem PySem.Spec PyProof.Rows C8
abbrev LH := List D × (Bool × List Int)
def hD (e : Bool × List Int) : D := match e.1 with
  | true => pD e.2
  | false => rowD e.2
theorem hD_tup (e : Bool × List Int) : tupD? (hD e) = some (e.2.map D.int) := by
  obtain ⟨b, h⟩ := e
  cases b <;> rfl
def lhD (e : LH) : D := .tuple [.tuple e.1, hD e.2]
def cndP (n : Nat) (s h m : List Int) : Bool := decide (invP h < invP m) && decide (Nat.add (invP (thnP (backP n m) s)) (invP m) = invP s)
def moreL (n : Nat) (s : List Int) (pl : D) (k : Nat) (e : LH) : List LH := match cndP n s e.2.2 (swpP e.2.2 k) with
  | true => [(e.1 ++ [pl], (true, swpP e.2.2 k))]
  | false => []
def stepL (n : Nat) (s : List Int) (pl : D) (k : Nat) : List LH → List LH
  | [] => []
  | e :: r => e :: (moreL n s pl k e ++ stepL n s pl k r)
def crD : List D → Option D := f_crossings_by
theorem cr_hD {n : Nat} (h1 : 1 ≤ n) (h5 : n ≤ 5) {e : Bool × List Int} (he : e.2 ∈ seqsI n) : f_crossings_by [hD e] = some (.int (invP e.2)) := by
  obtain ⟨b, h⟩ := e
  cases b
  · exact (sq_of h1 h5 he).crr
  · exact (sq_of h1 h5 he).crp
def pb_cond : DenT := tAndD (dTest (d2 gGt (dCallP 1 f_crossings_by (aCons (dVar 9) (aNil))) (dCallP 1 f_crossings_by (aCons (dVar 8) (aNil))))) (dTest (d2 gEqU (d2 gAdd (dRd 10) (dCallP 1 f_crossings_by (aCons (dVar 9) (aNil)))) (dRd 2)))
def pb_app : DenS := dSeq (dApp 6 (dTup (aCons (dTup (aStar (dRd 7) (aCons (dVar 5) (aNil)))) (aCons (dVar 9) (aNil))))) (dNx)
def pb_in : DenS := dSeq (dApp 6 (dTup (aCons (dVar 7) (aCons (dVar 8) (aNil))))) (dSeq (dSet 9 false (dCallP 2 f_swapped_p (aCons (dVar 8) (aCons (d2 gSub (d2 gAdd (d2 gIx (dRd 5) (dC (.int 0))) (d2 gIx (dRd 5) (dC (.int 1)))) (dC (.int 1))) (aNil))))) (dSeq (dSet 10 false (dCallP 1 f_crossings_by (aCons (dCallP 2 f_then_by (aCons (dCallP 1 f_back_by (aCons (dVar 9) (aNil))) (aCons (dVar 0) (aNil)))) (aNil)))) (dSeq (dIfS pb_cond pb_app (dNx)) (dNx))))
def pb_out : DenS := dSeq (dSet 6 true (dLst (aNil))) (dSeq (dFor (dItems (dVar 4)) (gTp (gsCons (gNm 7) (gsCons (gNm 8) (gsNil)))) pb_in) (dSeq (dFrz 6 (dSet 4 false (dVar 6))) (dNx)))
def pb_1 : DenS := dAsg (dTup (aCons (dB gLen (aCons (dRd 0) (aNil))) (aCons (dCallP 1 f_crossings_by (aCons (dVar 0) (aNil))) (aNil)))) (gTp (gsCons (gNm 1) (gsCons (gNm 2) (gsNil))))
def pb_2 : DenS := dSet 3 false (dCallP 1 f_read_by (aCons (dLc2 (dRg2 (dC (.int 1)) (dRd 1)) [11, 12] (gNm 11) (tYesD) (dRg2 (dC (.int 1)) (d2 gAdd (d2 gSub (dRd 1) (dRd 11)) (dC (.int 1)))) [12] (gNm 12) (tYesD) (dTup (aCons (dVar 11) (aCons (dVar 12) (aNil))))) (aNil)))
def pb_3 : DenS := dSet 4 false (dLst (aCons (dTup (aCons (dTup (aNil)) (aCons (dTupI (dRg2 (dC (.int 1)) (d2 gAdd (dRd 1) (dC (.int 1))))) (aNil)))) (aNil)))
def pb_4 : Den := dB gSort2 (aCons (dLc (dItems (dVar 4)) [7, 8] (gTp (gsCons (gNm 7) (gsCons (gNm 8) (gsNil)))) (dTest (d2 gEqU (dRd 8) (dRd 0))) (dB gPtup (aCons (dB gSort2 (aCons (dRd 7) (aNil))) (aNil)))) (aNil))
theorem pb_eq : d_pipes_by_p = dSeq pb_1 (dSeq pb_2 (dSeq pb_3 (dSeq (dFor (dItems (dVar 3)) (gNm 5) pb_out) (dSeq (dRet pb_4) (dNx))))) := rfl
abbrev E13 (sd : D) (n due : Nat) (a3 a4 a5 : Option Sl) (acc : List D) (a7 a8 a9 a10 a11 a12 : Option Sl) : En := [vS sd, vS (.int (n : Nat)), vS (.int (due : Nat)), a3, a4, a5, some (.own (.list acc)), a7, a8, a9, a10, a11, a12]
structure Ctx (n : Nat) (s : List Int) (sd : D) : Prop where
  h1 : 1 ≤ n
  h5 : n ≤ 5
  hs : s ∈ seqsI n
  sd : tupD? sd = some (s.map D.int)
structure PlK (n : Nat) (pl : D) (k : Nat) : Prop where
  pl : ∃ i j : Nat, pl = .tuple [.int (i : Nat), .int (j : Nat)] ∧ i + j = k + 1
  k1 : 1 ≤ k
  kn : k < n
variable {n : Nat} {s : List Int} {sd pl : D} {k : Nat} {ds : DS}
theorem tAnd2 {t u : DenT} {env : En} {ds : DS} {b c : Bool} (h1 : t env ds = some (b, ds)) (h2 : u env ds = some (c, ds)) : tAndD t u env ds = some (b && c, ds) := by
  unfold tAndD
  rw [h1]
  cases b with
  | true => exact h2
  | false => rfl
theorem gt_nat (a b : Nat) : gGt (.int (a : Nat)) (.int (b : Nat)) = some (.bool (decide (b < a))) := by
  show some (D.bool (decide (((b : Nat) : Int) < ((a : Nat) : Int)))) = _
  congr 2
  exact decide_eq_decide.mpr (by omega)
theorem eq_nat3 (a b c : Nat) : gEqU (.int (((a : Nat) : Int) + ((b : Nat) : Int))) (.int (c : Nat)) = some (.bool (decide (Nat.add a b = c))) := by
  show some (D.bool (decide (((a : Nat) : Int) + ((b : Nat) : Int) = ((c : Nat) : Int)))) = _
  congr 2
  refine decide_eq_decide.mpr ?_
  show _ ↔ a + b = c
  omega
theorem in_lap (C : Ctx n s sd) (L : PlK n pl k) {e : LH} (he : e.2.2 ∈ seqsI n) (acc : List D) (hl : acc.length + 2 < 90000) (hp : e.1.length < 900) (a3 a4 a9 a10 a11 a12 : Option Sl) :
    ∃ b9 b10, pb_in (E13 sd n (invP s) a3 a4 (vS pl) acc (vS (.tuple e.1)) (vS (hD e.2)) a9 a10 a11 a12) ds = some (.nx (E13 sd n (invP s) a3 a4 (vS pl) (acc ++ (e :: moreL n s pl k e).map lhD) (vS (.tuple e.1)) (vS (hD e.2)) b9 b10 a11 a12), ds) := by
  obtain ⟨i, j, rfl, hk⟩ := L.pl
  have hn := seqsI_len he
  have hm := swp_mem he L.k1 L.kn
  have Sm := sq_of C.h1 C.h5 hm
  have hb := Sm.bm
  have ht := thn_mem C.h1 C.h5 hb C.hs
  have St := sq_of C.h1 C.h5 ht
  have Ss := sq_of C.h1 C.h5 C.hs
  have hsl := seqsI_len C.hs
  have hbl := seqsI_len hb
  have q1 : dApp 6 (dTup (aCons (dVar 7) (aCons (dVar 8) (aNil)))) (E13 sd n (invP s) a3 a4 (vS (.tuple [.int (i : Nat), .int (j : Nat)])) acc (vS (.tuple e.1)) (vS (hD e.2)) a9 a10 a11 a12) ds = some (.nx (E13 sd n (invP s) a3 a4 (vS (.tuple [.int (i : Nat), .int (j : Nat)])) (acc ++ [lhD e]) (vS (.tuple e.1)) (vS (hD e.2)) a9 a10 a11 a12), ds) := by
    exact (if_pos (show acc.length < 100000 by omega))
  have ek : ((i : Int) + (j : Int) - 1) = ((k : Nat) : Int) := by omega
  have q2 : dSet 9 false (dCallP 2 f_swapped_p (aCons (dVar 8) (aCons (d2 gSub (d2 gAdd (d2 gIx (dRd 5) (dC (.int 0))) (d2 gIx (dRd 5) (dC (.int 1)))) (dC (.int 1))) (aNil)))) (E13 sd n (invP s) a3 a4 (vS (.tuple [.int (i : Nat), .int (j : Nat)])) (acc ++ [lhD e]) (vS (.tuple e.1)) (vS (hD e.2)) a9 a10 a11 a12) ds = some (.nx (E13 sd n (invP s) a3 a4 (vS (.tuple [.int (i : Nat), .int (j : Nat)])) (acc ++ [lhD e]) (vS (.tuple e.1)) (vS (hD e.2)) (vS (pD (swpP e.2.2 k))) a10 a11 a12), ds) := by
    refine dSet_eq (i := 9) (k := false) (dCallP_eq (as := [hD e.2, .int (k : Nat)]) ?_ rfl (tr_swpP (hD_tup e.2) L.k1 (by rw [hn]; exact L.kn) (by have := C.h5; omega)))
    refine aCons_eq (a := hD e.2) (s := ds) rfl (aCons1 ?_)
    show some (D.int ((i : Int) + (j : Int) - 1), ds) = _
    rw [ek]
  have q3 : dSet 10 false (dCallP 1 f_crossings_by (aCons (dCallP 2 f_then_by (aCons (dCallP 1 f_back_by (aCons (dVar 9) (aNil))) (aCons (dVar 0) (aNil)))) (aNil))) (E13 sd n (invP s) a3 a4 (vS (.tuple [.int (i : Nat), .int (j : Nat)])) (acc ++ [lhD e]) (vS (.tuple e.1)) (vS (hD e.2)) (vS (pD (swpP e.2.2 k))) a10 a11 a12) ds = some (.nx (E13 sd n (invP s) a3 a4 (vS (.tuple [.int (i : Nat), .int (j : Nat)])) (acc ++ [lhD e]) (vS (.tuple e.1)) (vS (hD e.2)) (vS (pD (swpP e.2.2 k))) (vS (.int (invP (thnP (backP n (swpP e.2.2 k)) s)))) a11 a12), ds) := by
    refine dSet_eq (i := 10) (k := false) (dCallP_eq (as := [rowD (thnP (backP n (swpP e.2.2 k)) s)]) (aCons1 (dCallP_eq (as := [rowD (backP n (swpP e.2.2 k)), sd]) (aCons_eq (dCallP_eq (as := [pD (swpP e.2.2 k)]) rfl rfl Sm.bk) rfl) rfl (tr_then hbl (by have := C.h5; omega) C.sd Ss.rg))) rfl St.crr)
  refine ⟨vS (pD (swpP e.2.2 k)), vS (.int (invP (thnP (backP n (swpP e.2.2 k)) s))), ?_⟩
  unfold pb_in
  rw [dSeq_eq q1, dSeq_eq q2, dSeq_eq q3]
  have c1 : dTest (d2 gGt (dCallP 1 f_crossings_by (aCons (dVar 9) (aNil))) (dCallP 1 f_crossings_by (aCons (dVar 8) (aNil)))) (E13 sd n (invP s) a3 a4 (vS (.tuple [.int (i : Nat), .int (j : Nat)])) (acc ++ [lhD e]) (vS (.tuple e.1)) (vS (hD e.2)) (vS (pD (swpP e.2.2 k))) (vS (.int (invP (thnP (backP n (swpP e.2.2 k)) s)))) a11 a12) ds = some (decide (invP e.2.2 < invP (swpP e.2.2 k)), ds) := by
    refine dTest_of (d2_eq (dCallP_eq (as := [pD (swpP e.2.2 k)]) rfl rfl Sm.crp) (dCallP_eq (as := [hD e.2]) rfl rfl (cr_hD C.h1 C.h5 he)) (gt_nat _ _))
  have c2 : dTest (d2 gEqU (d2 gAdd (dRd 10) (dCallP 1 f_crossings_by (aCons (dVar 9) (aNil)))) (dRd 2)) (E13 sd n (invP s) a3 a4 (vS (.tuple [.int (i : Nat), .int (j : Nat)])) (acc ++ [lhD e]) (vS (.tuple e.1)) (vS (hD e.2)) (vS (pD (swpP e.2.2 k))) (vS (.int (invP (thnP (backP n (swpP e.2.2 k)) s)))) a11 a12) ds = some (decide (Nat.add (invP (thnP (backP n (swpP e.2.2 k)) s)) (invP (swpP e.2.2 k)) = invP s), ds) := by
    refine dTest_of (d2_eq (d2_eq (a := .int (invP (thnP (backP n (swpP e.2.2 k)) s))) rfl (dCallP_eq (as := [pD (swpP e.2.2 k)]) rfl rfl Sm.crp) (c := .int (((invP (thnP (backP n (swpP e.2.2 k)) s) : Nat) : Int) + ((invP (swpP e.2.2 k) : Nat) : Int))) rfl) (b := .int (invP s)) rfl (eq_nat3 _ _ _))
  have cc : pb_cond (E13 sd n (invP s) a3 a4 (vS (.tuple [.int (i : Nat), .int (j : Nat)])) (acc ++ [lhD e]) (vS (.tuple e.1)) (vS (hD e.2)) (vS (pD (swpP e.2.2 k))) (vS (.int (invP (thnP (backP n (swpP e.2.2 k)) s)))) a11 a12) ds = some (cndP n s e.2.2 (swpP e.2.2 k), ds) := by
    exact tAnd2 c1 c2
  unfold moreL
  cases z : cndP n s e.2.2 (swpP e.2.2 k) with
  | false =>
    rw [z] at cc
    rw [dSeq_eq ((dIfS_f cc).trans rfl)]
    rfl
  | true =>
    rw [z] at cc
    have q4 : pb_app (E13 sd n (invP s) a3 a4 (vS (.tuple [.int (i : Nat), .int (j : Nat)])) (acc ++ [lhD e]) (vS (.tuple e.1)) (vS (hD e.2)) (vS (pD (swpP e.2.2 k))) (vS (.int (invP (thnP (backP n (swpP e.2.2 k)) s)))) a11 a12) ds = some (.nx (E13 sd n (invP s) a3 a4 (vS (.tuple [.int (i : Nat), .int (j : Nat)])) (acc ++ [lhD e] ++ [lhD (e.1 ++ [D.tuple [.int (i : Nat), .int (j : Nat)]], (true, swpP e.2.2 k))]) (vS (.tuple e.1)) (vS (hD e.2)) (vS (pD (swpP e.2.2 k))) (vS (.int (invP (thnP (backP n (swpP e.2.2 k)) s)))) a11 a12), ds) := by
      have x1 : dTup (aStar (dRd 7) (aCons (dVar 5) (aNil))) (E13 sd n (invP s) a3 a4 (vS (.tuple [.int (i : Nat), .int (j : Nat)])) (acc ++ [lhD e]) (vS (.tuple e.1)) (vS (hD e.2)) (vS (pD (swpP e.2.2 k))) (vS (.int (invP (thnP (backP n (swpP e.2.2 k)) s)))) a11 a12) ds = some (.tuple (e.1 ++ [D.tuple [.int (i : Nat), .int (j : Nat)]]), ds) := by
        show (if (e.1 ++ [D.tuple [.int (i : Nat), .int (j : Nat)]]).length ≤ 100000 then some (D.tuple (e.1 ++ [D.tuple [.int (i : Nat), .int (j : Nat)]]), ds) else none) = _
        exact if_pos (by simp; omega)
      have x2 : dTup (aCons (dTup (aStar (dRd 7) (aCons (dVar 5) (aNil)))) (aCons (dVar 9) (aNil))) (E13 sd n (invP s) a3 a4 (vS (.tuple [.int (i : Nat), .int (j : Nat)])) (acc ++ [lhD e]) (vS (.tuple e.1)) (vS (hD e.2)) (vS (pD (swpP e.2.2 k))) (vS (.int (invP (thnP (backP n (swpP e.2.2 k)) s)))) a11 a12) ds = some (lhD (e.1 ++ [D.tuple [.int (i : Nat), .int (j : Nat)]], (true, swpP e.2.2 k)), ds) := by
        unfold dTup at x1 ⊢
        rw [aCons_eq (as := [pD (swpP e.2.2 k)]) x1 rfl]
        rfl
      unfold pb_app
      refine (dSeq_eq (e := E13 sd n (invP s) a3 a4 (vS (.tuple [.int (i : Nat), .int (j : Nat)])) (acc ++ [lhD e] ++ [lhD (e.1 ++ [D.tuple [.int (i : Nat), .int (j : Nat)]], (true, swpP e.2.2 k))]) (vS (.tuple e.1)) (vS (hD e.2)) (vS (pD (swpP e.2.2 k))) (vS (.int (invP (thnP (backP n (swpP e.2.2 k)) s)))) a11 a12) (s := ds) ?_).trans rfl
      unfold dApp
      rw [x2]
      exact (if_pos (show (acc ++ [lhD e]).length < 100000 by simp; omega))
    rw [dSeq_eq ((dIfS_t cc).trans q4)]
    show some (Out.nx _, ds) = _
    rw [List.append_assoc]
    rfl
end L2.Dn
set_option Elab.async false
set_option linter.all false
set_option maxRecDepth 100000
set_option maxHeartbeats 4000000
/-! k69: the loops of the pipes -/
namespace L2.Dn
open PySem PySem.Spec PyProof.Rows C8
variable {n : Nat} {s : List Int} {sd pl : D} {k : Nat} {ds : DS}
theorem moreL_len (e : LH) : (moreL n s pl k e).length ≤ 1 := by
  unfold moreL
  split <;> simp
theorem stepL_len : ∀ l : List LH, (stepL n s pl k l).length ≤ 2 * l.length
  | [] => Nat.le_refl _
  | e :: r => by
    have h1 := moreL_len (n := n) (s := s) (pl := pl) (k := k) e
    have h2 := stepL_len r
    show (e :: (moreL n s pl k e ++ stepL n s pl k r)).length ≤ _
    simp only [List.length_cons, List.length_append]
    omega
theorem stepL_mem (L : PlK n pl k) {m : Nat} : ∀ {l : List LH}, (∀ e ∈ l, e.2.2 ∈ seqsI n ∧ e.1.length ≤ m) → ∀ e ∈ stepL n s pl k l, e.2.2 ∈ seqsI n ∧ e.1.length ≤ m + 1
  | [], _, e, he => nomatch he
  | x :: r, h, e, he => by
    have hx := h x (List.mem_cons_self ..)
    rcases List.mem_cons.mp he with rfl | he
    · exact ⟨hx.1, by omega⟩
    · rcases List.mem_append.mp he with he | he
      · unfold moreL at he
        split at he
        · rw [List.mem_singleton.mp he]
          exact ⟨swp_mem hx.1 L.k1 L.kn, by simp; omega⟩
        · exact nomatch he
      · exact stepL_mem L (fun y hy => h y (List.mem_cons_of_mem _ hy)) e he
theorem in_loop (C : Ctx n s sd) (L : PlK n pl k) (a3 a4 a11 a12 : Option Sl) : ∀ (lots : List LH) (acc : List D) (a7 a8 a9 a10 : Option Sl), (∀ e ∈ lots, e.2.2 ∈ seqsI n ∧ e.1.length ≤ 800) → acc.length + 2 * lots.length + 2 < 90000 →
    ∃ b7 b8 b9 b10, forLoop (gTp (gsCons (gNm 7) (gsCons (gNm 8) (gsNil)))) pb_in (lots.map lhD) (E13 sd n (invP s) a3 a4 (vS pl) acc a7 a8 a9 a10 a11 a12) ds = some (.nx (E13 sd n (invP s) a3 a4 (vS pl) (acc ++ (stepL n s pl k lots).map lhD) b7 b8 b9 b10 a11 a12), ds)
  | [], acc, a7, a8, a9, a10, _, _ => ⟨a7, a8, a9, a10, by
    show some (Out.nx _, ds) = _
    rw [show stepL n s pl k [] = [] from rfl, List.map_nil, List.append_nil]⟩
  | e :: r, acc, a7, a8, a9, a10, h, hl => by
    have he := h e (List.mem_cons_self ..)
    have hm := moreL_len (n := n) (s := s) (pl := pl) (k := k) e
    simp only [List.length_cons] at hl
    obtain ⟨c9, c10, q⟩ := in_lap (ds := ds) C L he.1 acc (by omega) (by omega) a3 a4 a9 a10 a11 a12
    obtain ⟨b7, b8, b9, b10, ih⟩ := in_loop C L a3 a4 a11 a12 r (acc ++ (e :: moreL n s pl k e).map lhD) (vS (.tuple e.1)) (vS (hD e.2)) c9 c10 (fun y hy => h y (List.mem_cons_of_mem _ hy)) (by
      simp only [List.length_append, List.length_map, List.length_cons]
      omega)
    refine ⟨b7, b8, b9, b10, (forLoop_cons (env' := E13 sd n (invP s) a3 a4 (vS pl) acc (vS (.tuple e.1)) (vS (hD e.2)) a9 a10 a11 a12) rfl q).trans (ih.trans ?_)⟩
    rw [List.append_assoc, ← List.map_append]
    rfl
abbrev F13 (sd : D) (n due : Nat) (a3 : Option Sl) (lots : List LH) (a5 a6 a7 a8 a9 a10 a11 a12 : Option Sl) : En := [vS sd, vS (.int (n : Nat)), vS (.int (due : Nat)), a3, vS (.list (lots.map lhD)), a5, a6, a7, a8, a9, a10, a11, a12]
theorem out_lap (C : Ctx n s sd) (L : PlK n pl k) (lots : List LH) (a3 a6 a7 a8 a9 a10 a11 a12 : Option Sl) (h : ∀ e ∈ lots, e.2.2 ∈ seqsI n ∧ e.1.length ≤ 800) (hl : 2 * lots.length + 2 < 90000) :
    ∃ b6 b7 b8 b9 b10, pb_out (F13 sd n (invP s) a3 lots (vS pl) a6 a7 a8 a9 a10 a11 a12) ds = some (.nx (F13 sd n (invP s) a3 (stepL n s pl k lots) (vS pl) b6 b7 b8 b9 b10 a11 a12), ds) := by
  have q1 : dSet 6 true (dLst (aNil)) (F13 sd n (invP s) a3 lots (vS pl) a6 a7 a8 a9 a10 a11 a12) ds = some (.nx (E13 sd n (invP s) a3 (vS (.list (lots.map lhD))) (vS pl) [] a7 a8 a9 a10 a11 a12), ds) := rfl
  obtain ⟨b7, b8, b9, b10, q2⟩ := in_loop (ds := ds) C L a3 (vS (.list (lots.map lhD))) a11 a12 lots [] a7 a8 a9 a10 h (by simp; omega)
  have q3 : dFor (dItems (dVar 4)) (gTp (gsCons (gNm 7) (gsCons (gNm 8) (gsNil)))) pb_in (E13 sd n (invP s) a3 (vS (.list (lots.map lhD))) (vS pl) [] a7 a8 a9 a10 a11 a12) ds = some (.nx (E13 sd n (invP s) a3 (vS (.list (lots.map lhD))) (vS pl) ([] ++ (stepL n s pl k lots).map lhD) b7 b8 b9 b10 a11 a12), ds) :=
    (dFor_eq (items := lots.map lhD) (s := ds) (dItems_eq (a := .list (lots.map lhD)) rfl rfl)).trans q2
  refine ⟨vS (.list ([] ++ (stepL n s pl k lots).map lhD)), b7, b8, b9, b10, ?_⟩
  unfold pb_out
  rw [dSeq_eq q1, dSeq_eq q3]
  rfl
def plD (p : Nat × Nat) : D := .tuple [.int (p.1 : Nat), .int (p.2 : Nat)]
def runL (n : Nat) (s : List Int) : List (Nat × Nat) → List LH → List LH
  | [], l => l
  | p :: r, l => runL n s r (stepL n s (plD p) (Nat.pred (Nat.add p.1 p.2)) l)
theorem plk_of {n : Nat} {p : Nat × Nat} (h1 : 2 ≤ p.1 + p.2) (h2 : p.1 + p.2 ≤ n) : PlK n (plD p) (Nat.pred (Nat.add p.1 p.2)) := ⟨⟨p.1, p.2, rfl, by show p.1 + p.2 = (p.1 + p.2 - 1) + 1; omega⟩, by show 1 ≤ p.1 + p.2 - 1; omega, by show p.1 + p.2 - 1 < n; omega⟩
theorem out_loop (C : Ctx n s sd) (a3 a11 a12 : Option Sl) : ∀ (pls : List (Nat × Nat)) (lots : List LH) (m : Nat) (a5 a6 a7 a8 a9 a10 : Option Sl), (∀ p ∈ pls, 2 ≤ p.1 + p.2 ∧ p.1 + p.2 ≤ n) → (∀ e ∈ lots, e.2.2 ∈ seqsI n ∧ e.1.length ≤ m) → m + pls.length ≤ 800 → lots.length * 2 ^ pls.length ≤ 2000 →
    ∃ b5 b6 b7 b8 b9 b10, forLoop (gNm 5) pb_out (pls.map plD) (F13 sd n (invP s) a3 lots a5 a6 a7 a8 a9 a10 a11 a12) ds = some (.nx (F13 sd n (invP s) a3 (runL n s pls lots) b5 b6 b7 b8 b9 b10 a11 a12), ds)
  | [], lots, m, a5, a6, a7, a8, a9, a10, _, _, _, _ => ⟨a5, a6, a7, a8, a9, a10, rfl⟩
  | p :: r, lots, m, a5, a6, a7, a8, a9, a10, hp, h, hm, hl => by
    have L := plk_of (n := n) (hp p (List.mem_cons_self ..)).1 (hp p (List.mem_cons_self ..)).2
    simp only [List.length_cons] at hm hl
    have hz : lots.length ≤ 2000 := by
      have : lots.length * 1 ≤ lots.length * 2 ^ (r.length + 1) := Nat.mul_le_mul_left _ (Nat.one_le_two_pow)
      omega
    obtain ⟨b6, b7, b8, b9, b10, q⟩ := out_lap (ds := ds) C L lots a3 a6 a7 a8 a9 a10 a11 a12 (fun e he => ⟨(h e he).1, by have := (h e he).2; omega⟩) (by omega)
    obtain ⟨c5, c6, c7, c8, c9, c10, ih⟩ := out_loop C a3 a11 a12 r (stepL n s (plD p) (Nat.pred (Nat.add p.1 p.2)) lots) (m + 1) (vS (plD p)) b6 b7 b8 b9 b10 (fun x hx => hp x (List.mem_cons_of_mem _ hx)) (stepL_mem L h) (by omega) (by
      have h2 := stepL_len (n := n) (s := s) (pl := plD p) (k := Nat.pred (Nat.add p.1 p.2)) lots
      have h3 : (stepL n s (plD p) (Nat.pred (Nat.add p.1 p.2)) lots).length * 2 ^ r.length ≤ (2 * lots.length) * 2 ^ r.length := Nat.mul_le_mul_right _ h2
      rw [Nat.pow_succ] at hl
      have e : lots.length * (2 ^ r.length * 2) = 2 * lots.length * 2 ^ r.length := by
        rw [Nat.mul_comm (2 ^ r.length) 2, ← Nat.mul_assoc, Nat.mul_comm lots.length 2]
      omega)
    exact ⟨c5, c6, c7, c8, c9, c10, (forLoop_cons (env' := F13 sd n (invP s) a3 lots (vS (plD p)) a6 a7 a8 a9 a10 a11 a12) rfl q).trans ih⟩
/-! ### the places, the first lot -/
def everyP : Nat → List (Nat × Nat)
  | 2 => [(1, 1)]
  | 3 => [(1, 2), (1, 1), (2, 1)]
  | 4 => [(1, 3), (1, 2), (1, 1), (2, 2), (2, 1), (3, 1)]
  | 5 => [(1, 4), (1, 3), (1, 2), (1, 1), (2, 3), (2, 2), (2, 1), (3, 2), (3, 1), (4, 1)]
  | _ => []
theorem every_of (h1 : 1 ≤ n) (h5 : n ≤ 5) (a0 a2 a4 a5 a6 a7 a8 a9 a10 : Option Sl) : pb_2 [a0, vS (.int (n : Nat)), a2, none, a4, a5, a6, a7, a8, a9, a10, none, none] ds0 = some (.nx [a0, vS (.int (n : Nat)), a2, vS (.list ((everyP n).map plD)), a4, a5, a6, a7, a8, a9, a10, none, none], ds0) := by
  rcases five h1 h5 with rfl | rfl | rfl | rfl | rfl <;> kernel_rfl
theorem first_of (h1 : 1 ≤ n) (h5 : n ≤ 5) (a0 a2 a3 a5 a6 a7 a8 a9 a10 : Option Sl) : pb_3 [a0, vS (.int (n : Nat)), a2, a3, none, a5, a6, a7, a8, a9, a10, none, none] ds0 = some (.nx [a0, vS (.int (n : Nat)), a2, a3, vS (.list ([(([] : List D), (false, rgL 1 n))].map lhD)), a5, a6, a7, a8, a9, a10, none, none], ds0) := by
  rcases five h1 h5 with rfl | rfl | rfl | rfl | rfl <;> kernel_rfl
theorem every_ok (h1 : 1 ≤ n) (h5 : n ≤ 5) : (∀ p ∈ everyP n, 2 ≤ p.1 + p.2 ∧ p.1 + p.2 ≤ n) ∧ (everyP n).length ≤ 10 := by
  rcases five h1 h5 with rfl | rfl | rfl | rfl | rfl <;> decide
theorem base_mem (h1 : 1 ≤ n) (h5 : n ≤ 5) : rgL 1 n ∈ seqsI n := by
  rcases five h1 h5 with rfl | rfl | rfl | rfl | rfl <;> decide +kernel
/-! ### the lots that end in the sequence -/
def finL (s : List Int) : List LH → Option (List D)
  | [] => some []
  | e :: r => (match finL s r with
    | some xs => (match beqL e.2.2 s with
      | true => (match gSort2 [.tuple e.1] with
        | some (.list ys) => some (.ptup ys :: xs)
        | _ => none)
      | false => some xs)
    | none => none)
theorem fin_loop (hsd : tupD? sd = some (s.map D.int)) (a1 a2 a3 a4 a5 a6 a9 a10 a11 a12 : Option Sl) : ∀ (lots : List LH) (xs : List D), finL s lots = some xs →
    lcLoop (gTp (gsCons (gNm 7) (gsCons (gNm 8) (gsNil)))) (dTest (d2 gEqU (dRd 8) (dRd 0))) (dB gPtup (aCons (dB gSort2 (aCons (dRd 7) (aNil))) (aNil))) [vS sd, a1, a2, a3, a4, a5, a6, none, none, a9, a10, a11, a12] (lots.map lhD) ds = some (xs, ds)
  | [], xs, h => by
    cases h
    rfl
  | e :: r, xs, h => by
    unfold finL at h
    split at h
    · rename_i zs hz
      have ih := fin_loop hsd a1 a2 a3 a4 a5 a6 a9 a10 a11 a12 r zs hz
      have t : dTest (d2 gEqU (dRd 8) (dRd 0)) [vS sd, a1, a2, a3, a4, a5, a6, vS (.tuple e.1), vS (hD e.2), a9, a10, a11, a12] ds = some (beqL e.2.2 s, ds) := dTest_of (d2_eq (a := hD e.2) (b := sd) rfl rfl (gEqU_rowD (hD_tup e.2) hsd))
      split at h
      · rename_i hb
        rw [hb] at t
        split at h
        · rename_i ys hy
          cases h
          refine lc_t (env' := [vS sd, a1, a2, a3, a4, a5, a6, vS (.tuple e.1), vS (hD e.2), a9, a10, a11, a12]) rfl t (dB_eq (as := [.list ys]) (aCons1 (dB_eq (as := [.tuple e.1]) (aCons1 rfl) hy)) rfl) ih
        · cases h
      · rename_i hb
        rw [hb] at t
        cases h
        exact (lc_f (env' := [vS sd, a1, a2, a3, a4, a5, a6, vS (.tuple e.1), vS (hD e.2), a9, a10, a11, a12]) rfl t).trans ih
    · cases h
def pipT (n : Nat) (s : List Int) : Option (List D) := match finL s (runL n s (everyP n) [([], (false, rgL 1 n))]) with
  | some xs => (match Nat.ble xs.length 1000 with
    | true => (match gSort2 [.list xs] with
      | some (.list t) => some t
      | _ => none)
    | false => none)
  | none => none
theorem tr_pb (C : Ctx n s sd) {t : List D} (h : pipT n s = some t) : f_pipes_by_p [sd] = some (.list t) := by
  unfold pipT at h
  split at h
  · rename_i xs hx
    split at h
    · rename_i hb
      split at h
      · rename_i t' ht
        cases h
        have hsl := seqsI_len C.hs
        have Ss := sq_of C.h1 C.h5 C.hs
        have hc : f_crossings_by [sd] = some (.int (invP s)) := by
          rcases tup_two C.sd with e | e
          · rw [e]; exact Ss.crr
          · rw [e]; exact Ss.crp
        have q1 : pb_1 [vS sd, none, none, none, none, none, none, none, none, none, none, none, none] ds0 = some (.nx [vS sd, vS (.int (n : Nat)), vS (.int (invP s : Nat)), none, none, none, none, none, none, none, none, none, none], ds0) := by
          have x1 : dB gLen (aCons (dRd 0) (aNil)) [vS sd, none, none, none, none, none, none, none, none, none, none, none, none] ds0 = some (.int (n : Nat), ds0) := by
            refine dB_eq (as := [sd]) rfl ?_
            rcases tup_two C.sd with e | e
            · rw [e]
              show some (D.int (((s.map D.int).length : Nat) : Int)) = _
              rw [List.length_map, hsl]
            · rw [e]
              show some (D.int (((s.map D.int).length : Nat) : Int)) = _
              rw [List.length_map, hsl]
          refine dAsg_eq (a := .tuple [.int (n : Nat), .int (invP s : Nat)]) (s := ds0) ?_ rfl
          have x2 : dCallP 1 f_crossings_by (aCons (dVar 0) (aNil)) [vS sd, none, none, none, none, none, none, none, none, none, none, none, none] ds0 = some (.int (invP s : Nat), ds0) := dCallP_eq (as := [sd]) rfl rfl hc
          unfold dTup
          rw [aCons_eq x1 (aCons1 x2)]
          rfl
        obtain ⟨pk, pn⟩ := every_ok C.h1 C.h5
        obtain ⟨b5, b6, b7, b8, b9, b10, q⟩ := out_loop (ds := ds0) C (vS (.list ((everyP n).map plD))) none none (everyP n) [([], (false, rgL 1 n))] 0 none none none none none none pk (fun e he => by
          rw [List.mem_singleton.mp he]
          exact ⟨base_mem C.h1 C.h5, Nat.zero_le _⟩) (by omega) (by
          have : 2 ^ (everyP n).length ≤ 2 ^ 10 := Nat.pow_le_pow_right (by decide) pn
          simp
          omega)
        refine fnP_eq (b := d_pipes_by_p) (s := ds0) ?_
        show d_pipes_by_p [vS sd, none, none, none, none, none, none, none, none, none, none, none, none] ds0 = _
        rw [pb_eq, dSeq_eq q1, dSeq_eq (every_of C.h1 C.h5 _ _ _ _ _ _ _ _ _), dSeq_eq (first_of C.h1 C.h5 _ _ _ _ _ _ _ _ _), dSeq_eq ((dFor_eq (items := (everyP n).map plD) (s := ds0) (dItems_eq (a := .list ((everyP n).map plD)) rfl rfl)).trans q)]
        refine dSeq_rt (dRet_eq ?_)
        unfold pb_4
        refine dB_eq (as := [.list xs]) (aCons1 (dLc_eq (items := (runL n s (everyP n) [([], (false, rgL 1 n))]).map lhD) (s := ds0) (dItems_eq (a := .list ((runL n s (everyP n) [([], (false, rgL 1 n))]).map lhD)) rfl rfl) (fin_loop C.sd _ _ _ _ _ _ _ _ _ _ _ xs hx) ?_)) ht
        have := Nat.le_of_ble_eq_true hb
        omega
      · cases h
    · cases h
  · cases h
theorem tr_pipes (C : Ctx n s sd) {t : List D} (h : pipT n s = some t) : f_pipes_p [sd] = some (.ptup t) := by
  have Ss := sq_of C.h1 C.h5 C.hs
  have hc : f_need_sequence [sd] = some .none := by
    rcases tup_two C.sd with e | e
    · rw [e]; exact Ss.ndr
    · rw [e]; exact Ss.ndp
  refine fnP_eq (b := d_pipes_p) (s := ds0) ?_
  have x1 : dDropS (dCallP 1 f_need_sequence (aCons (dVar 0) (aNil))) (envP N_pipes_p.length [sd]) ds0 = some (.nx (envP N_pipes_p.length [sd]), ds0) := dDrop_eq (dCallP_eq (as := [sd]) (s := ds0) rfl rfl hc)
  unfold d_pipes_p
  rw [dSeq_eq x1]
  exact dSeq_rt (dRet_eq (dB_eq (as := [.list t]) (aCons1 (dCallP_eq (as := [sd]) rfl rfl (tr_pb C h))) rfl))
end L2.Dn
set_option Elab.async false
set_option linter.all false
set_option maxRecDepth 100000
set_option maxHeartbeats 4000000
/-! k69: sums, products, as in the other laws -/
namespace L2.Dn
open PySem PySem.Spec PyProof.Rows C8
def seqRD (d : D) (s : List Int) : Bool := match roadR d with
  | some (m, l) => (match decide (m = ((s.length : Nat) : Int)) with
    | true => beqN l (roadP 20 s)
    | false => false)
  | none => false
theorem seqRD_ok {d : D} {s : List Int} (h : seqRD d s = true) : roadR d = some (((s.length : Nat) : Int), roadP 20 s) := by
  unfold seqRD at h
  split at h
  · rename_i m l e
    split at h
    · rename_i e2
      rw [e, of_decide_eq_true e2, beqN_ok h]
    · cases h
  · cases h
theorem sum_oneD {d : D} {s : List Int} (h : sumB1 s = true) (r1 : roadR d = some (((s.length : Nat) : Int), roadP 20 s)) : f_sum_by [d] = some (toD (sumV s)) ∧ WfP (sumV s) := by
  unfold sumB1 at h
  simp only [Bool.and_eq_true, decide_eq_true_eq] at h
  obtain ⟨⟨h1, h2⟩, h3⟩ := h
  have hb := box_init (s.length : Nat) (by omega)
  have wf0 := wf_init (s.length : Nat)
  have e1 := cutsC_of hb h2
  have hl := cutsB_len h2
  obtain ⟨l3, l4⟩ := cutsV_ok hb wf0 h2
  have nd5 := nd_take5 l4 h3 l3.nd
  have wfs : WfP (sumV s) := ⟨nd5, take5_nz l3.nz⟩
  refine ⟨?_, wfs⟩
  refine tr_sum r1 ?_
  unfold sumC
  rw [e1]
  dsimp only
  rw [decide_eq_true (by omega)]
  dsimp only
  rw [putsP_fresh _ [] nd5]
  rfl
def rdL (d : D) (s : List Int) : Bool := match roadL d with
  | some (m, l) => (match Nat.beq m s.length with
    | true => beqN l (roadP 20 s).reverse
    | false => false)
  | none => false
theorem rdL_ok {d : D} {s : List Int} (h : rdL d s = true) : roadL d = some (s.length, (roadP 20 s).reverse) := by
  unfold rdL at h
  split at h
  · rename_i m l e
    split at h
    · rename_i e2
      rw [e, Nat.eq_of_beq_eq_true e2, beqN_ok h]
    · cases h
  · cases h
theorem lsum_oneD {d : D} {s : List Int} (h : sumB1 s = true) (r2 : roadL d = some (s.length, (roadP 20 s).reverse)) : f__law_sum [d] = some (toD (lsumV s)) ∧ WfP (lsumV s) ∧ (lsumV s).Perm (sumV s) := by
  unfold sumB1 at h
  simp only [Bool.and_eq_true, decide_eq_true_eq] at h
  obtain ⟨⟨h1, h2⟩, h3⟩ := h
  have hb := box_init (s.length : Nat) (by omega)
  have wf0 := wf_init (s.length : Nat)
  have hl := cutsB_len h2
  obtain ⟨l1, l2, l3, l4⟩ := lcuts_of hb wf0 wf0 (List.Perm.refl _) h2
  have pm := take5_perm l2
  have hz : zero6 (lcutsV [(rowI ((s.length : Nat) : Int), 1)] (roadP 20 s).reverse) = true := (zero6_iff _).mpr fun e m => (zero6_iff _).mp h3 e (l2.mem_iff.mp m)
  have hb2 : Box 5 6 (lcutsV [(rowI ((s.length : Nat) : Int), 1)] (roadP 20 s).reverse) := fun e m => l4 e (l2.mem_iff.mp m)
  have ndl : NdP (lcutsV [(rowI ((s.length : Nat) : Int), 1)] (roadP 20 s).reverse) := (l2.map _).nodup_iff.mpr l3.nd
  have nd6 := nd_take5 hb2 hz ndl
  have el : lsumV s = take5 (lcutsV [(rowI ((s.length : Nat) : Int), 1)] (roadP 20 s).reverse) := by
    unfold lsumV
    rw [rowL_eq]
  rw [el]
  refine ⟨tr_lsum r2 ?_, ⟨nd6, take5_nz fun e m => l3.nz e (l2.mem_iff.mp m)⟩, pm⟩
  unfold lsumC
  rw [rowL_eq, l1]
  dsimp only
  rw [decide_eq_true (by rw [l2.length_eq]; omega)]
  dsimp only
  rw [putsP_fresh _ [] nd6]
  rfl
theorem few {p : PR} (h : polyOk p = true) (hl : p.length ≤ 100000) : f_need_few_exponents [toD p] = some (toD p) := by
  have e0 : dB gAll (aCons (dLc (dItems (dVar 0)) [1] (gNm 1) (tYesD) (dCallP 1 f_are_exponents (aCons (dVar 1) (aNil)))) (aNil)) (envP 2 [toD p]) ds0 = some (.bool true, ds0) := by
    refine dB_eq (as := [.list (p.map fun _ => .bool true)]) (aCons1 (dLc_eq (dItems_eq (a := toD p) rfl (keys_dP p)) ?_ (by rw [List.length_map]; exact hl))) (gAll_true p)
    have : ∀ (p : PR), polyOk p = true → ∀ (a0 : Option Sl) (s : DS), lcLoop (gNm 1) tYesD (dCallP 1 f_are_exponents (aCons (dVar 1) (aNil))) [a0, none] (kysD p) s = some (p.map fun _ => .bool true, s) := by
      intro p
      induction p with
      | nil => intro _ _ _; rfl
      | cons e p ih =>
        intro h a0 s
        obtain ⟨r, v⟩ := e
        obtain ⟨h1, h2, _, h4⟩ := polyOk_cons h
        exact lc_t (env' := [a0, vS (rowD r)]) (s := s) (s1 := s) (y := .bool true) rfl rfl (dCallP_eq (as := [rowD r]) rfl rfl (tr_exps r h1 h2)) (ih h4 a0 s)
    exact this p h _ _
  exact fnP_eq (b := d_need_few_exponents) ((dSeq_eq ((dIfS_f (tNot_t e0)).trans rfl)).trans rfl)
theorem w_mul {p q : PR} (h1 : polyOk p = true) (h2 : polyOk q = true) (hs : SmallP p) (h3 : polyOk (mulP p q) = true) (hl : p.length * q.length < 100000) (l1 : p.length ≤ 100000) (l2 : q.length ≤ 100000) : f_multiplied_out [toD p, toD q] = some (toD (mulP p q)) := by
  have e := tr_mul p q hs (fun e m => by have := (box_poly h1 e m).1; omega) hl
  have n1 := needboth h1 h2 l1 l2
  have e2 := few h3 (by have := mulP_len p q; omega)
  exact fnP_eq (b := d_multiplied_out) ((dSeq_eq (dDrop_eq (env := envP 2 [toD p, toD q]) (dCallP_eq (as := [toD p, toD q]) rfl rfl n1))).trans (dSeq_rt (dRet_eq (dCallP_eq (as := [toD (mulP p q)]) (aCons1 (dCallP_eq (as := [toD p, toD q]) rfl rfl e)) rfl e2))))
theorem box_mono {B B' : Int} (h : B ≤ B') {n : Nat} {p : PR} (b : Box B n p) : Box B' n p := fun e m => ⟨(b e m).1, fun x hx => by have := (b e m).2 x hx; omega⟩
theorem addR_box {B : Int} : ∀ {n : Nat} {r t : List Int}, r.length = n → t.length = n → (∀ x ∈ r, 0 ≤ x ∧ x ≤ B) → (∀ x ∈ t, 0 ≤ x ∧ x ≤ B) → (addR r t).length = n ∧ ∀ x ∈ addR r t, 0 ≤ x ∧ x ≤ 2 * B
  | 0, [], [], _, _, _, _ => ⟨rfl, fun x m => nomatch m⟩
  | n + 1, a :: r, b :: t, h1, h2, h3, h4 => by
    obtain ⟨e1, e2⟩ := addR_box (n := n) (r := r) (t := t) (by simpa using h1) (by simpa using h2) (fun x m => h3 x (List.mem_cons_of_mem _ m)) (fun x m => h4 x (List.mem_cons_of_mem _ m))
    have ha := h3 a (List.mem_cons_self ..)
    have hb := h4 b (List.mem_cons_self ..)
    refine ⟨by rw [addR, List.length_cons, e1], fun x m => ?_⟩
    rcases List.mem_cons.mp m with rfl | m
    · omega
    · exact e2 x m
theorem box_mul {B : Int} {n : Nat} {p q : PR} (hp : Box B n p) (hq : Box B n q) : Box (2 * B) n (mulP p q) := by
  have h1 : ∀ (r : List Int) (c : Int), r.length = n → (∀ x ∈ r, 0 ≤ x ∧ x ≤ B) → ∀ q : PR, Box B n q → Box (2 * B) n (mulT r c q) := by
    intro r c hl hr q
    induction q with
    | nil => intro _ e m; exact nomatch m
    | cons x q ih =>
      intro hq e m
      obtain ⟨k, v⟩ := x
      rcases List.mem_cons.mp m with rfl | m
      · obtain ⟨a1, a2⟩ := hq (k, v) (List.mem_cons_self ..)
        exact addR_box hl a1 hr a2
      · exact ih (fun e m => hq e (List.mem_cons_of_mem _ m)) e m
  have h2 : ∀ p : PR, Box B n p → Box (2 * B) n (mulTs q p) := by
    intro p
    induction p with
    | nil => intro _ e m; exact nomatch m
    | cons x p ih =>
      intro hp e m
      obtain ⟨r, c⟩ := x
      obtain ⟨a1, a2⟩ := hp (r, c) (List.mem_cons_self ..)
      rcases List.mem_append.mp m with m | m
      · exact h1 r c a1 a2 q hq e m
      · exact ih (fun e m => hp e (List.mem_cons_of_mem _ m)) e m
  refine box_keys (fun k hk => ?_) (h2 p hp)
  exact ((mem_accP _ _ _).mp (mem_keepP hk)).resolve_left fun z => nomatch z
end L2.Dn
set_option Elab.async false
set_option linter.all false
set_option maxRecDepth 100000
set_option maxHeartbeats 4000000
/-! k69: a polynomial at numbers -/
namespace L2.Dn
open PySem PySem.Spec PyProof.Rows C8
def powI (b : Int) : Nat → Int
  | 0 => 1
  | n + 1 => powI b n * b
def wN : List Int → List Int → Int
  | b :: bs, e :: es => powI b e.toNat * wN bs es
  | _, _ => 1
theorem powI_add (b : Int) (m : Nat) : ∀ n, powI b (m + n) = powI b m * powI b n
  | 0 => (Int.mul_one _).symm
  | n + 1 => by
    show powI b (m + n) * b = powI b m * (powI b n * b)
    rw [powI_add b m n, Int.mul_assoc]
theorem powI_abs {b : Int} (hb : b.natAbs ≤ 3) : ∀ n, (powI b n).natAbs ≤ 3 ^ n
  | 0 => Nat.le_refl _
  | n + 1 => by
    show (powI b n * b).natAbs ≤ _
    rw [Int.natAbs_mul, Nat.pow_succ]
    exact Nat.mul_le_mul (powI_abs hb n) hb
theorem powI_small {b : Int} (hb : b.natAbs ≤ 3) {n : Nat} (hn : n ≤ 30) : -(2 ^ 64) < powI b n ∧ powI b n < 2 ^ 64 := by
  have h1 := powI_abs hb n
  have h2 : 3 ^ n ≤ 3 ^ 30 := Nat.pow_le_pow_right (by decide) hn
  have h3 : (3 : Nat) ^ 30 < 2 ^ 64 := by decide
  omega
theorem powI_one : ∀ n, powI 1 n = 1
  | 0 => rfl
  | n + 1 => by
    show powI 1 n * 1 = 1
    rw [powI_one n]
    rfl
theorem rgD_cons (a : Int) (n : Nat) : rgD a (n + 1) = .int a :: rgD (a + 1) n := rfl
theorem raised_loop (b : Int) (hb : b.natAbs ≤ 3) (a1 : Option Sl) (ds : DS) : ∀ (m : Nat) (a f : Int) (a3 : Option Sl), ∃ b3, forLoop (gNm 3) (dSeq (dSet 2 false (d2 gMul (dRd 2) (dRd 0))) (dNx)) (rgD a m) [vS (.int b), a1, vS (.int f), a3] ds = some (.nx [vS (.int b), a1, vS (.int (f * powI b m)), b3], ds)
  | 0, a, f, a3 => ⟨a3, by
    show some (Out.nx _, ds) = _
    rw [show f * powI b 0 = f from Int.mul_one f]⟩
  | m + 1, a, f, a3 => by
    obtain ⟨b3, ih⟩ := raised_loop b hb a1 ds m (a + 1) (f * b) (vS (.int a))
    have q : dSet 2 false (d2 gMul (dRd 2) (dRd 0)) [vS (.int b), a1, vS (.int f), vS (.int a)] ds = some (.nx [vS (.int b), a1, vS (.int (f * b)), vS (.int a)], ds) := dSet_eq (i := 2) (k := false) (d2_eq (a := .int f) (b := .int b) rfl rfl (gMulE (.inr (by omega))))
    refine ⟨b3, ?_⟩
    rw [rgD_cons]
    refine (forLoop_cons (env' := [vS (.int b), a1, vS (.int f), vS (.int a)]) rfl ((dSeq_eq q).trans rfl)).trans (ih.trans ?_)
    have : f * b * powI b m = f * powI b (m + 1) := by
      show f * b * powI b m = f * (powI b m * b)
      rw [Int.mul_assoc, Int.mul_comm b]
    rw [this]
theorem tr_raised {b e : Int} (hb : b.natAbs ≤ 3) (h0 : 0 ≤ e) (h1 : e ≤ 30) : f_raised_number [.int b, .int e] = some (.int (powI b e.toNat)) := by
  obtain ⟨b3, q⟩ := raised_loop b hb (vS (.int e)) ds0 e.toNat 0 1 none
  rw [Int.one_mul] at q
  have q1 : dSet 2 false (dC (.int 1)) [vS (.int b), vS (.int e), none, none] ds0 = some (.nx [vS (.int b), vS (.int e), vS (.int 1), none], ds0) := rfl
  have q2 : dFor (dRg1 (dRd 1)) (gNm 3) (dSeq (dSet 2 false (d2 gMul (dRd 2) (dRd 0))) (dNx)) [vS (.int b), vS (.int e), vS (.int 1), none] ds0 = _ := (dFor_eq (dRg1_eq (n := e) rfl (by omega))).trans q
  refine fnP_eq (b := d_raised_number) (s := ds0) ?_
  show d_raised_number [vS (.int b), vS (.int e), none, none] ds0 = _
  unfold d_raised_number
  rw [dSeq_eq q1, dSeq_eq q2]
  rfl
/-! ### the loops of at_numbers -/
def atIn : DenS := dSeq (dSet 4 false (d2 gMul (dRd 4) (dCallP 2 f_raised_number (aCons (dVar 5) (aCons (dVar 6) (aNil)))))) (dNx)
def atOut : DenS := dSeq (dFor (dZip (dVar 1) (dVar 3)) (gTp (gsCons (gNm 5) (gsCons (gNm 6) (gsNil)))) atIn) (dSeq (dSet 2 false (d2 gAdd (dRd 2) (dRd 4))) (dNx))
theorem at_in (a0 a1 a2 a3 a7 : Option Sl) (ds : DS) : ∀ (nums r : List Int) (num : Int) (a5 a6 : Option Sl), (∀ b ∈ nums, b.natAbs ≤ 3) → (∀ e ∈ r, 0 ≤ e ∧ e ≤ 30) →
    ∃ b5 b6, forLoop (gTp (gsCons (gNm 5) (gsCons (gNm 6) (gsNil)))) atIn (zipD (nums.map D.int) (r.map D.int)) [a0, a1, a2, a3, vS (.int num), a5, a6, a7] ds = some (.nx [a0, a1, a2, a3, vS (.int (num * wN nums r)), b5, b6, a7], ds)
  | [], r, num, a5, a6, _, _ => ⟨a5, a6, by
    have e : wN [] r = 1 := by cases r <;> rfl
    rw [e, Int.mul_one]
    cases r <;> rfl⟩
  | b :: nums, [], num, a5, a6, _, _ => ⟨a5, a6, by
    have e : wN (b :: nums) [] = 1 := rfl
    rw [e, Int.mul_one]
    rfl⟩
  | b :: nums, e :: r, num, a5, a6, hb, he => by
    have h1 := hb b (List.mem_cons_self ..)
    have h2 := he e (List.mem_cons_self ..)
    obtain ⟨b5, b6, ih⟩ := at_in a0 a1 a2 a3 a7 ds nums r (num * powI b e.toNat) (vS (.int b)) (vS (.int e)) (fun x hx => hb x (List.mem_cons_of_mem _ hx)) (fun x hx => he x (List.mem_cons_of_mem _ hx))
    have q : dSet 4 false (d2 gMul (dRd 4) (dCallP 2 f_raised_number (aCons (dVar 5) (aCons (dVar 6) (aNil))))) [a0, a1, a2, a3, vS (.int num), vS (.int b), vS (.int e), a7] ds = some (.nx [a0, a1, a2, a3, vS (.int (num * powI b e.toNat)), vS (.int b), vS (.int e), a7], ds) :=
      dSet_eq (i := 4) (k := false) (d2_eq (a := .int num) (b := .int (powI b e.toNat)) rfl (dCallP_eq (as := [.int b, .int e]) rfl rfl (tr_raised h1 h2.1 h2.2)) (gMulE (.inr (powI_small h1 (by omega)))))
    refine ⟨b5, b6, (forLoop_cons (env' := [a0, a1, a2, a3, vS (.int num), vS (.int b), vS (.int e), a7]) rfl ((dSeq_eq q).trans rfl)).trans (ih.trans ?_)⟩
    rw [show wN (b :: nums) (e :: r) = powI b e.toNat * wN nums r from rfl, Int.mul_assoc]
def RowsIn (p : PR) : Prop := ∀ x ∈ p, ∀ e ∈ x.1, 0 ≤ e ∧ e ≤ 30
theorem at_out (a0 a7 : Option Sl) (nums : List Int) (hb : ∀ b ∈ nums, b.natAbs ≤ 3) (ds : DS) : ∀ (p : PR) (f : Int) (a3 a4 a5 a6 : Option Sl), RowsIn p →
    ∃ b3 b4 b5 b6, forLoop (gTp (gsCons (gNm 3) (gsCons (gNm 4) (gsNil)))) atOut (itsP p) [a0, vS (rowD nums), vS (.int f), a3, a4, a5, a6, a7] ds = some (.nx [a0, vS (rowD nums), vS (.int (f + lin (wN nums) p)), b3, b4, b5, b6, a7], ds)
  | [], f, a3, a4, a5, a6, _ => ⟨a3, a4, a5, a6, by
    show some (Out.nx _, ds) = _
    rw [show lin (wN nums) [] = 0 from rfl, Int.add_zero]⟩
  | (r, c) :: p, f, a3, a4, a5, a6, h => by
    obtain ⟨c5, c6, q⟩ := at_in a0 (vS (rowD nums)) (vS (.int f)) (vS (rowD r)) a7 ds nums r c a5 a6 hb (h (r, c) (List.mem_cons_self ..))
    obtain ⟨b3, b4, b5, b6, ih⟩ := at_out a0 a7 nums hb ds p (f + c * wN nums r) (vS (rowD r)) (vS (.int (c * wN nums r))) c5 c6 fun x hx => h x (List.mem_cons_of_mem _ hx)
    have q1 : dFor (dZip (dVar 1) (dVar 3)) (gTp (gsCons (gNm 5) (gsCons (gNm 6) (gsNil)))) atIn [a0, vS (rowD nums), vS (.int f), vS (rowD r), vS (.int c), a5, a6, a7] ds = _ := (dFor_eq (dZip_eq (xs := nums.map D.int) (ys := r.map D.int) (s := ds) rfl rfl)).trans q
    have q2 : dSet 2 false (d2 gAdd (dRd 2) (dRd 4)) [a0, vS (rowD nums), vS (.int f), vS (rowD r), vS (.int (c * wN nums r)), c5, c6, a7] ds = some (.nx [a0, vS (rowD nums), vS (.int (f + c * wN nums r)), vS (rowD r), vS (.int (c * wN nums r)), c5, c6, a7], ds) := dSet_eq (i := 2) (k := false) (d2_eq (a := .int f) (b := .int (c * wN nums r)) rfl rfl rfl)
    have q3 : atOut [a0, vS (rowD nums), vS (.int f), vS (rowD r), vS (.int c), a5, a6, a7] ds = some (.nx [a0, vS (rowD nums), vS (.int (f + c * wN nums r)), vS (rowD r), vS (.int (c * wN nums r)), c5, c6, a7], ds) := by
      unfold atOut
      rw [dSeq_eq q1, dSeq_eq q2]
      rfl
    refine ⟨b3, b4, b5, b6, (forLoop_cons (env' := [a0, vS (rowD nums), vS (.int f), vS (rowD r), vS (.int c), a5, a6, a7]) rfl q3).trans (ih.trans ?_)⟩
    rw [show lin (wN nums) ((r, c) :: p) = c * wN nums r + lin (wN nums) p from rfl, Int.add_assoc]
theorem at_eq : d_at_numbers = dSeq (dDropS (dCallP 1 f_need_polynomial (aCons (dVar 0) (aNil)))) (dSeq (dIfS (tOrD (tNotD (dTest (dIsi .tuple (dRd 1)))) (tOrD (dTest (d2 gNeU (dB gLen (aCons (dRd 1) (aNil))) (dC (.int 5)))) (tNotD (dTest (dB gAll (aCons (dLc (dItems (dVar 1)) [7] (gNm 7) (tYesD) (dCallP 1 f_is_number (aCons (dVar 7) (aNil)))) (aNil))))))) (dSeq (dDead) (dNx)) (dNx)) (dSeq (dSet 2 false (dC (.int 0))) (dSeq (dFor (dIt itemsD (dVar 0)) (gTp (gsCons (gNm 3) (gsCons (gNm 4) (gsNil)))) atOut) (dSeq (dRet (dVar 2)) (dNx))))) := rfl
theorem tr_at {p : PR} (h : polyOk p = true) (hl : p.length ≤ 100000) (hr : RowsIn p) {n0 n1 n2 n3 n4 : Int} (hb : ∀ b ∈ [n0, n1, n2, n3, n4], b.natAbs ≤ 3) : f_at_numbers [toD p, rowD [n0, n1, n2, n3, n4]] = some (.int (lin (wN [n0, n1, n2, n3, n4]) p)) := by
  let E : En := [vS (toD p), vS (rowD [n0, n1, n2, n3, n4]), none, none, none, none, none, none]
  have q1 : dDropS (dCallP 1 f_need_polynomial (aCons (dVar 0) (aNil))) E ds0 = some (.nx E, ds0) := dDrop_eq (dCallP_eq (as := [toD p]) rfl rfl (needpoly h hl))
  have q2 : dIfS (tOrD (tNotD (dTest (dIsi .tuple (dRd 1)))) (tOrD (dTest (d2 gNeU (dB gLen (aCons (dRd 1) (aNil))) (dC (.int 5)))) (tNotD (dTest (dB gAll (aCons (dLc (dItems (dVar 1)) [7] (gNm 7) (tYesD) (dCallP 1 f_is_number (aCons (dVar 7) (aNil)))) (aNil))))))) (dSeq (dDead) (dNx)) (dNx) E ds0 = some (.nx E, ds0) := rfl
  have q3 : dSet 2 false (dC (.int 0)) E ds0 = some (.nx [vS (toD p), vS (rowD [n0, n1, n2, n3, n4]), vS (.int 0), none, none, none, none, none], ds0) := rfl
  obtain ⟨b3, b4, b5, b6, q⟩ := at_out (vS (toD p)) none [n0, n1, n2, n3, n4] hb ds0 p 0 none none none none hr
  have q4 : dFor (dIt itemsD (dVar 0)) (gTp (gsCons (gNm 3) (gsCons (gNm 4) (gsNil)))) atOut [vS (toD p), vS (rowD [n0, n1, n2, n3, n4]), vS (.int 0), none, none, none, none, none] ds0 = _ := (dFor_eq (dIt_eq (a := toD p) (s := ds0) rfl (items_dP p))).trans q
  refine fnP_eq (b := d_at_numbers) (s := ds0) ?_
  show d_at_numbers E ds0 = _
  rw [at_eq, dSeq_eq q1, dSeq_eq q2, dSeq_eq q3, dSeq_eq q4, Int.zero_add]
  rfl
/-! ### the sums of the numbers -/
theorem ints_vals (p : PR) : ints? ((dP p).map Prod.snd) = some (p.map (·.2)) := by
  have e : (dP p).map Prod.snd = (p.map (·.2)).map D.int := by
    unfold dP
    rw [List.map_map, List.map_map]
    rfl
  rw [e, ints_map]
theorem sum_lin : ∀ p : PR, (p.map (·.2)).sum = lin (fun _ => 1) p
  | [] => rfl
  | (k, v) :: p => by
    show v + (p.map (·.2)).sum = v * 1 + lin (fun _ => 1) p
    rw [sum_lin p, Int.mul_one]
theorem gSumVals_P (p : PR) : gSumVals (toD p) = some (.int (lin (fun _ => 1) p)) := by
  show (match ints? ((dP p).map Prod.snd) with | some ns => some (D.int ns.sum) | none => none) = _
  rw [ints_vals p, ← sum_lin p]
theorem tr_ones {p : PR} (h : polyOk p = true) (hl : p.length ≤ 100000) : f_at_ones [toD p] = some (.int (lin (fun _ => 1) p)) := by
  have q1 : dDropS (dCallP 1 f_need_polynomial (aCons (dVar 0) (aNil))) [vS (toD p)] ds0 = some (.nx [vS (toD p)], ds0) := dDrop_eq (dCallP_eq (as := [toD p]) rfl rfl (needpoly h hl))
  refine fnP_eq (b := d_at_ones) (s := ds0) ?_
  show d_at_ones [vS (toD p)] ds0 = _
  unfold d_at_ones
  rw [dSeq_eq q1]
  refine dSeq_rt (dRet_eq ?_)
  unfold d1
  show bnd (some (toD p, ds0)) _ = _
  show op1 (gSumVals (toD p)) ds0 = _
  rw [gSumVals_P]
  rfl
/-! ### products -/
def Mul5 (w : List Int → Int) (p q : PR) : Prop := ∀ e ∈ p, ∀ f ∈ q, w (addR e.1 f.1) = w e.1 * w f.1
theorem lin_mulT (w : List Int → Int) (r : List Int) (c : Int) : ∀ q : PR, (∀ f ∈ q, w (addR r f.1) = w r * w f.1) → lin w (mulT r c q) = c * w r * lin w q
  | [], _ => (Int.mul_zero _).symm
  | (k, v) :: q, h => by
    show c * v * w (addR r k) + lin w (mulT r c q) = c * w r * (v * w k + lin w q)
    rw [lin_mulT w r c q fun f hf => h f (List.mem_cons_of_mem _ hf), h (k, v) (List.mem_cons_self ..), Int.mul_add]
    congr 1
    show c * v * (w r * w k) = c * w r * (v * w k)
    rw [Int.mul_assoc, Int.mul_assoc, ← Int.mul_assoc v, Int.mul_comm v, Int.mul_assoc]
theorem lin_mulTs (w : List Int → Int) (q : PR) : ∀ p : PR, Mul5 w p q → lin w (mulTs q p) = lin w p * lin w q
  | [], _ => (Int.zero_mul _).symm
  | (r, c) :: p, h => by
    show lin w (mulT r c q ++ mulTs q p) = (c * w r + lin w p) * lin w q
    rw [lin_append, lin_mulT w r c q (fun f hf => h (r, c) (List.mem_cons_self ..) f hf), lin_mulTs w q p (fun e he => h e (List.mem_cons_of_mem _ he)), Int.add_mul]
theorem mulP_eqv (p q : PR) : eqv (mulP p q) (mulTs q p) := fun k => by
  unfold mulP
  rw [cfs_keepP, cfs_accP]
  exact Int.zero_add _
theorem lin_mulP (w : List Int → Int) {p q : PR} (h : Mul5 w p q) : lin w (mulP p q) = lin w p * lin w q := by
  rw [lin_congr w (mulP_eqv p q), lin_mulTs w q p h]
theorem plusP_eqv (p q : PR) (m : Int) : eqv (plusP p q m) (p ++ scaleP m q) := fun k => by
  unfold plusP
  rw [cfs_keepP, cfs_accP, cfs_append]
theorem lin_scale (w : List Int → Int) (m : Int) : ∀ q : PR, lin w (scaleP m q) = m * lin w q
  | [] => (Int.mul_zero _).symm
  | (k, v) :: q => by
    show m * v * w k + lin w (scaleP m q) = m * (v * w k + lin w q)
    rw [lin_scale w m q, Int.mul_add, Int.mul_assoc]
theorem lin_plusP (w : List Int → Int) (p q : PR) (m : Int) : lin w (plusP p q m) = lin w p + m * lin w q := by
  rw [lin_congr w (plusP_eqv p q m), lin_append, lin_scale]
theorem wN_add : ∀ (nums a b : List Int), a.length = b.length → (∀ x ∈ a, 0 ≤ x) → (∀ x ∈ b, 0 ≤ x) → wN nums (addR a b) = wN nums a * wN nums b
  | [], a, b, _, _, _ => by
    have e : ∀ l, wN [] l = 1 := fun l => by cases l <;> rfl
    rw [e, e, e]
    rfl
  | n :: nums, [], [], _, _, _ => rfl
  | n :: nums, x :: a, y :: b, hl, ha, hb => by
    have hx := ha x (List.mem_cons_self ..)
    have hy := hb y (List.mem_cons_self ..)
    have ih := wN_add nums a b (by simpa using hl) (fun z hz => ha z (List.mem_cons_of_mem _ hz)) (fun z hz => hb z (List.mem_cons_of_mem _ hz))
    show powI n (x + y).toNat * wN nums (addR a b) = (powI n x.toNat * wN nums a) * (powI n y.toNat * wN nums b)
    have e : (x + y).toNat = x.toNat + y.toNat := by omega
    rw [ih, e, powI_add]
    ac_rfl
  | n :: nums, [], y :: b, hl, _, _ => by simp at hl
  | n :: nums, x :: a, [], hl, _, _ => by simp at hl
theorem mul5_box {B : Int} {p q : PR} (hp : Box B 5 p) (hq : Box B 5 q) (nums : List Int) : Mul5 (wN nums) p q := fun e he f hf => wN_add nums e.1 f.1 ((hp e he).1.trans (hq f hf).1.symm) (fun x hx => ((hp e he).2 x hx).1) (fun x hx => ((hq f hf).2 x hx).1)
theorem mul5_one (p q : PR) : Mul5 (fun _ => 1) p q := fun _ _ _ _ => rfl
theorem wN_ones : ∀ (k : Nat) (r : List Int), wN (List.replicate k 1) r = 1
  | 0, r => by cases r <;> rfl
  | k + 1, [] => rfl
  | k + 1, e :: r => by
    show powI 1 e.toNat * wN (List.replicate k 1) r = 1
    rw [powI_one, wN_ones k r]
    rfl
end L2.Dn
set_option Elab.async false
set_option linter.all false
set_option maxRecDepth 100000
set_option maxHeartbeats 4000000
/-! k69: the rows of the pipes, the looks -/
namespace L2.Dn
open PySem PySem.Spec PyProof.Rows C8
def unit5 (r : Int) : List Int := match decide (r = 1) with
  | true => [1, 0, 0, 0, 0]
  | false => (match decide (r = 2) with
    | true => [0, 1, 0, 0, 0]
    | false => (match decide (r = 3) with
      | true => [0, 0, 1, 0, 0]
      | false => (match decide (r = 4) with
        | true => [0, 0, 0, 1, 0]
        | false => [0, 0, 0, 0, 1])))
def expo : List Int → List Int
  | [] => [0, 0, 0, 0, 0]
  | r :: rs => addR (unit5 r) (expo rs)
def expoL : List (List Int) → PR
  | [] => []
  | l :: r => (expo l, 1) :: expoL r
def rowsG (F : D → Option D) : List D → Option (List (List Int))
  | [] => some []
  | lot :: r => (match F lot with
    | some (.tuple xs) => (match ints? xs with
      | some l => (match l.all fun x => decide (1 ≤ x) && decide (x ≤ 5) with
        | true => (match rowsG F r with
          | some rs => some (l :: rs)
          | none => none)
        | false => none)
      | none => none)
    | _ => none)
def rowF (n : Nat) : D → Option D := fun lot => f_row_of_lot [.int (n : Nat), lot]
def rowsT (n : Nat) (t : List D) : Option (List (List Int)) := rowsG (rowF n) t
def bnd3 : PR → Nat
  | [] => 0
  | (r, c) :: p => Nat.add (Nat.mul c.natAbs (Nat.pow 3 ((r.map Int.toNat).sum))) (bnd3 p)
def box4 (p : PR) : Bool := p.all fun e => Nat.beq e.1.length 5 && e.1.all fun x => decide (0 ≤ x) && decide (x ≤ 4)
def one1 : PR → Nat
  | [] => 0
  | (_, c) :: p => Nat.add c.natAbs (one1 p)
/-- what is looked at -/
def lookS (s : List Int) : Bool := sumB1 s && seqRD (pD s) s && rdL (pD s) s && box4 (sumV s) && smallB (sumV s) && Nat.ble (sumV s).length 100 && hOk (sumV s) && Nat.ble (bnd3 (sumV s)) 1000000000000 && Nat.ble (one1 (sumV s)) 1000000000000
def lookPp (n : Nat) (s : List Int) : Bool := match pipT n s with
  | some t => (match rowsT n t with
    | some rs => Nat.ble t.length 1000 && eqP (keepP (accP [] (expoL rs))) (sumV s)
    | none => false)
  | none => false
def look69 (n : Nat) (s : List Int) : Bool := lookS s && lookPp n s
end L2.Dn
set_option Elab.async false
set_option linter.all false
set_option maxRecDepth 100000
set_option maxHeartbeats 4000000
/-! k69: what the looks tell; the loops over the pipes -/
namespace L2.Dn
open PySem PySem.Spec PyProof.Rows C8
theorem unit_ok (r : Int) : (unit5 r).length = 5 ∧ ∀ x ∈ unit5 r, 0 ≤ x := by
  unfold unit5
  split
  · exact ⟨rfl, by decide⟩
  · split
    · exact ⟨rfl, by decide⟩
    · split
      · exact ⟨rfl, by decide⟩
      · split
        · exact ⟨rfl, by decide⟩
        · exact ⟨rfl, by decide⟩
theorem addR_nn : ∀ {a b : List Int}, (∀ x ∈ a, 0 ≤ x) → (∀ x ∈ b, 0 ≤ x) → ∀ x ∈ addR a b, 0 ≤ x
  | [], b, _, _, x, h => by cases b <;> exact nomatch h
  | _ :: _, [], _, _, x, h => nomatch h
  | u :: a, v :: b, ha, hb, x, h => by
    have h1 := ha u (List.mem_cons_self ..)
    have h2 := hb v (List.mem_cons_self ..)
    rcases List.mem_cons.mp (show x ∈ (u + v) :: addR a b from h) with rfl | h
    · omega
    · exact addR_nn (fun y hy => ha y (List.mem_cons_of_mem _ hy)) (fun y hy => hb y (List.mem_cons_of_mem _ hy)) x h
theorem expo_ok : ∀ l : List Int, (expo l).length = 5 ∧ ∀ x ∈ expo l, 0 ≤ x
  | [] => ⟨rfl, by decide⟩
  | r :: l => by
    obtain ⟨h1, h2⟩ := expo_ok l
    obtain ⟨u1, u2⟩ := unit_ok r
    exact ⟨by show (addR (unit5 r) (expo l)).length = 5; rw [addR_len, u1, h1]; rfl, addR_nn u2 h2⟩
theorem unit_w (n0 n1 n2 n3 n4 : Int) {r : Int} (h1 : 1 ≤ r) (h5 : r ≤ 5) : wN [n0, n1, n2, n3, n4] (unit5 r) = [n0, n1, n2, n3, n4].getD (r.toNat - 1) 0 := by
  rcases (show r = 1 ∨ r = 2 ∨ r = 3 ∨ r = 4 ∨ r = 5 by omega) with rfl | rfl | rfl | rfl | rfl <;> simp [unit5, wN, powI]
def Nums (nums : List Int) : Prop := ∃ n0 n1 n2 n3 n4 : Int, nums = [n0, n1, n2, n3, n4] ∧ ∀ b ∈ nums, b.natAbs ≤ 3
theorem expo_w {nums : List Int} (hN : Nums nums) {r : Int} (l : List Int) (h1 : 1 ≤ r) (h5 : r ≤ 5) : wN nums (expo (r :: l)) = nums.getD (r.toNat - 1) 0 * wN nums (expo l) := by
  obtain ⟨n0, n1, n2, n3, n4, rfl, _⟩ := hN
  show wN _ (addR (unit5 r) (expo l)) = _
  rw [wN_add _ _ _ ((unit_ok r).1.trans (expo_ok l).1.symm) (unit_ok r).2 (expo_ok l).2, unit_w _ _ _ _ _ h1 h5]
theorem expo_nil {nums : List Int} (hN : Nums nums) : wN nums (expo []) = 1 := by
  obtain ⟨n0, n1, n2, n3, n4, rfl, _⟩ := hN
  simp [expo, wN, powI]
theorem nums_at {nums : List Int} (hN : Nums nums) {i : Nat} (hi : i < 5) : (nums.getD i 0).natAbs ≤ 3 := by
  obtain ⟨n0, n1, n2, n3, n4, rfl, h⟩ := hN
  rcases (show i = 0 ∨ i = 1 ∨ i = 2 ∨ i = 3 ∨ i = 4 by omega) with rfl | rfl | rfl | rfl | rfl
  · exact h _ (by simp)
  · exact h _ (by simp)
  · exact h _ (by simp)
  · exact h _ (by simp)
  · exact h _ (by simp)
theorem nums_len {nums : List Int} (hN : Nums nums) : nums.length = 5 := by
  obtain ⟨n0, n1, n2, n3, n4, rfl, h⟩ := hN
  rfl
/-! ### sizes -/
theorem wN_abs : ∀ (nums r : List Int), (∀ b ∈ nums, b.natAbs ≤ 3) → (wN nums r).natAbs ≤ 3 ^ (r.map Int.toNat).sum
  | [], r, _ => by
    have e : wN [] r = 1 := by cases r <;> rfl
    rw [e]
    exact Nat.one_le_pow _ _ (by decide)
  | b :: nums, [], _ => Nat.le_refl 1
  | b :: nums, e :: r, h => by
    show (powI b e.toNat * wN nums r).natAbs ≤ 3 ^ (e.toNat + (r.map Int.toNat).sum)
    rw [Int.natAbs_mul, Nat.pow_add]
    exact Nat.mul_le_mul (powI_abs (h b (List.mem_cons_self ..)) _) (wN_abs nums r fun x hx => h x (List.mem_cons_of_mem _ hx))
theorem lin_abs {nums : List Int} (h : ∀ b ∈ nums, b.natAbs ≤ 3) : ∀ p : PR, (lin (wN nums) p).natAbs ≤ bnd3 p
  | [] => Nat.le_refl _
  | (r, c) :: p => by
    have h1 := wN_abs nums r h
    have h2 := lin_abs h p
    have h3 : (c * wN nums r).natAbs ≤ c.natAbs * 3 ^ (r.map Int.toNat).sum := by
      rw [Int.natAbs_mul]
      exact Nat.mul_le_mul_left _ h1
    have h4 := Int.natAbs_add_le (c * wN nums r) (lin (wN nums) p)
    show (c * wN nums r + lin (wN nums) p).natAbs ≤ c.natAbs * 3 ^ (r.map Int.toNat).sum + bnd3 p
    omega
theorem lin_abs1 : ∀ p : PR, (lin (fun _ => 1) p).natAbs ≤ one1 p
  | [] => Nat.le_refl _
  | (r, c) :: p => by
    have h2 := lin_abs1 p
    have h4 := Int.natAbs_add_le (c * 1) (lin (fun _ => 1) p)
    rw [Int.mul_one] at h4
    show (c * 1 + lin (fun _ => 1) p).natAbs ≤ c.natAbs + one1 p
    rw [Int.mul_one]
    omega
theorem eqv_perm {p q : PR} (h : p.Perm q) : eqv p q := fun k => by
  induction h with
  | nil => rfl
  | cons x _ ih =>
    obtain ⟨a, b⟩ := x
    rw [cfs_cons, cfs_cons, ih]
  | swap x y l =>
    obtain ⟨a, b⟩ := x
    obtain ⟨c, d⟩ := y
    rw [cfs_cons, cfs_cons, cfs_cons, cfs_cons]
    omega
  | trans _ _ h1 h2 => exact h1.trans h2
/-! ### what is known of a sequence -/
structure SF (n : Nat) (s : List Int) : Prop where
  sum : f_sum_of [pD s] = some (toD (sumV s))
  one : f_sum_at_ones [pD s] = some (.int (lin (fun _ => 1) (sumV s)))
  lsum : f__law_sum [pD s] = some (toD (lsumV s))
  wfl : WfP (lsumV s)
  pm : (lsumV s).Perm (sumV s)
  wf : WfP (sumV s)
  bx : Box 4 5 (sumV s)
  sm : SmallP (sumV s)
  len : (sumV s).length ≤ 100
  hok : hOk (sumV s) = true
  b3 : bnd3 (sumV s) ≤ 1000000000000
  b1 : one1 (sumV s) ≤ 1000000000000
  pip : ∃ t rs, pipT n s = some t ∧ rowsT n t = some rs ∧ t.length ≤ 1000 ∧ eqv (expoL rs) (sumV s)
theorem box4_ok {p : PR} (h : box4 p = true) : Box 4 5 p := fun e m => by
  have := List.all_eq_true.mp h e m
  rw [Bool.and_eq_true] at this
  refine ⟨Nat.eq_of_beq_eq_true this.1, fun x hx => ?_⟩
  have := List.all_eq_true.mp this.2 x hx
  rw [Bool.and_eq_true] at this
  exact ⟨of_decide_eq_true this.1, of_decide_eq_true this.2⟩
theorem sf_of {n : Nat} {s : List Int} (h1 : 1 ≤ n) (h5 : n ≤ 5) (hs : s ∈ seqsI n) (h : look69 n s = true) : SF n s := by
  unfold look69 lookS at h
  simp only [Bool.and_eq_true] at h
  obtain ⟨⟨⟨⟨⟨⟨⟨⟨⟨k1, k2⟩, k3⟩, k4⟩, k5⟩, k6⟩, k7⟩, k8⟩, k9⟩, k10⟩ := h
  have Ss := sq_of h1 h5 hs
  obtain ⟨e1, wf⟩ := sum_oneD k1 (seqRD_ok k2)
  obtain ⟨e2, wl, pm⟩ := lsum_oneD k1 (rdL_ok k3)
  have q1 : dDropS (dCallP 1 f_need_sequence (aCons (dVar 0) (aNil))) [vS (pD s)] ds0 = some (.nx [vS (pD s)], ds0) := dDrop_eq (dCallP_eq (as := [pD s]) rfl rfl Ss.ndp)
  have a1 : f_sum_of [pD s] = some (toD (sumV s)) := by
    refine fnP_eq (b := d_sum_of) (s := ds0) ?_
    show d_sum_of [vS (pD s)] ds0 = _
    unfold d_sum_of
    rw [dSeq_eq q1]
    exact dSeq_rt (dRet_eq (dCallP_eq (as := [pD s]) rfl rfl e1))
  have a2 : f_sum_at_ones [pD s] = some (.int (lin (fun _ => 1) (sumV s))) := by
    refine fnP_eq (b := d_sum_at_ones) (s := ds0) ?_
    show d_sum_at_ones [vS (pD s)] ds0 = _
    unfold d_sum_at_ones
    rw [dSeq_eq q1]
    refine dSeq_rt (dRet_eq ?_)
    have x : dCallP 1 f_sum_by (aCons (dVar 0) (aNil)) [vS (pD s)] ds0 = some (toD (sumV s), ds0) := dCallP_eq (as := [pD s]) rfl rfl e1
    unfold d1
    rw [x]
    show op1 (gSumVals (toD (sumV s))) ds0 = _
    rw [gSumVals_P]
    rfl
  refine ⟨a1, a2, e2, wl, pm, wf, box4_ok k4, smallB_ok k5, Nat.le_of_ble_eq_true k6, k7, Nat.le_of_ble_eq_true k8, Nat.le_of_ble_eq_true k9, ?_⟩
  unfold lookPp at k10
  split at k10
  · rename_i t ht
    split at k10
    · rename_i rs hrs
      rw [Bool.and_eq_true] at k10
      refine ⟨t, rs, ht, hrs, Nat.le_of_ble_eq_true k10.1, ?_⟩
      have w0 : WfP (keepP (accP [] (expoL rs))) := wf_keepP (nd_accP _ List.nodup_nil)
      have e := (eqP_iff w0 wf).mp k10.2
      intro k
      rw [← e k, cfs_keepP, cfs_accP]
      exact (Int.zero_add _).symm
    · cases k10
  · cases k10
/-! ### the loops over the pipes -/
abbrev L16 (a0 a2 a3 a4 a5 a6 a7 a8 a9 a10 a11 a12 a13 : Option Sl) : En := [a0, some .draw, a2, a3, a4, a5, a6, a7, a8, a9, a10, a11, a12, a13, none, none]
def duIn : DenS := dSeq (dSet 9 false (d2 gMul (dRd 9) (d2 gIx (dRd 5) (d2 gSub (dRd 10) (dC (.int 1)))))) (dNx)
def duOut : DenS := dSeq (dSet 9 false (dC (.int 1))) (dSeq (dFor (dItems (dCallP 2 f_row_of_lot (aCons (dB gLen (aCons (dRd 3) (aNil))) (aCons (dVar 8) (aNil))))) (gNm 10) duIn) (dSeq (dSet 7 false (d2 gAdd (dRd 7) (dRd 9))) (dNx)))
theorem du_in {nums : List Int} (hN : Nums nums) (a0 a2 a3 a4 a6 a7 a8 a11 a12 a13 : Option Sl) (ds : DS) : ∀ (l : List Int) (part : Int) (a10 : Option Sl), (∀ x ∈ l, 1 ≤ x ∧ x ≤ 5) →
    ∃ b10, forLoop (gNm 10) duIn (l.map D.int) (L16 a0 a2 a3 a4 (vS (rowD nums)) a6 a7 a8 (vS (.int part)) a10 a11 a12 a13) ds = some (.nx (L16 a0 a2 a3 a4 (vS (rowD nums)) a6 a7 a8 (vS (.int (part * wN nums (expo l)))) b10 a11 a12 a13), ds)
  | [], part, a10, _ => ⟨a10, by
    rw [expo_nil hN, Int.mul_one]
    rfl⟩
  | r :: l, part, a10, h => by
    have hr := h r (List.mem_cons_self ..)
    obtain ⟨b10, ih⟩ := du_in hN a0 a2 a3 a4 a6 a7 a8 a11 a12 a13 ds l (part * nums.getD (r.toNat - 1) 0) (vS (.int r)) fun x hx => h x (List.mem_cons_of_mem _ hx)
    have x1 : d2 gIx (dRd 5) (d2 gSub (dRd 10) (dC (.int 1))) (L16 a0 a2 a3 a4 (vS (rowD nums)) a6 a7 a8 (vS (.int part)) (vS (.int r)) a11 a12 a13) ds = some (.int (nums.getD (r.toNat - 1) 0), ds) := by
      refine d2_eq (a := rowD nums) (b := .int (r - 1)) rfl rfl ?_
      have e : r - 1 = ((r.toNat - 1 : Nat) : Int) := by omega
      rw [e]
      exact ixRow nums (r.toNat - 1) (by rw [nums_len hN]; omega)
    have hb := nums_at hN (i := r.toNat - 1) (by omega)
    have q : dSet 9 false (d2 gMul (dRd 9) (d2 gIx (dRd 5) (d2 gSub (dRd 10) (dC (.int 1))))) (L16 a0 a2 a3 a4 (vS (rowD nums)) a6 a7 a8 (vS (.int part)) (vS (.int r)) a11 a12 a13) ds = some (.nx (L16 a0 a2 a3 a4 (vS (rowD nums)) a6 a7 a8 (vS (.int (part * nums.getD (r.toNat - 1) 0))) (vS (.int r)) a11 a12 a13), ds) :=
      dSet_eq (i := 9) (k := false) (d2_eq (a := .int part) rfl x1 (gMulE (.inr (by omega))))
    refine ⟨b10, (forLoop_cons (env' := L16 a0 a2 a3 a4 (vS (rowD nums)) a6 a7 a8 (vS (.int part)) (vS (.int r)) a11 a12 a13) rfl ((dSeq_eq q).trans rfl)).trans (ih.trans ?_)⟩
    rw [expo_w hN l hr.1 hr.2, Int.mul_assoc]
theorem du_lap {n : Nat} {s nums : List Int} (hN : Nums nums) (hn : s.length = n) (a0 a2 a4 a6 a9 a10 a11 a12 a13 : Option Sl) (ds : DS) (lot : D) (l : List Int) (due : Int) (hx : f_row_of_lot [.int (n : Nat), lot] = some (.tuple (l.map D.int))) (hr : ∀ x ∈ l, 1 ≤ x ∧ x ≤ 5) :
    ∃ b10, duOut (L16 a0 a2 (vS (pD s)) a4 (vS (rowD nums)) a6 (vS (.int due)) (vS lot) a9 a10 a11 a12 a13) ds = some (.nx (L16 a0 a2 (vS (pD s)) a4 (vS (rowD nums)) a6 (vS (.int (due + wN nums (expo l)))) (vS lot) (vS (.int (wN nums (expo l)))) b10 a11 a12 a13), ds) := by
  have q1 : dSet 9 false (dC (.int 1)) (L16 a0 a2 (vS (pD s)) a4 (vS (rowD nums)) a6 (vS (.int due)) (vS lot) a9 a10 a11 a12 a13) ds = some (.nx (L16 a0 a2 (vS (pD s)) a4 (vS (rowD nums)) a6 (vS (.int due)) (vS lot) (vS (.int 1)) a10 a11 a12 a13), ds) := rfl
  obtain ⟨c10, q2⟩ := du_in hN a0 a2 (vS (pD s)) a4 a6 (vS (.int due)) (vS lot) a11 a12 a13 ds l 1 a10 hr
  rw [Int.one_mul] at q2
  have xl : dB gLen (aCons (dRd 3) (aNil)) (L16 a0 a2 (vS (pD s)) a4 (vS (rowD nums)) a6 (vS (.int due)) (vS lot) (vS (.int 1)) a10 a11 a12 a13) ds = some (.int (n : Nat), ds) := by
    rw [← hn, ← List.length_map (f := D.int) (as := s)]
    rfl
  have xv : aCons (dVar 8) (aNil) (L16 a0 a2 (vS (pD s)) a4 (vS (rowD nums)) a6 (vS (.int due)) (vS lot) (vS (.int 1)) a10 a11 a12 a13) ds = some ([lot], ds) := rfl
  have xr := dCallP_eq (n := 2) (f := f_row_of_lot) (aCons_eq xl xv) rfl hx
  have xi : itemsOf (.tuple (l.map D.int)) = some (l.map D.int) := rfl
  have q3 := (dFor_eq (g := gNm 10) (f := duIn) (dItems_eq xr xi)).trans q2
  have q4 : dSet 7 false (d2 gAdd (dRd 7) (dRd 9)) (L16 a0 a2 (vS (pD s)) a4 (vS (rowD nums)) a6 (vS (.int due)) (vS lot) (vS (.int (wN nums (expo l)))) c10 a11 a12 a13) ds = some (.nx (L16 a0 a2 (vS (pD s)) a4 (vS (rowD nums)) a6 (vS (.int (due + wN nums (expo l)))) (vS lot) (vS (.int (wN nums (expo l)))) c10 a11 a12 a13), ds) := rfl
  refine ⟨c10, ?_⟩
  unfold duOut
  rw [dSeq_eq q1, dSeq_eq q3, dSeq_eq q4]
  rfl
theorem rowsG_cons {F : D → Option D} {lot : D} {t : List D} {rs : List (List Int)} (h : rowsG F (lot :: t) = some rs) : ∃ l rs', F lot = some (.tuple (l.map D.int)) ∧ (∀ x ∈ l, 1 ≤ x ∧ x ≤ 5) ∧ rowsG F t = some rs' ∧ rs = l :: rs' := by
  rw [rowsG] at h
  generalize F lot = o at h ⊢
  split at h
  · rename_i xs
    split at h
    · rename_i l hl
      split at h
      · rename_i hall
        split at h
        · rename_i rs' hrs
          cases h
          refine ⟨l, rs', by rw [ints_eq hl], fun x hx => ?_, hrs, rfl⟩
          have := List.all_eq_true.mp hall x hx
          rw [Bool.and_eq_true] at this
          exact ⟨of_decide_eq_true this.1, of_decide_eq_true this.2⟩
        · cases h
      · cases h
    · cases h
  · cases h
theorem du_out {n : Nat} {s nums : List Int} (hN : Nums nums) (hn : s.length = n) (a0 a2 a4 a6 a11 a12 a13 : Option Sl) (ds : DS) : ∀ (t : List D) (rs : List (List Int)) (due : Int) (a8 a9 a10 : Option Sl), rowsT n t = some rs →
    ∃ b8 b9 b10, forLoop (gNm 8) duOut t (L16 a0 a2 (vS (pD s)) a4 (vS (rowD nums)) a6 (vS (.int due)) a8 a9 a10 a11 a12 a13) ds = some (.nx (L16 a0 a2 (vS (pD s)) a4 (vS (rowD nums)) a6 (vS (.int (due + lin (wN nums) (expoL rs)))) b8 b9 b10 a11 a12 a13), ds) ∧ t.length = rs.length
  | [], rs, due, a8, a9, a10, h => by
    cases h
    refine ⟨a8, a9, a10, ?_, rfl⟩
    rw [show lin (wN nums) (expoL []) = 0 from rfl, Int.add_zero]
    rfl
  | lot :: t, rs, due, a8, a9, a10, h => by
    obtain ⟨l, rs', hx, hr, hrs, rfl⟩ := rowsG_cons (F := rowF n) h
    obtain ⟨c10, q5⟩ := du_lap hN hn a0 a2 a4 a6 a9 a10 a11 a12 a13 ds lot l due hx hr
    obtain ⟨b8, b9, b10, ih, hl2⟩ := du_out hN hn a0 a2 a4 a6 a11 a12 a13 ds t rs' (due + wN nums (expo l)) (vS lot) (vS (.int (wN nums (expo l)))) c10 hrs
    refine ⟨b8, b9, b10, (forLoop_cons (env' := L16 a0 a2 (vS (pD s)) a4 (vS (rowD nums)) a6 (vS (.int due)) (vS lot) a9 a10 a11 a12 a13) rfl q5).trans (ih.trans ?_), by rw [List.length_cons, List.length_cons, hl2]⟩
    rw [show lin (wN nums) (expoL (l :: rs')) = 1 * wN nums (expo l) + lin (wN nums) (expoL rs') from rfl, Int.one_mul, Int.add_assoc]
theorem lin_count : ∀ rs : List (List Int), lin (fun _ => 1) (expoL rs) = (rs.length : Nat)
  | [] => rfl
  | l :: rs => by
    show 1 * 1 + lin (fun _ => 1) (expoL rs) = _
    rw [lin_count rs, List.length_cons]
    omega
end L2.Dn
set_option Elab.async false
set_option linter.all false
set_option maxRecDepth 100000
set_option maxHeartbeats 4000000
/-! k69: the draws, small steps -/
namespace L2.Dn
open PySem PySem.Spec PyProof.Rows C8
theorem neP {p q : PR} (hp : WfP p) (hq : WfP q) (h : eqv p q) : gNeU (toD p) (toD q) = some (.bool false) := by
  rw [gNeU_P, (eqP_iff hp hq).mpr h]
  rfl
theorem neI {a b : Int} (h : a = b) : gNeU (.int a) (.int b) = some (.bool false) := by
  subst h
  show some (D.bool (!decide (a = a))) = _
  rw [decide_eq_true rfl]
  rfl
theorem rgL_succ : ∀ (n : Nat) (a : Int), (rgL a n).map (· + 1) = rgL (a + 1) n
  | 0, _ => rfl
  | n + 1, a => by
    show (a + 1) :: (rgL (a + 1) n).map (· + 1) = (a + 1) :: rgL (a + 1 + 1) n
    rw [rgL_succ n (a + 1)]
theorem small_ok (m : Nat) (h1 : 1 ≤ m) (h5 : m ≤ 5) (ds : DS) : ∃ n l ds', 1 ≤ n ∧ n ≤ m ∧ l ∈ seqsI n ∧ f__law_small_sequence [.int (m : Nat)] ds = some (pD l, ds') := by
  obtain ⟨r, ds1, e1, hr⟩ := take_ok (m : Nat) (by omega) ds
  obtain ⟨n, rfl⟩ : ∃ n : Nat, r = (n : Int) := ⟨r.toNat, by omega⟩
  obtain ⟨ys, ds2, e2, p2⟩ := sequence_ok (n + 1) (by omega) ds1
  obtain ⟨l, hl, rfl⟩ := seqsI_of p2
  refine ⟨n + 1, l, ds2, by omega, by omega, hl, ?_⟩
  have q1 : dCallD 0 1 f__law_take (aCons (dVar 1) (aNil)) [some .draw, vS (.int (m : Nat))] ds = some (.int n, ds1) := (dCallD_eq (as := [.int (m : Nat)]) (s := ds) rfl rfl rfl).trans e1
  have q2 : d2 gAdd (dC (.int 1)) (dCallD 0 1 f__law_take (aCons (dVar 1) (aNil))) [some .draw, vS (.int (m : Nat))] ds = some (.int ((n + 1 : Nat) : Int), ds1) := d2_eq (a := .int 1) rfl q1 (by
    show some (D.int (1 + (n : Int))) = _
    rw [show 1 + (n : Int) = ((n + 1 : Nat) : Int) by omega])
  have q3 : dCallD 0 1 f__law_sequence (aCons (d2 gAdd (dC (.int 1)) (dCallD 0 1 f__law_take (aCons (dVar 1) (aNil)))) (aNil)) [some .draw, vS (.int (m : Nat))] ds = some (pD l, ds2) := (dCallD_eq (as := [.int ((n + 1 : Nat) : Int)]) (s := ds1) rfl (aCons1 q2) rfl).trans e2
  show outD (d__law_small_sequence [some .draw, vS (.int (m : Nat))] ds) = _
  unfold d__law_small_sequence
  rw [dSeq_rt (dRet_eq q3)]
  rfl
def takeD : Den := d2 gSub (dCallD 1 1 f__law_take (aCons (dC (.int 7)) (aNil))) (dC (.int 3))
theorem takes7 (a0 a2 a3 a4 a5 a6 a7 a8 a9 a10 a11 a12 a13 : Option Sl) : ∀ (items : List D) (ds : DS), ∃ (l : List Int) (ds' : DS), lcLoop (gNm 14) tYesD takeD (L16 a0 a2 a3 a4 a5 a6 a7 a8 a9 a10 a11 a12 a13) items ds = some (l.map D.int, ds') ∧ l.length = items.length ∧ ∀ b ∈ l, b.natAbs ≤ 3
  | [], ds => ⟨[], ds, rfl, rfl, fun _ h => nomatch h⟩
  | d :: items, ds => by
    obtain ⟨r, ds1, e1, hr⟩ := take_ok 7 (by decide) ds
    obtain ⟨l, ds2, e2, h2, h3⟩ := takes7 a0 a2 a3 a4 a5 a6 a7 a8 a9 a10 a11 a12 a13 items ds1
    let E : En := [a0, some .draw, a2, a3, a4, a5, a6, a7, a8, a9, a10, a11, a12, a13, vS d, none]
    have q1 : dCallD 1 1 f__law_take (aCons (dC (.int 7)) (aNil)) E ds = some (.int r, ds1) := (dCallD_eq (as := [.int 7]) (s := ds) rfl rfl rfl).trans e1
    have q2 : takeD E ds = some (.int (r - 3), ds1) := d2_eq (b := .int 3) q1 rfl rfl
    refine ⟨(r - 3) :: l, ds2, lc_t (env' := E) (s := ds) rfl rfl q2 e2, by rw [List.length_cons, List.length_cons, h2], fun b hb => ?_⟩
    rcases List.mem_cons.mp hb with rfl | hb
    · omega
    · exact h3 b hb
theorem nums_ok (a0 a2 a3 a4 a5 a6 a7 a8 a9 a10 a11 a12 a13 : Option Sl) (ds : DS) : ∃ nums ds', Nums nums ∧ l_2 (L16 a0 a2 a3 a4 a5 a6 a7 a8 a9 a10 a11 a12 a13) ds = some (.nx (L16 a0 a2 a3 a4 (vS (rowD nums)) a6 a7 a8 a9 a10 a11 a12 a13), ds') := by
  obtain ⟨l, ds', e, hl, hb⟩ := takes7 a0 a2 a3 a4 a5 a6 a7 a8 a9 a10 a11 a12 a13 (rgD 0 5) ds
  have h5 : l.length = 5 := hl
  have hN : Nums l := by
    match l, h5, hb with
    | [n0, n1, n2, n3, n4], _, hb => exact ⟨n0, n1, n2, n3, n4, rfl, hb⟩
  have q0 : dRg1 (dC (.int 5)) (L16 a0 a2 a3 a4 a5 a6 a7 a8 a9 a10 a11 a12 a13) ds = some (rgD 0 5, ds) := rfl
  have q1 : dLc (dRg1 (dC (.int 5))) [14] (gNm 14) (tYesD) takeD (L16 a0 a2 a3 a4 a5 a6 a7 a8 a9 a10 a11 a12 a13) ds = some (.list (l.map D.int), ds') := dLc_eq q0 e (by rw [List.length_map]; omega)
  exact ⟨l, ds', hN, dSet_eq (i := 5) (k := false) (dB_eq (as := [.list (l.map D.int)]) (aCons1 q1) rfl)⟩
/-! ### values -/
theorem tr_atN {p : PR} {nums : List Int} (hN : Nums nums) (h : polyOk p = true) (hl : p.length ≤ 100000) (hr : RowsIn p) : f_at_numbers [toD p, rowD nums] = some (.int (lin (wN nums) p)) := by
  obtain ⟨n0, n1, n2, n3, n4, rfl, hb⟩ := hN
  exact tr_at h hl hr hb
theorem box_in {B : Int} (hB : B ≤ 30) {p : PR} (h : Box B 5 p) : RowsIn p := fun x hx e he => by
  have := (h x hx).2 e he
  omega
theorem kys_scale (m : Int) : ∀ q : PR, kysP (scaleP m q) = kysP q
  | [] => rfl
  | (k, v) :: q => by
    show k :: kysP (scaleP m q) = k :: kysP q
    rw [kys_scale m q]
theorem box_plus {B : Int} {n : Nat} {p q : PR} (m : Int) (hp : Box B n p) (hq : Box B n q) : Box B n (plusP p q m) := fun e he => by
  have hk : e.1 ∈ kysP (plusP p q m) := List.mem_map.mpr ⟨e, he, rfl⟩
  have h2 := (mem_accP _ _ _).mp (mem_keepP hk)
  rw [kys_scale] at h2
  rcases h2 with h2 | h2
  · obtain ⟨f, hf, e2⟩ := List.mem_map.mp h2
    rw [← e2]
    exact hp f hf
  · obtain ⟨f, hf, e2⟩ := List.mem_map.mp h2
    rw [← e2]
    exact hq f hf
theorem plusP_len (p q : PR) (m : Int) : (plusP p q m).length ≤ p.length + q.length := by
  have h1 := keepP_len (accP p (scaleP m q))
  have h2 := accP_len (scaleP m q) p
  rw [scaleP_len] at h2
  unfold plusP
  omega
theorem ones_N : Nums [1, 1, 1, 1, 1] := ⟨1, 1, 1, 1, 1, rfl, by decide⟩
theorem lin_ones (p : PR) : lin (wN [1, 1, 1, 1, 1]) p = lin (fun _ => 1) p := lin_ext (fun r => wN_ones 5 r) p
theorem up_loop (E : En) (hE : ∀ d, dRd 15 (E.set 15 (some (.val d))) = fun ds => some (d, ds)) (ds : DS) : ∀ u : List Int, lcLoop (gNm 15) tYesD (d2 gAdd (dRd 15) (dC (.int 1))) E (u.map D.int) ds = some ((u.map (· + 1)).map D.int, ds)
  | [] => rfl
  | x :: u => lc_t (env' := E.set 15 (some (.val (.int x)))) (s := ds) rfl rfl (d2_eq (a := .int x) (b := .int 1) (by rw [hE]) rfl rfl) (up_loop E hE ds u)
theorem ahead_mem {m : Nat} {u : List Int} (hu : u ∈ seqsI m) : (1 :: u.map (· + 1)) ∈ seqsI (m + 1) := by
  have p : ((1 :: u.map (· + 1)).map D.int).Perm (rgD 1 (m + 1)) := by
    rw [rgD_map]
    refine List.Perm.map _ ?_
    show (1 :: u.map (· + 1)).Perm (1 :: rgL (1 + 1) m)
    rw [← rgL_succ m 1]
    exact ((permsP_perm _ _ hu).map _).cons 1
  obtain ⟨l, hl, e⟩ := seqsI_of p
  rw [mapint_inj e]
  exact hl
theorem sum_listVals (p : PR) : (match gListVals (toD p) with | some d => gSum [d] | none => none) = some (.int (lin (fun _ => 1) p)) := by
  show (match ints? ((dP p).map Prod.snd) with | some ns => some (D.int ns.sum) | none => none) = _
  rw [ints_vals p, ← sum_lin p]
end L2.Dn
set_option Elab.async false
set_option linter.all false
set_option maxRecDepth 100000
set_option maxHeartbeats 4000000
/-! k69: the lap -/
namespace L2.Dn
open PySem PySem.Spec PyProof.Rows C8
def LookAll : Prop := ∀ {n : Nat}, 1 ≤ n → n ≤ 5 → ∀ {s : List Int}, s ∈ seqsI n → look69 n s = true
theorem gcat_ahead {m : Nat} {u : List Int} (hl : u.length = m) (h1 : 1 ≤ m) (h : m ≤ 100) : gCatP (.tuple [.int 1]) (.tuple ((u.map (· + 1)).map D.int)) = some (pD (1 :: u.map (· + 1))) := by
  match u, hl with
  | [], hl =>
    subst hl
    exact absurd h1 (by simp)
  | w :: u', hl =>
    have hz : [D.int 1].length + (((w :: u').map (· + 1)).map D.int).length ≤ 100000 := by
      rw [List.length_map, List.length_map, hl]
      show 1 + m ≤ 100000
      omega
    show (if [D.int 1].length + (((w :: u').map (· + 1)).map D.int).length ≤ 100000 then some (D.ptup (.int 1 :: (((w :: u').map (· + 1)).map D.int))) else none) = _
    rw [if_pos hz]
    rfl
structure SP (n : Nat) (s : List Int) : Prop where
  f : SF n s
  poly : polyOk (sumV s) = true
theorem sp_of (LA : LookAll) {n : Nat} (h1 : 1 ≤ n) (h5 : n ≤ 5) {s : List Int} (hs : s ∈ seqsI n) : SP n s := by
  have f := sf_of h1 h5 hs (LA h1 h5 hs)
  exact ⟨f, poly_box f.wf (box_mono (by decide) f.bx)⟩
theorem look_pair {n m : Nat} {s u : List Int} (S : SP n s) (U : SP m u) {nums : List Int} (hN : Nums nums) :
    f_multiplied_out [toD (sumV s), toD (sumV u)] = some (toD (mulP (sumV s) (sumV u))) ∧ polyOk (mulP (sumV s) (sumV u)) = true ∧
    f_at_numbers [toD (mulP (sumV s) (sumV u)), rowD nums] = some (.int (lin (wN nums) (sumV s) * lin (wN nums) (sumV u))) ∧
    f_at_ones [toD (mulP (sumV s) (sumV u))] = some (.int (lin (fun _ => 1) (sumV s) * lin (fun _ => 1) (sumV u))) ∧
    f__law_product [toD (lsumV s), toD (lsumV u)] = some (toD (mulP (lsumV s) (lsumV u))) ∧ gNeU (toD (mulP (sumV s) (sumV u))) (toD (mulP (lsumV s) (lsumV u))) = some (.bool false) := by
  have b8 := box_mul S.f.bx U.f.bx
  have b8 : Box 8 5 (mulP (sumV s) (sumV u)) := b8
  have p8 := poly_box (wf_mulP _ _) (box_mono (by decide) b8)
  have l1 := S.f.len
  have l2 := U.f.len
  have lm : (sumV s).length * (sumV u).length ≤ 10000 := Nat.mul_le_mul l1 l2
  have l3 := mulP_len (sumV s) (sumV u)
  have lp1 := S.f.pm.length_eq
  have lp2 := U.f.pm.length_eq
  refine ⟨w_mul S.poly U.poly S.f.sm p8 (by omega) (by omega) (by omega), p8, ?_, ?_, ?_, ?_⟩
  · rw [tr_atN hN p8 (by omega) (box_in (by decide) b8), lin_mulP _ (mul5_box S.f.bx U.f.bx nums)]
  · rw [tr_ones p8 (by omega), lin_mulP _ (mul5_one _ _)]
  · refine tr_lmul (lsumV s) (lsumV u) S.f.wfl.nd U.f.wfl.nd (fun e m => S.f.sm e (S.f.pm.mem_iff.mp m)) (fun e m => ?_) ?_
    · have := (S.f.bx e (S.f.pm.mem_iff.mp m)).1
      omega
    · rw [lp1, lp2]
      omega
  · exact neP (wf_mulP _ _) (wf_mulP _ _) (mul_congr (eqv_perm S.f.pm.symm) (eqv_perm U.f.pm.symm))
theorem look_plus {n m : Nat} {s u : List Int} (S : SP n s) (U : SP m u) {nums : List Int} (hN : Nums nums) {k : Int} (hk : -10 < k ∧ k < 10) :
    f_plus_times [toD (sumV s), toD (sumV u), .int k] = some (toD (plusP (sumV s) (sumV u) k)) ∧ f_at_numbers [toD (plusP (sumV s) (sumV u) k), rowD nums] = some (.int (lin (wN nums) (sumV s) + k * lin (wN nums) (sumV u))) := by
  have b4 := box_plus k S.f.bx U.f.bx
  have p4 := poly_box (wf_plusP (sumV u) k S.f.wf.nd) (box_mono (by decide) b4)
  have l1 := S.f.len
  have l2 := U.f.len
  have l3 := plusP_len (sumV s) (sumV u) k
  refine ⟨w_plust S.poly U.poly S.f.wf.nd S.f.hok (.inl (by omega)) (by omega), ?_⟩
  rw [tr_atN hN p4 (by omega) (box_in (by decide) b4), lin_plusP]
theorem lap69_ok (LA : LookAll) (a0 a2 a3 a4 a5 a6 a7 a8 a9 a10 a11 a12 a13 : Option Sl) (ds : DS) :
    ∃ c3 c4 c5 c6 c7 c8 c9 c10 c11 c12 c13 ds', dSeq l_1 (dSeq l_2 (dSeq l_3 (dSeq l_4 (dSeq l_5 (dSeq l_6 (dSeq l_7 (dSeq l_8 (dSeq l_9 (dSeq l_10 (dSeq l_11 (dSeq l_12 (dNx)))))))))))) (L16 a0 a2 a3 a4 a5 a6 a7 a8 a9 a10 a11 a12 a13) ds = some (.nx (L16 a0 a2 c3 c4 c5 c6 c7 c8 c9 c10 c11 c12 c13), ds') := by
  -- the draws
  obtain ⟨n, s, ds1, hn1, hn5, hs, e1⟩ := small_ok 5 (by decide) (by decide) ds
  obtain ⟨m, u, ds2, hm1, hm4, hu, e2⟩ := small_ok 4 (by decide) (by decide) ds1
  have q1 : l_1 (L16 a0 a2 a3 a4 a5 a6 a7 a8 a9 a10 a11 a12 a13) ds = some (.nx (L16 a0 a2 (vS (pD s)) (vS (pD u)) a5 a6 a7 a8 a9 a10 a11 a12 a13), ds2) := dPar_eq (i := 3) (j := 4) (k := false) (l := false) ((dCallD_eq (as := [.int (5 : Nat)]) (s := ds) rfl rfl rfl).trans e1) ((dCallD_eq (as := [.int (4 : Nat)]) (s := ds1) rfl rfl rfl).trans e2)
  obtain ⟨nums, ds3, hN, q2⟩ := nums_ok a0 a2 (vS (pD s)) (vS (pD u)) a5 a6 a7 a8 a9 a10 a11 a12 a13 ds2
  have S := sp_of LA hn1 hn5 hs
  have U := sp_of LA hm1 (by omega) hu
  have sl := seqsI_len hs
  have l1 := S.f.len
  have l2 := U.f.len
  -- the sums
  have q3 : l_3 (L16 a0 a2 (vS (pD s)) (vS (pD u)) (vS (rowD nums)) a6 a7 a8 a9 a10 a11 a12 a13) ds3 = some (.nx (L16 a0 a2 (vS (pD s)) (vS (pD u)) (vS (rowD nums)) (vS (.list [toD (sumV s), toD (sumV u)])) a7 a8 a9 a10 a11 a12 a13), ds3) := by
    have x1 : dCallP 1 f_sum_of (aCons (dVar 3) (aNil)) (L16 a0 a2 (vS (pD s)) (vS (pD u)) (vS (rowD nums)) a6 a7 a8 a9 a10 a11 a12 a13) ds3 = some (toD (sumV s), ds3) := dCallP_eq (as := [pD s]) rfl rfl S.f.sum
    have x2 : dCallP 1 f_sum_of (aCons (dVar 4) (aNil)) (L16 a0 a2 (vS (pD s)) (vS (pD u)) (vS (rowD nums)) a6 a7 a8 a9 a10 a11 a12 a13) ds3 = some (toD (sumV u), ds3) := dCallP_eq (as := [pD u]) rfl rfl U.f.sum
    refine dSet_eq (i := 6) (k := false) ?_
    unfold dLst
    rw [aCons_eq x1 (aCons1 x2)]
    rfl
  have q4 : l_4 (L16 a0 a2 (vS (pD s)) (vS (pD u)) (vS (rowD nums)) (vS (.list [toD (sumV s), toD (sumV u)])) a7 a8 a9 a10 a11 a12 a13) ds3 = some (.nx (L16 a0 a2 (vS (pD s)) (vS (pD u)) (vS (rowD nums)) (vS (.list [toD (sumV s), toD (sumV u)])) (vS (.int 0)) a8 a9 a10 a11 a12 a13), ds3) := rfl
  -- the pipes
  obtain ⟨t, rs, ht, hrs, htl, hev⟩ := S.f.pip
  have C : Ctx n s (pD s) := ⟨hn1, hn5, hs, rfl⟩
  have tp := tr_pipes C ht
  obtain ⟨b8, b9, b10, q5', htr⟩ := du_out hN sl a0 a2 (vS (pD u)) (vS (.list [toD (sumV s), toD (sumV u)])) a11 a12 a13 ds3 t rs 0 a8 a9 a10 hrs
  rw [Int.zero_add, lin_congr (wN nums) hev] at q5'
  have q5 : l_5 (L16 a0 a2 (vS (pD s)) (vS (pD u)) (vS (rowD nums)) (vS (.list [toD (sumV s), toD (sumV u)])) (vS (.int 0)) a8 a9 a10 a11 a12 a13) ds3 = some (.nx (L16 a0 a2 (vS (pD s)) (vS (pD u)) (vS (rowD nums)) (vS (.list [toD (sumV s), toD (sumV u)])) (vS (.int (lin (wN nums) (sumV s)))) b8 b9 b10 a11 a12 a13), ds3) :=
    (dFor_eq (items := t) (s := ds3) (dItems_eq (a := .ptup t) (dCallP_eq (as := [pD s]) rfl rfl tp) rfl)).trans q5'
  let E6 := L16 a0 a2 (vS (pD s)) (vS (pD u)) (vS (rowD nums)) (vS (.list [toD (sumV s), toD (sumV u)])) (vS (.int (lin (wN nums) (sumV s)))) b8 b9 b10 a11 a12 a13
  have atS := tr_atN hN S.poly (by omega) (box_in (by decide) S.f.bx)
  have atU := tr_atN hN U.poly (by omega) (box_in (by decide) U.f.bx)
  have at1 := tr_atN ones_N S.poly (by omega) (box_in (by decide) S.f.bx)
  rw [lin_ones] at at1
  have onS := tr_ones S.poly (by omega)
  have g0 : ∀ (x : D) (E : En) (ds : DS), dRd 6 E ds = some (.list [toD (sumV s), toD (sumV u)], ds) → d2 gIx (dRd 6) (dC (.int 0)) E ds = some (toD (sumV s), ds) := fun _ E ds h => d2_eq (b := .int 0) h rfl rfl
  have g1 : ∀ (x : D) (E : En) (ds : DS), dRd 6 E ds = some (.list [toD (sumV s), toD (sumV u)], ds) → d2 gIx (dRd 6) (dC (.int 1)) E ds = some (toD (sumV u), ds) := fun _ E ds h => d2_eq (b := .int 1) h rfl rfl
  -- l_6
  have q6 : l_6 E6 ds3 = some (.nx E6, ds3) := by
    have i0 := g0 .none E6 ds3 rfl
    have x1 : dTest (d2 gNeU (dCallP 2 f_at_numbers (aCons (d2 gIx (dRd 6) (dC (.int 0))) (aCons (dVar 5) (aNil)))) (dRd 7)) E6 ds3 = some (false, ds3) :=
      dTest_of (d2_eq (dCallP_eq (as := [toD (sumV s), rowD nums]) (aCons_eq i0 rfl) rfl atS) (b := .int (lin (wN nums) (sumV s))) rfl (neI rfl))
    have x2 : dTest (d2 gNeU (dCallP 1 f_at_ones (aCons (d2 gIx (dRd 6) (dC (.int 0))) (aNil))) (dCallP 1 f_sum_at_ones (aCons (dVar 3) (aNil)))) E6 ds3 = some (false, ds3) :=
      dTest_of (d2_eq (dCallP_eq (as := [toD (sumV s)]) (aCons1 i0) rfl onS) (dCallP_eq (as := [pD s]) rfl rfl S.f.one) (neI rfl))
    have xg : d2 gRepT (dTup (aCons (dC (.int 1)) (aNil))) (dC (.int 5)) E6 ds3 = some (rowD [1, 1, 1, 1, 1], ds3) := rfl
    have xp : dB gLen (aCons (dCallP 1 f_pipes_p (aCons (dVar 3) (aNil))) (aNil)) E6 ds3 = some (.int (t.length : Nat), ds3) := dB_eq (as := [.ptup t]) (aCons1 (dCallP_eq (as := [pD s]) rfl rfl tp)) rfl
    have ec : lin (fun _ => 1) (sumV s) = ((t.length : Nat) : Int) := by
      rw [← lin_congr (fun _ => 1) hev, lin_count, htr]
    have x3 : dTest (d2 gNeU (dCallP 2 f_at_numbers (aCons (d2 gIx (dRd 6) (dC (.int 0))) (aCons (d2 gRepT (dTup (aCons (dC (.int 1)) (aNil))) (dC (.int 5))) (aNil)))) (dB gLen (aCons (dCallP 1 f_pipes_p (aCons (dVar 3) (aNil))) (aNil)))) E6 ds3 = some (false, ds3) :=
      dTest_of (d2_eq (dCallP_eq (as := [toD (sumV s), rowD [1, 1, 1, 1, 1]]) (aCons_eq i0 (aCons1 xg)) rfl at1) xp (neI ec))
    exact (dIfS_f (dOr_f x1 (dOr_f x2 x3))).trans rfl
  -- l_7
  obtain ⟨w1, p8, w2, w3, w4, w5⟩ := look_pair S U hN
  let E7 := L16 a0 a2 (vS (pD s)) (vS (pD u)) (vS (rowD nums)) (vS (.list [toD (sumV s), toD (sumV u)])) (vS (.int (lin (wN nums) (sumV s)))) b8 b9 b10 (vS (toD (mulP (sumV s) (sumV u)))) a12 a13
  have q7 : l_7 E6 ds3 = some (.nx E7, ds3) := dSet_eq (i := 11) (k := false) (env := E6) (dCallP_eq (as := [toD (sumV s), toD (sumV u)]) (aCons_eq (g0 .none E6 ds3 rfl) (aCons1 (g1 .none E6 ds3 rfl))) rfl w1)
  -- l_8
  have q8 : l_8 E7 ds3 = some (.nx E7, ds3) := by
    have i1 := g1 .none E7 ds3 rfl
    obtain ⟨n0, n1, n2, n3, n4, en, hb⟩ := id hN
    have bu := lin_abs hb (sumV u)
    have bu2 := U.f.b3
    have ou := lin_abs1 (sumV u)
    have ou2 := U.f.b1
    have y1 : d2 gMul (dRd 7) (dCallP 2 f_at_numbers (aCons (d2 gIx (dRd 6) (dC (.int 1))) (aCons (dVar 5) (aNil)))) E7 ds3 = some (.int (lin (wN nums) (sumV s) * lin (wN nums) (sumV u)), ds3) :=
      d2_eq (a := .int (lin (wN nums) (sumV s))) rfl (dCallP_eq (as := [toD (sumV u), rowD nums]) (aCons_eq i1 rfl) rfl atU) (gMulE (.inr (by omega)))
    have x1 : dTest (d2 gNeU (dCallP 2 f_at_numbers (aCons (dVar 11) (aCons (dVar 5) (aNil)))) (d2 gMul (dRd 7) (dCallP 2 f_at_numbers (aCons (d2 gIx (dRd 6) (dC (.int 1))) (aCons (dVar 5) (aNil)))))) E7 ds3 = some (false, ds3) :=
      dTest_of (d2_eq (dCallP_eq (as := [toD (mulP (sumV s) (sumV u)), rowD nums]) rfl rfl w2) y1 (neI rfl))
    have y2 : d2 gMul (dCallP 1 f_sum_at_ones (aCons (dVar 3) (aNil))) (dCallP 1 f_sum_at_ones (aCons (dVar 4) (aNil))) E7 ds3 = some (.int (lin (fun _ => 1) (sumV s) * lin (fun _ => 1) (sumV u)), ds3) :=
      d2_eq (dCallP_eq (as := [pD s]) rfl rfl S.f.one) (dCallP_eq (as := [pD u]) rfl rfl U.f.one) (gMulE (.inr (by omega)))
    have x2 : dTest (d2 gNeU (dCallP 1 f_at_ones (aCons (dVar 11) (aNil))) (d2 gMul (dCallP 1 f_sum_at_ones (aCons (dVar 3) (aNil))) (dCallP 1 f_sum_at_ones (aCons (dVar 4) (aNil))))) E7 ds3 = some (false, ds3) :=
      dTest_of (d2_eq (dCallP_eq (as := [toD (mulP (sumV s) (sumV u))]) rfl rfl w3) y2 (neI rfl))
    have y3 : dCallP 1 f__law_sum (aCons (dVar 3) (aNil)) E7 ds3 = some (toD (lsumV s), ds3) := dCallP_eq (as := [pD s]) rfl rfl S.f.lsum
    have y4 : dCallP 1 f__law_sum (aCons (dVar 4) (aNil)) E7 ds3 = some (toD (lsumV u), ds3) := dCallP_eq (as := [pD u]) rfl rfl U.f.lsum
    have x3 : dTest (d2 gNeU (dRd 11) (dCallP 2 f__law_product (aCons (dCallP 1 f__law_sum (aCons (dVar 3) (aNil))) (aCons (dCallP 1 f__law_sum (aCons (dVar 4) (aNil))) (aNil))))) E7 ds3 = some (false, ds3) :=
      dTest_of (d2_eq (a := toD (mulP (sumV s) (sumV u))) rfl (dCallP_eq (as := [toD (lsumV s), toD (lsumV u)]) (aCons_eq y3 (aCons1 y4)) rfl w4) w5)
    exact (dIfS_f (dOr_f x1 (dOr_f x2 x3))).trans rfl
  -- l_9
  obtain ⟨r, ds4, e9, hr⟩ := take_ok 9 (by decide) ds3
  let E9 := L16 a0 a2 (vS (pD s)) (vS (pD u)) (vS (rowD nums)) (vS (.list [toD (sumV s), toD (sumV u)])) (vS (.int (lin (wN nums) (sumV s)))) b8 b9 b10 (vS (toD (mulP (sumV s) (sumV u)))) (vS (.int (r - 4))) a13
  have q9 : l_9 E7 ds3 = some (.nx E9, ds4) := by
    have x : dCallD 1 1 f__law_take (aCons (dC (.int 9)) (aNil)) E7 ds3 = some (.int r, ds4) := (dCallD_eq (as := [.int 9]) (s := ds3) rfl rfl rfl).trans e9
    exact dSet_eq (i := 12) (k := false) (env := E7) (d2_eq x (b := .int 4) rfl rfl)
  -- l_10
  obtain ⟨v1, v2⟩ := look_plus S U hN (k := r - 4) (by omega)
  have q10 : l_10 E9 ds4 = some (.nx E9, ds4) := by
    have i0 := g0 .none E9 ds4 rfl
    have i1 := g1 .none E9 ds4 rfl
    have y1 : dCallP 3 f_plus_times (aCons (d2 gIx (dRd 6) (dC (.int 0))) (aCons (d2 gIx (dRd 6) (dC (.int 1))) (aCons (dVar 12) (aNil)))) E9 ds4 = some (toD (plusP (sumV s) (sumV u) (r - 4)), ds4) := dCallP_eq (as := [toD (sumV s), toD (sumV u), .int (r - 4)]) (aCons_eq i0 (aCons_eq i1 rfl)) rfl v1
    have y2 : d2 gMul (dRd 12) (dCallP 2 f_at_numbers (aCons (d2 gIx (dRd 6) (dC (.int 1))) (aCons (dVar 5) (aNil)))) E9 ds4 = some (.int ((r - 4) * lin (wN nums) (sumV u)), ds4) :=
      d2_eq (a := .int (r - 4)) rfl (dCallP_eq (as := [toD (sumV u), rowD nums]) (aCons_eq i1 rfl) rfl atU) (gMulE (.inl (by omega)))
    have y3 : d2 gAdd (dRd 7) (d2 gMul (dRd 12) (dCallP 2 f_at_numbers (aCons (d2 gIx (dRd 6) (dC (.int 1))) (aCons (dVar 5) (aNil))))) E9 ds4 = some (.int (lin (wN nums) (sumV s) + (r - 4) * lin (wN nums) (sumV u)), ds4) := d2_eq (a := .int (lin (wN nums) (sumV s))) rfl y2 rfl
    have x1 : dTest (d2 gNeU (dCallP 2 f_at_numbers (aCons (dCallP 3 f_plus_times (aCons (d2 gIx (dRd 6) (dC (.int 0))) (aCons (d2 gIx (dRd 6) (dC (.int 1))) (aCons (dVar 12) (aNil))))) (aCons (dVar 5) (aNil)))) (d2 gAdd (dRd 7) (d2 gMul (dRd 12) (dCallP 2 f_at_numbers (aCons (d2 gIx (dRd 6) (dC (.int 1))) (aCons (dVar 5) (aNil))))))) E9 ds4 = some (false, ds4) :=
      dTest_of (d2_eq (dCallP_eq (as := [toD (plusP (sumV s) (sumV u) (r - 4)), rowD nums]) (aCons_eq y1 rfl) rfl v2) y3 (neI rfl))
    exact (dIfS_f x1).trans rfl
  -- l_11
  have ul := seqsI_len hu
  have hah := ahead_mem hu
  have A := sp_of LA (by omega) (by omega) hah
  let ah : List Int := 1 :: u.map (· + 1)
  let E11 := L16 a0 a2 (vS (pD s)) (vS (pD u)) (vS (rowD nums)) (vS (.list [toD (sumV s), toD (sumV u)])) (vS (.int (lin (wN nums) (sumV s)))) b8 b9 b10 (vS (toD (mulP (sumV s) (sumV u)))) (vS (.int (r - 4))) (vS (pD ah))
  have q11 : l_11 E9 ds4 = some (.nx E11, ds4) := by
    have y1 : dLc (dItems (dVar 4)) [15] (gNm 15) (tYesD) (d2 gAdd (dRd 15) (dC (.int 1))) E9 ds4 = some (.list ((u.map (· + 1)).map D.int), ds4) :=
      dLc_eq (items := u.map D.int) (s := ds4) rfl (up_loop E9 (fun _ => rfl) ds4 u) (by rw [List.length_map, List.length_map]; omega)
    have y2 : dB gTupS (aCons (dLc (dItems (dVar 4)) [15] (gNm 15) (tYesD) (d2 gAdd (dRd 15) (dC (.int 1)))) (aNil)) E9 ds4 = some (.tuple ((u.map (· + 1)).map D.int), ds4) := dB_eq (aCons1 y1) rfl
    exact dSet_eq (i := 13) (k := false) (env := E9) (d2_eq (a := .tuple [.int 1]) rfl y2 (gcat_ahead ul hm1 (by omega)))
  -- l_12
  have q12 : l_12 E11 ds4 = some (.nx E11, ds4) := by
    have y1 : dCallP 1 f__law_sum (aCons (dVar 13) (aNil)) E11 ds4 = some (toD (lsumV ah), ds4) := dCallP_eq (as := [pD ah]) rfl rfl A.f.lsum
    have y2 : d1 gListVals (dCallP 1 f__law_sum (aCons (dVar 13) (aNil))) E11 ds4 = some (.list ((dP (lsumV ah)).map Prod.snd), ds4) := by
      unfold d1
      rw [y1]
      rfl
    have y3 : gSum [.list ((dP (lsumV ah)).map Prod.snd)] = some (.int (lin (fun _ => 1) (sumV ah))) := by
      have := sum_listVals (lsumV ah)
      rw [lin_congr _ (eqv_perm A.f.pm)] at this
      exact this
    have x1 : dTest (d2 gNeU (dCallP 1 f_sum_at_ones (aCons (dVar 13) (aNil))) (dB gSum (aCons (d1 gListVals (dCallP 1 f__law_sum (aCons (dVar 13) (aNil)))) (aNil)))) E11 ds4 = some (false, ds4) :=
      dTest_of (d2_eq (dCallP_eq (as := [pD ah]) rfl rfl A.f.one) (dB_eq (aCons1 y2) y3) (neI rfl))
    have la := A.f.len
    have x2 : dTest (d2 gNeU (dCallP 1 f_at_ones (aCons (dCallP 1 f_sum_of (aCons (dVar 13) (aNil))) (aNil))) (dCallP 1 f_sum_at_ones (aCons (dVar 13) (aNil)))) E11 ds4 = some (false, ds4) :=
      dTest_of (d2_eq (dCallP_eq (as := [toD (sumV ah)]) (aCons1 (dCallP_eq (as := [pD ah]) rfl rfl A.f.sum)) rfl (tr_ones A.poly (Nat.le_trans la (by decide)))) (dCallP_eq (as := [pD ah]) rfl rfl A.f.one) (neI rfl))
    exact (dIfS_f (dOr_f x1 x2)).trans rfl
  refine ⟨vS (pD s), vS (pD u), vS (rowD nums), vS (.list [toD (sumV s), toD (sumV u)]), vS (.int (lin (wN nums) (sumV s))), b8, b9, b10, vS (toD (mulP (sumV s) (sumV u))), vS (.int (r - 4)), vS (pD ah), ds4, ?_⟩
  rw [dSeq_eq q1, dSeq_eq q2, dSeq_eq q3, dSeq_eq q4, dSeq_eq q5, dSeq_eq q6, dSeq_eq q7, dSeq_eq q8, dSeq_eq q9, dSeq_eq q10, dSeq_eq q11, dSeq_eq q12]
  rfl
end L2.Dn
set_option Elab.async false
set_option linter.all false
set_option maxRecDepth 100000
set_option maxHeartbeats 0
/-! k69: the kernel's look, up to four wires -/
namespace L2.Dn
open PySem PySem.Spec PyProof.Rows C8
theorem loo1 : (seqsI 1).all (look69 1) = true := by kernel_rfl
theorem loo2 : (seqsI 2).all (look69 2) = true := by kernel_rfl
theorem loo3 : (seqsI 3).all (look69 3) = true := by kernel_rfl
theorem loo4 : (seqsI 4).all (look69 4) = true := by kernel_rfl
end L2.Dn
set_option Elab.async false
set_option linter.all false
set_option maxRecDepth 100000
set_option maxHeartbeats 0
/-! k69: the kernel's look, sequences 0 to 23 -/
namespace L2.Dn
open PySem PySem.Spec PyProof.Rows C8
theorem loo5_0 : (((seqsI 5).drop 0).take 6).all (look69 5) = true := by kernel_rfl
theorem loo5_1 : (((seqsI 5).drop 6).take 6).all (look69 5) = true := by kernel_rfl
theorem loo5_2 : (((seqsI 5).drop 12).take 6).all (look69 5) = true := by kernel_rfl
theorem loo5_3 : (((seqsI 5).drop 18).take 6).all (look69 5) = true := by kernel_rfl
end L2.Dn
set_option Elab.async false
set_option linter.all false
set_option maxRecDepth 100000
set_option maxHeartbeats 0
/-! k69: the kernel's look, sequences 24 to 47 -/
namespace L2.Dn
open PySem PySem.Spec PyProof.Rows C8
theorem loo5_4 : (((seqsI 5).drop 24).take 6).all (look69 5) = true := by kernel_rfl
theorem loo5_5 : (((seqsI 5).drop 30).take 6).all (look69 5) = true := by kernel_rfl
theorem loo5_6 : (((seqsI 5).drop 36).take 6).all (look69 5) = true := by kernel_rfl
theorem loo5_7 : (((seqsI 5).drop 42).take 6).all (look69 5) = true := by kernel_rfl
end L2.Dn
set_option Elab.async false
set_option linter.all false
set_option maxRecDepth 100000
set_option maxHeartbeats 0
/-! k69: the kernel's look, sequences 48 to 71 -/
namespace L2.Dn
open PySem PySem.Spec PyProof.Rows C8
theorem loo5_8 : (((seqsI 5).drop 48).take 6).all (look69 5) = true := by kernel_rfl
theorem loo5_9 : (((seqsI 5).drop 54).take 6).all (look69 5) = true := by kernel_rfl
theorem loo5_10 : (((seqsI 5).drop 60).take 6).all (look69 5) = true := by kernel_rfl
theorem loo5_11 : (((seqsI 5).drop 66).take 6).all (look69 5) = true := by kernel_rfl
end L2.Dn
set_option Elab.async false
set_option linter.all false
set_option maxRecDepth 100000
set_option maxHeartbeats 0
/-! k69: the kernel's look, sequences 72 to 95 -/
namespace L2.Dn
open PySem PySem.Spec PyProof.Rows C8
theorem loo5_12 : (((seqsI 5).drop 72).take 6).all (look69 5) = true := by kernel_rfl
theorem loo5_13 : (((seqsI 5).drop 78).take 6).all (look69 5) = true := by kernel_rfl
theorem loo5_14 : (((seqsI 5).drop 84).take 6).all (look69 5) = true := by kernel_rfl
theorem loo5_15 : (((seqsI 5).drop 90).take 6).all (look69 5) = true := by kernel_rfl
end L2.Dn
set_option Elab.async false
set_option linter.all false
set_option maxRecDepth 100000
set_option maxHeartbeats 0
/-! k69: the kernel's look, sequences 96 to 119 -/
namespace L2.Dn
open PySem PySem.Spec PyProof.Rows C8
theorem loo5_16 : (((seqsI 5).drop 96).take 6).all (look69 5) = true := by kernel_rfl
theorem loo5_17 : (((seqsI 5).drop 102).take 6).all (look69 5) = true := by kernel_rfl
theorem loo5_18 : (((seqsI 5).drop 108).take 6).all (look69 5) = true := by kernel_rfl
theorem loo5_19 : (((seqsI 5).drop 114).take 6).all (look69 5) = true := by kernel_rfl
end L2.Dn
set_option Elab.async false
set_option linter.all false
set_option maxRecDepth 100000
set_option maxHeartbeats 4000000
/-! k69: the law -/
namespace L2.Dn
open PySem PySem.Spec PyProof.Rows C8
theorem chunks6 (f : List Int → Bool) (h : ∀ j, j < 20 → (((seqsI 5).drop (6 * j)).take 6).all f = true) : ∀ s ∈ seqsI 5, f s = true := fun s hs => by
  obtain ⟨i, hi, e⟩ := List.getElem_of_mem hs
  have hl : (seqsI 5).length = 120 := rfl
  have hj : i / 6 < 20 := by omega
  refine List.all_eq_true.mp (h (i / 6) hj) s ?_
  rw [← e]
  refine List.mem_iff_getElem.mpr ⟨i % 6, ?_, ?_⟩
  · rw [List.length_take, List.length_drop]
    omega
  · rw [List.getElem_take, List.getElem_drop]
    congr 1
    omega
theorem look_all : LookAll := fun {n} h1 h5 {s} hs => by
  rcases five h1 h5 with rfl | rfl | rfl | rfl | rfl
  · exact List.all_eq_true.mp loo1 s hs
  · exact List.all_eq_true.mp loo2 s hs
  · exact List.all_eq_true.mp loo3 s hs
  · exact List.all_eq_true.mp loo4 s hs
  · refine chunks6 (look69 5) (fun j hj => ?_) s hs
    match j, hj with
    | 0, _ => exact loo5_0
    | 1, _ => exact loo5_1
    | 2, _ => exact loo5_2
    | 3, _ => exact loo5_3
    | 4, _ => exact loo5_4
    | 5, _ => exact loo5_5
    | 6, _ => exact loo5_6
    | 7, _ => exact loo5_7
    | 8, _ => exact loo5_8
    | 9, _ => exact loo5_9
    | 10, _ => exact loo5_10
    | 11, _ => exact loo5_11
    | 12, _ => exact loo5_12
    | 13, _ => exact loo5_13
    | 14, _ => exact loo5_14
    | 15, _ => exact loo5_15
    | 16, _ => exact loo5_16
    | 17, _ => exact loo5_17
    | 18, _ => exact loo5_18
    | 19, _ => exact loo5_19
    | j + 20, hj => exact absurd hj (by omega)
def lap69 : DenS := dSeq l_1 (dSeq l_2 (dSeq l_3 (dSeq l_4 (dSeq l_5 (dSeq l_6 (dSeq l_7 (dSeq l_8 (dSeq l_9 (dSeq l_10 (dSeq l_11 (dSeq l_12 (dNx))))))))))))
theorem laps69 (a0 : Option Sl) : ∀ (items : List D) (a2 a3 a4 a5 a6 a7 a8 a9 a10 a11 a12 a13 : Option Sl) (ds : DS), ∃ (c2 c3 c4 c5 c6 c7 c8 c9 c10 c11 c12 c13 : Option Sl) (ds' : DS), forLoop (gNm 2) lap69 items (L16 a0 a2 a3 a4 a5 a6 a7 a8 a9 a10 a11 a12 a13) ds = some (.nx (L16 a0 c2 c3 c4 c5 c6 c7 c8 c9 c10 c11 c12 c13), ds')
  | [], a2, a3, a4, a5, a6, a7, a8, a9, a10, a11, a12, a13, ds => ⟨a2, a3, a4, a5, a6, a7, a8, a9, a10, a11, a12, a13, ds, rfl⟩
  | d :: items, a2, a3, a4, a5, a6, a7, a8, a9, a10, a11, a12, a13, ds => by
    obtain ⟨c3, c4, c5, c6, c7, c8, c9, c10, c11, c12, c13, ds1, e1⟩ := lap69_ok look_all a0 (vS d) a3 a4 a5 a6 a7 a8 a9 a10 a11 a12 a13 ds
    obtain ⟨g2, g3, g4, g5, g6, g7, g8, g9, g10, g11, g12, g13, ds2, e2⟩ := laps69 a0 items (vS d) c3 c4 c5 c6 c7 c8 c9 c10 c11 c12 c13 ds1
    exact ⟨g2, g3, g4, g5, g6, g7, g8, g9, g10, g11, g12, g13, ds2, (forLoop_cons (env' := L16 a0 (vS d) a3 a4 a5 a6 a7 a8 a9 a10 a11 a12 a13) rfl e1).trans e2⟩
theorem law69 : LawHolds N_law d_law := fun ns hl => by
  let E := L16 (some (.scr ns)) none none none none none none none none none none none none
  let s0 : DS := ⟨bgLarge ns, 0, bgCells ns, 0⟩
  let m : Int := 2 + (if (5 : Int) < ((ns.length : Nat) : Int) then (5 : Int) else ((ns.length : Nat) : Int))
  obtain ⟨y2, y3, y4, y5, y6, y7, y8, y9, y10, y11, y12, y13, ds', e⟩ := laps69 (some (.scr ns)) (rgD 0 m.toNat) none none none none none none none none none none none none s0
  refine ⟨ds', ?_⟩
  have q1 : dB gMin2 (aCons (dLenS 0) (aCons (dC (.int 5)) (aNil))) E s0 = some (.int (if (5 : Int) < ((ns.length : Nat) : Int) then (5 : Int) else ((ns.length : Nat) : Int)), s0) := dB_eq (as := [.int (ns.length : Nat), .int 5]) rfl rfl
  have q : d2 gAdd (dC (.int 2)) (dB gMin2 (aCons (dLenS 0) (aCons (dC (.int 5)) (aNil)))) E s0 = some (.int m, s0) := d2_eq (a := .int 2) rfl q1 rfl
  have hm : m < 100000 ∧ -100000 < m := by
    show 2 + (if (5 : Int) < ((ns.length : Nat) : Int) then (5 : Int) else ((ns.length : Nat) : Int)) < 100000 ∧ -100000 < 2 + (if (5 : Int) < ((ns.length : Nat) : Int) then (5 : Int) else ((ns.length : Nat) : Int))
    split <;> omega
  have e9 : dFor (dRg1 (d2 gAdd (dC (.int 2)) (dB gMin2 (aCons (dLenS 0) (aCons (dC (.int 5)) (aNil)))))) (gNm 2) lap69 E s0 = some (.nx (L16 (some (.scr ns)) y2 y3 y4 y5 y6 y7 y8 y9 y10 y11 y12 y13), ds') := (dFor_eq (dRg1_eq q hm)).trans e
  exact (dSeq_eq (f := dFor (dRg1 (d2 gAdd (dC (.int 2)) (dB gMin2 (aCons (dLenS 0) (aCons (dC (.int 5)) (aNil)))))) (gNm 2) lap69) (g := dSeq (dRet (dC (.bool true))) (dNx)) (env := E) (ds := s0) e9).trans rfl
end L2.Dn
set_option Elab.async false
set_option linter.all false
set_option maxRecDepth 100000
set_option maxHeartbeats 0
open PySem PySem.W PySem.Calls PyProof.Rows
theorem PySem.Challenge.cw_crosswires_k69_across_sums_at_ones_holds : PySem.Challenge.rw_crosswires_k69_across_sums_at_ones.Holds := by
  w_on; o_law
  refine HandSHeadRun.head_any (r := OpenLaw.row PySem.Challenge.rw_crosswires_k69_across_sums_at_ones) (q := view (OpenLaw.row PySem.Challenge.rw_crosswires_k69_across_sums_at_ones).prog [67]) (H := Hd.hk) (ob := Hd.ob) (M := 60000) (loose := Hd.loose) (d := HandSHeadRun.topDef (OpenLaw.row PySem.Challenge.rw_crosswires_k69_across_sums_at_ones).prog 67) (kwd := []) Hd.ob_eq
    (by kernel_rfl) (fun s => by kernel_rfl) Hd.run (by kernel_rfl) (by kernel_rfl) (by kernel_rfl) (by rfl) (by first | assumption | decide +kernel) (by decide +kernel) ⟨rfl, rfl, rfl, rfl, rfl, by decide +kernel⟩ ?hw ?hc
  case hw => w_witness2
  case hc =>
    refine LamX.walk_ofTsE (l := PySem.Challenge.rw_crosswires_k69_across_sums_at_ones) (n := 63) (k := 7) (x := "script") (CX := fun _ => L2.CX0) rfl (by decide) (by kernel_rfl) ⟨rfl, by decide, by decide⟩ ?F (fun _ _ _ _ _ z => z)
    intro w mg fa h Y G hmg0
    obtain ⟨K, KX, c0⟩ := Y
    have c : He.SaysD Hd.fa Hd.fn K := congrArg Prod.fst c0.t
    have hmg : mg ("law" : PySem.Str) = some (.ref fa) := by
      have e : (HandSHeadRun.topDef (OpenLaw.row PySem.Challenge.rw_crosswires_k69_across_sums_at_ones).prog 67).name = ("law" : PySem.Str) := by kernel_rfl
      rw [← e]
      exact hmg0
    have e := hmg.symm.trans (He.glo_ok KX G (c.fact 44 (f := .glo "law") rfl))
    cases e
    obtain ⟨fd, hb, hF⟩ := L2.Dn.ok_law (P := (PySem.Challenge.rw_crosswires_k69_across_sums_at_ones).prog) (w := w) KX G c L2.Dn.law69
    have m0 : L2.Dn.QD ∈ [L2.Dn.QD] := List.mem_singleton.mpr rfl
    have m1 : He.cT K L2.Dn.QD ∈ [He.cT K L2.Dn.QD] := List.mem_singleton.mpr rfl
    refine ⟨K, KX, fd, [He.cT K L2.Dn.QD], L2.Dn.spL K, fun p hp => ?_, fun p hp => ?_, fun p hp => ?_, hb, fun H a ns hl _ hT hS => ⟨rfl, a, ns, rfl, hS, hl, LamX.TabS.nil (hT _ m1), fun _ => rfl⟩, fun base _ _ hTB => hF base (hTB _ m1)⟩
    · rw [List.mem_singleton.mp hp]
      exact c0.empty _ m0
    · rw [List.mem_singleton.mp hp]
      exact c0.out _ m0
    · rw [List.mem_singleton.mp hp]
      exact PySem.W.codeHd_of_K KX (c0.hd _ m0)
