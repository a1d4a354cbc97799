import PyProof.Rows.All
import Wide.All
import OpenK.AllK
import Wide.FinOn
import HandS.ForMost
import HandS.ForExc
import HandS.ExcIs
import HandS.TupLe
import HandS.TupAny
import HandS.TupMul
import HandS.Strs
import HandS.SetFor
import HandS.IsInst
import HandS.Deep
import HandS.TryMany
import KE.KTupSum
import HandS.ExcValue
import HandS.Style
import PyProof.Rows.SetFrom
import KE.KDictKeyed
import KE.KeyNested
import HandS.Walk
import HandS.Text
import KE.IntTextLaws
import HandS.SortRule
import KE.DataCmp
import HandS.SortInts
import KE.KDictSum
import KE.KDictCopyH
import PySem.Challenge.RW_liarbook_k70_whole_plan_texts
set_option Elab.async false
set_option linter.all false
set_option autoImplicit false
set_option maxRecDepth 100000
set_option maxHeartbeats 8000000
/-! Layer 1: deep data on a frozen heap, owned objects, the fit of both to a heap. -/
namespace LB
open PySem PySem.Spec PyProof.Rows L2

/-! ### frozen data stays -/
theorem Same.rd {H H' : Hp} {a : Addr} {u : HO} (e : Same H H') (h : Rd H a u) : Rd H' a u := by
  rcases h with h | ⟨o, h⟩
  · exact .inl (e _ _ h)
  · exact .inr ⟨o, e _ _ h⟩
mutual
/-- a value that stands for data, all of it on the heap -/
inductive Rp (H : Hp) : V → PyData → Prop
  | non : Rp H .non .none
  | bl (b : Bool) : Rp H (.bl b) (.bool b)
  | int (i : Int) : Rp H (.int i) (.int i)
  | str (x : Str) : Rp H (.str x) (.str x)
  | lst {a : Addr} {xs : List V} {ds : List PyData} : H a = some (.lst xs) → RpAll H xs ds → Rp H (.ref a) (.list ds)
  | tup {a : Addr} {xs : List V} {ds : List PyData} : H a = some (.tup xs) → RpAll H xs ds → Rp H (.ref a) (.tuple ds)
inductive RpAll (H : Hp) : List V → List PyData → Prop
  | nil : RpAll H [] []
  | cons {v : V} {vs : List V} {d : PyData} {ds : List PyData} : Rp H v d → RpAll H vs ds → RpAll H (v :: vs) (d :: ds)
end
mutual
theorem Rp.mono {H H' : Hp} (e : Same H H') : ∀ {v : V} {d : PyData}, Rp H v d → Rp H' v d
  | _, _, .non => .non
  | _, _, .bl b => .bl b
  | _, _, .int i => .int i
  | _, _, .str x => .str x
  | _, _, .lst h r => .lst (e _ _ h) (RpAll.mono e r)
  | _, _, .tup h r => .tup (e _ _ h) (RpAll.mono e r)
theorem RpAll.mono {H H' : Hp} (e : Same H H') : ∀ {vs : List V} {ds : List PyData}, RpAll H vs ds → RpAll H' vs ds
  | _, _, .nil => .nil
  | _, _, .cons h r => .cons (Rp.mono e h) (RpAll.mono e r)
end
mutual
theorem Rp.dp {K : W.Frag} {H : Hp} : ∀ {v : V} {d : PyData}, Rp H v d → Dp K H v d
  | _, _, .non => .non
  | _, _, .bl b => .bl b
  | _, _, .int i => .int i
  | _, _, .str x => .str x
  | _, _, .lst h r => .lst (.of h) (RpAll.dp r)
  | _, _, .tup h r => .tup (.of h) (RpAll.dp r)
theorem RpAll.dp {K : W.Frag} {H : Hp} : ∀ {vs : List V} {ds : List PyData}, RpAll H vs ds → DpAll K H vs ds
  | _, _, .nil => .nil
  | _, _, .cons h r => .cons (Rp.dp h) (RpAll.dp r)
end
theorem RpAll.length {H : Hp} : ∀ {vs : List V} {ds : List PyData}, RpAll H vs ds → vs.length = ds.length
  | _, _, .nil => rfl
  | _, _, .cons _ r => by rw [List.length_cons, List.length_cons, RpAll.length r]
theorem RpAll.get {H : Hp} : ∀ {vs : List V} {ds : List PyData} {i : Nat} {d : PyData}, RpAll H vs ds → ds[i]? = some d → ∃ v, vs[i]? = some v ∧ Rp H v d
  | _, _, _, _, .nil, h => by simp at h
  | _, _, 0, _, .cons h _, e => by simp at e; subst e; exact ⟨_, rfl, h⟩
  | _, _, i + 1, _, .cons _ r, e => by
    obtain ⟨v, h1, h2⟩ := RpAll.get (i := i) r (by simpa using e)
    exact ⟨v, by simpa using h1, h2⟩
theorem RpAll.getv {H : Hp} : ∀ {vs : List V} {ds : List PyData} {i : Nat} {v : V}, RpAll H vs ds → vs[i]? = some v → ∃ d, ds[i]? = some d ∧ Rp H v d
  | _, _, _, _, .nil, h => by simp at h
  | _, _, 0, _, .cons h _, e => by simp at e; subst e; exact ⟨_, rfl, h⟩
  | _, _, i + 1, _, .cons _ r, e => by
    obtain ⟨d, h1, h2⟩ := RpAll.getv (i := i) r (by simpa using e)
    exact ⟨d, by simpa using h1, h2⟩
theorem RpAll.append {H : Hp} : ∀ {vs ws : List V} {ds es : List PyData}, RpAll H vs ds → RpAll H ws es → RpAll H (vs ++ ws) (ds ++ es)
  | _, _, _, _, .nil, q => q
  | _, _, _, _, .cons h r, q => .cons h (RpAll.append r q)
theorem RpAll.take {H : Hp} : ∀ {vs : List V} {ds : List PyData} (n : Nat), RpAll H vs ds → RpAll H (vs.take n) (ds.take n)
  | _, _, 0, _ => .nil
  | _, _, _ + 1, .nil => .nil
  | _, _, n + 1, .cons h r => .cons h (RpAll.take n r)
theorem RpAll.drop {H : Hp} : ∀ {vs : List V} {ds : List PyData} (n : Nat), RpAll H vs ds → RpAll H (vs.drop n) (ds.drop n)
  | _, _, 0, h => h
  | _, _, _ + 1, .nil => .nil
  | _, _, n + 1, .cons _ r => RpAll.drop n r
theorem RpAll.ints {H : Hp} : ∀ {vs : List V} {ns : List Int}, RpAll H vs (ns.map .int) → vs = ns.map V.int
  | _, [], .nil => rfl
  | _, _ :: _, .cons (.int _) r => by rw [RpAll.ints r]; rfl
theorem RpAll.ofInts {H : Hp} : ∀ (ns : List Int), RpAll H (ns.map V.int) (ns.map .int)
  | [] => .nil
  | n :: ns => .cons (.int n) (RpAll.ofInts ns)
theorem RpAll.bools {H : Hp} : ∀ {vs : List V} {ns : List Bool}, RpAll H vs (ns.map .bool) → vs = ns.map V.bl
  | _, [], .nil => rfl
  | _, _ :: _, .cons (.bl _) r => by rw [RpAll.bools r]; rfl
theorem RpAll.strs {H : Hp} : ∀ {vs : List V} {ns : List Str}, RpAll H vs (ns.map .str) → vs = ns.map V.str
  | _, [], .nil => rfl
  | _, _ :: _, .cons (.str _) r => by rw [RpAll.strs r]; rfl
theorem RpAll.ofStrs {H : Hp} : ∀ (ns : List Str), RpAll H (ns.map V.str) (ns.map .str)
  | [] => .nil
  | n :: ns => .cons (.str n) (RpAll.ofStrs ns)

/-- what a name or a place holds: data, an owned object, an exception kept -/
inductive DV where
  | d (x : PyData)
  | r (a : Addr)
  | x (C : Addr)
  | f (K : W.Frag) (ns : List Int)
  | t (n : String)

/-- a kept exception of the class at C -/
def ExH (a C : Addr) : HO := .ext fun h => ∃ (oe : Obj), h.get? a = some oe ∧ Zc (.ref C) none oe ∧ ∃ vs, oe.data = .fields vs

def RepV (S : Hp) (v : V) : DV → Prop
  | .d x => Rp S v x
  | .r a => v = .ref a
  | .x C => ∃ a, v = .ref a ∧ S a = some (ExH a C)
  | .f K ns => ∃ a, v = .ref a ∧ ∀ H, Same S H → SqL K H a (ns.map V.int)
  | .t n => v = .ty n
theorem RepV.mono {S S' : Hp} (e : Same S S') {v : V} : ∀ {dv : DV}, RepV S v dv → RepV S' v dv
  | .d _, h => Rp.mono e h
  | .r _, h => h
  | .x _, ⟨a, h, q⟩ => ⟨a, h, e _ _ q⟩
  | .f _ _, ⟨a, h, q⟩ => ⟨a, h, fun H s => q H (e.trans s)⟩
  | .t _, h => h
inductive RepVs (S : Hp) : List V → List DV → Prop
  | nil : RepVs S [] []
  | cons {v : V} {vs : List V} {d : DV} {ds : List DV} : RepV S v d → RepVs S vs ds → RepVs S (v :: vs) (d :: ds)
theorem RepVs.mono {S S' : Hp} (e : Same S S') : ∀ {vs : List V} {ds : List DV}, RepVs S vs ds → RepVs S' vs ds
  | _, _, .nil => .nil
  | _, _, .cons h r => .cons (RepV.mono e h) (RepVs.mono e r)
theorem RepVs.length {S : Hp} : ∀ {vs : List V} {ds : List DV}, RepVs S vs ds → vs.length = ds.length
  | _, _, .nil => rfl
  | _, _, .cons _ r => by rw [List.length_cons, List.length_cons, r.length]
theorem RepVs.get {S : Hp} : ∀ {vs : List V} {ds : List DV} {i : Nat} {d : DV}, RepVs S vs ds → ds[i]? = some d → ∃ v, vs[i]? = some v ∧ RepV S v d
  | _, _, _, _, .nil, h => by simp at h
  | _, _, 0, _, .cons h _, e => by simp at e; subst e; exact ⟨_, rfl, h⟩
  | _, _, i + 1, _, .cons _ r, e => by
    obtain ⟨v, h1, h2⟩ := RepVs.get (i := i) r (by simpa using e)
    exact ⟨v, by simpa using h1, h2⟩
theorem RepVs.set {S : Hp} : ∀ {vs : List V} {ds : List DV} {v : V} {d : DV} (i : Nat), RepVs S vs ds → RepV S v d → RepVs S (vs.set i v) (ds.set i d)
  | _, _, _, _, _, .nil, _ => .nil
  | _, _, _, _, 0, .cons _ r, q => .cons q r
  | _, _, _, _, i + 1, .cons h r, q => .cons h (RepVs.set i r q)
theorem RepVs.append {S : Hp} : ∀ {vs ws : List V} {ds es : List DV}, RepVs S vs ds → RepVs S ws es → RepVs S (vs ++ ws) (ds ++ es)
  | _, _, _, _, .nil, q => q
  | _, _, _, _, .cons h r, q => .cons h (RepVs.append r q)
theorem RepVs.dropLast {S : Hp} : ∀ {vs : List V} {ds : List DV}, RepVs S vs ds → RepVs S vs.dropLast ds.dropLast
  | _, _, .nil => .nil
  | _, _, .cons h .nil => .nil
  | _, _, .cons h (.cons h2 r) => .cons h (RepVs.dropLast (.cons h2 r))
theorem RepVs.data {S : Hp} : ∀ {vs : List V} {xs : List PyData}, RepVs S vs (xs.map .d) → RpAll S vs xs
  | _, [], .nil => .nil
  | _, _ :: _, .cons h r => .cons h (RepVs.data r)
theorem RepVs.ofData {S : Hp} : ∀ {vs : List V} {xs : List PyData}, RpAll S vs xs → RepVs S vs (xs.map .d)
  | _, _, .nil => .nil
  | _, _, .cons h r => .cons h (RepVs.ofData r)

/-! ### owned objects -/
structure AO where
  P : Hp → Addr → Hp → Prop
  root : ∀ {S a c}, P S a c → c a ≠ none
  mono : ∀ {S S' a c c'}, Same S S' → Same c c' → P S a c → P S' a c'
abbrev AH := Addr → Option AO
def updA (A : AH) (a : Addr) (o : AO) : AH := fun b => if b = a then some o else A b
def delA (A : AH) (a : Addr) : AH := fun b => if b = a then none else A b
theorem updA_same {A : AH} {a : Addr} {o : AO} : updA A a o a = some o := if_pos rfl
theorem updA_ne {A : AH} {a b : Addr} {o : AO} (h : b ≠ a) : updA A a o b = A b := if_neg h
theorem delA_same {A : AH} {a : Addr} : delA A a a = none := if_pos rfl
theorem delA_ne {A : AH} {a b : Addr} (h : b ≠ a) : delA A a b = A b := if_neg h
theorem updA_updA {A : AH} {a : Addr} {o u : AO} : updA (updA A a o) a u = updA A a u := by
  funext b; unfold updA; split <;> rfl
theorem delA_updA {A : AH} {a : Addr} {o : AO} (h : A a = none) : delA (updA A a o) a = A := by
  funext b
  unfold delA updA
  by_cases e : b = a
  · subst e; simp [h]
  · simp [e]
/-- every owned object of A stands in A' as it is -/
def ExtA (A A' : AH) : Prop := ∀ a o, A a = some o → A' a = some o
theorem ExtA.refl (A : AH) : ExtA A A := fun _ _ h => h
theorem ExtA.trans {A B C : AH} (h : ExtA A B) (h' : ExtA B C) : ExtA A C := fun a o q => h' a o (h a o q)
theorem ExtA.upd {A : AH} {a : Addr} {o : AO} (h : A a = none) : ExtA A (updA A a o) := fun b u q => by
  rw [updA_ne (fun e => by rw [e, h] at q; cases q)]; exact q

def chunk (ow : Addr → Option Addr) (a : Addr) (H : Hp) : Hp := fun x => if ow x = some a then H x else none
theorem chunk_in {ow : Addr → Option Addr} {a x : Addr} {H : Hp} (h : ow x = some a) : chunk ow a H x = H x := if_pos h
theorem chunk_some {ow : Addr → Option Addr} {a x : Addr} {H : Hp} {o : HO} (h : chunk ow a H x = some o) : ow x = some a ∧ H x = some o := by
  unfold chunk at h
  split at h
  · exact ⟨by assumption, h⟩
  · cases h
theorem chunk_ne {ow : Addr → Option Addr} {a x : Addr} {H : Hp} (h : chunk ow a H x ≠ none) : ow x = some a ∧ H x ≠ none := by
  unfold chunk at h
  split at h
  · exact ⟨by assumption, h⟩
  · exact absurd rfl h

structure Fit (S : Hp) (A : AH) (H : Hp) : Prop where
  same : Same S H
  own : ∃ ow : Addr → Option Addr, (∀ x o, S x = some o → ow x = none) ∧ ∀ a o, A a = some o → o.P S a (chunk ow a H)

theorem Fit.there {S : Hp} {A : AH} {H : Hp} (f : Fit S A H) {a : Addr} {o : AO} (h : A a = some o) : H a ≠ none ∧ S a = none := by
  obtain ⟨ow, h1, h2⟩ := f.own
  obtain ⟨q1, q2⟩ := chunk_ne (o.root (h2 a o h))
  refine ⟨q2, ?_⟩
  cases e : S a with
  | none => rfl
  | some u => rw [h1 a u e] at q1; cases q1
theorem Fit.noneA {S : Hp} {A : AH} {H : Hp} (f : Fit S A H) {a : Addr} (h : H a = none) : A a = none := by
  cases e : A a with
  | none => rfl
  | some o => exact absurd h (f.there e).1
theorem Fit.noneS {S : Hp} {A : AH} {H : Hp} (f : Fit S A H) {a : Addr} (h : H a = none) : S a = none := f.same.free h
theorem Fit.fewer {S : Hp} {A A' : AH} {H : Hp} (f : Fit S A' H) (h : ExtA A A') : Fit S A H := by
  obtain ⟨ow, h1, h2⟩ := f.own
  exact ⟨f.same, ow, h1, fun a o q => h2 a o (h a o q)⟩
theorem Fit.less {S S' : Hp} {A : AH} {H : Hp} (f : Fit S' A H) : Fit S' A H := f
/-- a new frozen object -/
theorem Fit.laidS {S : Hp} {A : AH} {H : Hp} (f : Fit S A H) {p : Addr} {o : HO} (hp : H p = none) : Fit (upd S p o) A (upd H p o) ∧ Same S (upd S p o) := by
  obtain ⟨ow, h1, h2⟩ := f.own
  have sS : Same S (upd S p o) := fun b u e => by rw [upd_ne (ne_of_none e (f.noneS hp))]; exact e
  refine ⟨⟨fun b u e => ?_, fun x => if x = p then none else ow x, fun x u e => ?_, fun a o' q => ?_⟩, sS⟩
  · by_cases hb : b = p
    · subst hb; rw [upd_same] at e ⊢; exact e
    · rw [upd_ne hb] at e ⊢; exact f.same b u e
  · by_cases hb : x = p
    · exact if_pos hb
    · rw [upd_ne hb] at e; show (if x = p then none else ow x) = none; rw [if_neg hb]; exact h1 x u e
  · refine o'.mono sS (fun x u e => ?_) (h2 a o' q)
    obtain ⟨e1, e2⟩ := chunk_some e
    have hx : x ≠ p := ne_of_none e2 hp
    rw [chunk_in (show (if x = p then none else ow x) = some a by rw [if_neg hx]; exact e1), upd_ne hx]
    exact e2
/-- a new owned object -/
theorem Fit.laidA {S : Hp} {A : AH} {H : Hp} (f : Fit S A H) {p : Addr} {o : HO} {ao : AO} (hp : H p = none) (h : ∀ c : Hp, c p = some o → ao.P S p c) : Fit S (updA A p ao) (upd H p o) := by
  obtain ⟨ow, h1, h2⟩ := f.own
  refine ⟨fun b u e => ?_, fun x => if x = p then some p else if ow x = some p then none else ow x, fun x u e => ?_, fun a o' q => ?_⟩
  · rw [upd_ne (ne_of_none (f.same b u e) hp)]; exact f.same b u e
  · have hx : x ≠ p := ne_of_none e (f.noneS hp)
    show (if x = p then some p else if ow x = some p then none else ow x) = none
    rw [if_neg hx, h1 x u e]; rfl
  · by_cases ha : a = p
    · subst ha
      rw [updA_same] at q
      cases q
      exact h _ (by rw [chunk_in (if_pos rfl), upd_same])
    · rw [updA_ne ha] at q
      refine o'.mono (Same.refl S) (fun x u e => ?_) (h2 a o' q)
      obtain ⟨e1, e2⟩ := chunk_some e
      have hx : x ≠ p := ne_of_none e2 hp
      have hw : (if x = p then some p else if ow x = some p then none else ow x) = some a := by
        rw [if_neg hx, if_neg (fun z => ha (Option.some.inj (e1.symm.trans z))), e1]
      rw [chunk_in hw, upd_ne hx]
      exact e2
/-- an owned object is written: it alone -/
theorem Fit.write {S : Hp} {A : AH} {H : Hp} (f : Fit S A H) {a : Addr} {o : HO} {ao ao' : AO} (ha : A a = some ao) (h : ∀ c : Hp, ao.P S a c → ao'.P S a (upd c a o)) : Fit S (updA A a ao') (upd H a o) := by
  obtain ⟨ow, h1, h2⟩ := f.own
  have hS : S a = none := (f.there ha).2
  have hwa : ow a = some a := (chunk_ne (ao.root (h2 a ao ha))).1
  refine ⟨fun b u e => ?_, ow, h1, fun b o' q => ?_⟩
  · rw [upd_ne (ne_of_none e hS)]; exact f.same b u e
  · by_cases hb : b = a
    · subst hb
      rw [updA_same] at q
      cases q
      refine ao'.mono (Same.refl S) (fun x u e => ?_) (h _ (h2 b ao ha))
      by_cases hx : x = b
      · subst hx
        rw [upd_same] at e
        rw [chunk_in hwa, upd_same]
        exact e
      · rw [upd_ne hx] at e
        obtain ⟨e1, e2⟩ := chunk_some e
        rw [chunk_in e1, upd_ne hx]
        exact e2
    · rw [updA_ne hb] at q
      refine o'.mono (Same.refl S) (fun x u e => ?_) (h2 b o' q)
      obtain ⟨e1, e2⟩ := chunk_some e
      have hx : x ≠ a := fun z => by
        subst z
        rw [hwa] at e1
        exact hb (Option.some.inj e1).symm
      rw [chunk_in e1, upd_ne hx]
      exact e2
/-- an owned object is frozen -/
theorem Fit.freeze {S : Hp} {A : AH} {H : Hp} (f : Fit S A H) {a : Addr} {ao : AO} (ha : A a = some ao) : ∃ S' c, Fit S' (delA A a) H ∧ Same S S' ∧ Same c S' ∧ ao.P S a c := by
  obtain ⟨ow, h1, h2⟩ := f.own
  have sS : Same S fun x => if ow x = some a then H x else S x := fun b u e => by
    show (if ow b = some a then H b else S b) = some u
    rw [if_neg (fun z => by rw [h1 b u e] at z; cases z)]
    exact e
  refine ⟨fun x => if ow x = some a then H x else S x, chunk ow a H, ⟨fun b u e => ?_, fun x => if ow x = some a then none else ow x, fun x u e => ?_, fun b o q => ?_⟩, sS, fun b u e => ?_, h2 a ao ha⟩
  · by_cases hb : ow b = some a
    · have e' : (if ow b = some a then H b else S b) = some u := e
      rw [if_pos hb] at e'; exact e'
    · have e' : (if ow b = some a then H b else S b) = some u := e
      rw [if_neg hb] at e'; exact f.same b u e'
  · by_cases hb : ow x = some a
    · exact if_pos hb
    · have e' : (if ow x = some a then H x else S x) = some u := e
      rw [if_neg hb] at e'
      show (if ow x = some a then none else ow x) = none
      rw [if_neg hb]; exact h1 x u e'
  · by_cases hb : b = a
    · subst hb; rw [delA_same] at q; cases q
    · rw [delA_ne hb] at q
      refine o.mono sS (fun x u e => ?_) (h2 b o q)
      obtain ⟨e1, e2⟩ := chunk_some e
      have hw : (if ow x = some a then none else ow x) = some b := by
        rw [if_neg (fun z => hb (Option.some.inj (e1.symm.trans z)))]; exact e1
      rw [chunk_in hw]
      exact e2
  · obtain ⟨e1, e2⟩ := chunk_some e
    show (if ow b = some a then H b else S b) = some u
    rw [if_pos e1]; exact e2

/-! ### the kinds of owned objects -/
def aoL (xs : List DV) : AO where
  P := fun S a c => ∃ vs, c a = some (.lst vs) ∧ RepVs S vs xs
  root := fun ⟨_, h, _⟩ => by rw [h]; intro z; cases z
  mono := fun e1 e2 ⟨vs, h, r⟩ => ⟨vs, e2 _ _ h, r.mono e1⟩
inductive FV where
  | v (d : DV)
  | o (x : AO)
/-- a field is set (at its place, or behind) -/
def put {β : Type} (f : Str) (v : β) : List (Str × β) → List (Str × β)
  | [] => [(f, v)]
  | (g, x) :: r => if g = f then (g, v) :: r else (g, x) :: put f v r
theorem put_V (f : Str) (v : V) : ∀ l, put f v l = putF f v l
  | [] => rfl
  | (g, x) :: r => by
    show (if g = f then (g, v) :: r else (g, x) :: put f v r) = (if g = f then (g, v) :: r else (g, x) :: putF f v r)
    rw [put_V f v r]
theorem put_keys {β γ : Type} (f : Str) (v : β) (u : γ) : ∀ (l : List (Str × β)) (m : List (Str × γ)), l.map (·.1) = m.map (·.1) → (put f v l).map (·.1) = (put f u m).map (·.1)
  | [], [], _ => rfl
  | [], _ :: _, h => by cases h
  | _ :: _, [], h => by cases h
  | (g, x) :: r, (g', x') :: r', h => by
    rw [List.map_cons, List.map_cons] at h
    obtain ⟨h1, h2⟩ := List.cons.inj h
    dsimp only at h1
    subst h1
    show ((if g = f then (g, v) :: r else (g, x) :: put f v r)).map (·.1) = ((if g = f then (g, u) :: r' else (g, x') :: put f u r')).map (·.1)
    by_cases e : g = f
    · rw [if_pos e, if_pos e, List.map_cons, List.map_cons, h2]
    · rw [if_neg e, if_neg e, List.map_cons, List.map_cons, put_keys f v u r r' h2]
theorem lookup_put {β : Type} (f g : Str) (v : β) : ∀ fs : List (Str × β), (put f v fs).lookup g = if g = f then some v else fs.lookup g
  | [] => by
    show List.lookup g [(f, v)] = _
    by_cases h : g = f
    · have hb : (g == f) = true := beq_iff_eq.mpr h
      simp only [List.lookup, hb, if_pos h]
    · have hb : (g == f) = false := beq_eq_false_iff_ne.mpr h
      simp only [List.lookup, hb, if_neg h]
  | (k, x) :: r => by
    have ih := lookup_put f g v r
    rw [show put f v ((k, x) :: r) = (if k = f then (k, v) :: r else (k, x) :: put f v r) from rfl]
    by_cases hk : k = f
    · rw [if_pos hk]
      by_cases h : g = k
      · have hb : (g == k) = true := beq_iff_eq.mpr h
        simp only [List.lookup, hb, if_pos (h.trans hk)]
      · have hb : (g == k) = false := beq_eq_false_iff_ne.mpr h
        simp only [List.lookup, hb, if_neg (fun e : g = f => h (e.trans hk.symm))]
    · rw [if_neg hk]
      by_cases h : g = k
      · have hb : (g == k) = true := beq_iff_eq.mpr h
        simp only [List.lookup, hb, if_neg (fun e : g = f => hk (h.symm.trans e))]
      · have hb : (g == k) = false := beq_eq_false_iff_ne.mpr h
        simp only [List.lookup, hb]
        exact ih
theorem put_same {β : Type} {f : Str} {v u : β} : ∀ {l : List (Str × β)}, l.lookup f = some u → (put f v l).map (·.1) = l.map (·.1)
  | [], h => by cases h
  | (k, x) :: r, h => by
    show ((if k = f then (k, v) :: r else (k, x) :: put f v r)).map (·.1) = _
    by_cases e : k = f
    · rw [if_pos e]; rfl
    · rw [if_neg e, List.map_cons, List.map_cons]
      have hb : (f == k) = false := beq_eq_false_iff_ne.mpr (fun z => e z.symm)
      simp only [List.lookup, hb] at h
      rw [put_same h]
theorem lookup_none_keys {β γ : Type} : ∀ {l : List (Str × β)} {m : List (Str × γ)} {g : Str}, l.map (·.1) = m.map (·.1) → l.lookup g = none → m.lookup g = none
  | [], [], _, _, _ => rfl
  | [], _ :: _, _, h, _ => by cases h
  | _ :: _, [], _, h, _ => by cases h
  | (k, x) :: r, (k', x') :: r', g, h, q => by
    rw [List.map_cons, List.map_cons] at h
    obtain ⟨h1, h2⟩ := List.cons.inj h
    dsimp only at h1
    subst h1
    by_cases e : g = k
    · have hb : (g == k) = true := beq_iff_eq.mpr e
      simp only [List.lookup, hb] at q
      cases q
    · have hb : (g == k) = false := beq_eq_false_iff_ne.mpr e
      simp only [List.lookup, hb] at q ⊢
      exact lookup_none_keys h2 q
/-- a field's value fits: data by value; an owned object by the part of the chunk that is its own -/
def FvOk (S : Hp) (c : Hp) (so : Addr → Option Str) (f : Str) (v : V) : FV → Prop
  | .v d => RepV S v d
  | .o x => ∃ l, v = .ref l ∧ x.P S l (fun y => if so y = some f then c y else none)
theorem FvOk.mono {S S' c c' : Hp} {so : Addr → Option Str} {f : Str} {v : V} (e1 : Same S S') (e2 : Same c c') : ∀ {fv : FV}, FvOk S c so f v fv → FvOk S' c' so f v fv
  | .v _, h => RepV.mono e1 h
  | .o x, ⟨l, h, q⟩ => ⟨l, h, x.mono e1 (fun y u e => by
      by_cases z : so y = some f
      · have e' : (if so y = some f then c y else none) = some u := e
        rw [if_pos z] at e'
        show (if so y = some f then c' y else none) = some u
        rw [if_pos z]; exact e2 y u e'
      · have e' : (if so y = some f then c y else none) = some u := e
        rw [if_neg z] at e'; cases e') q⟩
def aoI (C : Addr) (fs : List (Str × FV)) : AO where
  P := fun S a c => ∃ dx vfs so, c a = some (.ins C dx vfs) ∧ vfs.map (·.1) = fs.map (·.1) ∧ so a = none ∧ ∀ f fv, fs.lookup f = some fv → ∃ v, vfs.lookup f = some v ∧ FvOk S c so f v fv
  root := fun ⟨_, _, _, h, _⟩ => by rw [h]; intro z; cases z
  mono := fun e1 e2 ⟨dx, vfs, so, h, k, s0, r⟩ => ⟨dx, vfs, so, e2 _ _ h, k, s0, fun f fv q => by
    obtain ⟨v, q1, q2⟩ := r f fv q
    exact ⟨v, q1, q2.mono e1 e2⟩⟩

/-- the nested object of a field comes to stand by itself -/
theorem Fit.unfold {S : Hp} {A : AH} {H : Hp} (f : Fit S A H) {a C : Addr} {fs : List (Str × FV)} {n : Str} {x : AO} (ha : A a = some (aoI C fs)) (hn : fs.lookup n = some (.o x)) :
    ∃ l, A l = none ∧ l ≠ a ∧ Fit S (updA (updA A a (aoI C (put n (.v (.r l)) fs))) l x) H := by
  obtain ⟨ow, h1, h2⟩ := f.own
  obtain ⟨dx, vfs, so, hc, hk, s0, hf⟩ := h2 a _ ha
  obtain ⟨v, hv, l, rfl, hx⟩ := hf n _ hn
  have hl : so l = some n ∧ chunk ow a H l ≠ none := by
    have q := x.root hx
    by_cases z : so l = some n
    · exact ⟨z, by rw [if_pos z] at q; exact q⟩
    · rw [if_neg z] at q; exact absurd rfl q
  obtain ⟨hl1, hl2⟩ := hl
  obtain ⟨hl3, hl4⟩ := chunk_ne hl2
  have la : l ≠ a := fun z => by rw [z, s0] at hl1; cases hl1
  have lA : A l = none := by
    cases e : A l with
    | none => rfl
    | some o =>
      have q := (chunk_ne (o.root (h2 l o e))).1
      rw [hl3] at q
      exact absurd (Option.some.inj q).symm la
  obtain ⟨hca, hcH⟩ := chunk_some hc
  refine ⟨l, lA, la, f.same, fun y => if ow y = some a ∧ so y = some n then some l else ow y, fun y u e => ?_, fun b o q => ?_⟩
  · show (if ow y = some a ∧ so y = some n then some l else ow y) = none
    rw [if_neg (fun z => by rw [h1 y u e] at z; cases z.1)]
    exact h1 y u e
  · by_cases hb : b = l
    · subst hb
      rw [updA_same] at q
      cases q
      refine x.mono (Same.refl S) (fun y u e => ?_) hx
      by_cases z : so y = some n
      · have e' : (if so y = some n then chunk ow a H y else none) = some u := e
        rw [if_pos z] at e'
        obtain ⟨e1, e2⟩ := chunk_some e'
        rw [chunk_in (show (if ow y = some a ∧ so y = some n then some b else ow y) = some b from if_pos ⟨e1, z⟩)]
        exact e2
      · have e' : (if so y = some n then chunk ow a H y else none) = some u := e
        rw [if_neg z] at e'; cases e'
    · rw [updA_ne hb] at q
      by_cases hba : b = a
      · subst hba
        rw [updA_same] at q
        cases q
        refine ⟨dx, vfs, so, ?_, ?_, s0, fun g fv hg => ?_⟩
        · rw [chunk_in (show (if ow b = some b ∧ so b = some n then some l else ow b) = some b by rw [if_neg (fun z => by rw [s0] at z; cases z.2)]; exact hca)]
          exact hcH
        · rw [hk, put_same hn]
        · rw [lookup_put] at hg
          by_cases e : g = n
          · rw [if_pos e] at hg
            cases hg
            subst e
            exact ⟨_, hv, rfl⟩
          · rw [if_neg e] at hg
            obtain ⟨v', q1, q2⟩ := hf g fv hg
            refine ⟨v', q1, ?_⟩
            cases fv with
            | v d => exact q2
            | o x' =>
              obtain ⟨l', r1, r2⟩ := q2
              refine ⟨l', r1, x'.mono (Same.refl S) (fun y u e' => ?_) r2⟩
              by_cases z : so y = some g
              · have e2 : (if so y = some g then chunk ow b H y else none) = some u := e'
                rw [if_pos z] at e2
                obtain ⟨e3, e4⟩ := chunk_some e2
                show (if so y = some g then _ else none) = some u
                rw [if_pos z, chunk_in (show (if ow y = some b ∧ so y = some n then some l else ow y) = some b by rw [if_neg (fun w' => e (Option.some.inj (z.symm.trans w'.2)))]; exact e3)]
                exact e4
              · have e2 : (if so y = some g then chunk ow b H y else none) = some u := e'
                rw [if_neg z] at e2; cases e2
      · rw [updA_ne hba] at q
        refine o.mono (Same.refl S) (fun y u e => ?_) (h2 b o q)
        obtain ⟨e1, e2⟩ := chunk_some e
        rw [chunk_in (show (if ow y = some a ∧ so y = some n then some l else ow y) = some b by rw [if_neg (fun z => hba (Option.some.inj (e1.symm.trans z.1)))]; exact e1)]
        exact e2
/-- an owned object comes to stand in a field -/
theorem Fit.fold {S : Hp} {A : AH} {H : Hp} (f : Fit S A H) {a C l : Addr} {fs : List (Str × FV)} {n : Str} {x : AO} (ha : A a = some (aoI C fs)) (hl : A l = some x) (hla : l ≠ a) (hn : fs.lookup n = some (.v (.r l))) :
    Fit S (updA (delA A l) a (aoI C (put n (.o x) fs))) H := by
  obtain ⟨ow, h1, h2⟩ := f.own
  obtain ⟨dx, vfs, so, hc, hk, s0, hf⟩ := h2 a _ ha
  have hx := h2 l x hl
  obtain ⟨v, hv, rv⟩ := hf n _ hn
  obtain ⟨hca, hcH⟩ := chunk_some hc
  refine ⟨f.same, fun y => if ow y = some l then some a else ow y, fun y u e => ?_, fun b o q => ?_⟩
  · show (if ow y = some l then some a else ow y) = none
    rw [if_neg (fun z => by rw [h1 y u e] at z; cases z)]
    exact h1 y u e
  · by_cases hb : b = a
    · subst hb
      rw [updA_same] at q
      cases q
      refine ⟨dx, vfs, fun y => if ow y = some l then some n else if so y = some n then none else so y, ?_, by rw [hk, put_same hn], ?_, fun g fv hg => ?_⟩
      · rw [chunk_in (show (if ow b = some l then some b else ow b) = some b by rw [hca, if_neg (fun z => hla (Option.some.inj z).symm)])]
        exact hcH
      · show (if ow b = some l then some n else if so b = some n then none else so b) = none
        rw [hca, if_neg (fun z => hla (Option.some.inj z).symm), s0]; rfl
      · rw [lookup_put] at hg
        by_cases e : g = n
        · rw [if_pos e] at hg
          cases hg
          subst e
          refine ⟨v, hv, l, rv, x.mono (Same.refl S) (fun y u e' => ?_) hx⟩
          obtain ⟨e1, e2⟩ := chunk_some e'
          show (if (if ow y = some l then some g else if so y = some g then none else so y) = some g then _ else none) = some u
          rw [if_pos (show (if ow y = some l then some g else if so y = some g then none else so y) = some g from if_pos e1), chunk_in (show (if ow y = some l then some b else ow y) = some b from if_pos e1)]
          exact e2
        · rw [if_neg e] at hg
          obtain ⟨v', q1, q2⟩ := hf g fv hg
          refine ⟨v', q1, ?_⟩
          cases fv with
          | v d => exact q2
          | o x' =>
            obtain ⟨l', r1, r2⟩ := q2
            refine ⟨l', r1, x'.mono (Same.refl S) (fun y u e' => ?_) r2⟩
            by_cases z : so y = some g
            · have e2 : (if so y = some g then chunk ow b H y else none) = some u := e'
              rw [if_pos z] at e2
              obtain ⟨e3, e4⟩ := chunk_some e2
              have nl : ¬ ow y = some l := fun w' => hla (Option.some.inj (e3.symm.trans w')).symm
              show (if (if ow y = some l then some n else if so y = some n then none else so y) = some g then _ else none) = some u
              rw [if_neg nl, if_neg (fun w' => e (Option.some.inj (z.symm.trans w'))), if_pos z, chunk_in (show (if ow y = some l then some b else ow y) = some b by rw [if_neg nl]; exact e3)]
              exact e4
            · have e2 : (if so y = some g then chunk ow b H y else none) = some u := e'
              rw [if_neg z] at e2; cases e2
    · rw [updA_ne hb] at q
      by_cases hbl : b = l
      · subst hbl; rw [delA_same] at q; cases q
      · rw [delA_ne hbl] at q
        refine o.mono (Same.refl S) (fun y u e => ?_) (h2 b o q)
        obtain ⟨e1, e2⟩ := chunk_some e
        rw [chunk_in (show (if ow y = some l then some a else ow y) = some b by rw [if_neg (fun z => hbl (Option.some.inj (e1.symm.trans z)))]; exact e1)]
        exact e2
/-- reading an owned list; a frozen one -/
theorem Fit.list {S : Hp} {A : AH} {H : Hp} (f : Fit S A H) {a : Addr} {xs : List DV} (ha : A a = some (aoL xs)) : ∃ vs, H a = some (.lst vs) ∧ RepVs S vs xs := by
  obtain ⟨ow, h1, h2⟩ := f.own
  obtain ⟨vs, hc, r⟩ := h2 a _ ha
  exact ⟨vs, (chunk_some hc).2, r⟩
theorem Fit.ins {S : Hp} {A : AH} {H : Hp} (f : Fit S A H) {a C : Addr} {fs : List (Str × FV)} (ha : A a = some (aoI C fs)) :
    ∃ dx vfs, H a = some (.ins C dx vfs) ∧ vfs.map (·.1) = fs.map (·.1) ∧ ∀ n d, fs.lookup n = some (.v d) → ∃ v, vfs.lookup n = some v ∧ RepV S v d := by
  obtain ⟨ow, h1, h2⟩ := f.own
  obtain ⟨dx, vfs, so, hc, hk, s0, hf⟩ := h2 a _ ha
  exact ⟨dx, vfs, (chunk_some hc).2, hk, fun n d q => hf n _ q⟩
theorem Fit.listSet {S : Hp} {A : AH} {H : Hp} (f : Fit S A H) {a : Addr} {xs ys : List DV} {ws : List V} (ha : A a = some (aoL xs)) (r : RepVs S ws ys) : Fit S (updA A a (aoL ys)) (upd H a (.lst ws)) :=
  f.write ha fun _ _ => ⟨ws, upd_same, r⟩
theorem Fit.listNew {S : Hp} {A : AH} {H : Hp} (f : Fit S A H) {p : Addr} {ys : List DV} {ws : List V} (hp : H p = none) (r : RepVs S ws ys) : Fit S (updA A p (aoL ys)) (upd H p (.lst ws)) :=
  f.laidA hp fun _ h => ⟨ws, h, r⟩
/-- a field that holds data, or a name of an owned object, is set -/
theorem Fit.fieldSet {S : Hp} {A : AH} {H : Hp} (f : Fit S A H) {a C dx : Addr} {fs : List (Str × FV)} {vfs : List (Str × V)} {n : Str} {v : V} {d : DV} (ha : A a = some (aoI C fs)) (hH : H a = some (.ins C dx vfs)) (r : RepV S v d) :
    Fit S (updA A a (aoI C (put n (.v d) fs))) (upd H a (.ins C dx (putF n v vfs))) := by
  obtain ⟨ow, h1, h2⟩ := f.own
  obtain ⟨dx', vfs', so, hc, hk, s0, hf⟩ := h2 a _ ha
  obtain ⟨hca, hcH⟩ := chunk_some hc
  rw [hH] at hcH
  cases hcH
  refine ⟨fun b u e => ?_, ow, h1, fun b o' q => ?_⟩
  · rw [upd_ne (ne_of_none e (f.there ha).2)]; exact f.same b u e
  · by_cases hb : b = a
    · subst hb
      rw [updA_same] at q
      cases q
      refine ⟨dx, putF n v vfs, so, by rw [chunk_in hca, upd_same], by rw [← put_V]; exact put_keys _ _ _ _ _ hk, s0, fun g fv hg => ?_⟩
      rw [lookup_put] at hg
      rw [lookup_putF]
      by_cases e : g = n
      · rw [if_pos e] at hg ⊢
        cases hg
        exact ⟨_, rfl, r⟩
      · rw [if_neg e] at hg ⊢
        obtain ⟨v', q1, q2⟩ := hf g fv hg
        refine ⟨v', q1, ?_⟩
        cases fv with
        | v d => exact q2
        | o x' =>
          obtain ⟨l', r1, r2⟩ := q2
          refine ⟨l', r1, x'.mono (Same.refl S) (fun y u e' => ?_) r2⟩
          by_cases z : so y = some g
          · have e2 : (if so y = some g then chunk ow b H y else none) = some u := e'
            rw [if_pos z] at e2
            obtain ⟨e3, e4⟩ := chunk_some e2
            have hy : y ≠ b := fun w' => by rw [w', s0] at z; cases z
            show (if so y = some g then _ else none) = some u
            rw [if_pos z, chunk_in e3, upd_ne hy]
            exact e4
          · have e2 : (if so y = some g then chunk ow b H y else none) = some u := e'
            rw [if_neg z] at e2; cases e2
    · rw [updA_ne hb] at q
      refine o'.mono (Same.refl S) (fun x u e => ?_) (h2 b o' q)
      obtain ⟨e1, e2⟩ := chunk_some e
      have hx : x ≠ a := fun z => by
        rw [z, hca] at e1
        exact hb (Option.some.inj e1).symm
      rw [chunk_in e1, upd_ne hx]
      exact e2
/-- a new instance -/
theorem Fit.insNew {S : Hp} {A : AH} {H : Hp} (f : Fit S A H) {x dx C : Addr} (hx : H x = none) (hdx : H dx = none) (hne : dx ≠ x) : Fit S (updA A x (aoI C [])) (upd (upd H dx (.own x)) x (.ins C dx [])) := by
  have f1 : Fit S A (upd H dx (.own x)) := by
    obtain ⟨ow, h1, h2⟩ := f.own
    refine ⟨fun b u e => ?_, ow, h1, fun b o q => ?_⟩
    · rw [upd_ne (ne_of_none (f.same b u e) hdx)]; exact f.same b u e
    · refine o.mono (Same.refl S) (fun y u e => ?_) (h2 b o q)
      obtain ⟨e1, e2⟩ := chunk_some e
      rw [chunk_in e1, upd_ne (ne_of_none e2 hdx)]
      exact e2
  exact f1.laidA (by rw [upd_ne hne.symm]; exact hx) fun _ h => ⟨dx, [], fun _ => none, h, rfl, rfl, fun g fv q => by cases q⟩
/-- an owned list of data is frozen: it is data -/
theorem Fit.freezeL {S : Hp} {A : AH} {H : Hp} (f : Fit S A H) {a : Addr} {xs : List PyData} (ha : A a = some (aoL (xs.map .d))) : ∃ S', Fit S' (delA A a) H ∧ Same S S' ∧ Rp S' (.ref a) (.list xs) := by
  obtain ⟨S', c, f', s1, s2, vs, hc, r⟩ := f.freeze ha
  exact ⟨S', f', s1, .lst (s2 _ _ hc) (r.mono s1).data⟩

end LB

/-! Layer 2: the judgements over data. -/
namespace LB
open PySem PySem.Spec PyProof.Rows L2

inductive Err where
  | game | counts | question | liar | plan | text | row
  deriving DecidableEq

/-- what is fixed through a law: the program, the world, what the top has written, the errors' classes -/
structure Gv where
  P : Program
  w : World
  K : W.Frag
  mg : Str → Option Value
  base : Heap
  ea : Err → Addr
abbrev gOf (X : Cx) (ea : Err → Addr) : Gv := ⟨X.prog, X.w, X.K, X.mg, X.base, ea⟩
/-- what is known of a body's context: the slots' names, the scope, which names are to be read, the rooms; a def's own body or a comprehension's block -/
structure CI where
  N : List Str
  sc : Scope
  vis : List Bool
  k : Nat
  top : Bool
  cl : Str → Bool
structure CI.Ok (I : CI) : Prop where
  nd : I.N.Nodup
  vis : ∀ (i : Nat) (x : Str), I.N[i]? = some x → I.vis[i]? = some true → Vis I.sc x ∧ (x == ("__debug__" : Str)) = false ∧ (x == ("__classdict__" : Str)) = false
structure Cok (g : Gv) (I : CI) (X : Cx) : Prop where
  eq : ∃ ea, g = gOf X ea
  N : X.N = I.N
  sc : X.env.scope = I.sc
  calm : X.calm = true
  room : Room I.k X.A
  ok : I.Ok
  po : PassesOwn (model X.prog X.w) X.A X.env X.xe
  fn : I.top = true → ∀ x, X.fn x = true
  cel : ∀ x, I.cl x = true → X.fn x = true
  top : I.top = true → X.stack = X.env :: X.outer ∧ X.env.frame = some X.env.locals ∧ X.ex = []

abbrev Gam := List (Option DV)
def EnvOk (S : Hp) (Γ : Gam) (σ : L2.St) : Prop := σ.length = Γ.length ∧ ∀ (i : Nat) (dv : DV), Γ[i]? = some (some dv) → ∃ v, σ[i]? = some (some v) ∧ RepV S v dv
theorem EnvOk.mono {S S' : Hp} {Γ : Gam} {σ : L2.St} (h : EnvOk S Γ σ) (e : Same S S') : EnvOk S' Γ σ := ⟨h.1, fun i dv q => by
  obtain ⟨v, h1, h2⟩ := h.2 i dv q
  exact ⟨v, h1, h2.mono e⟩⟩
theorem EnvOk.set {S : Hp} {Γ : Gam} {σ : L2.St} (h : EnvOk S Γ σ) {i : Nat} {v : V} {dv : DV} (r : RepV S v dv) : EnvOk S (Γ.set i (some dv)) (σ.set i (some v)) := by
  refine ⟨by rw [List.length_set, List.length_set, h.1], fun j d q => ?_⟩
  by_cases e : j = i
  · subst e
    by_cases hl : j < Γ.length
    · rw [List.getElem?_set_self hl] at q
      cases q
      exact ⟨v, List.getElem?_set_self (by rw [h.1]; exact hl), r⟩
    · rw [List.getElem?_eq_none (by rw [List.length_set]; omega)] at q; cases q
  · rw [List.getElem?_set_ne (Ne.symm e)] at q ⊢
    exact h.2 j d q
theorem EnvOk.forget {S : Hp} {Γ : Gam} {σ : L2.St} (h : EnvOk S Γ σ) {i : Nat} {x : Option V} : EnvOk S (Γ.set i none) (σ.set i x) := by
  refine ⟨by rw [List.length_set, List.length_set, h.1], fun j d q => ?_⟩
  by_cases e : j = i
  · subst e
    by_cases hl : j < Γ.length
    · rw [List.getElem?_set_self hl] at q; cases q
    · rw [List.getElem?_eq_none (by rw [List.length_set]; omega)] at q; cases q
  · rw [List.getElem?_set_ne (Ne.symm e)] at q ⊢
    exact h.2 j d q
theorem EnvOk.less {S : Hp} {Γ Γ' : Gam} {σ : L2.St} (h : EnvOk S Γ σ) (hl : Γ'.length = Γ.length) (k : ∀ (i : Nat) (dv : DV), Γ'[i]? = some (some dv) → Γ[i]? = some (some dv)) : EnvOk S Γ' σ :=
  ⟨h.1.trans hl.symm, fun i dv q => h.2 i dv (k i dv q)⟩

/-- what is wanted of an exception: of its class, and of what is owned then -/
abbrev Rz := Addr → AH → Prop
def WR (S : Hp) (R : Rz) : XK := fun cls d H => ∃ C S' A, cls = .ref C ∧ d = none ∧ Same S S' ∧ Fit S' A H ∧ R C A
def TakesR (X : Cx) (S : Hp) (R : Rz) : Prop := Takes X (fun cls d _ H => WR S R cls d H)
theorem WR.mono {S S' : Hp} {R : Rz} (e : Same S S') {cls d H} (h : WR S' R cls d H) : WR S R cls d H := by
  obtain ⟨C, S2, A, h1, h2, h3, h4⟩ := h
  exact ⟨C, S2, A, h1, h2, e.trans h3, h4⟩
theorem TakesR.mono {X : Cx} {S S' : Hp} {R : Rz} (t : TakesR X S R) (e : Same S S') : TakesR X S' R := Takes.imp t fun _ _ _ _ h => h.mono e
theorem TakesR.pass {X : Cx} {S : Hp} {R : Rz} (t : TakesR X S R) : Passes (L2.CX X.prog X.w) X (WR S R) := passes_call t fun _ _ _ _ h => h

/-! ### the meaning itself as a reading -/
def sE (X : Cx) (e : Expr) : TE := fun σ H Q => ∀ pins s, Inv X pins σ H s → wpAny (model X.prog X.w) X.A (eval e X.env) (EP X pins σ Q) X.xe s
theorem _root_.L2.PE.s {X : Cx} {e : Expr} : PE X e (sE X e) := ⟨fun pins s _ _ _ I h => h pins s I⟩
theorem _root_.L2.PE.to {X : Cx} {e : Expr} {t : TE} (h : PE X e t) {σ H Q} (q : t σ H Q) : sE X e σ H Q := fun pins s I => h.run pins s σ H Q I q
def sT (X : Cx) (e : Expr) : TT := fun σ H Q => ∀ pins s, Inv X pins σ H s → wpAny (model X.prog X.w) X.A (isTrue e X.env (eval e X.env)) (TP X pins σ Q) X.xe s
theorem _root_.L2.PT.s {X : Cx} {e : Expr} : PT X e (sT X e) := ⟨fun pins s _ _ _ I h => h pins s I⟩
theorem _root_.L2.PT.to {X : Cx} {e : Expr} {t : TT} (h : PT X e t) {σ H Q} (q : t σ H Q) : sT X e σ H Q := fun pins s I => h.run pins s σ H Q I q
def sW (X : Cx) (e : Expr) : TT := fun σ H Q => ∀ (wh : Sem Value) pins s, Inv X pins σ H s → wpAny (model X.prog X.w) X.A (isTrue e X.env wh) (TP X pins σ Q) X.xe s
theorem _root_.L2.PW.s {X : Cx} {e : Expr} : PW X e (sW X e) := ⟨fun wh pins s _ _ _ I h => h wh pins s I⟩
theorem _root_.L2.PW.to {X : Cx} {e : Expr} {t : TT} (h : PW X e t) {σ H Q} (q : t σ H Q) : sW X e σ H Q := fun wh pins s I => h.run wh pins s σ H Q I q
def sA (X : Cx) (es : List Expr) : TA := fun σ H Q => ∀ pos pins s, Inv X pins σ H s → wpAny (model X.prog X.w) X.A (spliced (backTo pos (starEach es X.env))) (AP X pins σ Q) X.xe s
theorem _root_.L2.PA.s {X : Cx} {es : List Expr} : PA X es (sA X es) := ⟨fun pos pins s _ _ _ I h => h pos pins s I⟩
theorem _root_.L2.PA.to {X : Cx} {es : List Expr} {t : TA} (h : PA X es t) {σ H Q} (q : t σ H Q) : sA X es σ H Q := fun pos pins s I => h.run pos pins s σ H Q I q
def sS (X : Cx) (st : Stmt) : TS := fun D σ H => ∀ pins s, Inv X pins σ H s → wpAny (model X.prog X.w) X.A (exec st X.env) (SP X pins D) X.xe s
theorem _root_.L2.PS.s {X : Cx} {st : Stmt} : PS X st (sS X st) := ⟨fun pins s _ _ _ I h => h pins s I⟩
theorem _root_.L2.PS.to {X : Cx} {st : Stmt} {t : TS} (h : PS X st t) {σ H D} (q : t D σ H) : sS X st D σ H := fun pins s I => h.run pins s σ H D I q
def sSs (X : Cx) (st : List Stmt) : TS := fun D σ H => ∀ pins s, Inv X pins σ H s → wpAny (model X.prog X.w) X.A (execs st X.env) (SP X pins D) X.xe s
theorem _root_.L2.PSs.s {X : Cx} {st : List Stmt} : PSs X st (sSs X st) := ⟨fun pins s _ _ _ I h => h pins s I⟩
theorem _root_.L2.PSs.to {X : Cx} {st : List Stmt} {t : TS} (h : PSs X st t) {σ H D} (q : t D σ H) : sSs X st D σ H := fun pins s I => h.run pins s σ H D I q
theorem sE.imp {X : Cx} {e : Expr} {σ H Q Q'} (h : sE X e σ H Q) (k : ∀ v H', Q v H' → Q' v H') : sE X e σ H Q' := fun pins s I => thn (h pins s I) fun u s1 ⟨v, H1, I1, r, q⟩ => ⟨v, H1, I1, r, k _ _ q⟩
theorem sT.imp {X : Cx} {e : Expr} {σ H Q Q'} (h : sT X e σ H Q) (k : ∀ v H', Q v H' → Q' v H') : sT X e σ H Q' := fun pins s I => thn (h pins s I) fun u s1 ⟨H1, I1, q⟩ => ⟨H1, I1, k _ _ q⟩
theorem sW.t {X : Cx} {e : Expr} {σ H Q} (h : sW X e σ H Q) : sT X e σ H Q := fun pins s I => h _ pins s I
theorem SP.imp {X : Cx} {pins} {D D' : Ends} (h1 : ∀ σ H, D.nx σ H → D'.nx σ H) (h2 : ∀ v H, D.rt v H → D'.rt v H) (h3 : ∀ σ H, D.bk σ H → D'.bk σ H) (h4 : ∀ σ H, D.ct σ H → D'.ct σ H) {f : Flow} {s : Shared} (h : SP X pins D f s) : SP X pins D' f s := by
  cases f with
  | next => obtain ⟨σ, H, I, q⟩ := h; exact ⟨σ, H, I, h1 _ _ q⟩
  | brk => obtain ⟨σ, H, I, q⟩ := h; exact ⟨σ, H, I, h3 _ _ q⟩
  | cont => obtain ⟨σ, H, I, q⟩ := h; exact ⟨σ, H, I, h4 _ _ q⟩
  | ret u => obtain ⟨v, σ, H, I, r, q⟩ := h; exact ⟨v, σ, H, I, r, h2 _ _ q⟩

/-! ### expressions over data -/
/-- e is worth dv; nothing owned changes -/
def VE (g : Gv) (I : CI) (Γ : Gam) (A : AH) (e : Expr) (dv : DV) : Prop :=
  ∀ X, Cok g I X → ∀ A1, ExtA A A1 → ∀ S H σ, EnvOk S Γ σ → Fit S A1 H → ∀ Q : VK, (∀ v S' H', Same S S' → Fit S' A1 H' → RepV S' v dv → Q v H') → sE X e σ H Q
abbrev DE (g : Gv) (I : CI) (Γ : Gam) (A : AH) (e : Expr) (d : PyData) : Prop := VE g I Γ A e (.d d)
/-- .. a test -/
def DT (g : Gv) (I : CI) (Γ : Gam) (A : AH) (e : Expr) (b : Bool) : Prop :=
  ∀ X, Cok g I X → ∀ A1, ExtA A A1 → ∀ S H σ, EnvOk S Γ σ → Fit S A1 H → ∀ Q : Bool → Hp → Prop, (∀ S' H', Same S S' → Fit S' A1 H' → Q b H') → sT X e σ H Q
def DW (g : Gv) (I : CI) (Γ : Gam) (A : AH) (e : Expr) (b : Bool) : Prop :=
  ∀ X, Cok g I X → ∀ A1, ExtA A A1 → ∀ S H σ, EnvOk S Γ σ → Fit S A1 H → ∀ Q : Bool → Hp → Prop, (∀ S' H', Same S S' → Fit S' A1 H' → Q b H') → sW X e σ H Q
/-- .. arguments -/
def VA (g : Gv) (I : CI) (Γ : Gam) (A : AH) (es : List Expr) (ds : List DV) : Prop :=
  ∀ X, Cok g I X → ∀ A1, ExtA A A1 → ∀ S H σ, EnvOk S Γ σ → Fit S A1 H → ∀ Q : List V → Hp → Prop, (∀ vs S' H', Same S S' → Fit S' A1 H' → RepVs S' vs ds → Q vs H') → sA X es σ H Q
/-- e in general: what is owned may change, an exception may leave -/
def WE (g : Gv) (I : CI) (R : Rz) (Γ : Gam) (A : AH) (e : Expr) (Q : DV → AH → Prop) : Prop :=
  ∀ X, Cok g I X → ∀ S H σ, TakesR X S R → EnvOk S Γ σ → Fit S A H → ∀ Qv : VK, (∀ v dv S' A' H', Same S S' → Fit S' A' H' → RepV S' v dv → Q dv A' → Qv v H') → sE X e σ H Qv
def WT (g : Gv) (I : CI) (R : Rz) (Γ : Gam) (A : AH) (e : Expr) (Q : Bool → AH → Prop) : Prop :=
  ∀ X, Cok g I X → ∀ S H σ, TakesR X S R → EnvOk S Γ σ → Fit S A H → ∀ Qv : Bool → Hp → Prop, (∀ b S' A' H', Same S S' → Fit S' A' H' → Q b A' → Qv b H') → sT X e σ H Qv
structure AEnds where
  nx : Gam → AH → Prop
  rt : DV → AH → Prop
  bk : Gam → AH → Prop := fun _ _ => False
  ct : Gam → AH → Prop := fun _ _ => False
def endsOf (S : Hp) (D : AEnds) : Ends where
  nx := fun σ H => ∃ S' Γ A, Same S S' ∧ EnvOk S' Γ σ ∧ Fit S' A H ∧ D.nx Γ A
  rt := fun v H => ∃ S' dv A, Same S S' ∧ Fit S' A H ∧ RepV S' v dv ∧ D.rt dv A
  bk := fun σ H => ∃ S' Γ A, Same S S' ∧ EnvOk S' Γ σ ∧ Fit S' A H ∧ D.bk Γ A
  ct := fun σ H => ∃ S' Γ A, Same S S' ∧ EnvOk S' Γ σ ∧ Fit S' A H ∧ D.ct Γ A
def WS (g : Gv) (I : CI) (R : Rz) (Γ : Gam) (A : AH) (st : Stmt) (D : AEnds) : Prop :=
  ∀ X, Cok g I X → ∀ S H σ, TakesR X S R → EnvOk S Γ σ → Fit S A H → sS X st (endsOf S D) σ H
def WSs (g : Gv) (I : CI) (R : Rz) (Γ : Gam) (A : AH) (st : List Stmt) (D : AEnds) : Prop :=
  ∀ X, Cok g I X → ∀ S H σ, TakesR X S R → EnvOk S Γ σ → Fit S A H → sSs X st (endsOf S D) σ H

section
variable {g : Gv} {I : CI} {R : Rz} {Γ : Gam} {A : AH} {pos : Pos} {e a b : Expr}
theorem VE.ext {A' : AH} {dv : DV} (h : VE g I Γ A e dv) (x : ExtA A A') : VE g I Γ A' e dv := fun X c A1 ex => h X c A1 (x.trans ex)
theorem DT.ext {A' : AH} {v : Bool} (h : DT g I Γ A e v) (x : ExtA A A') : DT g I Γ A' e v := fun X c A1 ex => h X c A1 (x.trans ex)
theorem VE.we {dv : DV} {Q : DV → AH → Prop} (h : VE g I Γ A e dv) (q : Q dv A) : WE g I R Γ A e Q := fun X c S H σ _ he hf Qv k =>
  h X c A (ExtA.refl A) S H σ he hf Qv fun v S' H' s f r => k v dv S' A H' s f r q
theorem DT.wt {v : Bool} {Q : Bool → AH → Prop} (h : DT g I Γ A e v) (q : Q v A) : WT g I R Γ A e Q := fun X c S H σ _ he hf Qv k =>
  h X c A (ExtA.refl A) S H σ he hf Qv fun S' H' s f => k v S' A H' s f q
theorem DW.t {v : Bool} (h : DW g I Γ A e v) : DT g I Γ A e v := fun X c A1 ex S H σ he hf Q k => (h X c A1 ex S H σ he hf Q k).t
/-- another name for what it is worth -/
theorem VE.eq {dv dv' : DV} (h : VE g I Γ A e dv) (q : dv = dv') : VE g I Γ A e dv' := q ▸ h
theorem DE.eq {d d' : PyData} (h : DE g I Γ A e d) (q : d = d') : DE g I Γ A e d' := q ▸ h
theorem DT.eq {v v' : Bool} (h : DT g I Γ A e v) (q : v = v') : DT g I Γ A e v' := q ▸ h

/-! names, constants -/
theorem ve_var {x : Str} (i : Nat) {dv : DV} (hN : I.N[i]? = some x) (hv : I.vis[i]? = some true) (hG : Γ[i]? = some (some dv)) : VE g I Γ A (.Name x pos) dv := by
  intro X c A1 ex S H σ he hf Q k
  obtain ⟨v1, d1, d2⟩ := c.ok.vis i x hN hv
  obtain ⟨v, e1, r⟩ := he.2 i dv hG
  exact (pe_var (i := i) (by rw [c.N]; exact hN) (by rw [c.sc]; exact v1) d1 d2).to ⟨v, e1, k v S H (Same.refl S) hf r⟩
theorem de_int {i : Int} {j : Nat} : DE g I Γ A (.Constant (.int i) j pos) (.int i) := fun X c A1 ex S H σ he hf Q k => pe_int.to (k _ S H (Same.refl S) hf (.int i))
theorem de_bool {i : Bool} {j : Nat} : DE g I Γ A (.Constant (.bool i) j pos) (.bool i) := fun X c A1 ex S H σ he hf Q k => pe_bl.to (k _ S H (Same.refl S) hf (.bl i))
theorem de_none {j : Nat} : DE g I Γ A (.Constant .none j pos) .none := fun X c A1 ex S H σ he hf Q k => pe_non.to (k _ S H (Same.refl S) hf .non)
theorem de_str {x : Str} {j : Nat} : DE g I Γ A (.Constant (.str x) j pos) (.str x) := fun X c A1 ex S H σ he hf Q k => pe_str.to (k _ S H (Same.refl S) hf (.str x))
/-- a global name of the scope -/
def GlS (sc : Scope) (x : Str) : Prop := sc.names.lookup x = some .globalImplicit
theorem GlS.gl {sc : Scope} {X : Cx} {x : Str} (h : GlS sc x) (e : X.env.scope = sc) : Gl X x := by
  show X.env.scope.names.lookup x = _
  rw [e]; exact h
theorem de_gint {x : Str} {i : Int} {t : Tok} (hg : GlS I.sc x) (hm : g.mg x = some (.int i t)) (hd : (x == ("__debug__" : Str)) = false := by decide) : DE g I Γ A (.Name x pos) (.int i) := by
  intro X c A1 ex S H σ he hf Q k
  obtain ⟨ea, rfl⟩ := c.eq
  exact (pe_glob (v := .int i) (hg.gl c.sc) hm ⟨t, rfl⟩ hd).to (k _ S H (Same.refl S) hf (.int i))
theorem de_gstr {x y : Str} {t : Tok} (hg : GlS I.sc x) (hm : g.mg x = some (.str y t)) (hd : (x == ("__debug__" : Str)) = false := by decide) : DE g I Γ A (.Name x pos) (.str y) := by
  intro X c A1 ex S H σ he hf Q k
  obtain ⟨ea, rfl⟩ := c.eq
  exact (pe_glob (v := .str y) (hg.gl c.sc) hm ⟨t, rfl⟩ hd).to (k _ S H (Same.refl S) hf (.str y))

/-! operators -/
/-- an operator by its rule over values -/
theorem ve_op {op : Operator} {r : Cx → R2} {d1 d2 d3 : DV} (ho : ∀ X, Cok g I X → OpR X (binaryOp op) (r X))
    (hr : ∀ X, Cok g I X → ∀ A1, ExtA A A1 → ∀ S H v u, Fit S A1 H → RepV S v d1 → RepV S u d2 → ∀ Q : VK, (∀ v' S' H', Same S S' → Fit S' A1 H' → RepV S' v' d3 → Q v' H') → r X v u H Q)
    (ha : VE g I Γ A a d1) (hb : VE g I Γ A b d2) : VE g I Γ A (.BinOp a op b pos) d3 := by
  intro X c A1 ex S H σ he hf Q k
  refine (pe_op (ho X c) PE.s PE.s).to (ha X c A1 ex S H σ he hf _ fun v S1 H1 s1 f1 r1 => hb X c A1 ex S1 H1 σ (he.mono s1) f1 _ fun u S2 H2 s2 f2 r2 => ?_)
  exact hr X c A1 ex S2 H2 v u f2 (r1.mono s2) r2 Q fun v' S' H' s' f' r' => k v' S' H' ((s1.trans s2).trans s') f' r'
theorem Rp.int_of {S : Hp} {v : V} {i : Int} (h : RepV S v (.d (.int i))) : v = .int i := by cases h; rfl
theorem Rp.bl_of {S : Hp} {v : V} {i : Bool} (h : RepV S v (.d (.bool i))) : v = .bl i := by cases h; rfl
theorem Rp.str_of {S : Hp} {v : V} {i : Str} (h : RepV S v (.d (.str i))) : v = .str i := by cases h; rfl
theorem Rp.non_of {S : Hp} {v : V} (h : RepV S v (.d .none)) : v = .non := by cases h; rfl
variable {i j : Int}
theorem de_add (ha : DE g I Γ A a (.int i)) (hb : DE g I Γ A b (.int j)) : DE g I Γ A (.BinOp a .Add b pos) (.int (i + j)) :=
  ve_op (fun _ _ => op_add) (fun X c A1 ex S H v u f r1 r2 Q k => ⟨i, j, Rp.int_of r1, Rp.int_of r2, k _ S H (Same.refl S) f (.int _)⟩) ha hb
theorem de_sub (ha : DE g I Γ A a (.int i)) (hb : DE g I Γ A b (.int j)) : DE g I Γ A (.BinOp a .Sub b pos) (.int (i - j)) :=
  ve_op (fun _ _ => op_sub) (fun X c A1 ex S H v u f r1 r2 Q k => ⟨i, j, Rp.int_of r1, Rp.int_of r2, k _ S H (Same.refl S) f (.int _)⟩) ha hb
theorem de_mul (ha : DE g I Γ A a (.int i)) (hb : DE g I Γ A b (.int j)) (hc : CMul i j) : DE g I Γ A (.BinOp a .Mult b pos) (.int (i * j)) :=
  ve_op (fun _ _ => op_mul) (fun X c A1 ex S H v u f r1 r2 Q k => ⟨i, j, Rp.int_of r1, Rp.int_of r2, hc, k _ S H (Same.refl S) f (.int _)⟩) ha hb
theorem de_fdiv (ha : DE g I Γ A a (.int i)) (hb : DE g I Γ A b (.int j)) (hc : CDiv i j) : DE g I Γ A (.BinOp a .FloorDiv b pos) (.int (i / j)) :=
  ve_op (fun _ _ => op_fdiv) (fun X c A1 ex S H v u f r1 r2 Q k => ⟨i, j, Rp.int_of r1, Rp.int_of r2, hc, k _ S H (Same.refl S) f (.int _)⟩) ha hb
theorem de_mod (ha : DE g I Γ A a (.int i)) (hb : DE g I Γ A b (.int j)) (hc : 0 < j) : DE g I Γ A (.BinOp a .Mod b pos) (.int (i % j)) :=
  ve_op (fun _ _ => op_mod) (fun X c A1 ex S H v u f r1 r2 Q k => ⟨i, j, Rp.int_of r1, Rp.int_of r2, hc, k _ S H (Same.refl S) f (.int _)⟩) ha hb
theorem de_pow (ha : DE g I Γ A a (.int i)) (hb : DE g I Γ A b (.int j)) (hc : CPow i j) : DE g I Γ A (.BinOp a .Pow b pos) (.int (i ^ j.toNat)) :=
  ve_op (fun _ _ => op_pow) (fun X c A1 ex S H v u f r1 r2 Q k => ⟨i, j, Rp.int_of r1, Rp.int_of r2, hc, k _ S H (Same.refl S) f (.int _)⟩) ha hb
theorem de_neg (ha : DE g I Γ A a (.int i)) : DE g I Γ A (.UnaryOp .USub a pos) (.int (-i)) := by
  intro X c A1 ex S H σ he hf Q k
  refine (pe_un un_neg PE.s).to (ha X c A1 ex S H σ he hf _ fun v S1 H1 s1 f1 r1 => ?_)
  exact ⟨i, Rp.int_of r1, k _ S1 H1 s1 f1 (.int _)⟩
theorem de_addS {x y : Str} (ha : DE g I Γ A a (.str x)) (hb : DE g I Γ A b (.str y)) (hz : x.length + y.length ≤ sizeLine) : DE g I Γ A (.BinOp a .Add b pos) (.str (x ++ y)) :=
  ve_op (fun _ _ => op_add_str) (fun X c A1 ex S H v u f r1 r2 Q k => ⟨x, y, Rp.str_of r1, Rp.str_of r2, hz, k _ S H (Same.refl S) f (.str _)⟩) ha hb
theorem Rp.lst_of {S : Hp} {v : V} {ds : List PyData} (h : RepV S v (.d (.list ds))) : ∃ a vs, v = .ref a ∧ S a = some (.lst vs) ∧ RpAll S vs ds := by
  cases h with
  | lst h r => exact ⟨_, _, rfl, h, r⟩
theorem Rp.tup_of {S : Hp} {v : V} {ds : List PyData} (h : RepV S v (.d (.tuple ds))) : ∃ a vs, v = .ref a ∧ S a = some (.tup vs) ∧ RpAll S vs ds := by
  cases h with
  | tup h r => exact ⟨_, _, rfl, h, r⟩
/-- two frozen lists joined: a frozen one -/
theorem de_addL {xs ys : List PyData} (ha : DE g I Γ A a (.list xs)) (hb : DE g I Γ A b (.list ys)) (hz : xs.length + ys.length ≤ sizeLine) : DE g I Γ A (.BinOp a .Add b pos) (.list (xs ++ ys)) :=
  ve_op (fun _ _ => op_cat) (fun X c A1 ex S H v u f r1 r2 Q k => by
    obtain ⟨l, vs, rfl, h1, q1⟩ := Rp.lst_of r1
    obtain ⟨m, ws, rfl, h2, q2⟩ := Rp.lst_of r2
    refine ⟨l, m, vs, ws, rfl, rfl, f.same _ _ h1, f.same _ _ h2, by rw [q1.length, q2.length]; exact hz, fun p hp => ?_⟩
    obtain ⟨f', s'⟩ := f.laidS hp (o := .lst (vs ++ ws))
    exact k _ _ _ s' f' (.lst upd_same ((q1.mono s').append (q2.mono s')))) ha hb
theorem de_addT {xs ys : List PyData} (ha : DE g I Γ A a (.tuple xs)) (hb : DE g I Γ A b (.tuple ys)) (hz : xs.length + ys.length ≤ sizeLine) : DE g I Γ A (.BinOp a .Add b pos) (.tuple (xs ++ ys)) :=
  ve_op (fun X _ => op_catA) (fun X c A1 ex S H v u f r1 r2 Q k => by
    obtain ⟨l, vs, rfl, h1, q1⟩ := Rp.tup_of r1
    obtain ⟨m, ws, rfl, h2, q2⟩ := Rp.tup_of r2
    refine ⟨l, m, vs, ws, rfl, rfl, .of (f.same _ _ h1), .of (f.same _ _ h2), by rw [q1.length, q2.length]; exact hz, ?_⟩
    have hd : RpAll S (vs ++ ws) (xs ++ ys) := q1.append q2
    refine ⟨fun e => ?_, fun _ e => ?_, fun _ _ p hp => ?_⟩
    · subst e
      exact k _ S H (Same.refl S) f (.tup h2 (by simpa using hd))
    · subst e
      exact k _ S H (Same.refl S) f (.tup h1 (by simpa using hd))
    · obtain ⟨f', s'⟩ := f.laidS hp (o := .tup (vs ++ ws))
      exact k _ _ _ s' f' (.tup upd_same (hd.mono s'))) ha hb
end
end LB

/-! Layer 3: comparisons, tests, arguments, built-in calls, subscripts, displays. -/
namespace LB
open PySem PySem.Spec PyProof.Rows L2

def nostar : Expr → Bool
  | .Starred _ _ => false
  | _ => true
theorem star_cons {e : Expr} (h : nostar e = true) (es : List Expr) (env : Env) : starEach (e :: es) env = (false, eval e env) :: starEach es env := by
  cases e <;> first | rfl | cases h
theorem star_any : ∀ {es : List Expr} (pos : Pos) (env : Env), es.all nostar = true → (backTo pos (starEach es env)).any (·.1) = false
  | [], _, _, _ => rfl
  | e :: es, pos, env, h => by
    rw [List.all_cons, Bool.and_eq_true] at h
    rw [star_cons h.1]
    have ih := star_any (es := es) pos env h.2
    unfold backTo at ih ⊢
    rw [List.map_cons, List.any_cons, ih]
    rfl

section
variable {g : Gv} {I : CI} {R : Rz} {Γ : Gam} {A : AH} {pos : Pos} {e a b c : Expr}

/-! ### comparisons -/
theorem ve_cmp {op : CmpOp} {r : Cx → R2} {d1 d2 d3 : DV} (ho : ∀ X, Cok g I X → OpR X (compareOp op) (r X))
    (hr : ∀ X, Cok g I X → ∀ A1, ExtA A A1 → ∀ S H v u, Fit S A1 H → RepV S v d1 → RepV S u d2 → ∀ Q : VK, (∀ v' S' H', Same S S' → Fit S' A1 H' → RepV S' v' d3 → Q v' H') → r X v u H Q)
    (hm : behindInMarks op b = false) (ha : VE g I Γ A a d1) (hb : VE g I Γ A b d2) : VE g I Γ A (.Compare a [op] [b] pos) d3 := by
  intro X c A1 ex S H σ he hf Q k
  refine (pe_cmpR (ho X c) PE.s PE.s hm).to (ha X c A1 ex S H σ he hf _ fun v S1 H1 s1 f1 r1 => hb X c A1 ex S1 H1 σ (he.mono s1) f1 _ fun u S2 H2 s2 f2 r2 => ?_)
  exact hr X c A1 ex S2 H2 v u f2 (r1.mono s2) r2 Q fun v' S' H' s' f' r' => k v' S' H' ((s1.trans s2).trans s') f' r'
theorem dt_cmp {op : CmpOp} {r : Cx → R2} {d1 d2 : DV} {k3 : Bool} (ho : ∀ X, Cok g I X → OpR X (compareOp op) (r X))
    (hr : ∀ X, Cok g I X → ∀ A1, ExtA A A1 → ∀ S H v u, Fit S A1 H → RepV S v d1 → RepV S u d2 → ∀ Q : VK, (∀ v' S' H', Same S S' → Fit S' A1 H' → RepV S' v' (.d (.bool k3)) → Q v' H') → r X v u H Q)
    (hm : behindInMarks op b = false) (ha : VE g I Γ A a d1) (hb : VE g I Γ A b d2) : DT g I Γ A (.Compare a [op] [b] pos) k3 := by
  intro X c A1 ex S H σ he hf Q k
  refine (pt_cmpR (ho X c) PE.s PE.s hm).to (ha X c A1 ex S H σ he hf _ fun v S1 H1 s1 f1 r1 => hb X c A1 ex S1 H1 σ (he.mono s1) f1 _ fun u S2 H2 s2 f2 r2 => ?_)
  refine hr X c A1 ex S2 H2 v u f2 (r1.mono s2) r2 _ fun v' S' H' s' f' r' => ⟨k3, ?_, k S' H' ((s1.trans s2).trans s') f'⟩
  cases r'
  rfl
/-- the rules of comparison, as data -/
structure CmpD (g : Gv) (I : CI) (A : AH) (op : CmpOp) (d1 d2 : DV) (k : Bool) : Prop where
  ex : ∃ r : Cx → R2, (∀ X, Cok g I X → OpR X (compareOp op) (r X)) ∧ ∀ X, Cok g I X → ∀ A1, ExtA A A1 → ∀ S H v u, Fit S A1 H → RepV S v d1 → RepV S u d2 → ∀ Q : VK, Q (.bl k) H → r X v u H Q
  nm : ∀ b, behindInMarks op b = false ∨ op = .In ∨ op = .NotIn
theorem CmpD.ve {op : CmpOp} {d1 d2 : DV} {k : Bool} (h : CmpD g I A op d1 d2 k) (ha : VE g I Γ A a d1) (hb : VE g I Γ A b d2) (hm : behindInMarks op b = false) : DE g I Γ A (.Compare a [op] [b] pos) (.bool k) := by
  obtain ⟨r, h1, h2⟩ := h.ex
  exact ve_cmp h1 (fun X c A1 ex S H v u f r1 r2 Q q => h2 X c A1 ex S H v u f r1 r2 Q (q _ S H (Same.refl S) f (.bl k))) hm ha hb
theorem CmpD.dt {op : CmpOp} {d1 d2 : DV} {k : Bool} (h : CmpD g I A op d1 d2 k) (ha : VE g I Γ A a d1) (hb : VE g I Γ A b d2) (hm : behindInMarks op b = false) : DT g I Γ A (.Compare a [op] [b] pos) k := by
  obtain ⟨r, h1, h2⟩ := h.ex
  exact dt_cmp h1 (fun X c A1 ex S H v u f r1 r2 Q q => h2 X c A1 ex S H v u f r1 r2 Q (q _ S H (Same.refl S) f (.bl k))) hm ha hb
theorem nm_of {op : CmpOp} (h1 : op ≠ .In) (h2 : op ≠ .NotIn) : ∀ b, behindInMarks op b = false ∨ op = .In ∨ op = .NotIn := fun b => .inl (nobehind b h1 h2)
variable {i j l : Int}
theorem c_lt : CmpD g I A .Lt (.d (.int i)) (.d (.int j)) (decide (i < j)) := ⟨⟨_, fun _ _ => op_lt, fun X c A1 ex S H v u f r1 r2 Q q => ⟨i, j, Rp.int_of r1, Rp.int_of r2, q⟩⟩, nm_of (by decide) (by decide)⟩
theorem c_le : CmpD g I A .LtE (.d (.int i)) (.d (.int j)) (decide (i ≤ j)) := ⟨⟨_, fun _ _ => op_le, fun X c A1 ex S H v u f r1 r2 Q q => ⟨i, j, Rp.int_of r1, Rp.int_of r2, q⟩⟩, nm_of (by decide) (by decide)⟩
theorem c_gt : CmpD g I A .Gt (.d (.int i)) (.d (.int j)) (decide (j < i)) := ⟨⟨_, fun _ _ => op_gt, fun X c A1 ex S H v u f r1 r2 Q q => ⟨i, j, Rp.int_of r1, Rp.int_of r2, q⟩⟩, nm_of (by decide) (by decide)⟩
theorem c_ge : CmpD g I A .GtE (.d (.int i)) (.d (.int j)) (decide (j ≤ i)) := ⟨⟨_, fun _ _ => op_ge, fun X c A1 ex S H v u f r1 r2 Q q => ⟨i, j, Rp.int_of r1, Rp.int_of r2, q⟩⟩, nm_of (by decide) (by decide)⟩
theorem c_eqI : CmpD g I A .Eq (.d (.int i)) (.d (.int j)) (decide (i = j)) := ⟨⟨_, fun _ _ => op_eq, fun X c A1 ex S H v u f r1 r2 Q q => by
  cases Rp.int_of r1; cases Rp.int_of r2
  exact ⟨rfl, by rw [show decide (V.int i = V.int j) = decide (i = j) by rw [dec_int, Bool.beq_eq_decide_eq]]; exact q⟩⟩, nm_of (by decide) (by decide)⟩
theorem c_neI : CmpD g I A .NotEq (.d (.int i)) (.d (.int j)) (!decide (i = j)) := ⟨⟨_, fun _ _ => op_ne, fun X c A1 ex S H v u f r1 r2 Q q => by
  cases Rp.int_of r1; cases Rp.int_of r2
  exact ⟨rfl, by rw [show decide (V.int i = V.int j) = decide (i = j) by rw [dec_int, Bool.beq_eq_decide_eq]]; exact q⟩⟩, nm_of (by decide) (by decide)⟩
theorem c_neB {x y : Bool} : CmpD g I A .NotEq (.d (.bool x)) (.d (.bool y)) (!decide (x = y)) := ⟨⟨_, fun _ _ => op_ne, fun X c A1 ex S H v u f r1 r2 Q q => by
  cases Rp.bl_of r1; cases Rp.bl_of r2
  exact ⟨rfl, by rw [show decide (V.bl x = V.bl y) = decide (x = y) by rw [dec_bl, Bool.beq_eq_decide_eq]]; exact q⟩⟩, nm_of (by decide) (by decide)⟩
theorem c_eqB {x y : Bool} : CmpD g I A .Eq (.d (.bool x)) (.d (.bool y)) (decide (x = y)) := ⟨⟨_, fun _ _ => op_eq, fun X c A1 ex S H v u f r1 r2 Q q => by
  cases Rp.bl_of r1; cases Rp.bl_of r2
  exact ⟨rfl, by rw [show decide (V.bl x = V.bl y) = decide (x = y) by rw [dec_bl, Bool.beq_eq_decide_eq]]; exact q⟩⟩, nm_of (by decide) (by decide)⟩
theorem c_eqS {x y : Str} : CmpD g I A .Eq (.d (.str x)) (.d (.str y)) (decide (x = y)) := ⟨⟨_, fun _ _ => op_eq, fun X c A1 ex S H v u f r1 r2 Q q => by
  cases Rp.str_of r1; cases Rp.str_of r2
  exact ⟨rfl, by rw [show decide (V.str x = V.str y) = decide (x = y) by rw [dec_str]; by_cases e : x = y <;> simp [e]]; exact q⟩⟩, nm_of (by decide) (by decide)⟩
theorem c_neS {x y : Str} : CmpD g I A .NotEq (.d (.str x)) (.d (.str y)) (!decide (x = y)) := ⟨⟨_, fun _ _ => op_ne, fun X c A1 ex S H v u f r1 r2 Q q => by
  cases Rp.str_of r1; cases Rp.str_of r2
  exact ⟨rfl, by rw [show decide (V.str x = V.str y) = decide (x = y) by rw [dec_str]; by_cases e : x = y <;> simp [e]]; exact q⟩⟩, nm_of (by decide) (by decide)⟩
/-- == of data of any kind -/
theorem c_eqD {x y : PyData} (hx : SeqAt.shaped x = true) (hy : SeqAt.shaped y = true) : CmpD g I A .Eq (.d x) (.d y) (PyData.eqv x y) :=
  ⟨⟨_, fun X c => op_eqD c.room.units, fun X c A1 ex S H v u f r1 r2 Q q => ⟨x, y, (Rp.mono f.same r1).dp, (Rp.mono f.same r2).dp, hx, hy, q⟩⟩, nm_of (by decide) (by decide)⟩
theorem c_neD {x y : PyData} (hx : SeqAt.shaped x = true) (hy : SeqAt.shaped y = true) : CmpD g I A .NotEq (.d x) (.d y) (!PyData.eqv x y) :=
  ⟨⟨_, fun X c => op_neD c.room.units, fun X c A1 ex S H v u f r1 r2 Q q => ⟨x, y, (Rp.mono f.same r1).dp, (Rp.mono f.same r2).dp, hx, hy, q⟩⟩, nm_of (by decide) (by decide)⟩
def isNone : DV → Bool
  | .d .none => true
  | _ => false
theorem isNone_V {S : Hp} {v : V} : ∀ {dv : DV}, RepV S v dv → decide (v = .non) = isNone dv
  | .d x, r => by cases r <;> rfl
  | .r a, r => by rw [show v = .ref a from r]; rfl
  | .x _, ⟨a, e, _⟩ => by rw [e]; rfl
  | .f _ _, ⟨a, e, _⟩ => by rw [e]; rfl
  | .t n, r => by rw [show v = .ty n from r]; rfl
theorem c_is {dv : DV} : CmpD g I A .Is dv (.d .none) (isNone dv) := ⟨⟨_, fun _ _ => op_isN, fun X c A1 ex S H v u f r1 r2 Q q => ⟨Rp.non_of r2, by rw [isNone_V r1]; exact q⟩⟩, nm_of (by decide) (by decide)⟩
theorem c_isnot {dv : DV} : CmpD g I A .IsNot dv (.d .none) (!isNone dv) := ⟨⟨_, fun _ _ => op_notN, fun X c A1 ex S H v u f r1 r2 Q q => ⟨Rp.non_of r2, by rw [isNone_V r1]; exact q⟩⟩, nm_of (by decide) (by decide)⟩
theorem flat_ints : ∀ ns : List Int, (ns.map V.int).all flatV = true
  | [] => rfl
  | n :: ns => by rw [List.map_cons, List.all_cons, flat_ints ns]; rfl
theorem inV_ints {k : Int} : ∀ ns : List Int, inV (.int k) (ns.map V.int) = decide (k ∈ ns)
  | [] => rfl
  | n :: ns => by
    have ih := inV_ints (k := k) ns
    unfold inV at ih ⊢
    rw [List.map_cons, List.any_cons, ih]
    have e : eqV (V.int n) (V.int k) = (n == k) := rfl
    rw [e, Bool.beq_eq_decide_eq]
    by_cases q : n = k
    · subst q; simp
    · have q' : ¬ k = n := fun z => q z.symm
      simp [q, q']
theorem c_inI {k : Int} {ns : List Int} : CmpD g I A .In (.d (.int k)) (.d (.list (ns.map .int))) (decide (k ∈ ns)) := ⟨⟨_, fun _ _ => op_in_seq, fun X c A1 ex S H v u f r1 r2 Q q => by
  obtain ⟨l, vs, rfl, h1, q1⟩ := Rp.lst_of r2
  obtain rfl := q1.ints
  cases Rp.int_of r1
  exact ⟨l, _, rfl, .inl (.of (f.same _ _ h1)), rfl, flat_ints ns, by simpa [inV_ints] using q⟩⟩, fun _ => .inr (.inl rfl)⟩
theorem c_ninI {k : Int} {ns : List Int} : CmpD g I A .NotIn (.d (.int k)) (.d (.list (ns.map .int))) (!decide (k ∈ ns)) := ⟨⟨_, fun _ _ => op_notIn_seq, fun X c A1 ex S H v u f r1 r2 Q q => by
  obtain ⟨l, vs, rfl, h1, q1⟩ := Rp.lst_of r2
  obtain rfl := q1.ints
  cases Rp.int_of r1
  exact ⟨l, _, rfl, .inl (.of (f.same _ _ h1)), rfl, flat_ints ns, by simpa [inV_ints] using q⟩⟩, fun _ => .inr (.inr rfl)⟩
theorem c_inD {x : PyData} {ys : List PyData} (hx : SeqAt.shaped x = true) (hy : SeqAt.shaped (.list ys) = true) : CmpD g I A .In (.d x) (.d (.list ys)) (ys.any fun z => PyData.eqv z x) :=
  ⟨⟨_, fun X c => op_inD (by have := c.room.un; omega), fun X c A1 ex S H v u f r1 r2 Q q => ⟨x, ys, (Rp.mono f.same r1).dp, (Rp.mono f.same r2).dp, hx, hy, q⟩⟩, fun _ => .inr (.inl rfl)⟩
theorem c_ninD {x : PyData} {ys : List PyData} (hx : SeqAt.shaped x = true) (hy : SeqAt.shaped (.list ys) = true) : CmpD g I A .NotIn (.d x) (.d (.list ys)) (!ys.any fun z => PyData.eqv z x) :=
  ⟨⟨_, fun X c => op_notInD (by have := c.room.un; omega), fun X c A1 ex S H v u f r1 r2 Q q => ⟨x, ys, (Rp.mono f.same r1).dp, (Rp.mono f.same r2).dp, hx, hy, q⟩⟩, fun _ => .inr (.inr rfl)⟩

/-! ### a op b op' c -/
theorem de_chain {op op' : CmpOp} {d1 d2 d3 : DV} {k k' : Bool} (h1 : CmpD g I A op d1 d2 k) (h2 : CmpD g I A op' d2 d3 k') (ha : VE g I Γ A a d1) (hb : VE g I Γ A b d2) (hc : k = true → VE g I Γ A c d3)
    (hm : lastMarks [op, op'] [b, c] = false := by rfl) : DE g I Γ A (.Compare a [op, op'] [b, c] pos) (.bool (k && k')) := by
  obtain ⟨r, x1, x2⟩ := h1.ex
  obtain ⟨r', y1, y2⟩ := h2.ex
  intro X cx A1 ex S H σ he hf Q q
  refine (pe_chain (x1 X cx) (y1 X cx) PE.s PE.s PE.s hm).to (ha X cx A1 ex S H σ he hf _ fun v S1 H1 s1 f1 r1 => hb X cx A1 ex S1 H1 σ (he.mono s1) f1 _ fun u S2 H2 s2 f2 r2 => ?_)
  refine x2 X cx A1 ex S2 H2 v u f2 (r1.mono s2) r2 _ ⟨k, rfl, ?_⟩
  cases k with
  | false => rw [if_neg Bool.false_ne_true]; exact q _ S2 H2 (s1.trans s2) f2 (.bl false)
  | true =>
    rw [if_pos rfl]
    refine hc rfl X cx A1 ex S2 H2 σ (he.mono (s1.trans s2)) f2 _ fun w' S3 H3 s3 f3 r3 => ?_
    exact y2 X cx A1 ex S3 H3 u w' f3 (r2.mono s3) r3 _ (q _ S3 H3 ((s1.trans s2).trans s3) f3 (.bl k'))
theorem dt_chain {op op' : CmpOp} {d1 d2 d3 : DV} {k k' : Bool} (h1 : CmpD g I A op d1 d2 k) (h2 : CmpD g I A op' d2 d3 k') (ha : VE g I Γ A a d1) (hb : VE g I Γ A b d2) (hc : k = true → VE g I Γ A c d3)
    (hm : lastMarks [op, op'] [b, c] = false := by rfl) : DT g I Γ A (.Compare a [op, op'] [b, c] pos) (k && k') := by
  obtain ⟨r, x1, x2⟩ := h1.ex
  obtain ⟨r', y1, y2⟩ := h2.ex
  intro X cx A1 ex S H σ he hf Q q
  refine (pt_chain (x1 X cx) (y1 X cx) PE.s PE.s PE.s hm).to (ha X cx A1 ex S H σ he hf _ fun v S1 H1 s1 f1 r1 => hb X cx A1 ex S1 H1 σ (he.mono s1) f1 _ fun u S2 H2 s2 f2 r2 => ?_)
  refine x2 X cx A1 ex S2 H2 v u f2 (r1.mono s2) r2 _ ⟨k, rfl, ?_⟩
  cases k with
  | false => rw [if_neg Bool.false_ne_true]; exact ⟨false, rfl, q S2 H2 (s1.trans s2) f2⟩
  | true =>
    rw [if_pos rfl]
    refine hc rfl X cx A1 ex S2 H2 σ (he.mono (s1.trans s2)) f2 _ fun w' S3 H3 s3 f3 r3 => ?_
    exact y2 X cx A1 ex S3 H3 u w' f3 (r2.mono s3) r3 _ ⟨k', rfl, q S3 H3 ((s1.trans s2).trans s3) f3⟩
/-- three comparisons in a row, as a test -/
theorem dt_chain3 {op op' op'' : CmpOp} {e4 : Expr} {d1 d2 d3 d4 : DV} {k k' k'' : Bool} (h1 : CmpD g I A op d1 d2 k) (h2 : CmpD g I A op' d2 d3 k') (h3 : CmpD g I A op'' d3 d4 k'') (ha : VE g I Γ A a d1) (hb : VE g I Γ A b d2) (hc : k = true → VE g I Γ A c d3) (hd : k = true → k' = true → VE g I Γ A e4 d4)
    (hm : lastMarks [op, op', op''] [b, c, e4] = false := by rfl) : DT g I Γ A (.Compare a [op, op', op''] [b, c, e4] pos) (k && (k' && k'')) := by
  obtain ⟨r, x1, x2⟩ := h1.ex
  obtain ⟨r', y1, y2⟩ := h2.ex
  obtain ⟨r'', z1, z2⟩ := h3.ex
  intro X cx A1 ex S H σ he hf Q q pins s Iv
  refine isTrue_chain (thn (ha X cx A1 ex S H σ he hf (fun v H1 => ∃ S1, Same S S1 ∧ Fit S1 A1 H1 ∧ RepV S1 v d1) (fun v S1 H1 s1 f1 r1 => ⟨S1, s1, f1, r1⟩) pins s Iv) fun v s1 ⟨x, H1, I1, rx, S1, t1, f1, q1⟩ => ?_) hm
  refine test_link (thn (hb X cx A1 ex S1 H1 σ (he.mono t1) f1 (fun v H2 => ∃ S2, Same S1 S2 ∧ Fit S2 A1 H2 ∧ RepV S2 v d2) (fun v S1 H1 s1 f1 r1 => ⟨S1, s1, f1, r1⟩) pins s1 I1) fun u s2 ⟨y, H2, I2, ry, S2, t2, f2, q2⟩ => ?_)
  refine thn (x1 X cx pins s2 σ H2 x y v u (fun z H3 => z = .bl k ∧ H3 = H2) I2 rx ry (x2 X cx A1 ex S2 H2 x y f2 (q1.mono t2) q2 _ ⟨rfl, rfl⟩)) fun d s3 ⟨z, H3, I3, r3, ez, eh⟩ => ?_
  subst ez eh
  cases r3
  refine wpAny_truthy_bool ?_
  cases k with
  | false => exact ⟨H3, I3, q S2 H3 (t1.trans t2) f2⟩
  | true =>
    rw [if_pos rfl]
    refine test_link (thn (hc rfl X cx A1 ex S2 H3 σ (he.mono (t1.trans t2)) f2 (fun v H2 => ∃ S3, Same S2 S3 ∧ Fit S3 A1 H2 ∧ RepV S3 v d3) (fun v S1 H1 s1 f1 r1 => ⟨S1, s1, f1, r1⟩) pins s3 I3) fun u3 s4 ⟨y3, H4, I4, r4, S3, t3, f3, q3⟩ => ?_)
    refine thn (y1 X cx pins s4 σ H4 y y3 u u3 (fun z H3 => z = .bl k' ∧ H3 = H4) I4 ry r4 (y2 X cx A1 ex S3 H4 y y3 f3 (q2.mono t3) q3 _ ⟨rfl, rfl⟩)) fun d s5 ⟨z, H5, I5, r5, ez, eh⟩ => ?_
    subst ez eh
    cases r5
    refine wpAny_truthy_bool ?_
    cases k' with
    | false => exact ⟨H5, I5, q S3 H5 ((t1.trans t2).trans t3) f3⟩
    | true =>
      rw [if_pos rfl]
      refine test_last (thn (hd rfl rfl X cx A1 ex S3 H5 σ (he.mono ((t1.trans t2).trans t3)) f3 (fun v H2 => ∃ S4, Same S3 S4 ∧ Fit S4 A1 H2 ∧ RepV S4 v d4) (fun v S1 H1 s1 f1 r1 => ⟨S1, s1, f1, r1⟩) pins s5 I5) fun u4 s6 ⟨y4, H6, I6, r6, S4, t4, f4, q4⟩ => ?_)
      refine thn (z1 X cx pins s6 σ H6 y3 y4 u3 u4 (fun z H3 => z = .bl k'' ∧ H3 = H6) I6 r4 r6 (z2 X cx A1 ex S4 H6 y3 y4 f4 (q3.mono t4) q4 _ ⟨rfl, rfl⟩)) fun d s7 ⟨z, H7, I7, r7, ez, eh⟩ => ?_
      subst ez eh
      cases r7
      exact wpAny_truthy_bool ⟨H7, I7, q S4 H7 (((t1.trans t2).trans t3).trans t4) f4⟩

/-! ### tests -/
/-- an expression whose value is True or False (no comparison, no and, or, not) -/
theorem dt_val {k : Bool} (h : DE g I Γ A e (.bool k)) (he : ∀ env whole, isTrue e env whole = (do let v ← whole; standAt e.pos; holding [v] (truthy v)) := by intro _ _; rfl) : DT g I Γ A e k := by
  intro X c A1 ex S H σ hv hf Q q
  refine (pt_val PE.s (he X.env)).to (h X c A1 ex S H σ hv hf _ fun v S1 H1 s1 f1 r1 => ⟨k, Rp.bl_of r1, q S1 H1 s1 f1⟩)
/-- what a value is worth as a test -/
def truD : PyData → Bool
  | .none => false
  | .bool b => b
  | .int i => i != 0
  | .str x => (x.length : Int) != 0
  | .list xs => !xs.isEmpty
  | .tuple xs => !xs.isEmpty
  | .dict _ => false
theorem isEmpty_all {S : Hp} {vs : List V} {ds : List PyData} (r : RpAll S vs ds) : vs.isEmpty = ds.isEmpty := by cases r <;> rfl
theorem dt_truth {d : PyData} (h : DE g I Γ A e d) (hs : ∀ x, d = .str x → x.length ≤ sizeLine) (he : ∀ env whole, isTrue e env whole = (do let v ← whole; standAt e.pos; holding [v] (truthy v)) := by intro _ _; rfl) : DT g I Γ A e (truD d) := by
  intro X c A1 ex S H σ hv hf Q q
  refine (pt_truth PE.s (he X.env)).to (h X c A1 ex S H σ hv hf _ fun v S1 H1 s1 f1 r1 => ?_)
  refine ⟨truD d, ?_, q S1 H1 s1 f1⟩
  cases r1 with
  | non => rfl
  | bl b => rfl
  | int i => rfl
  | str x => exact ⟨hs _ rfl, rfl⟩
  | lst h0 r => exact .inl ⟨_, .of (f1.same _ _ h0), by rw [isEmpty_all r]; rfl⟩
  | tup h0 r => exact .inr (.inl ⟨_, .of (f1.same _ _ h0), by rw [isEmpty_all r]; rfl⟩)
theorem dt_truthO {l : Addr} {xs : List DV} (h : VE g I Γ A e (.r l)) (hl : A l = some (aoL xs)) (he : ∀ env whole, isTrue e env whole = (do let v ← whole; standAt e.pos; holding [v] (truthy v)) := by intro _ _; rfl) : DT g I Γ A e (!xs.isEmpty) := by
  intro X c A1 ex S H σ hv hf Q q
  refine (pt_truth PE.s (he X.env)).to (h X c A1 ex S H σ hv hf _ fun v S1 H1 s1 f1 r1 => ?_)
  obtain ⟨vs, h1, h2⟩ := f1.list (ex _ _ hl)
  rw [show v = .ref l from r1]
  exact ⟨!xs.isEmpty, .inl ⟨vs, .of h1, by cases h2 <;> rfl⟩, q S1 H1 s1 f1⟩
theorem dt_truthF {ns : List Int} (h : VE g I Γ A e (.f g.K ns)) (he : ∀ env whole, isTrue e env whole = (do let v ← whole; standAt e.pos; holding [v] (truthy v)) := by intro _ _; rfl) : DT g I Γ A e (!ns.isEmpty) := by
  intro X c A1 ex S H σ hv hf Q q
  refine (pt_truth PE.s (he X.env)).to (h X c A1 ex S H σ hv hf _ fun v S1 H1 s1 f1 r1 => ?_)
  obtain ⟨l, rfl, h1⟩ := r1
  obtain ⟨ea, rfl⟩ := c.eq
  exact ⟨!ns.isEmpty, .inl ⟨_, h1 _ f1.same, by cases ns <;> rfl⟩, q S1 H1 s1 f1⟩
theorem dt_not {k : Bool} (h : DT g I Γ A e k) : DT g I Γ A (.UnaryOp .Not e pos) (!k) := fun X c A1 ex S H σ hv hf Q q =>
  (pt_not PT.s).to (h X c A1 ex S H σ hv hf _ fun S' H' s f => q S' H' s f)
variable {es : List Expr} {k k' : Bool}
theorem dw_and1 (h : DT g I Γ A a k) : DW g I Γ A (.BoolOp .And [a] pos) k := fun X c A1 ex S H σ hv hf Q q => (pw_and1 PT.s).to (h X c A1 ex S H σ hv hf Q q)
theorem dw_or1 (h : DT g I Γ A a k) : DW g I Γ A (.BoolOp .Or [a] pos) k := fun X c A1 ex S H σ hv hf Q q => (pw_or1 PT.s).to (h X c A1 ex S H σ hv hf Q q)
theorem dw_and (h : DT g I Γ A a k) (hr : k = true → DW g I Γ A (.BoolOp .And (b :: es) pos) k') : DW g I Γ A (.BoolOp .And (a :: b :: es) pos) (k && k') := fun X c A1 ex S H σ hv hf Q q =>
  (pw_and PT.s PW.s).to (h X c A1 ex S H σ hv hf _ fun S' H' s f => by
    cases k with
    | false => rw [if_neg Bool.false_ne_true]; exact q S' H' s f
    | true => rw [if_pos rfl]; exact hr rfl X c A1 ex S' H' σ (hv.mono s) f Q fun S2 H2 s2 f2 => q S2 H2 (s.trans s2) f2)
theorem dw_or (h : DT g I Γ A a k) (hr : k = false → DW g I Γ A (.BoolOp .Or (b :: es) pos) k') : DW g I Γ A (.BoolOp .Or (a :: b :: es) pos) (k || k') := fun X c A1 ex S H σ hv hf Q q =>
  (pw_or PT.s PW.s).to (h X c A1 ex S H σ hv hf _ fun S' H' s f => by
    cases k with
    | true => rw [if_pos rfl]; exact q S' H' s f
    | false => rw [if_neg Bool.false_ne_true]; exact hr rfl X c A1 ex S' H' σ (hv.mono s) f Q fun S2 H2 s2 f2 => q S2 H2 (s.trans s2) f2)
theorem dt_and (h : DT g I Γ A a k) (hr : k = true → DW g I Γ A (.BoolOp .And (b :: es) pos) k') : DT g I Γ A (.BoolOp .And (a :: b :: es) pos) (k && k') := (dw_and h hr).t
theorem dt_or (h : DT g I Γ A a k) (hr : k = false → DW g I Γ A (.BoolOp .Or (b :: es) pos) k') : DT g I Γ A (.BoolOp .Or (a :: b :: es) pos) (k || k') := (dw_or h hr).t
/-! .. as values -/
theorem de_one {op : BoolOp} {d : PyData} (h : DE g I Γ A a d) : DE g I Γ A (.BoolOp op [a] pos) d := fun X c A1 ex S H σ hv hf Q q => (pe_one PE.s).to (h X c A1 ex S H σ hv hf Q q)
theorem de_and (h : DE g I Γ A a (.bool k)) (hr : k = true → DE g I Γ A (.BoolOp .And (b :: es) pos) (.bool k')) : DE g I Γ A (.BoolOp .And (a :: b :: es) pos) (.bool (k && k')) := fun X c A1 ex S H σ hv hf Q q =>
  (pe_and PE.s PE.s).to (h X c A1 ex S H σ hv hf _ fun v S' H' s f r => ⟨k, Rp.bl_of r, by
    cases k with
    | false => rw [if_neg Bool.false_ne_true]; exact q _ S' H' s f (.bl false)
    | true => rw [if_pos rfl]; exact hr rfl X c A1 ex S' H' σ (hv.mono s) f Q fun v S2 H2 s2 f2 => q v S2 H2 (s.trans s2) f2⟩)
theorem de_or (h : DE g I Γ A a (.bool k)) (hr : k = false → DE g I Γ A (.BoolOp .Or (b :: es) pos) (.bool k')) : DE g I Γ A (.BoolOp .Or (a :: b :: es) pos) (.bool (k || k')) := fun X c A1 ex S H σ hv hf Q q =>
  (pe_or PE.s PE.s).to (h X c A1 ex S H σ hv hf _ fun v S' H' s f r => ⟨k, Rp.bl_of r, by
    cases k with
    | true => rw [if_pos rfl]; exact q _ S' H' s f (.bl true)
    | false => rw [if_neg Bool.false_ne_true]; exact hr rfl X c A1 ex S' H' σ (hv.mono s) f Q fun v S2 H2 s2 f2 => q v S2 H2 (s.trans s2) f2⟩)
theorem de_not (h : DE g I Γ A a (.bool k)) : DE g I Γ A (.UnaryOp .Not a pos) (.bool (!k)) := fun X c A1 ex S H σ hv hf Q q =>
  (pe_not PE.s).to (h X c A1 ex S H σ hv hf _ fun v S' H' s f r => ⟨k, Rp.bl_of r, q _ S' H' s f (.bl _)⟩)
theorem ve_if {d1 d2 : DV} (h : DT g I Γ A c k) (h1 : k = true → VE g I Γ A a d1) (h2 : k = false → VE g I Γ A b d2) : VE g I Γ A (.IfExp c a b pos) (if k = true then d1 else d2) := fun X cx A1 ex S H σ hv hf Q q =>
  (pe_ifExp PT.s PE.s PE.s).to (h X cx A1 ex S H σ hv hf _ fun S' H' s f => by
    cases k with
    | true =>
      rw [if_pos rfl] at q ⊢
      exact h1 rfl X cx A1 ex S' H' σ (hv.mono s) f Q fun v S2 H2 s2 f2 => q v S2 H2 (s.trans s2) f2
    | false =>
      rw [if_neg Bool.false_ne_true] at q ⊢
      exact h2 rfl X cx A1 ex S' H' σ (hv.mono s) f Q fun v S2 H2 s2 f2 => q v S2 H2 (s.trans s2) f2)
theorem de_if {d1 d2 : PyData} (h : DT g I Γ A c k) (h1 : k = true → DE g I Γ A a d1) (h2 : k = false → DE g I Γ A b d2) : DE g I Γ A (.IfExp c a b pos) (if k = true then d1 else d2) := by
  have h3 := ve_if (pos := pos) h h1 h2
  cases k with
  | true => exact h3
  | false => exact h3

/-! ### arguments -/
variable {ds : List DV} {d : DV}
theorem va_nil : VA g I Γ A [] [] := fun X c A1 ex S H σ hv hf Q q => pa_nil.to (q _ S H (Same.refl S) hf .nil)
theorem va_cons (h : VE g I Γ A e d) (hr : VA g I Γ A es ds) (hn : nostar e = true := by rfl) : VA g I Γ A (e :: es) (d :: ds) := fun X c A1 ex S H σ hv hf Q q =>
  (pa_cons PE.s PA.s (star_cons hn es X.env)).to (h X c A1 ex S H σ hv hf _ fun v S1 H1 s1 f1 r1 => hr X c A1 ex S1 H1 σ (hv.mono s1) f1 _ fun vs S2 H2 s2 f2 r2 => q _ S2 H2 (s1.trans s2) f2 (.cons (r1.mono s2) r2))
/-- a built-in by its name -/
theorem ve_callB {x : Str} {id : String} {p : Pos} {r : Cx → List V → Hp → VK → Prop} {dv : DV} (hc : ∀ X, Cok g I X → CallR X (.builtin id) (r X))
    (hr : ∀ X, Cok g I X → ∀ A1, ExtA A A1 → ∀ S H vs, Fit S A1 H → RepVs S vs ds → ∀ Q : VK, (∀ v' S' H', Same S S' → Fit S' A1 H' → RepV S' v' dv → Q v' H') → r X vs H Q)
    (hg : GlS I.sc x) (hm : g.mg x = none) (hv : bootBuiltins x = some (.builtin id)) (ha : VA g I Γ A (e :: es) ds) (hn : nostar e = true) (hs : es.all nostar = true) (h1 : x ≠ "__name__") (h2 : (x == ("__debug__" : Str)) = false) : VE g I Γ A (.Call (.Name x p) (e :: es) [] pos) dv := by
  intro X c A1 ex S H σ he hf Q q
  obtain ⟨ea, rfl⟩ := c.eq
  refine (pe_callB (hc X c) (hg.gl c.sc) hm hv PA.s h1 h2 (star_cons hn es X.env) (star_any pos X.env hs)).to (ha X c A1 ex S H σ he hf _ fun vs S1 H1 s1 f1 r1 => ?_)
  exact hr X c A1 ex S1 H1 vs f1 r1 Q fun v' S' H' s' f' r' => q v' S' H' (s1.trans s') f' r'
theorem ve_callTy {x : Str} {T : String} {p : Pos} {r : Cx → List V → Hp → VK → Prop} {dv : DV} (hc : ∀ X, Cok g I X → CallR X (.type T) (r X))
    (hr : ∀ X, Cok g I X → ∀ A1, ExtA A A1 → ∀ S H vs, Fit S A1 H → RepVs S vs ds → ∀ Q : VK, (∀ v' S' H', Same S S' → Fit S' A1 H' → RepV S' v' dv → Q v' H') → r X vs H Q)
    (hg : GlS I.sc x) (hm : g.mg x = none) (hv : bootBuiltins x = some (.type T)) (ha : VA g I Γ A (e :: es) ds) (hn : nostar e = true) (hs : es.all nostar = true) (h1 : x ≠ "__name__") (h2 : (x == ("__debug__" : Str)) = false) : VE g I Γ A (.Call (.Name x p) (e :: es) [] pos) dv := by
  intro X c A1 ex S H σ he hf Q q
  obtain ⟨ea, rfl⟩ := c.eq
  refine (pe_callTy (hc X c) (hg.gl c.sc) hm hv PA.s h1 h2 (star_cons hn es X.env) (star_any pos X.env hs)).to (ha X c A1 ex S H σ he hf _ fun vs S1 H1 s1 f1 r1 => ?_)
  exact hr X c A1 ex S1 H1 vs f1 r1 Q fun v' S' H' s' f' r' => q v' S' H' (s1.trans s') f' r'
end
end LB

/-! Layer 4: built-in calls, subscripts, slices, displays. -/
namespace LB
open PySem PySem.Spec PyProof.Rows L2

/-- a list that may be read: frozen, or owned and of data -/
inductive IsL (A : AH) : DV → List PyData → Prop
  | d (xs : List PyData) : IsL A (.d (.list xs)) xs
  | o {l : Addr} {xs : List PyData} (h : A l = some (aoL (xs.map .d))) : IsL A (.r l) xs
/-- a list or a tuple -/
inductive IsQ (A : AH) : DV → List PyData → Prop
  | l {dv : DV} {xs : List PyData} (h : IsL A dv xs) : IsQ A dv xs
  | t (xs : List PyData) : IsQ A (.d (.tuple xs)) xs
theorem RepVs.rp {S : Hp} {vs : List V} {xs : List PyData} (h : RepVs S vs (xs.map .d)) : RpAll S vs xs := h.data
theorem IsL.sq {A A1 : AH} {dv : DV} {xs : List PyData} (h : IsL A dv xs) (ex : ExtA A A1) {S H : Hp} {v : V} (f : Fit S A1 H) (r : RepV S v dv) : ∃ a vs, v = .ref a ∧ H a = some (.lst vs) ∧ RpAll S vs xs := by
  cases h with
  | d =>
    obtain ⟨a, vs, e, h1, h2⟩ := Rp.lst_of r
    exact ⟨a, vs, e, f.same _ _ h1, h2⟩
  | o h =>
    obtain ⟨vs, h1, h2⟩ := f.list (ex _ _ h)
    exact ⟨_, vs, r, h1, h2.rp⟩
theorem IsL.ext {A A1 : AH} {dv : DV} {xs : List PyData} (h : IsL A dv xs) (ex : ExtA A A1) : IsL A1 dv xs := by
  cases h with
  | d => exact .d _
  | o h => exact .o (ex _ _ h)
theorem IsQ.ext {A A1 : AH} {dv : DV} {xs : List PyData} (h : IsQ A dv xs) (ex : ExtA A A1) : IsQ A1 dv xs := by
  cases h with
  | l h => exact .l (h.ext ex)
  | t => exact .t _
theorem RepVs.one {S : Hp} {vs : List V} {d : DV} (r : RepVs S vs [d]) : ∃ v, vs = [v] ∧ RepV S v d := by
  cases r with
  | cons h t => cases t; exact ⟨_, rfl, h⟩
theorem RepVs.two {S : Hp} {vs : List V} {d d' : DV} (r : RepVs S vs [d, d']) : ∃ v u, vs = [v, u] ∧ RepV S v d ∧ RepV S u d' := by
  cases r with
  | cons h t => cases t with
    | cons h2 t => cases t; exact ⟨_, _, rfl, h, h2⟩

/-! ### the greatest and the least of a list -/
def maxL : List Int → Int
  | [] => 0
  | [x] => x
  | x :: y :: r => if maxL (y :: r) > x then maxL (y :: r) else x
def minL : List Int → Int
  | [] => 0
  | [x] => x
  | x :: y :: r => if minL (y :: r) < x then minL (y :: r) else x
theorem maxL_spec : ∀ (ns : List Int), ns ≠ [] → maxL ns ∈ ns ∧ ∀ y ∈ ns, y ≤ maxL ns
  | [], h => absurd rfl h
  | [x], _ => by simp [maxL]
  | x :: y :: r, _ => by
    obtain ⟨h1, h2⟩ := maxL_spec (y :: r) (by simp)
    show (if maxL (y :: r) > x then maxL (y :: r) else x) ∈ _ ∧ ∀ z ∈ _, z ≤ (if maxL (y :: r) > x then maxL (y :: r) else x)
    by_cases e : maxL (y :: r) > x
    · rw [if_pos e]
      refine ⟨List.mem_cons_of_mem _ h1, fun z hz => ?_⟩
      rcases List.mem_cons.mp hz with rfl | hz
      · omega
      · exact h2 z hz
    · rw [if_neg e]
      refine ⟨List.mem_cons_self, fun z hz => ?_⟩
      rcases List.mem_cons.mp hz with rfl | hz
      · omega
      · have := h2 z hz; omega
theorem minL_spec : ∀ (ns : List Int), ns ≠ [] → minL ns ∈ ns ∧ ∀ y ∈ ns, minL ns ≤ y
  | [], h => absurd rfl h
  | [x], _ => by simp [minL]
  | x :: y :: r, _ => by
    obtain ⟨h1, h2⟩ := minL_spec (y :: r) (by simp)
    show (if minL (y :: r) < x then minL (y :: r) else x) ∈ _ ∧ ∀ z ∈ _, (if minL (y :: r) < x then minL (y :: r) else x) ≤ z
    by_cases e : minL (y :: r) < x
    · rw [if_pos e]
      refine ⟨List.mem_cons_of_mem _ h1, fun z hz => ?_⟩
      rcases List.mem_cons.mp hz with rfl | hz
      · omega
      · exact h2 z hz
    · rw [if_neg e]
      refine ⟨List.mem_cons_self, fun z hz => ?_⟩
      rcases List.mem_cons.mp hz with rfl | hz
      · omega
      · have := h2 z hz; omega

section
variable {g : Gv} {I : CI} {R : Rz} {Γ : Gam} {A : AH} {pos p : Pos} {e a b c : Expr} {dv : DV} {xs : List PyData} {ns : List Int} {i j k : Int}

theorem de_len (h : VE g I Γ A e dv) (q : IsQ A dv xs) (hg : GlS I.sc "len") (hm : g.mg "len" = none) (hn : nostar e = true := by rfl) : DE g I Γ A (.Call (.Name "len" p) [e] [] pos) (.int xs.length) :=
  ve_callB (fun _ _ => call_len_seq) (fun X cx A1 ex S H vs f rr Q z => by
    obtain ⟨v, rfl, r⟩ := rr.one
    cases q with
    | l q =>
      obtain ⟨l, ws, rfl, h1, h2⟩ := q.sq ex f r
      exact ⟨l, ws, rfl, .inl (.of h1), z _ S H (Same.refl S) f (by rw [h2.length]; exact .int _)⟩
    | t =>
      obtain ⟨l, ws, rfl, h1, h2⟩ := Rp.tup_of r
      exact ⟨l, ws, rfl, .inr (.of (f.same _ _ h1)), z _ S H (Same.refl S) f (by rw [h2.length]; exact .int _)⟩) hg hm boot_len (va_cons h va_nil hn) hn rfl (by decide) (by decide)
theorem de_lenS {x : Str} (h : DE g I Γ A e (.str x)) (hz : x.length ≤ sizeLine) (hg : GlS I.sc "len") (hm : g.mg "len" = none) (hn : nostar e = true := by rfl) : DE g I Γ A (.Call (.Name "len" p) [e] [] pos) (.int x.length) :=
  ve_callB (fun _ _ => call_len_str) (fun X cx A1 ex S H vs f rr Q z => by
    obtain ⟨v, rfl, r⟩ := rr.one
    exact ⟨x, by rw [Rp.str_of r], hz, z _ S H (Same.refl S) f (.int _)⟩) hg hm boot_len (va_cons h va_nil hn) hn rfl (by decide) (by decide)
theorem de_lenF (h : VE g I Γ A e (.f g.K ns)) (hg : GlS I.sc "len") (hm : g.mg "len" = none) (hn : nostar e = true := by rfl) : DE g I Γ A (.Call (.Name "len" p) [e] [] pos) (.int ns.length) :=
  ve_callB (fun _ _ => call_len_seq) (fun X cx A1 ex S H vs f rr Q z => by
    obtain ⟨v, rfl, l, rfl, r⟩ := rr.one
    obtain ⟨ea, rfl⟩ := cx.eq
    exact ⟨l, _, rfl, .inl (r _ f.same), z _ S H (Same.refl S) f (by rw [List.length_map]; exact .int _)⟩) hg hm boot_len (va_cons h va_nil hn) hn rfl (by decide) (by decide)
theorem boot_sum' : bootBuiltins "sum" = some (.builtin "sum") := by decide +kernel
theorem boot_min' : bootBuiltins "min" = some (.builtin "min") := by decide +kernel
theorem boot_max' : bootBuiltins "max" = some (.builtin "max") := by decide +kernel
theorem boot_abs' : bootBuiltins "abs" = some (.builtin "abs") := by decide +kernel
theorem boot_all' : bootBuiltins "all" = some (.builtin "all") := by decide +kernel
theorem boot_any' : bootBuiltins "any" = some (.builtin "any") := by decide +kernel
theorem boot_sorted' : bootBuiltins "sorted" = some (.builtin "sorted") := by decide +kernel
theorem boot_isi' : bootBuiltins "isinstance" = some (.builtin "isinstance") := by decide +kernel
theorem boot_list' : bootBuiltins "list" = some (.type "list") := by decide +kernel
theorem boot_tuple' : bootBuiltins "tuple" = some (.type "tuple") := by decide +kernel
theorem boot_int' : bootBuiltins "int" = some (.type "int") := by decide +kernel
theorem boot_str' : bootBuiltins "str" = some (.type "str") := by decide +kernel
/-- sum of a tuple of ints -/
theorem cr_sumT {X : Cx} (hc : X.calm = true) : CallR X (.builtin "sum") (fun vs H Q => ∃ (a : Addr) (ns : List Int), vs = [V.ref a] ∧ SqT X.K H a (ns.map V.int) ∧ Q (.int ns.sum) H) := by
  intro pins s σ H vs us Q I r h
  obtain ⟨a, ns, rfl, hs, q⟩ := h
  obtain ⟨its, rv, hl, _⟩ := I.tuple hs
  rw [Vals.ref1 r]
  have hi := rv.ints
  obtain ⟨xs, e⟩ := hi.allInts.items
  have hn : numsOf (intItems xs).toList = ns := by rw [← e]; exact hi.numsOf
  rw [nums_intItems] at hn
  rw [e] at hl
  refine PySem.W.ktm_sumG (I.ok.hd hc) hl fun h' tk t' hk => ?_
  refine ⟨.int ns.sum, H, I.kept (t' := tk) hk, ⟨t', ?_⟩, q⟩
  rw [preSum_eq, List.take_of_length_le (by simp), hn]
theorem de_sum (h : VE g I Γ A e dv) (q : IsQ A dv (ns.map .int)) (hg : GlS I.sc "sum") (hm : g.mg "sum" = none) (hn : nostar e = true := by rfl) : DE g I Γ A (.Call (.Name "sum" p) [e] [] pos) (.int ns.sum) := by
  cases q with
  | l q =>
    exact ve_callB (fun X c => cr_sum c.calm) (fun X cx A1 ex S H vs f rr Q z => by
      obtain ⟨v, rfl, r⟩ := rr.one
      obtain ⟨l, ws, rfl, h1, h2⟩ := q.sq ex f r
      obtain rfl := h2.ints
      exact ⟨l, ns, rfl, .of h1, z _ S H (Same.refl S) f (.int _)⟩) hg hm boot_sum' (va_cons h va_nil hn) hn rfl (by decide) (by decide)
  | t =>
    exact ve_callB (fun X c => cr_sumT c.calm) (fun X cx A1 ex S H vs f rr Q z => by
      obtain ⟨v, rfl, r⟩ := rr.one
      obtain ⟨l, ws, rfl, h1, h2⟩ := Rp.tup_of r
      obtain rfl := h2.ints
      exact ⟨l, ns, rfl, .of (f.same _ _ h1), z _ S H (Same.refl S) f (.int _)⟩) hg hm boot_sum' (va_cons h va_nil hn) hn rfl (by decide) (by decide)
theorem de_maxL (h : VE g I Γ A e dv) (q : IsL A dv (ns.map .int)) (hne : ns ≠ []) (hg : GlS I.sc "max") (hm : g.mg "max" = none) (hn : nostar e = true := by rfl) : DE g I Γ A (.Call (.Name "max" p) [e] [] pos) (.int (maxL ns)) :=
  ve_callB (fun X c => cr_max c.calm) (fun X cx A1 ex S H vs f rr Q z => by
    obtain ⟨v, rfl, r⟩ := rr.one
    obtain ⟨l, ws, rfl, h1, h2⟩ := q.sq ex f r
    obtain rfl := h2.ints
    refine ⟨l, ns, rfl, .of h1, List.length_pos_iff.mpr hne, fun m m1 m2 => ?_⟩
    obtain ⟨x1, x2⟩ := maxL_spec ns hne
    obtain rfl : m = maxL ns := Int.le_antisymm (x2 m m1) (m2 _ x1)
    exact z _ S H (Same.refl S) f (.int _)) hg hm boot_max' (va_cons h va_nil hn) hn rfl (by decide) (by decide)
theorem de_minL (h : VE g I Γ A e dv) (q : IsL A dv (ns.map .int)) (hne : ns ≠ []) (hg : GlS I.sc "min") (hm : g.mg "min" = none) (hn : nostar e = true := by rfl) : DE g I Γ A (.Call (.Name "min" p) [e] [] pos) (.int (minL ns)) :=
  ve_callB (fun X c => cr_min c.calm) (fun X cx A1 ex S H vs f rr Q z => by
    obtain ⟨v, rfl, r⟩ := rr.one
    obtain ⟨l, ws, rfl, h1, h2⟩ := q.sq ex f r
    obtain rfl := h2.ints
    refine ⟨l, ns, rfl, .of h1, List.length_pos_iff.mpr hne, fun m m1 m2 => ?_⟩
    obtain ⟨x1, x2⟩ := minL_spec ns hne
    obtain rfl : m = minL ns := Int.le_antisymm (m2 _ x1) (x2 m m1)
    exact z _ S H (Same.refl S) f (.int _)) hg hm boot_min' (va_cons h va_nil hn) hn rfl (by decide) (by decide)
theorem de_max2 (ha : DE g I Γ A a (.int i)) (hb : DE g I Γ A b (.int j)) (hg : GlS I.sc "max") (hm : g.mg "max" = none) (hn : nostar a = true := by rfl) (hn2 : nostar b = true := by rfl) : DE g I Γ A (.Call (.Name "max" p) [a, b] [] pos) (.int (if j > i then j else i)) :=
  ve_callB (fun X c => call_max2 c.calm) (fun X cx A1 ex S H vs f rr Q z => by
    obtain ⟨v, u, rfl, r1, r2⟩ := rr.two
    exact ⟨i, j, by rw [Rp.int_of r1, Rp.int_of r2], z _ S H (Same.refl S) f (.int _)⟩) hg hm boot_max' (va_cons ha (va_cons hb va_nil hn2) hn) hn (by rw [List.all_cons, hn2]; rfl) (by decide) (by decide)
theorem de_min2 (ha : DE g I Γ A a (.int i)) (hb : DE g I Γ A b (.int j)) (hg : GlS I.sc "min") (hm : g.mg "min" = none) (hn : nostar a = true := by rfl) (hn2 : nostar b = true := by rfl) : DE g I Γ A (.Call (.Name "min" p) [a, b] [] pos) (.int (if j < i then j else i)) :=
  ve_callB (fun X c => call_min2 c.calm) (fun X cx A1 ex S H vs f rr Q z => by
    obtain ⟨v, u, rfl, r1, r2⟩ := rr.two
    exact ⟨i, j, by rw [Rp.int_of r1, Rp.int_of r2], z _ S H (Same.refl S) f (.int _)⟩) hg hm boot_min' (va_cons ha (va_cons hb va_nil hn2) hn) hn (by rw [List.all_cons, hn2]; rfl) (by decide) (by decide)
theorem de_abs (ha : DE g I Γ A a (.int i)) (hg : GlS I.sc "abs") (hm : g.mg "abs" = none) (hn : nostar a = true := by rfl) : DE g I Γ A (.Call (.Name "abs" p) [a] [] pos) (.int (if i < 0 then -i else i)) :=
  ve_callB (fun X c => call_abs) (fun X cx A1 ex S H vs f rr Q z => by
    obtain ⟨v, rfl, r1⟩ := rr.one
    exact ⟨i, by rw [Rp.int_of r1], z _ S H (Same.refl S) f (.int _)⟩) hg hm boot_abs' (va_cons ha va_nil hn) hn rfl (by decide) (by decide)
variable {bs : List Bool}
theorem de_all (h : VE g I Γ A e dv) (q : IsL A dv (bs.map .bool)) (hg : GlS I.sc "all") (hm : g.mg "all" = none) (hn : nostar e = true := by rfl) : DE g I Γ A (.Call (.Name "all" p) [e] [] pos) (.bool (bs.all id)) :=
  ve_callB (fun X c => cr_all c.calm) (fun X cx A1 ex S H vs f rr Q z => by
    obtain ⟨v, rfl, r⟩ := rr.one
    obtain ⟨l, ws, rfl, h1, h2⟩ := q.sq ex f r
    obtain rfl := h2.bools
    exact ⟨l, bs, rfl, .of h1, z _ S H (Same.refl S) f (.bl _)⟩) hg hm boot_all' (va_cons h va_nil hn) hn rfl (by decide) (by decide)
theorem de_any (h : VE g I Γ A e dv) (q : IsL A dv (bs.map .bool)) (hg : GlS I.sc "any") (hm : g.mg "any" = none) (hn : nostar e = true := by rfl) : DE g I Γ A (.Call (.Name "any" p) [e] [] pos) (.bool (bs.any id)) :=
  ve_callB (fun X c => cr_any c.calm) (fun X cx A1 ex S H vs f rr Q z => by
    obtain ⟨v, rfl, r⟩ := rr.one
    obtain ⟨l, ws, rfl, h1, h2⟩ := q.sq ex f r
    obtain rfl := h2.bools
    exact ⟨l, bs, rfl, .of h1, z _ S H (Same.refl S) f (.bl _)⟩) hg hm boot_any' (va_cons h va_nil hn) hn rfl (by decide) (by decide)
/-- tuple(x), list(x): new frozen ones -/
theorem de_tuple (h : VE g I Γ A e dv) (q : IsQ A dv xs) (hg : GlS I.sc "tuple") (hm : g.mg "tuple" = none) (hn : nostar e = true := by rfl) : DE g I Γ A (.Call (.Name "tuple" p) [e] [] pos) (.tuple xs) :=
  ve_callTy (fun _ _ => call_tuple_of) (fun X cx A1 ex S H vs f rr Q z => by
    obtain ⟨v, rfl, r⟩ := rr.one
    cases q with
    | l q =>
      obtain ⟨l, ws, rfl, h1, h2⟩ := q.sq ex f r
      refine ⟨l, ws, rfl, .inl ⟨.of h1, fun t ht => ?_⟩⟩
      obtain ⟨f', s'⟩ := f.laidS ht (o := .tup ws)
      exact z _ _ _ s' f' (.tup upd_same (h2.mono s'))
    | t =>
      obtain ⟨l, ws, rfl, h1, h2⟩ := Rp.tup_of r
      exact ⟨l, ws, rfl, .inr ⟨.of (f.same _ _ h1), z _ S H (Same.refl S) f r⟩⟩) hg hm boot_tuple' (va_cons h va_nil hn) hn rfl (by decide) (by decide)
theorem IsQ.sq {A A1 : AH} {dv : DV} {xs : List PyData} (h : IsQ A dv xs) (ex : ExtA A A1) {K : W.Frag} {S H : Hp} {v : V} (f : Fit S A1 H) (r : RepV S v dv) : ∃ a vs, v = .ref a ∧ (SqL K H a vs ∨ SqT K H a vs) ∧ RpAll S vs xs := by
  cases h with
  | l q =>
    obtain ⟨l, ws, rfl, h1, h2⟩ := q.sq ex f r
    exact ⟨l, ws, rfl, .inl (.of h1), h2⟩
  | t =>
    obtain ⟨l, ws, rfl, h1, h2⟩ := Rp.tup_of r
    exact ⟨l, ws, rfl, .inr (.of (f.same _ _ h1)), h2⟩
theorem de_list (h : VE g I Γ A e dv) (q : IsQ A dv xs) (hg : GlS I.sc "list") (hm : g.mg "list" = none) (hn : nostar e = true := by rfl) : DE g I Γ A (.Call (.Name "list" p) [e] [] pos) (.list xs) :=
  ve_callTy (fun _ _ => call_list_of) (fun X cx A1 ex S H vs f rr Q z => by
    obtain ⟨v, rfl, r⟩ := rr.one
    obtain ⟨l, ws, rfl, h1, h2⟩ := q.sq ex (K := X.K) f r
    refine ⟨l, ws, rfl, h1, fun t ht => ?_⟩
    obtain ⟨f', s'⟩ := f.laidS ht (o := .lst ws)
    exact z _ _ _ s' f' (.lst upd_same (h2.mono s'))) hg hm boot_list' (va_cons h va_nil hn) hn rfl (by decide) (by decide)
/-- list(x): a new owned one -/
theorem we_list {Q : DV → AH → Prop} (h : VE g I Γ A e dv) (q : IsQ A dv xs) (k : ∀ l, A l = none → Q (.r l) (updA A l (aoL (xs.map .d)))) (hg : GlS I.sc "list") (hm : g.mg "list" = none) (hn : nostar e = true := by rfl) : WE g I R Γ A (.Call (.Name "list" p) [e] [] pos) Q := by
  intro X c S H σ _ he hf Qv z
  obtain ⟨ea, rfl⟩ := c.eq
  refine (pe_callTy call_list_of (hg.gl c.sc) hm boot_list' PA.s (by decide) (by decide) (star_cons hn [] X.env) (star_any pos X.env rfl)).to (va_cons h va_nil hn X c A (ExtA.refl A) S H σ he hf _ fun vs S1 H1 s1 f1 r1 => ?_)
  obtain ⟨v, rfl, r⟩ := r1.one
  obtain ⟨l, ws, rfl, h1, h2⟩ := q.sq (ExtA.refl A) (K := X.K) f1 r
  exact ⟨l, ws, rfl, h1, fun t ht => z _ (.r t) _ _ _ s1 (f1.listNew ht (RepVs.ofData h2)) rfl (k t (f1.noneA ht))⟩
theorem de_intB {x : Bool} (ha : DE g I Γ A a (.bool x)) (hg : GlS I.sc "int") (hm : g.mg "int" = none) (hn : nostar a = true := by rfl) : DE g I Γ A (.Call (.Name "int" p) [a] [] pos) (.int (if x then 1 else 0)) :=
  ve_callTy (fun X c => call_int1) (fun X cx A1 ex S H vs f rr Q z => by
    obtain ⟨v, rfl, r1⟩ := rr.one
    exact .inr ⟨x, by rw [Rp.bl_of r1], z _ S H (Same.refl S) f (.int _)⟩) hg hm boot_int' (va_cons ha va_nil hn) hn rfl (by decide) (by decide)
/-! ### isinstance -/
theorem ve_bltn {x : Str} {n : String} (hg : GlS I.sc x) (hm : g.mg x = none) (hv : bootBuiltins x = some (.type n)) (h1 : x ≠ "__name__" := by decide) (h2 : (x == ("__debug__" : Str)) = false := by decide) : VE g I Γ A (.Name x pos) (.t n) := by
  intro X c A1 ex S H σ he hf Q k
  obtain ⟨ea, rfl⟩ := c.eq
  exact (pe_bltn (v := .ty n) (hg.gl c.sc) hm hv rfl h1 h2).to (k _ S H (Same.refl S) hf rfl)
theorem ve_cls {x : Str} {C : Addr} (hg : GlS I.sc x) (hm : g.mg x = some (.ref C)) (h2 : (x == ("__debug__" : Str)) = false := by decide) : VE g I Γ A (.Name x pos) (.r C) := by
  intro X c A1 ex S H σ he hf Q k
  obtain ⟨ea, rfl⟩ := c.eq
  exact (pe_glob (v := .ref C) (hg.gl c.sc) hm rfl h2).to (k _ S H (Same.refl S) hf rfl)
def tyD : PyData → String
  | .none => "NoneType"
  | .bool _ => "bool"
  | .int _ => "int"
  | .str _ => "str"
  | .list _ => "list"
  | .tuple _ => "tuple"
  | .dict _ => "dict"
theorem tyD_of {K : W.Frag} {S A1 H} {v : V} {d : PyData} (f : Fit S A1 H) (r : RepV S v (.d d)) : TyX K H v (.type (tyD d)) := by
  cases r with
  | non => exact .base .non
  | bl b => exact .base (.bl b)
  | int i => exact .base (.int i)
  | str x => exact .base (.str x)
  | lst h r => exact .base (.lst (f.same _ _ h))
  | tup h r => exact .base (.tup (f.same _ _ h))
theorem de_isi {d : PyData} {n : String} {r : Bool} (ha : DE g I Γ A a d) (hb : VE g I Γ A b (.t n)) (hk : kitB (tyD d) n = some r) (hg : GlS I.sc "isinstance") (hm : g.mg "isinstance" = none) (hn : nostar a = true := by rfl) (hn2 : nostar b = true := by rfl) : DE g I Γ A (.Call (.Name "isinstance" p) [a, b] [] pos) (.bool r) :=
  ve_callB (fun X c => call_isi) (fun X cx A1 ex S H vs f rr Q z => by
    obtain ⟨v, u, rfl, r1, r2⟩ := rr.two
    refine ⟨v, u, .type (tyD d), .type n, r, rfl, ?_, tyD_of f r1, kit_ty hk, z _ S H (Same.refl S) f (.bl _)⟩
    rw [show u = .ty n from r2]
    exact .ty n) hg hm boot_isi' (va_cons ha (va_cons hb va_nil hn2) hn) hn (by rw [List.all_cons, hn2]; rfl) (by decide) (by decide)

/-! ### subscripts -/
theorem de_ixT {d : PyData} (ha : DE g I Γ A a (.tuple xs)) (hb : DE g I Γ A b (.int i)) (hi : atI xs i = some d) (hs : PlainIx b := by intro _ _; rfl) : DE g I Γ A (.Subscript a b pos) d := by
  intro X c A1 ex S H σ he hf Q k
  refine (pe_ix ix_tup PE.s PE.s hs).to (ha X c A1 ex S H σ he hf _ fun v S1 H1 s1 f1 r1 => hb X c A1 ex S1 H1 σ (he.mono s1) f1 _ fun u S2 H2 s2 f2 r2 => ?_)
  obtain ⟨l, ws, rfl, h1, h2⟩ := Rp.tup_of (r1.mono s2)
  obtain ⟨n, e1, e2⟩ : ∃ n, ixN xs.length i = some n ∧ xs[n]? = some d := by
    unfold atI at hi
    cases q : ixN xs.length i with
    | none => rw [q] at hi; cases hi
    | some n => rw [q] at hi; exact ⟨n, rfl, hi⟩
  obtain ⟨w, e3, r3⟩ := h2.get e2
  exact ⟨l, ws, i, w, rfl, Rp.int_of r2, .of (f2.same _ _ h1), by unfold atI; rw [h2.length, e1]; exact e3, k _ S2 H2 (s1.trans s2) f2 r3⟩
theorem de_ixL {d : PyData} (ha : VE g I Γ A a dv) (q : IsL A dv xs) (hb : DE g I Γ A b (.int i)) (hi : atI xs i = some d) (hs : PlainIx b := by intro _ _; rfl) : DE g I Γ A (.Subscript a b pos) d := by
  intro X c A1 ex S H σ he hf Q k
  refine (pe_ix ix_list PE.s PE.s hs).to (ha X c A1 ex S H σ he hf _ fun v S1 H1 s1 f1 r1 => hb X c A1 ex S1 H1 σ (he.mono s1) f1 _ fun u S2 H2 s2 f2 r2 => ?_)
  obtain ⟨l, ws, rfl, h1, h2⟩ := q.sq ex f2 (r1.mono s2)
  obtain ⟨n, e1, e2⟩ : ∃ n, ixN xs.length i = some n ∧ xs[n]? = some d := by
    unfold atI at hi
    cases q : ixN xs.length i with
    | none => rw [q] at hi; cases hi
    | some n => rw [q] at hi; exact ⟨n, rfl, hi⟩
  obtain ⟨w, e3, r3⟩ := h2.get e2
  exact ⟨l, ws, i, w, rfl, Rp.int_of r2, .of h1, by unfold atI; rw [h2.length, e1]; exact e3, k _ S2 H2 (s1.trans s2) f2 r3⟩
/-- an item of an owned list, whatever it is -/
theorem ve_ixO {d : DV} {l : Addr} {ys : List DV} (ha : VE g I Γ A a (.r l)) (hl : A l = some (aoL ys)) (hb : DE g I Γ A b (.int i)) (hi : atI ys i = some d) (hs : PlainIx b := by intro _ _; rfl) : VE g I Γ A (.Subscript a b pos) d := by
  intro X c A1 ex S H σ he hf Q k
  refine (pe_ix ix_list PE.s PE.s hs).to (ha X c A1 ex S H σ he hf _ fun v S1 H1 s1 f1 r1 => hb X c A1 ex S1 H1 σ (he.mono s1) f1 _ fun u S2 H2 s2 f2 r2 => ?_)
  obtain ⟨ws, h1, h2⟩ := f2.list (ex _ _ hl)
  obtain ⟨n, e1, e2⟩ : ∃ n, ixN ys.length i = some n ∧ ys[n]? = some d := by
    unfold atI at hi
    cases q : ixN ys.length i with
    | none => rw [q] at hi; cases hi
    | some n => rw [q] at hi; exact ⟨n, rfl, hi⟩
  obtain ⟨w, e3, r3⟩ := h2.get e2
  exact ⟨l, ws, i, w, r1, Rp.int_of r2, .of h1, by unfold atI; rw [h2.length, e1]; exact e3, k _ S2 H2 (s1.trans s2) f2 r3⟩
theorem de_ixF {n : Int} (ha : VE g I Γ A a (.f g.K ns)) (hb : DE g I Γ A b (.int i)) (hi : atI ns i = some n) (hs : PlainIx b := by intro _ _; rfl) : DE g I Γ A (.Subscript a b pos) (.int n) := by
  intro X c A1 ex S H σ he hf Q k
  refine (pe_ix ix_list PE.s PE.s hs).to (ha X c A1 ex S H σ he hf _ fun v S1 H1 s1 f1 r1 => hb X c A1 ex S1 H1 σ (he.mono s1) f1 _ fun u S2 H2 s2 f2 r2 => ?_)
  obtain ⟨l, rfl, h1⟩ := r1.mono s2
  obtain ⟨ea, rfl⟩ := c.eq
  refine ⟨l, ns.map V.int, i, .int n, rfl, Rp.int_of r2, h1 _ f2.same, ?_, k _ S2 H2 (s1.trans s2) f2 (.int n)⟩
  unfold atI at hi ⊢
  rw [List.length_map]
  cases q : ixN ns.length i with
  | none => rw [q] at hi; cases hi
  | some m =>
    rw [q] at hi
    have hi' : ns[m]? = some n := hi
    show (ns.map V.int)[m]? = some (.int n)
    rw [List.getElem?_map, hi']; rfl
theorem de_ixS {x : Str} {n : Nat} (ha : DE g I Γ A a (.str x)) (hb : DE g I Γ A b (.int i)) (hz : x.length ≤ sizeLine) (hi : atI x.cps.toList i = some n) (hs : PlainIx b := by intro _ _; rfl) : DE g I Γ A (.Subscript a b pos) (.str ⟨#[n]⟩) := by
  intro X c A1 ex S H σ he hf Q k
  refine (pe_ix ix_str PE.s PE.s hs).to (ha X c A1 ex S H σ he hf _ fun v S1 H1 s1 f1 r1 => hb X c A1 ex S1 H1 σ (he.mono s1) f1 _ fun u S2 H2 s2 f2 r2 => ?_)
  exact ⟨x, i, n, Rp.str_of (r1.mono s2), Rp.int_of r2, hz, hi, k _ S2 H2 (s1.trans s2) f2 (.str _)⟩

/-! ### slices -/
def cutD {α : Type} (xs : List α) (lo hi : Option Int) : List α := (xs.drop (HT.sIx xs.length 0 lo)).take (HT.sIx xs.length xs.length hi - HT.sIx xs.length 0 lo)
theorem cut_rp {S : Hp} {vs : List V} {ds : List PyData} {lo hi : Option Int} (h : RpAll S vs ds) : RpAll S (cutV vs lo hi) (cutD ds lo hi) := by
  unfold cutV cutD
  rw [h.length]
  exact (h.drop _).take _
/-- a part of a slice -/
def VO (g : Gv) (I : CI) (Γ : Gam) (A : AH) (e : Option Expr) (o : Option Int) : Prop :=
  ∀ X, Cok g I X → ∀ A1, ExtA A A1 → ∃ t : TO, PO X e t ∧ ∀ S H σ, EnvOk S Γ σ → Fit S A1 H → ∀ Q : Option Int → Hp → Prop, (∀ S' H', Same S S' → Fit S' A1 H' → Q o H') → t σ H Q
theorem vo_none : VO g I Γ A none none := fun X c A1 ex => ⟨_, po_none, fun S H σ he hf Q k => k S H (Same.refl S) hf⟩
theorem vo_some (h : DE g I Γ A e (.int i)) : VO g I Γ A (some e) (some i) := fun X c A1 ex => ⟨_, po_some PE.s, fun S H σ he hf Q k =>
  h X c A1 ex S H σ he hf _ fun v S1 H1 s1 f1 r1 => ⟨i, Rp.int_of r1, k S1 H1 s1 f1⟩⟩
variable {lo hi : Option Expr} {ol oh : Option Int} {p2 : Pos}
theorem de_sliceL (ha : VE g I Γ A a dv) (q : IsL A dv xs) (hl : VO g I Γ A lo ol) (hh : VO g I Γ A hi oh) : DE g I Γ A (.Subscript a (.Slice lo hi none p2) pos) (.list (cutD xs ol oh)) := by
  intro X c A1 ex S H σ he hf Q k
  obtain ⟨tl, pl, hl⟩ := hl X c A1 ex
  obtain ⟨th, ph, hh⟩ := hh X c A1 ex
  refine (pe_slice sl_list PE.s pl ph).to (ha X c A1 ex S H σ he hf _ fun v S1 H1 s1 f1 r1 => hl S1 H1 σ (he.mono s1) f1 _ fun S2 H2 s2 f2 => hh S2 H2 σ (he.mono (s1.trans s2)) f2 _ fun S3 H3 s3 f3 => ?_)
  obtain ⟨l, ws, rfl, h1, h2⟩ := q.sq ex f3 (r1.mono (s2.trans s3))
  refine ⟨l, ws, rfl, .of h1, fun t ht => ?_⟩
  obtain ⟨f', s'⟩ := f3.laidS ht (o := .lst (cutV ws ol oh))
  refine k _ _ _ (((s1.trans s2).trans s3).trans s') f' (.lst upd_same (cut_rp (h2.mono s')))
theorem de_sliceT (ha : DE g I Γ A a (.tuple xs)) (hl : VO g I Γ A lo ol) (hh : VO g I Γ A hi oh) : DE g I Γ A (.Subscript a (.Slice lo hi none p2) pos) (.tuple (cutD xs ol oh)) := by
  intro X c A1 ex S H σ he hf Q k
  obtain ⟨tl, pl, hl⟩ := hl X c A1 ex
  obtain ⟨th, ph, hh⟩ := hh X c A1 ex
  refine (pe_slice sl_tupA PE.s pl ph).to (ha X c A1 ex S H σ he hf _ fun v S1 H1 s1 f1 r1 => hl S1 H1 σ (he.mono s1) f1 _ fun S2 H2 s2 f2 => hh S2 H2 σ (he.mono (s1.trans s2)) f2 _ fun S3 H3 s3 f3 => ?_)
  obtain ⟨l, ws, rfl, h1, h2⟩ := Rp.tup_of (r1.mono (s2.trans s3))
  refine ⟨l, ws, rfl, .of (f3.same _ _ h1), fun e => ?_, fun _ t ht => ?_⟩
  · refine k _ S3 H3 ((s1.trans s2).trans s3) f3 (.tup h1 ?_)
    unfold cutD
    rw [← h2.length, e.1, e.2]
    have h3 : (xs.drop 0).take (ws.length - 0) = xs := by rw [h2.length]; simp
    rw [h3]
    exact h2
  · obtain ⟨f', s'⟩ := f3.laidS ht (o := .tup (cutV ws ol oh))
    refine k _ _ _ (((s1.trans s2).trans s3).trans s') f' (.tup upd_same (cut_rp (h2.mono s')))

/-! ### displays -/
variable {es : List Expr} {ds : List PyData}
theorem de_tup {k : Nat} (h : VA g I Γ A es (ds.map .d)) (hz : ds.length ≤ sizeLine) : DE g I Γ A (.Tuple es k pos) (.tuple ds) := by
  intro X c A1 ex S H σ he hf Q z
  refine (pe_tup PA.s).to (h X c A1 ex S H σ he hf _ fun vs S1 H1 s1 f1 r1 => ⟨by rw [r1.length, List.length_map]; exact hz, fun t ht => ?_⟩)
  obtain ⟨f', s'⟩ := f1.laidS ht (o := .tup vs)
  exact z _ _ _ (s1.trans s') f' (.tup upd_same (r1.rp.mono s'))
theorem de_lst (h : VA g I Γ A es (ds.map .d)) (hz : ds.length ≤ sizeLine) : DE g I Γ A (.List es pos) (.list ds) := by
  intro X c A1 ex S H σ he hf Q z
  refine (pe_lst PA.s).to (h X c A1 ex S H σ he hf _ fun vs S1 H1 s1 f1 r1 => ⟨by rw [r1.length, List.length_map]; exact hz, fun t ht => ?_⟩)
  obtain ⟨f', s'⟩ := f1.laidS ht (o := .lst vs)
  exact z _ _ _ (s1.trans s') f' (.lst upd_same (r1.rp.mono s'))
/-- an owned list is displayed -/
theorem we_lst {dvs : List DV} {Q : DV → AH → Prop} (h : VA g I Γ A es dvs) (hz : dvs.length ≤ sizeLine) (k : ∀ l, A l = none → Q (.r l) (updA A l (aoL dvs))) : WE g I R Γ A (.List es pos) Q := by
  intro X c S H σ _ he hf Qv z
  refine (pe_lst PA.s).to (h X c A (ExtA.refl A) S H σ he hf _ fun vs S1 H1 s1 f1 r1 => ⟨by rw [r1.length]; exact hz, fun t ht => ?_⟩)
  exact z _ (.r t) _ _ _ s1 (f1.listNew ht r1) rfl (k t (f1.noneA ht))
/-- n * [x], [x] * n -/
theorem de_repL (ha : VE g I Γ A a dv) (q : IsL A dv xs) (hb : DE g I Γ A b (.int i)) (h1 : -(2 ^ 63) ≤ i) (h2 : i < 2 ^ 63) (hz : xs.length * i.toNat ≤ sizeLine) : DE g I Γ A (.BinOp a .Mult b pos) (.list (List.replicate i.toNat xs).flatten) :=
  ve_op (fun _ _ => op_rep) (fun X c A1 ex S H v u f r1 r2 Q k => by
    obtain ⟨l, ws, rfl, e1, e2⟩ := q.sq ex f r1
    refine ⟨l, i, ws, rfl, Rp.int_of r2, e1, h1, h2, by rw [e2.length]; exact hz, fun t ht => ?_⟩
    obtain ⟨f', s'⟩ := f.laidS ht (o := .lst (List.replicate i.toNat ws).flatten)
    refine k _ _ _ s' f' (.lst upd_same ?_)
    have : ∀ n : Nat, RpAll (upd S t (.lst (List.replicate i.toNat ws).flatten)) (List.replicate n ws).flatten (List.replicate n xs).flatten := fun n => by
      induction n with
      | zero => exact .nil
      | succ n ih => rw [List.replicate_succ, List.replicate_succ, List.flatten_cons, List.flatten_cons]; exact (e2.mono s').append ih
    exact this _) ha hb
theorem we_repL {Q : DV → AH → Prop} (ha : VE g I Γ A a dv) (q : IsL A dv xs) (hb : DE g I Γ A b (.int i)) (h1 : -(2 ^ 63) ≤ i) (h2 : i < 2 ^ 63) (hz : xs.length * i.toNat ≤ sizeLine) (k : ∀ l, A l = none → Q (.r l) (updA A l (aoL ((List.replicate i.toNat xs).flatten.map .d)))) : WE g I R Γ A (.BinOp a .Mult b pos) Q := by
  intro X c S H σ _ he hf Qv z
  refine (pe_op op_rep PE.s PE.s).to (ha X c A (ExtA.refl A) S H σ he hf _ fun v S1 H1 s1 f1 r1 => hb X c A (ExtA.refl A) S1 H1 σ (he.mono s1) f1 _ fun u S2 H2 s2 f2 r2 => ?_)
  obtain ⟨l, ws, rfl, e1, e2⟩ := q.sq (ExtA.refl A) f2 (r1.mono s2)
  refine ⟨l, i, ws, rfl, Rp.int_of r2, e1, h1, h2, by rw [e2.length]; exact hz, fun t ht => ?_⟩
  have : ∀ n : Nat, RpAll S2 (List.replicate n ws).flatten (List.replicate n xs).flatten := fun n => by
    induction n with
    | zero => exact .nil
    | succ n ih => rw [List.replicate_succ, List.replicate_succ, List.flatten_cons, List.flatten_cons]; exact e2.append ih
  exact z _ (.r t) _ _ _ (s1.trans s2) (f2.listNew ht (RepVs.ofData (this _))) rfl (k t (f2.noneA ht))
end
end LB

/-! Layer 5: statements, loops, comprehensions. -/
namespace LB
open PySem PySem.Spec PyProof.Rows L2

theorem ends_mono {S S' : Hp} {D : AEnds} (e : Same S S') : (∀ σ H, (endsOf S' D).nx σ H → (endsOf S D).nx σ H) ∧ (∀ v H, (endsOf S' D).rt v H → (endsOf S D).rt v H) ∧ (∀ σ H, (endsOf S' D).bk σ H → (endsOf S D).bk σ H) ∧ (∀ σ H, (endsOf S' D).ct σ H → (endsOf S D).ct σ H) :=
  ⟨fun _ _ ⟨S2, Γ, A, h, q⟩ => ⟨S2, Γ, A, e.trans h, q⟩, fun _ _ ⟨S2, Γ, A, h, q⟩ => ⟨S2, Γ, A, e.trans h, q⟩, fun _ _ ⟨S2, Γ, A, h, q⟩ => ⟨S2, Γ, A, e.trans h, q⟩, fun _ _ ⟨S2, Γ, A, h, q⟩ => ⟨S2, Γ, A, e.trans h, q⟩⟩
theorem sS.imp {X : Cx} {st : Stmt} {σ H} {D D' : Ends} (h : sS X st D σ H) (h1 : ∀ σ H, D.nx σ H → D'.nx σ H) (h2 : ∀ v H, D.rt v H → D'.rt v H) (h3 : ∀ σ H, D.bk σ H → D'.bk σ H) (h4 : ∀ σ H, D.ct σ H → D'.ct σ H) : sS X st D' σ H :=
  fun pins s I => thn (h pins s I) fun f s1 q => LB.SP.imp h1 h2 h3 h4 q
theorem sSs.imp {X : Cx} {st : List Stmt} {σ H} {D D' : Ends} (h : sSs X st D σ H) (h1 : ∀ σ H, D.nx σ H → D'.nx σ H) (h2 : ∀ v H, D.rt v H → D'.rt v H) (h3 : ∀ σ H, D.bk σ H → D'.bk σ H) (h4 : ∀ σ H, D.ct σ H → D'.ct σ H) : sSs X st D' σ H :=
  fun pins s I => thn (h pins s I) fun f s1 q => LB.SP.imp h1 h2 h3 h4 q
theorem sSs.mono {X : Cx} {st : List Stmt} {σ H} {S S' : Hp} {D : AEnds} (h : sSs X st (endsOf S' D) σ H) (e : Same S S') : sSs X st (endsOf S D) σ H := by
  obtain ⟨h1, h2, h3, h4⟩ := ends_mono (D := D) e
  exact h.imp h1 h2 h3 h4

def sG (X : Cx) (tg : Expr) : TG := fun v σ H Q => ∀ pins s u, L2.Inv X pins σ H s → L2.RelV v u → wpAny (model X.prog X.w) X.A (assign tg X.env u) (fun _ s' => ∃ σ' H', L2.Inv X pins σ' H' s' ∧ Q σ' H') X.xe s
theorem _root_.L2.PG.s {X : Cx} {tg : Expr} : PG X tg (sG X tg) := ⟨fun pins s σ H v u Q I r h => h pins s u I r⟩
theorem _root_.L2.PG.to {X : Cx} {tg : Expr} {t : TG} (h : PG X tg t) {v σ H Q} (q : t v σ H Q) : sG X tg v σ H Q := fun pins s u I r => h.run pins s σ H v u Q I r q
/-- a local name of the scope -/
def LocOk (I : CI) (x : Str) : Prop := I.sc.names.lookup x = some .local ∨ (I.cl x = true ∧ I.sc.names.lookup x = some .cell)
theorem LocOk.loc {I : CI} {x : Str} {g : Gv} {X : Cx} (h : LocOk I x) (c : Cok g I X) : L2.Loc X.env.scope x := by
  unfold L2.Loc
  rw [c.sc]
  rcases h with h | ⟨_, h⟩
  · exact .inl h
  · exact .inr h
theorem LocOk.fn {I : CI} {x : Str} {g : Gv} {X : Cx} (h : LocOk I x) (c : Cok g I X) : X.fn x = true ∨ X.env.scope.names.lookup x = some .local := by
  rcases h with h | ⟨t, h⟩
  · exact .inr (by rw [c.sc]; exact h)
  · exact .inl (c.cel x t)

section
variable {g : Gv} {I : CI} {R : Rz} {Γ : Gam} {A : AH} {pos p : Pos} {e a b c : Expr} {D : AEnds} {st : Stmt} {sts : List Stmt}

/-! ### blocks -/
theorem wss_nil (h : D.nx Γ A) : WSs g I R Γ A [] D := fun X cx S H σ tk he hf => pss_nil.to ⟨S, Γ, A, Same.refl S, he, hf, h⟩
theorem wss_cons (h : WS g I R Γ A st { D with nx := fun Γ' A' => WSs g I R Γ' A' sts D }) : WSs g I R Γ A (st :: sts) D := fun X cx S H σ tk he hf =>
  (pss_cons PS.s PSs.s).to ((h X cx S H σ tk he hf).imp (fun σ' H' ⟨S', Γ', A', s, he', hf', q⟩ => (q X cx S' H' σ' (tk.mono s) he' hf').mono s) (fun _ _ q => q) (fun _ _ q => q) (fun _ _ q => q))
theorem wss_one (h : WS g I R Γ A st D) : WSs g I R Γ A [st] D := fun X cx S H σ tk he hf => (pss_one PS.s).to (h X cx S H σ tk he hf)
/-- a step of thought: what is frozen, owned, known is told in another way -/
theorem wss_ghost (h : ∀ S H σ, EnvOk S Γ σ → Fit S A H → ∃ S' Γ' A', Same S S' ∧ EnvOk S' Γ' σ ∧ Fit S' A' H ∧ WSs g I R Γ' A' sts D) : WSs g I R Γ A sts D := fun X cx S H σ tk he hf => by
  obtain ⟨S', Γ', A', s, he', hf', q⟩ := h S H σ he hf
  exact (q X cx S' H σ (tk.mono s) he' hf').mono s
theorem wss_freeze (i : Nat) {l : Addr} {xs : List PyData} (hi : Γ[i]? = some (some (.r l))) (hl : A l = some (aoL (xs.map .d))) (h : WSs g I R (Γ.set i (some (.d (.list xs)))) (delA A l) sts D) : WSs g I R Γ A sts D :=
  wss_ghost fun S H σ he hf => by
    obtain ⟨S', f', s', r⟩ := hf.freezeL hl
    obtain ⟨v, e1, e2⟩ := he.2 i _ hi
    rw [show v = .ref l from e2] at e1
    refine ⟨S', _, _, s', ?_, f', h⟩
    have := (he.mono s').set (i := i) (v := .ref l) (dv := .d (.list xs)) r
    rwa [show σ.set i (some (.ref l)) = σ from by
      refine List.ext_getElem? fun j => ?_
      by_cases q : j = i
      · subst q
        have hl : j < σ.length := (List.getElem?_eq_some_iff.mp e1).1
        rw [List.getElem?_set_self hl, e1]
      · rw [List.getElem?_set_ne (Ne.symm q)]] at this
/-- what is not needed is forgotten -/
theorem wss_less {Γ' : Gam} {A' : AH} (hl : Γ'.length = Γ.length) (k : ∀ (i : Nat) (dv : DV), Γ'[i]? = some (some dv) → Γ[i]? = some (some dv)) (ha : ExtA A' A) (h : WSs g I R Γ' A' sts D) : WSs g I R Γ A sts D :=
  wss_ghost fun S H σ he hf => ⟨S, Γ', A', Same.refl S, he.less hl k, hf.fewer ha, h⟩
/-- a cut: what holds behind a statement -/
theorem wss_cut (P : Gam → AH → Prop) (h : WS g I R Γ A st { D with nx := P }) (k : ∀ Γ' A', P Γ' A' → WSs g I R Γ' A' sts D) : WSs g I R Γ A (st :: sts) D :=
  wss_cons fun X cx S H σ tk he hf => (h X cx S H σ tk he hf).imp (fun σ' H' ⟨S', Γ', A', s, he', hf', q⟩ => ⟨S', Γ', A', s, he', hf', k _ _ q⟩) (fun _ _ q => q) (fun _ _ q => q) (fun _ _ q => q)
theorem WS.imp {D' : AEnds} (h : WS g I R Γ A st D) (h1 : ∀ Γ' A', D.nx Γ' A' → D'.nx Γ' A') (h2 : ∀ v A', D.rt v A' → D'.rt v A') (h3 : ∀ Γ' A', D.bk Γ' A' → D'.bk Γ' A') (h4 : ∀ Γ' A', D.ct Γ' A' → D'.ct Γ' A') : WS g I R Γ A st D' := fun X cx S H σ tk he hf =>
  (h X cx S H σ tk he hf).imp (fun _ _ ⟨S', Γ', A', s, x, f, q⟩ => ⟨S', Γ', A', s, x, f, h1 _ _ q⟩) (fun _ _ ⟨S', dv, A', s, x, f, q⟩ => ⟨S', dv, A', s, x, f, h2 _ _ q⟩) (fun _ _ ⟨S', Γ', A', s, x, f, q⟩ => ⟨S', Γ', A', s, x, f, h3 _ _ q⟩) (fun _ _ ⟨S', Γ', A', s, x, f, q⟩ => ⟨S', Γ', A', s, x, f, h4 _ _ q⟩)
theorem WSs.imp {D' : AEnds} (h : WSs g I R Γ A sts D) (h1 : ∀ Γ' A', D.nx Γ' A' → D'.nx Γ' A') (h2 : ∀ v A', D.rt v A' → D'.rt v A') (h3 : ∀ Γ' A', D.bk Γ' A' → D'.bk Γ' A') (h4 : ∀ Γ' A', D.ct Γ' A' → D'.ct Γ' A') : WSs g I R Γ A sts D' := fun X cx S H σ tk he hf =>
  (h X cx S H σ tk he hf).imp (fun _ _ ⟨S', Γ', A', s, x, f, q⟩ => ⟨S', Γ', A', s, x, f, h1 _ _ q⟩) (fun _ _ ⟨S', dv, A', s, x, f, q⟩ => ⟨S', dv, A', s, x, f, h2 _ _ q⟩) (fun _ _ ⟨S', Γ', A', s, x, f, q⟩ => ⟨S', Γ', A', s, x, f, h3 _ _ q⟩) (fun _ _ ⟨S', Γ', A', s, x, f, q⟩ => ⟨S', Γ', A', s, x, f, h4 _ _ q⟩)
theorem WE.imp {Q Q' : DV → AH → Prop} (h : WE g I R Γ A e Q) (k : ∀ dv A', Q dv A' → Q' dv A') : WE g I R Γ A e Q' := fun X cx S H σ tk he hf Qv z =>
  h X cx S H σ tk he hf Qv fun v dv S' A' H' s f r q => z v dv S' A' H' s f r (k _ _ q)
/-- a new owned list that is handed out is frozen -/
theorem WE.freeze {Q : DV → AH → Prop} (h : WE g I R Γ A e fun dv A' => ∃ l xs, dv = .r l ∧ A' l = some (aoL (xs.map .d)) ∧ Q (.d (.list xs)) (delA A' l)) : WE g I R Γ A e Q := fun X cx S H σ tk he hf Qv z =>
  h X cx S H σ tk he hf Qv fun v dv S' A' H' s f r ⟨l, xs, e1, e2, q⟩ => by
    subst e1
    obtain ⟨S2, f2, s2, r2⟩ := f.freezeL e2
    rw [show v = .ref l from r]
    exact z _ (.d (.list xs)) S2 _ H' (s.trans s2) f2 r2 q

/-! ### small statements -/
theorem ws_expr (h : WE g I R Γ A e fun _ A' => D.nx Γ A') (hs : ∀ env, swapsWith e none pos.line env = pure false := by intro _; rfl) : WS g I R Γ A (.Expr e pos) D := fun X cx S H σ tk he hf =>
  (ps_expr PE.s (hs X.env)).to (h X cx S H σ tk he hf _ fun v dv S' A' H' s f r q => ⟨S', Γ, A', s, he.mono s, f, q⟩)
theorem ws_set {x : Str} {p' : Pos} (i : Nat) (hN : I.N[i]? = some x) (hx : LocOk I x) (h : WE g I R Γ A e fun dv A' => D.nx (Γ.set i (some dv)) A') (hs : ∀ env, swapsWith e (some (.Name x p')) pos.line env = pure false := by intro _; rfl) : WS g I R Γ A (.Assign [.Name x p'] e pos) D := fun X cx S H σ tk he hf =>
  (ps_set (by rw [cx.N]; exact cx.ok.nd) (by rw [cx.N]; exact hN) (hx.loc cx) PE.s (hs X.env) (hx.fn cx)).to (h X cx S H σ tk he hf _ fun v dv S' A' H' s f r q => ⟨S', _, A', s, (he.mono s).set r, f, q⟩)
theorem ws_ret (h : WE g I R Γ A e D.rt) : WS g I R Γ A (.Return (some e) pos) D := fun X cx S H σ tk he hf =>
  (ps_ret PE.s).to (h X cx S H σ tk he hf _ fun v dv S' A' H' s f r q => ⟨S', dv, A', s, f, r, q⟩)
theorem ws_retN (h : D.rt (.d .none) A) : WS g I R Γ A (.Return none pos) D := fun X cx S H σ tk he hf => ps_retN.to ⟨S, .d .none, A, Same.refl S, hf, Rp.non, h⟩
theorem ws_if {k : Bool} {st1 st2 : List Stmt} (h : DT g I Γ A c k) (h1 : k = true → WSs g I R Γ A st1 D) (h2 : k = false → WSs g I R Γ A st2 D) : WS g I R Γ A (.If c st1 st2 pos) D := fun X cx S H σ tk he hf =>
  (ps_if PT.s PSs.s PSs.s).to (h X cx A (ExtA.refl A) S H σ he hf _ fun S' H' s f => by
    cases k with
    | true => rw [if_pos rfl]; exact (h1 rfl X cx S' H' σ (tk.mono s) (he.mono s) f).mono s
    | false => rw [if_neg Bool.false_ne_true]; exact (h2 rfl X cx S' H' σ (tk.mono s) (he.mono s) f).mono s)
theorem ws_ifW {st1 st2 : List Stmt} (h : WT g I R Γ A c fun k A' => (k = true → WSs g I R Γ A' st1 D) ∧ (k = false → WSs g I R Γ A' st2 D)) : WS g I R Γ A (.If c st1 st2 pos) D := fun X cx S H σ tk he hf =>
  (ps_if PT.s PSs.s PSs.s).to (h X cx S H σ tk he hf _ fun k S' A' H' s f ⟨h1, h2⟩ => by
    cases k with
    | true => rw [if_pos rfl]; exact (h1 rfl X cx S' H' σ (tk.mono s) (he.mono s) f).mono s
    | false => rw [if_neg Bool.false_ne_true]; exact (h2 rfl X cx S' H' σ (tk.mono s) (he.mono s) f).mono s)
theorem ws_pass (h : D.nx Γ A) : WS g I R Γ A (.Pass pos) D := fun X cx S H σ tk he hf => ps_pass.to ⟨S, Γ, A, Same.refl S, he, hf, h⟩
theorem ws_doc {x : Str} {j : Nat} {p' : Pos} (h : D.nx Γ A) : WS g I R Γ A (.Expr (.Constant (.str x) j p') pos) D := fun X cx S H σ tk he hf => ps_doc.to ⟨S, Γ, A, Same.refl S, he, hf, h⟩

/-! ### targets -/
/-- a value of data is stored: what the names hold then -/
def TgD (g : Gv) (I : CI) (tg : Expr) (Γ : Gam) (d : PyData) (Γ' : Gam) : Prop :=
  ∀ X, Cok g I X → ∃ t : TG, PG X tg t ∧ ∀ S A H σ v, EnvOk S Γ σ → Fit S A H → Rp S v d → ∀ Q : L2.St → Hp → Prop, (∀ σ', EnvOk S Γ' σ' → Q σ' H) → t v σ H Q
theorem tg_name {x : Str} (i : Nat) (hN : I.N[i]? = some x) (hx : LocOk I x) {d : PyData} : TgD g I (.Name x p) Γ d (Γ.set i (some (.d d))) := fun X cx =>
  ⟨_, pg_name (by rw [cx.N]; exact cx.ok.nd) (by rw [cx.N]; exact hN) (hx.loc cx) (hx.fn cx), fun S A H σ v he hf r Q k => k _ (he.set r)⟩
/-- (a, b) -/
theorem tg_tup2 {x y : Str} {px py : Pos} {kk : Nat} (i j : Nat) (hN : I.N[i]? = some x) (hx : LocOk I x) (hN2 : I.N[j]? = some y) (hx2 : LocOk I y) {d1 d2 : PyData} : TgD g I (.Tuple [.Name x px, .Name y py] kk p) Γ (.tuple [d1, d2]) ((Γ.set i (some (.d d1))).set j (some (.d d2))) := fun X cx =>
  ⟨_, pg_tup cx.calm (pgs_cons (pg_name (by rw [cx.N]; exact cx.ok.nd) (by rw [cx.N]; exact hN) (hx.loc cx) (hx.fn cx)) (pgs_cons (pg_name (by rw [cx.N]; exact cx.ok.nd) (by rw [cx.N]; exact hN2) (hx2.loc cx) (hx2.fn cx)) pgs_nil)), fun S A H σ v he hf r Q k => by
    cases r with
    | tup h q =>
      cases q with
      | cons q1 q =>
        cases q with
        | cons q2 q =>
          cases q
          exact ⟨_, _, rfl, .of (hf.same _ _ h), rfl, _, _, rfl, _, _, rfl, rfl, k _ ((he.set (dv := .d _) q1).set (dv := .d _) q2)⟩⟩
theorem tg_tup3 {x y z : Str} {px py pz : Pos} {kk : Nat} (i j l : Nat) (hN : I.N[i]? = some x) (hx : LocOk I x) (hN2 : I.N[j]? = some y) (hx2 : LocOk I y) (hN3 : I.N[l]? = some z) (hx3 : LocOk I z) {d1 d2 d3 : PyData} :
    TgD g I (.Tuple [.Name x px, .Name y py, .Name z pz] kk p) Γ (.tuple [d1, d2, d3]) (((Γ.set i (some (.d d1))).set j (some (.d d2))).set l (some (.d d3))) := fun X cx =>
  ⟨_, pg_tup cx.calm (pgs_cons (pg_name (by rw [cx.N]; exact cx.ok.nd) (by rw [cx.N]; exact hN) (hx.loc cx) (hx.fn cx)) (pgs_cons (pg_name (by rw [cx.N]; exact cx.ok.nd) (by rw [cx.N]; exact hN2) (hx2.loc cx) (hx2.fn cx)) (pgs_cons (pg_name (by rw [cx.N]; exact cx.ok.nd) (by rw [cx.N]; exact hN3) (hx3.loc cx) (hx3.fn cx)) pgs_nil))), fun S A H σ v he hf r Q k => by
    cases r with
    | tup h q =>
      cases q with
      | cons q1 q =>
        cases q with
        | cons q2 q =>
          cases q with
          | cons q3 q =>
            cases q
            exact ⟨_, _, rfl, .of (hf.same _ _ h), rfl, _, _, rfl, _, _, rfl, _, _, rfl, rfl, k _ (((he.set (dv := .d _) q1).set (dv := .d _) q2).set (dv := .d _) q3)⟩⟩
/-- a, b = e (the right side no display) -/
theorem ws_unpack {tg : Expr} {d : PyData} {Γ' : Gam} (ht : TgD g I tg Γ d Γ') (h : WE g I R Γ A e fun dv A' => dv = .d d ∧ D.nx Γ' A') (hs : ∀ env, swapsWithSole [tg] e pos.line env = pure false := by intro _; rfl) (hw : ∀ env, swappedStores [tg] e env = pure none := by intro _; rfl)
    (h1 : ∀ env, (assignEach [tg] env).map (·.2) = [assign tg env] := by intro _; rfl) : WS g I R Γ A (.Assign [tg] e pos) D := fun X cx S H σ tk he hf => by
  obtain ⟨t, pg, hq⟩ := ht X cx
  refine (ps_asg PE.s pg (hs X.env) (hw X.env) (h1 X.env)).to (h X cx S H σ tk he hf _ fun v dv S' A' H' s f r ⟨e1, q⟩ => ?_)
  subst e1
  exact hq S' A' H' σ v (he.mono s) f r _ fun σ' he' => ⟨S', Γ', A', s, he', f, q⟩

/-! ### loops -/
/-- for x in range(..): P: what holds ahead of each turn -/
theorem ws_for_range1 {tg : Expr} {j : Int} {p1 p2 : Pos} {dg : Int → PyData} (P : Nat → Gam → AH → Prop) (hg : GlS I.sc "range") (hm : g.mg "range" = none) (ha : DE g I Γ A a (.int j)) (hj : j < 2 ^ 62) (hj0 : -(2 ^ 62) ≤ j) (h0 : P 0 Γ A)
    (hs : ∀ (i : Nat) Γ1 A1, i < j.toNat → P i Γ1 A1 → ∃ Γ2, TgD g I tg Γ1 (.int i) Γ2 ∧ WSs g I R Γ2 A1 sts { D with nx := P (i + 1), ct := P (i + 1), bk := D.nx }) (hd : ∀ Γ1 A1, P j.toNat Γ1 A1 → D.nx Γ1 A1) (hn : nostar a = true := by rfl)
    (hf : ∀ env x, foldedSetIterable (.Call (.Name "range" p1) [a] [] p2) env x = pure x := by intro _ _; rfl) : WS g I R Γ A (.For tg (.Call (.Name "range" p1) [a] [] p2) sts [] pos) D := fun X cx S H σ tk he hfit => by
  obtain ⟨ea, rfl⟩ := cx.eq
  refine (ps_for cx.po cx.calm (pi_range1 (hg.gl cx.sc) hm PA.s (star_cons hn [] X.env)) PG.s PSs.s (hf X.env)).to (va_cons ha va_nil hn X cx A (ExtA.refl A) S H σ he hfit _ fun vs S1 H1 s1 f1 rr => ?_)
  obtain ⟨v, rfl, r1⟩ := rr.one
  refine ⟨j, by rw [Rp.int_of r1], hj0, hj, for_range (lo := 0) (n := j.toNat) (g := sG X tg) (tb := sSs X sts) (D := endsOf S D) (fun i σ' H' => ∃ S' Γ' A', Same S S' ∧ EnvOk S' Γ' σ' ∧ Fit S' A' H' ∧ P i Γ' A') ⟨S1, Γ, A, s1, he.mono s1, f1, h0⟩ (fun i σ2 H2 hi w => ?_) fun σ2 H2 w => ?_⟩
  rotate_left
  · obtain ⟨S2, Γ2, A2, s2, he2, f2, q2⟩ := w
    exact ⟨S2, Γ2, A2, s2, he2, f2, hd _ _ q2⟩
  obtain ⟨S2, Γ2, A2, s2, he2, f2, q2⟩ := w
  obtain ⟨Γ3, ht, hb⟩ := hs i Γ2 A2 hi q2
  obtain ⟨t, pg, hq⟩ := ht X cx
  refine pg.to (hq S2 A2 H2 σ2 _ he2 f2 (by rw [Int.zero_add]; exact .int _) _ fun σ3 he3 => ?_)
  exact (hb X cx S2 H2 σ3 (tk.mono s2) he3 f2).imp (fun _ _ ⟨S', Γ', A', s, x, f, q⟩ => ⟨S', Γ', A', s2.trans s, x, f, q⟩) (fun _ _ ⟨S', dv, A', s, x, f, q⟩ => ⟨S', dv, A', s2.trans s, x, f, q⟩) (fun _ _ ⟨S', Γ', A', s, x, f, q⟩ => ⟨S', Γ', A', s2.trans s, x, f, q⟩) (fun _ _ ⟨S', Γ', A', s, x, f, q⟩ => ⟨S', Γ', A', s2.trans s, x, f, q⟩)
theorem ws_for_range2 {tg : Expr} {i0 j : Int} {p1 p2 : Pos} (P : Nat → Gam → AH → Prop) (hg : GlS I.sc "range") (hm : g.mg "range" = none) (ha : DE g I Γ A a (.int i0)) (hb : DE g I Γ A b (.int j)) (hj : j < 2 ^ 62) (hj0 : -(2 ^ 62) ≤ j) (hi : i0 < 2 ^ 62) (hi0 : -(2 ^ 62) ≤ i0) (h0 : P 0 Γ A)
    (hs : ∀ (i : Nat) Γ1 A1, i < (j - i0).toNat → P i Γ1 A1 → ∃ Γ2, TgD g I tg Γ1 (.int (i0 + i)) Γ2 ∧ WSs g I R Γ2 A1 sts { D with nx := P (i + 1), ct := P (i + 1), bk := D.nx }) (hd : ∀ Γ1 A1, P (j - i0).toNat Γ1 A1 → D.nx Γ1 A1) (hn : nostar a = true := by rfl) (hn2 : nostar b = true := by rfl)
    (hf : ∀ env x, foldedSetIterable (.Call (.Name "range" p1) [a, b] [] p2) env x = pure x := by intro _ _; rfl) : WS g I R Γ A (.For tg (.Call (.Name "range" p1) [a, b] [] p2) sts [] pos) D := fun X cx S H σ tk he hfit => by
  obtain ⟨ea, rfl⟩ := cx.eq
  refine (ps_for cx.po cx.calm (pi_range2 (hg.gl cx.sc) hm PA.s (by rw [star_cons hn, star_cons hn2]; rfl) (by rw [star_cons hn2]; rfl)) PG.s PSs.s (hf X.env)).to (va_cons ha (va_cons hb va_nil hn2) hn X cx A (ExtA.refl A) S H σ he hfit _ fun vs S1 H1 s1 f1 rr => ?_)
  obtain ⟨v, w, rfl, r1, r2⟩ := rr.two
  refine ⟨i0, j, by rw [Rp.int_of r1, Rp.int_of r2], ⟨hi0, hi, hj0, hj⟩, for_range (lo := i0) (n := (j - i0).toNat) (g := sG X tg) (tb := sSs X sts) (D := endsOf S D) (fun i σ' H' => ∃ S' Γ' A', Same S S' ∧ EnvOk S' Γ' σ' ∧ Fit S' A' H' ∧ P i Γ' A') ⟨S1, Γ, A, s1, he.mono s1, f1, h0⟩ (fun i σ2 H2 hi w => ?_) fun σ2 H2 w => ?_⟩
  rotate_left
  · obtain ⟨S2, Γ2, A2, s2, he2, f2, q2⟩ := w
    exact ⟨S2, Γ2, A2, s2, he2, f2, hd _ _ q2⟩
  obtain ⟨S2, Γ2, A2, s2, he2, f2, q2⟩ := w
  obtain ⟨Γ3, ht, hb⟩ := hs i Γ2 A2 hi q2
  obtain ⟨t, pg, hq⟩ := ht X cx
  refine pg.to (hq S2 A2 H2 σ2 _ he2 f2 (.int _) _ fun σ3 he3 => ?_)
  exact (hb X cx S2 H2 σ3 (tk.mono s2) he3 f2).imp (fun _ _ ⟨S', Γ', A', s, x, f, q⟩ => ⟨S', Γ', A', s2.trans s, x, f, q⟩) (fun _ _ ⟨S', dv, A', s, x, f, q⟩ => ⟨S', dv, A', s2.trans s, x, f, q⟩) (fun _ _ ⟨S', Γ', A', s, x, f, q⟩ => ⟨S', Γ', A', s2.trans s, x, f, q⟩) (fun _ _ ⟨S', Γ', A', s, x, f, q⟩ => ⟨S', Γ', A', s2.trans s, x, f, q⟩)
/-- for x in a list, a tuple of data -/
theorem ws_for {tg : Expr} {dv : DV} {xs : List PyData} (P : Nat → Gam → AH → Prop) (ha : VE g I Γ A a dv) (q : dv = .d (.list xs) ∨ dv = .d (.tuple xs)) (h0 : P 0 Γ A)
    (hs : ∀ (i : Nat) d Γ1 A1, xs[i]? = some d → P i Γ1 A1 → ∃ Γ2, TgD g I tg Γ1 d Γ2 ∧ WSs g I R Γ2 A1 sts { D with nx := P (i + 1), ct := P (i + 1), bk := D.nx }) (hd : ∀ Γ1 A1, P xs.length Γ1 A1 → D.nx Γ1 A1)
    (hf : ∀ env x, foldedSetIterable a env x = pure x := by intro _ _; rfl) : WS g I R Γ A (.For tg a sts [] pos) D := fun X cx S H σ tk he hfit => by
  have turn : ∀ {S1 : Hp} {vs : List V}, Same S S1 → RpAll S1 vs xs → ∀ i x σ2 H2, vs[i]? = some x → (∃ S' Γ' A', Same S1 S' ∧ EnvOk S' Γ' σ2 ∧ Fit S' A' H2 ∧ P i Γ' A') → sG X tg x σ2 H2 fun σ' H' => sSs X sts { endsOf S D with nx := fun σ' H' => (∃ S' Γ' A', Same S1 S' ∧ EnvOk S' Γ' σ' ∧ Fit S' A' H' ∧ P (i + 1) Γ' A'), ct := fun σ' H' => (∃ S' Γ' A', Same S1 S' ∧ EnvOk S' Γ' σ' ∧ Fit S' A' H' ∧ P (i + 1) Γ' A'), bk := (endsOf S D).nx } σ' H' := fun {S1 vs} s01 rp i x σ2 H2 hx ⟨S2, Γ2, A2, s2, he2, f2, q2⟩ => by
    obtain ⟨d, hd1, hd2⟩ := rp.getv hx
    obtain ⟨Γ3, ht, hb⟩ := hs i d Γ2 A2 hd1 q2
    obtain ⟨t, pg, hq⟩ := ht X cx
    refine pg.to (hq S2 A2 H2 σ2 _ he2 f2 (hd2.mono s2) _ fun σ3 he3 => ?_)
    exact (hb X cx S2 H2 σ3 (tk.mono (s01.trans s2)) he3 f2).imp (fun _ _ ⟨S', Γ', A', s, x, f, q⟩ => ⟨S', Γ', A', s2.trans s, x, f, q⟩) (fun _ _ ⟨S', dv, A', s, x, f, q⟩ => ⟨S', dv, A', s01.trans (s2.trans s), x, f, q⟩) (fun _ _ ⟨S', Γ', A', s, x, f, q⟩ => ⟨S', Γ', A', s01.trans (s2.trans s), x, f, q⟩) (fun _ _ ⟨S', Γ', A', s, x, f, q⟩ => ⟨S', Γ', A', s2.trans s, x, f, q⟩)
  rcases q with rfl | rfl
  · refine (ps_for cx.po cx.calm (pi_list PE.s) PG.s PSs.s (hf X.env)).to (ha X cx A (ExtA.refl A) S H σ he hfit _ fun v S1 H1 s1 f1 r1 => ?_)
    obtain ⟨l, vs, rfl, h1, h2⟩ := Rp.lst_of r1
    refine ⟨l, rfl, ⟨vs, .of (f1.same _ _ h1)⟩, for_list (K := X.K) (a := l) (xs := vs) (g := sG X tg) (tb := sSs X sts) (D := endsOf S D) (fun i σ' H' => ∃ S' Γ' A', Same S1 S' ∧ EnvOk S' Γ' σ' ∧ Fit S' A' H' ∧ P i Γ' A') ⟨S1, Γ, A, Same.refl S1, he.mono s1, f1, h0⟩ (fun i σ2 H2 _ ⟨S2, _, _, s2, _, f2, _⟩ => .of (f2.same _ _ (s2 _ _ h1))) (fun i x σ2 H2 hx w => turn s1 h2 i x σ2 H2 hx w) fun σ2 H2 ⟨S2, Γ2, A2, s2, he2, f2, q2⟩ => ⟨S2, Γ2, A2, s1.trans s2, he2, f2, hd _ _ (by rw [← h2.length]; exact q2)⟩⟩
  · refine (ps_for cx.po cx.calm (pi_tup PE.s) PG.s PSs.s (hf X.env)).to (ha X cx A (ExtA.refl A) S H σ he hfit _ fun v S1 H1 s1 f1 r1 => ?_)
    obtain ⟨l, vs, rfl, h1, h2⟩ := Rp.tup_of r1
    refine ⟨l, rfl, ⟨vs, .of (f1.same _ _ h1)⟩, for_tup (K := X.K) (a := l) (xs := vs) (g := sG X tg) (tb := sSs X sts) (D := endsOf S D) (fun i σ' H' => ∃ S' Γ' A', Same S1 S' ∧ EnvOk S' Γ' σ' ∧ Fit S' A' H' ∧ P i Γ' A') ⟨S1, Γ, A, Same.refl S1, he.mono s1, f1, h0⟩ (fun i σ2 H2 _ ⟨S2, _, _, s2, _, f2, _⟩ => .of (f2.same _ _ (s2 _ _ h1))) (fun i x σ2 H2 hx w => turn s1 h2 i x σ2 H2 hx w) fun σ2 H2 ⟨S2, Γ2, A2, s2, he2, f2, q2⟩ => ⟨S2, Γ2, A2, s1.trans s2, he2, f2, hd _ _ (by rw [← h2.length]; exact q2)⟩⟩
/-- while: P, by a measure that falls -/
theorem ws_while (P : Nat → Gam → AH → Prop) (h0 : ∃ m, P m Γ A)
    (hs : ∀ m Γ1 A1, P m Γ1 A1 → WT g I R Γ1 A1 c fun k A2 => (k = true → WSs g I R Γ1 A2 sts { D with nx := fun Γ' A' => ∃ m', m' < m ∧ P m' Γ' A', ct := fun Γ' A' => ∃ m', m' < m ∧ P m' Γ' A', bk := D.nx }) ∧ (k = false → D.nx Γ1 A2)) : WS g I R Γ A (.While c sts [] pos) D := fun X cx S H σ tk he hf => by
  refine (ps_while cx.po PT.s PSs.s).to ⟨fun m σ' H' => ∃ S' Γ' A', Same S S' ∧ EnvOk S' Γ' σ' ∧ Fit S' A' H' ∧ P m Γ' A', ?_, ?_⟩
  · obtain ⟨m, h0⟩ := h0
    exact ⟨m, S, Γ, A, Same.refl S, he, hf, h0⟩
  · rintro m σ1 H1 ⟨S1, Γ1, A1, s1, he1, f1, q1⟩
    refine hs m Γ1 A1 q1 X cx S1 H1 σ1 (tk.mono s1) he1 f1 _ fun k S2 A2 H2 s2 f2 ⟨k1, k2⟩ => ?_
    cases k with
    | true =>
      rw [if_pos rfl]
      refine ⟨fun σ' H' => ∃ m', m' < m ∧ ∃ S' Γ' A', Same S S' ∧ EnvOk S' Γ' σ' ∧ Fit S' A' H' ∧ P m' Γ' A', fun _ _ z => z, ?_⟩
      have s12 := s1.trans s2
      exact (k1 rfl X cx S2 H2 σ1 (tk.mono s12) (he1.mono s2) f2).imp (fun _ _ ⟨S', Γ', A', s, x, f, m', hm, q⟩ => ⟨m', hm, S', Γ', A', s12.trans s, x, f, q⟩) (fun _ _ ⟨S', dv, A', s, x, f, q⟩ => ⟨S', dv, A', s12.trans s, x, f, q⟩) (fun _ _ ⟨S', Γ', A', s, x, f, q⟩ => ⟨S', Γ', A', s12.trans s, x, f, q⟩) (fun _ _ ⟨S', Γ', A', s, x, f, m', hm, q⟩ => ⟨m', hm, S', Γ', A', s12.trans s, x, f, q⟩)
    | false =>
      rw [if_neg Bool.false_ne_true]
      exact ⟨S2, Γ1, A2, s1.trans s2, he1.mono s2, f2, k2 rfl⟩
end
end LB

/-! Layer 6: list comprehensions. -/
namespace LB
open PySem PySem.Spec PyProof.Rows L2

abbrev CI.blk (I : CI) (scope : Scope) (vis : List Bool) : CI := ⟨I.N, relS scope I.sc, vis, I.k, false, fun x => scope.names.lookup x == some .cell⟩
theorem Cok.blk {g : Gv} {I : CI} {X : Cx} (c : Cok g I X) {scope : Scope} {vis : List Bool} (ok : (I.blk scope vis).Ok) (s : Shared) (H : Hp) (C : Addr) (cl : List (Str × Addr)) (fp : List Addr) : Cok g (I.blk scope vis) (X.blk s H scope (compEnvC scope cl C X.env) fp) := by
  obtain ⟨ea, rfl⟩ := c.eq
  refine ⟨⟨ea, rfl⟩, c.N, ?_, c.calm, c.room, ok, PassesOwn.never, (fun z => by cases z), (fun _ z => z), (fun z => by cases z)⟩
  show relS scope X.env.scope = relS scope I.sc
  rw [c.sc]

/-! ### the block's own names -/
def wipeG (Γ : Gam) : List Nat → Gam
  | [] => Γ
  | v :: vs => (wipeG Γ vs).set v none
theorem EnvOk.wipe {S : Hp} {Γ : Gam} {σ : L2.St} (h : EnvOk S Γ σ) : ∀ vs, EnvOk S (wipeG Γ vs) (wipe σ vs)
  | [] => h
  | v :: vs => (EnvOk.wipe h vs).forget
theorem wipe_get {σ : L2.St} {j : Nat} : ∀ {vs : List Nat}, (L2.wipe σ vs)[j]? = if j ∈ vs then (if j < σ.length then some none else none) else σ[j]?
  | [] => by simp [L2.wipe]
  | v :: vs => by
    show ((L2.wipe σ vs).set v none)[j]? = _
    have hl : (L2.wipe σ vs).length = σ.length := wipe_length σ vs
    by_cases e : j = v
    · subst e
      by_cases q : j < σ.length
      · rw [List.getElem?_set_self (by omega)]; simp [q]
      · rw [List.getElem?_eq_none (by rw [List.length_set]; omega)]; simp [q]
    · rw [List.getElem?_set_ne (Ne.symm e), wipe_get (vs := vs)]
      simp [e]
theorem wipe_wipe {σ : L2.St} {vs : List Nat} : L2.wipe (L2.wipe σ vs) vs = L2.wipe σ vs := by
  refine List.ext_getElem? fun j => ?_
  rw [wipe_get, wipe_get, wipe_length]
  by_cases e : j ∈ vs <;> simp [e]
theorem wipe_set {σ : L2.St} {vs : List Nat} {i : Nat} {x : Option V} (h : i ∈ vs) : L2.wipe (σ.set i x) vs = L2.wipe σ vs := by
  refine List.ext_getElem? fun j => ?_
  rw [wipe_get, wipe_get, List.length_set]
  by_cases e : j ∈ vs
  · simp [e]
  · rw [if_neg e, if_neg e, List.getElem?_set_ne (fun z => e (by rw [← z]; exact h))]

section
variable {g : Gv} {I : CI} {R : Rz} {Γ : Gam} {A : AH} {pos p : Pos} {e a b c : Expr} {D : AEnds}

/-- the target of a comprehension -/
def TgB (g : Gv) (I : CI) (vs : List Nat) (tg : Expr) (Γ : Gam) (d : PyData) (Γ' : Gam) : Prop :=
  ∀ X, Cok g I X → ∃ t : TG, PG X tg t ∧ ∀ S A H σ v, EnvOk S Γ σ → Fit S A H → Rp S v d → ∀ Q : L2.St → Hp → Prop, (∀ σ', EnvOk S Γ' σ' → L2.wipe σ' vs = L2.wipe σ vs → Q σ' H) → t v σ H Q
theorem tb_name {x : Str} (i : Nat) {vs : List Nat} (hv : i ∈ vs) (hN : I.N[i]? = some x) (hx : LocOk I x) {d : PyData} : TgB g I vs (.Name x p) Γ d (Γ.set i (some (.d d))) := fun X cx =>
  ⟨_, pg_name (by rw [cx.N]; exact cx.ok.nd) (by rw [cx.N]; exact hN) (hx.loc cx) (hx.fn cx), fun S A H σ v he hf r Q k => k _ (he.set (dv := .d _) r) (wipe_set hv)⟩
theorem tb_tup2 {x y : Str} {px py : Pos} {kk : Nat} (i j : Nat) {vs : List Nat} (hv : i ∈ vs) (hv2 : j ∈ vs) (hN : I.N[i]? = some x) (hx : LocOk I x) (hN2 : I.N[j]? = some y) (hx2 : LocOk I y) {d1 d2 : PyData} : TgB g I vs (.Tuple [.Name x px, .Name y py] kk p) Γ (.tuple [d1, d2]) ((Γ.set i (some (.d d1))).set j (some (.d d2))) := fun X cx =>
  ⟨_, pg_tup cx.calm (pgs_cons (pg_name (by rw [cx.N]; exact cx.ok.nd) (by rw [cx.N]; exact hN) (hx.loc cx) (hx.fn cx)) (pgs_cons (pg_name (by rw [cx.N]; exact cx.ok.nd) (by rw [cx.N]; exact hN2) (hx2.loc cx) (hx2.fn cx)) pgs_nil)), fun S A H σ v he hf r Q k => by
    cases r with
    | tup h q =>
      cases q with
      | cons q1 q =>
        cases q with
        | cons q2 q =>
          cases q
          exact ⟨_, _, rfl, .of (hf.same _ _ h), rfl, _, _, rfl, _, _, rfl, rfl, k _ ((he.set (dv := .d _) q1).set (dv := .d _) q2) (by rw [wipe_set hv2, wipe_set hv])⟩⟩
/-- a clause's tests -/
def DTs (g : Gv) (I : CI) (Γ : Gam) (A : AH) (ifs : List Expr) (k : Bool) : Prop :=
  ∀ X, Cok g I X → ∀ A1, ExtA A A1 → ∃ t : TT, PTs X ifs t ∧ ∀ S H σ, EnvOk S Γ σ → Fit S A1 H → ∀ Q : Bool → Hp → Prop, (∀ S' H', Same S S' → Fit S' A1 H' → Q k H') → t σ H Q
theorem dts_nil : DTs g I Γ A [] true := fun X cx A1 ex => ⟨_, pts_nil, fun S H σ he hf Q k => k S H (Same.refl S) hf⟩
theorem dts_one {k : Bool} (h : DT g I Γ A c k) : DTs g I Γ A [c] k := fun X cx A1 ex => ⟨_, pts_one PT.s, fun S H σ he hf Q z => h X cx A1 ex S H σ he hf Q z⟩

/-- what is walked: frozen data, item by item -/
def ItD (g : Gv) (I : CI) (Γ : Gam) (A : AH) (iter : Expr) (ds : List PyData) : Prop :=
  ∀ X, Cok g I X → ∀ A1, ExtA A A1 → ∃ wi : TI, (∀ tg, PI X tg iter wi) ∧ ∀ S H σ, EnvOk S Γ σ → Fit S A1 H → ∀ T : It → Hp → Prop,
    (∀ S1 H1 J, Same S S1 → Fit S1 A1 H1 → (∀ i S' A' H', Same S1 S' → Fit S' A' H' → (∀ l xs, A1 l = some (aoL xs) → A' l = some (aoL xs)) → (i < ds.length → J.go i H' ∧ ∀ x H2, J.yld i H' x H2 → H2 = H' ∧ ∃ d, ds[i]? = some d ∧ Rp S' x d) ∧ (ds.length ≤ i → J.stop i H')) → T J H1) → wi σ H T
theorem it_list {dv : DV} {xs : List PyData} (h : VE g I Γ A a dv) (q : IsL A dv xs) : ItD g I Γ A a xs := fun X cx A1 ex => ⟨_, fun _ => pi_list PE.s, fun S H σ he hf T k => by
  refine h X cx A1 ex S H σ he hf _ fun v S1 H1 s1 f1 r1 => ?_
  obtain ⟨l, vs, rfl, h1, h2⟩ := q.sq ex f1 r1
  refine ⟨l, rfl, ⟨vs, .of h1⟩, k S1 H1 _ s1 f1 fun i S' A' H' s f ka => ?_⟩
  obtain ⟨ws, h3, h4⟩ : ∃ ws, H' l = some (.lst ws) ∧ RpAll S' ws xs := by
    cases q with
    | d =>
      obtain ⟨l', ws, e, x1, x2⟩ := Rp.lst_of (r1.mono s)
      cases e
      exact ⟨ws, f.same _ _ x1, x2⟩
    | o ha =>
      obtain rfl : l = _ := V.ref.inj (show V.ref l = V.ref _ from r1)
      obtain ⟨ws, x1, x2⟩ := f.list (ka _ _ (ex _ _ ha))
      exact ⟨ws, x1, x2.rp⟩
  refine ⟨fun hi => ?_, fun hi => ⟨ws, .of h3, by rw [h4.length]; exact hi⟩⟩
  obtain ⟨d, hd⟩ : ∃ d, xs[i]? = some d := ⟨xs[i], List.getElem?_eq_getElem hi⟩
  obtain ⟨w, hw, rw'⟩ := h4.get hd
  refine ⟨⟨ws, w, .of h3, hw⟩, fun x H2 y => ⟨y.1, d, hd, ?_⟩⟩
  have := y.2 ws (.of h3)
  rw [hw] at this
  cases this
  exact rw'⟩
theorem it_tup {xs : List PyData} (h : DE g I Γ A a (.tuple xs)) : ItD g I Γ A a xs := fun X cx A1 ex => ⟨_, fun _ => pi_tup PE.s, fun S H σ he hf T k => by
  refine h X cx A1 ex S H σ he hf _ fun v S1 H1 s1 f1 r1 => ?_
  obtain ⟨l, vs, rfl, h1, h2⟩ := Rp.tup_of r1
  refine ⟨l, rfl, ⟨vs, .of (f1.same _ _ h1)⟩, k S1 H1 _ s1 f1 fun i S' A' H' s f ka => ?_⟩
  have h3 := f.same _ _ (s _ _ h1)
  have h4 := h2.mono s
  refine ⟨fun hi => ?_, fun hi => ⟨vs, .of h3, by rw [h4.length]; exact hi⟩⟩
  obtain ⟨d, hd⟩ : ∃ d, xs[i]? = some d := ⟨xs[i], List.getElem?_eq_getElem hi⟩
  obtain ⟨w, hw, rw'⟩ := h4.get hd
  refine ⟨⟨vs, w, .of h3, hw⟩, fun x H2 y => ⟨y.1, d, hd, ?_⟩⟩
  have := y.2 vs (.of h3)
  rw [hw] at this
  cases this
  exact rw'⟩
def rng (lo : Int) (n : Nat) : List Int := (List.range n).map fun (i : Nat) => lo + (i : Int)
theorem rng_length (lo : Int) (n : Nat) : (rng lo n).length = n := by simp [rng]
theorem rng_get {lo : Int} {n i : Nat} (h : i < n) : (rng lo n)[i]? = some (lo + i) := by simp [rng, h]
theorem mem_rng {lo x : Int} {n : Nat} : x ∈ rng lo n ↔ lo ≤ x ∧ x < lo + n := by
  unfold rng
  rw [List.mem_map]
  constructor
  · rintro ⟨i, hi, rfl⟩
    have := List.mem_range.mp hi
    omega
  · rintro ⟨h1, h2⟩
    exact ⟨(x - lo).toNat, List.mem_range.mpr (by omega), by omega⟩
theorem it_range1 {j : Int} {p1 p2 : Pos} (hg : GlS I.sc "range") (hm : g.mg "range" = none) (ha : DE g I Γ A a (.int j)) (hj : j < 2 ^ 62) (hj0 : -(2 ^ 62) ≤ j) (hn : nostar a = true := by rfl) : ItD g I Γ A (.Call (.Name "range" p1) [a] [] p2) ((rng 0 j.toNat).map .int) := fun X cx A1 ex => by
  obtain ⟨ea, rfl⟩ := cx.eq
  refine ⟨_, fun _ => pi_range1 (hg.gl cx.sc) hm PA.s (star_cons hn [] X.env), fun S H σ he hf T k => ?_⟩
  refine va_cons ha va_nil hn X cx A1 ex S H σ he hf _ fun vs S1 H1 s1 f1 rr => ?_
  obtain ⟨v, rfl, r1⟩ := rr.one
  refine ⟨j, by rw [Rp.int_of r1], hj0, hj, k S1 H1 _ s1 f1 fun i S' A' H' s f ka => ⟨fun hi => ?_, fun hi => ?_⟩⟩
  · rw [List.length_map, rng_length] at hi
    refine ⟨hi, fun x H2 y => ⟨y.1, .int (0 + i), by rw [List.getElem?_map, rng_get hi]; rfl, ?_⟩⟩
    rw [y.2]
    exact .int _
  · rw [List.length_map, rng_length] at hi
    exact hi
theorem it_range2 {i0 j : Int} {p1 p2 : Pos} (hg : GlS I.sc "range") (hm : g.mg "range" = none) (ha : DE g I Γ A a (.int i0)) (hb : DE g I Γ A b (.int j)) (hj : j < 2 ^ 62) (hj0 : -(2 ^ 62) ≤ j) (hi : i0 < 2 ^ 62) (hi0 : -(2 ^ 62) ≤ i0) (hn : nostar a = true := by rfl) (hn2 : nostar b = true := by rfl) : ItD g I Γ A (.Call (.Name "range" p1) [a, b] [] p2) ((rng i0 (j - i0).toNat).map .int) := fun X cx A1 ex => by
  obtain ⟨ea, rfl⟩ := cx.eq
  refine ⟨_, fun _ => pi_range2 (hg.gl cx.sc) hm PA.s (by rw [star_cons hn, star_cons hn2]; rfl) (by rw [star_cons hn2]; rfl), fun S H σ he hf T k => ?_⟩
  refine va_cons ha (va_cons hb va_nil hn2) hn X cx A1 ex S H σ he hf _ fun vs S1 H1 s1 f1 rr => ?_
  obtain ⟨v, w, rfl, r1, r2⟩ := rr.two
  refine ⟨i0, j, by rw [Rp.int_of r1, Rp.int_of r2], ⟨hi0, hi, hj0, hj⟩, k S1 H1 _ s1 f1 fun i S' A' H' s f ka => ⟨fun hi => ?_, fun hi => ?_⟩⟩
  · rw [List.length_map, rng_length] at hi
    refine ⟨hi, fun x H2 y => ⟨y.1, .int (i0 + i), by rw [List.getElem?_map, rng_get hi]; rfl, ?_⟩⟩
    rw [y.2]
    exact .int _
  · rw [List.length_map, rng_length] at hi
    exact hi

/-- readings of a comprehension's parts that are one for all frames -/
def gAll (X : Cx) (scope : Scope) (tg : Expr) : TG := fun v σ H Q => ∀ s H0 C cl fp, sG (X.blk s H0 scope (compEnvC scope cl C X.env) fp) tg v σ H Q
def eAll (X : Cx) (scope : Scope) (elt : Expr) : TE := fun σ H Q => ∀ s H0 C cl fp, sE (X.blk s H0 scope (compEnvC scope cl C X.env) fp) elt σ H Q
def tAll (X : Cx) (scope : Scope) (ifs : List Expr) : TT := fun σ H Q => ∀ s H0 C cl fp, ∀ pins s1, L2.Inv (X.blk s H0 scope (compEnvC scope cl C X.env) fp) pins σ H s1 →
  wpAny (model X.prog X.w) X.A (forIn ifs true fun c r => if r = true then do let ok ← isTrue c (compEnvC scope cl C X.env) (eval c (compEnvC scope cl C X.env)); pure (ForInStep.yield ok) else pure (ForInStep.yield r)) (TP (X.blk s H0 scope (compEnvC scope cl C X.env) fp) pins σ Q) (fun _ _ => False) s1
variable {α : Type} {zs : List α} {f h : α → PyData} {pr : α → Bool} {Γ' : α → Gam} {tg iter elt : Expr} {ifs : List Expr} {scope : Scope}
/-- the list of what is kept -/
theorem lc_reads (own : List (Str × Nat)) (vis : List Bool) (okI : (I.blk scope vis).Ok) (hi : ItD g I Γ A iter (zs.map f))
    (ht : ∀ z ∈ zs, TgB g (I.blk scope vis) (own.map (·.2)) tg (wipeG Γ (own.map (·.2))) (f z) (Γ' z)) (hts : ∀ z ∈ zs, DTs g (I.blk scope vis) (Γ' z) A ifs (pr z)) (he : ∀ z ∈ zs, pr z = true → DE g (I.blk scope vis) (Γ' z) A elt (h z)) (hz : zs.length ≤ sizeLine) :
    ∀ X, Cok g I X → ∀ A1, ExtA A A1 → ∃ wi : TI, (∀ tg, PI X tg iter wi) ∧ ∀ S H σ, EnvOk S Γ σ → Fit S A1 H → ∀ Q : VK, (∀ L S' H', A1 L = none → Same S S' → Fit S' (updA A1 L (aoL (((zs.filter pr).map h).map .d))) H' → Q (.ref L) H') →
      tLc wi (gAll X scope tg) (tAll X scope ifs) (eAll X scope elt) (own.map (·.2)) σ H Q := by
  intro X cx A1 ex
  obtain ⟨wi, hpi, hw⟩ := hi X cx A1 ex
  refine ⟨wi, hpi, fun S H σ hv hf Q k => hw S H σ hv hf _ fun S1 H1 J s1 f1 turn L hL => ?_⟩
  have LA : A1 L = none := f1.noneA hL
  have res : ∀ i, i < zs.length → ∀ z, zs[i]? = some z → ((zs.take (i + 1)).filter pr).map h = ((zs.take i).filter pr).map h ++ (if pr z = true then [h z] else []) := fun i hi z hz => by
    rw [List.take_add_one, hz, Option.toList_some, List.filter_append, List.map_append]
    congr 1
    by_cases e : pr z = true
    · rw [if_pos e]; simp [List.filter, e]
    · rw [if_neg e]; simp [List.filter, e]
  have sm : ∀ i, (((zs.take i).filter pr).map h).length ≤ i := fun i => by
    rw [List.length_map]
    exact Nat.le_trans (List.length_filter_le _ _) (by rw [List.length_take]; omega)
  refine ⟨fun i m H' => m = zs.length - i ∧ i ≤ zs.length ∧ ∃ S', Same S1 S' ∧ Fit S' (updA A1 L (aoL ((((zs.take i).filter pr).map h).map .d))) H', ⟨zs.length, by simp, Nat.zero_le _, S1, Same.refl S1, f1.listNew hL .nil⟩, ?_⟩
  rintro i m H2 ⟨rfl, hile, S2, s2, f2⟩
  obtain ⟨t1, t2⟩ := turn i S2 _ H2 s2 f2 fun l xs q => by rw [updA_ne (fun z => by rw [z, LA] at q; cases q)]; exact q
  rw [List.length_map] at t1 t2
  by_cases hlt : i < zs.length
  · obtain ⟨go, yl⟩ := t1 hlt
    refine .inr ⟨go, fun H' => ∃ S', Same S1 S' ∧ Fit S' (updA A1 L (aoL ((((zs.take (i + 1)).filter pr).map h).map .d))) H', fun H' ⟨S', q1, q2⟩ => ⟨zs.length - (i + 1), by omega, rfl, hlt, S', q1, q2⟩, fun x H3 y => ?_⟩
    obtain ⟨rfl, d, hd, rd⟩ := yl x H3 y
    obtain ⟨z, hzi⟩ : ∃ z, zs[i]? = some z := ⟨zs[i], List.getElem?_eq_getElem hlt⟩
    have hm : z ∈ zs := List.mem_of_getElem? hzi
    rw [List.getElem?_map, hzi] at hd
    cases hd
    have exU : ExtA A (updA A1 L (aoL ((((zs.take i).filter pr).map h).map .d))) := ex.trans (ExtA.upd LA)
    have hwv : EnvOk S2 (wipeG Γ (own.map (·.2))) (L2.wipe σ (own.map (·.2))) := (hv.mono (s1.trans s2)).wipe _
    intro s H0 C cl fp
    have cb := cx.blk okI s H0 C cl fp
    obtain ⟨t, pg, hq⟩ := ht z hm _ cb
    refine pg.to (hq S2 _ H3 _ x hwv f2 rd _ fun σ3 he3 hw3 => ⟨by rw [hw3, wipe_wipe], ?_⟩)
    intro s' H0' C' cl' fp' pins1 s1' Iv
    have cb' := cx.blk okI s' H0' C' cl' fp'
    obtain ⟨tt, ptt, htt⟩ := hts z hm _ cb' _ exU
    refine ptt.run pins1 s1' σ3 H3 _ Iv (htt S2 H3 σ3 he3 f2 _ fun S4 H4 s4 f4 => ?_)
    by_cases e : pr z = true
    · rw [if_pos e]
      intro s5 H05 C5 cl5 fp5
      have cb5 := cx.blk okI s5 H05 C5 cl5 fp5
      refine he z hm e _ cb5 _ exU S4 H4 σ3 (he3.mono s4) f4 _ fun v S5 H5 s6 f5 r5 => ?_
      obtain ⟨vs, q1, q2⟩ := f5.list (updA_same (A := A1) (a := L))
      refine ⟨vs, q1, ?_, S5, (s2.trans s4).trans s6, ?_⟩
      · rw [q2.length, List.length_map]; exact Nat.lt_of_le_of_lt (sm i) (Nat.lt_of_lt_of_le hlt hz)
      · have := f5.listSet (updA_same (A := A1) (a := L)) (q2.append (.cons (d := .d (h z)) r5 .nil))
        rw [updA_updA] at this
        rw [res i hlt z hzi, if_pos e, List.map_append]
        exact this
    · rw [if_neg e]
      refine ⟨S4, s2.trans s4, ?_⟩
      rw [res i hlt z hzi, if_neg e, List.append_nil]
      exact f4
  · have e : i = zs.length := by omega
    subst e
    refine .inl ⟨t2 (Nat.le_refl _), k L S2 H2 LA (s1.trans s2) ?_⟩
    rw [List.take_length] at f2
    exact f2
theorem PGall {X : Cx} {scope : Scope} {tg : Expr} (s : Shared) (H : Hp) (C : Addr) (cl : List (Str × Addr)) (fp : List Addr) : PG (X.blk s H scope (compEnvC scope cl C X.env) fp) tg (gAll X scope tg) := ⟨fun pins s1 σ H1 v u Q I r h => h s H C cl fp pins s1 u I r⟩
theorem PEall {X : Cx} {scope : Scope} {tg : Expr} (s : Shared) (H : Hp) (C : Addr) (cl : List (Str × Addr)) (fp : List Addr) : PE (X.blk s H scope (compEnvC scope cl C X.env) fp) tg (eAll X scope tg) := ⟨fun pins s1 σ H1 Q I h => h s H C cl fp pins s1 I⟩
theorem PTsall {X : Cx} {scope : Scope} {ifs : List Expr} (s : Shared) (H : Hp) (C : Addr) (cl : List (Str × Addr)) (fp : List Addr) : PTs (X.blk s H scope (compEnvC scope cl C X.env) fp) ifs (tAll X scope ifs) := ⟨fun pins s1 σ H1 Q I h => h s H C cl fp pins s1 I⟩
/-- [elt for tg in iter if ..] -/
theorem de_lc (own : List (Str × Nat)) (vis : List Bool) (ok : BlkOk I.N I.sc scope own) (okI : (I.blk scope vis).Ok) (hi : ItD g I Γ A iter (zs.map f))
    (ht : ∀ z ∈ zs, TgB g (I.blk scope vis) (own.map (·.2)) tg (wipeG Γ (own.map (·.2))) (f z) (Γ' z)) (hts : ∀ z ∈ zs, DTs g (I.blk scope vis) (Γ' z) A ifs (pr z)) (he : ∀ z ∈ zs, pr z = true → DE g (I.blk scope vis) (Γ' z) A elt (h z)) (hz : zs.length ≤ sizeLine)
    (hs : ∀ env x, foldedSetIterable iter env x = pure x := by intro _ _; rfl) : DE g I Γ A (.ListComp elt [⟨tg, iter, ifs, 0⟩] scope pos) (.list ((zs.filter pr).map h)) := by
  intro X cx A1 ex S H σ hv hf Q k
  obtain ⟨wi, hpi, hw⟩ := lc_reads own vis okI hi ht hts he hz X cx A1 ex
  refine (pe_lc cx.calm (by rw [cx.N]; exact cx.ok.nd) (hpi tg) (by rw [cx.N, cx.sc]; exact ok) PGall PTsall PEall (hs X.env)).to (hw S H σ hv hf _ fun L S' H' hL s f => ?_)
  obtain ⟨S2, f2, s2, r2⟩ := f.freezeL updA_same
  rw [delA_updA hL] at f2
  exact k _ S2 H' (s.trans s2) f2 r2
/-- .. as a new owned list -/
theorem we_lc {Q : DV → AH → Prop} (own : List (Str × Nat)) (vis : List Bool) (ok : BlkOk I.N I.sc scope own) (okI : (I.blk scope vis).Ok) (hi : ItD g I Γ A iter (zs.map f))
    (ht : ∀ z ∈ zs, TgB g (I.blk scope vis) (own.map (·.2)) tg (wipeG Γ (own.map (·.2))) (f z) (Γ' z)) (hts : ∀ z ∈ zs, DTs g (I.blk scope vis) (Γ' z) A ifs (pr z)) (he : ∀ z ∈ zs, pr z = true → DE g (I.blk scope vis) (Γ' z) A elt (h z)) (hz : zs.length ≤ sizeLine)
    (k : ∀ l, A l = none → Q (.r l) (updA A l (aoL (((zs.filter pr).map h).map .d)))) (hs : ∀ env x, foldedSetIterable iter env x = pure x := by intro _ _; rfl) : WE g I R Γ A (.ListComp elt [⟨tg, iter, ifs, 0⟩] scope pos) Q := by
  intro X cx S H σ _ hv hf Qv q
  obtain ⟨wi, hpi, hw⟩ := lc_reads own vis okI hi ht hts he hz X cx A (ExtA.refl A)
  refine (pe_lc cx.calm (by rw [cx.N]; exact cx.ok.nd) (hpi tg) (by rw [cx.N, cx.sc]; exact ok) PGall PTsall PEall (hs X.env)).to (hw S H σ hv hf _ fun L S' H' hL s f => ?_)
  exact q _ (.r L) S' _ H' s f rfl (k L hL)
/-- name = [..], the name no cell: what stands behind, the list frozen -/
theorem ws_setLc {x : Str} {p' : Pos} (i : Nat) (hN : I.N[i]? = some x) (hx : I.sc.names.lookup x = some .local) (ha : (scope.names.any fun (n, k) => n == x && (k == .local || k == .cell)) = false) (hl : (p'.line == pos.line) = true) (hk : I.sc.kind = .function) {spos : Pos}
    (own : List (Str × Nat)) (vis : List Bool) (ok : BlkOk I.N I.sc scope own) (okI : (I.blk scope vis).Ok) (hi : ItD g I Γ A iter (zs.map f))
    (ht : ∀ z ∈ zs, TgB g (I.blk scope vis) (own.map (·.2)) tg (wipeG Γ (own.map (·.2))) (f z) (Γ' z)) (hts : ∀ z ∈ zs, DTs g (I.blk scope vis) (Γ' z) A ifs (pr z)) (he : ∀ z ∈ zs, pr z = true → DE g (I.blk scope vis) (Γ' z) A elt (h z)) (hz : zs.length ≤ sizeLine)
    (k : D.nx (Γ.set i (some (.d (.list ((zs.filter pr).map h))))) A) (hs : ∀ env x, foldedSetIterable iter env x = pure x := by intro _ _; rfl) : WS g I R Γ A (.Assign [.Name x p'] (.ListComp elt [⟨tg, iter, ifs, 0⟩] scope pos) spos) D := by
  intro X cx S H σ _ hv hf
  obtain ⟨wi, hpi, hw⟩ := lc_reads own vis okI hi ht hts he hz X cx A (ExtA.refl A)
  refine (ps_setLc (i := i) cx.calm (by rw [cx.N]; exact cx.ok.nd) (by rw [cx.N]; exact hN) (by rw [cx.sc]; exact hx) (sw_true (by rw [cx.sc]; exact hk) (by rw [cx.sc]; exact hx) hl ha) (hpi tg) (by rw [cx.N, cx.sc]; exact ok) PGall PTsall PEall (hs X.env)).to (hw S H σ hv hf _ fun L S' H' hL s f => ?_)
  obtain ⟨S2, f2, s2, r2⟩ := f.freezeL updA_same
  rw [delA_updA hL] at f2
  exact ⟨S2, _, A, s.trans s2, (hv.mono (s.trans s2)).set (dv := .d _) r2, f2, k⟩
/-- .. the list owned -/
theorem ws_setLcO {x : Str} {p' : Pos} (i : Nat) (hN : I.N[i]? = some x) (hx : I.sc.names.lookup x = some .local) (ha : (scope.names.any fun (n, k) => n == x && (k == .local || k == .cell)) = false) (hl : (p'.line == pos.line) = true) (hk : I.sc.kind = .function) {spos : Pos}
    (own : List (Str × Nat)) (vis : List Bool) (ok : BlkOk I.N I.sc scope own) (okI : (I.blk scope vis).Ok) (hi : ItD g I Γ A iter (zs.map f))
    (ht : ∀ z ∈ zs, TgB g (I.blk scope vis) (own.map (·.2)) tg (wipeG Γ (own.map (·.2))) (f z) (Γ' z)) (hts : ∀ z ∈ zs, DTs g (I.blk scope vis) (Γ' z) A ifs (pr z)) (he : ∀ z ∈ zs, pr z = true → DE g (I.blk scope vis) (Γ' z) A elt (h z)) (hz : zs.length ≤ sizeLine)
    (k : ∀ l, A l = none → D.nx (Γ.set i (some (.r l))) (updA A l (aoL (((zs.filter pr).map h).map .d)))) (hs : ∀ env x, foldedSetIterable iter env x = pure x := by intro _ _; rfl) : WS g I R Γ A (.Assign [.Name x p'] (.ListComp elt [⟨tg, iter, ifs, 0⟩] scope pos) spos) D := by
  intro X cx S H σ _ hv hf
  obtain ⟨wi, hpi, hw⟩ := lc_reads own vis okI hi ht hts he hz X cx A (ExtA.refl A)
  refine (ps_setLc (i := i) cx.calm (by rw [cx.N]; exact cx.ok.nd) (by rw [cx.N]; exact hN) (by rw [cx.sc]; exact hx) (sw_true (by rw [cx.sc]; exact hk) (by rw [cx.sc]; exact hx) hl ha) (hpi tg) (by rw [cx.N, cx.sc]; exact ok) PGall PTsall PEall (hs X.env)).to (hw S H σ hv hf _ fun L S' H' hL s f => ?_)
  exact ⟨S', _, _, s, (hv.mono s).set (dv := .r L) rfl, f, k L hL⟩
/-- name = [..], the name a cell (another comprehension reads it): no swap -/
theorem sw_cell {elt : Expr} {gs : List Comprehension} {scope : Scope} {pos py : Pos} {y : Str} {l : Nat} {env : Env} (hy : env.scope.names.lookup y = some .cell) : swapsWith (.ListComp elt gs scope pos) (some (.Name y py)) l env = pure false := by
  have ky : env.kindOf y = some .cell := hy
  unfold swapsWith
  simp only [ky]
  have e : ((some NameKind.cell : Option NameKind) == some NameKind.local) = false := rfl
  rw [e, Bool.and_false, Bool.false_and, Bool.false_and]
theorem ws_setC {x : Str} {p' : Pos} (i : Nat) {gs : List Comprehension} {spos : Pos} (hN : I.N[i]? = some x) (hx : I.sc.names.lookup x = some .cell) (ht : I.cl x = true) (h : WE g I R Γ A (.ListComp elt gs scope pos) fun dv A' => D.nx (Γ.set i (some dv)) A') : WS g I R Γ A (.Assign [.Name x p'] (.ListComp elt gs scope pos) spos) D := fun X cx S H σ tk he hf =>
  (ps_set (by rw [cx.N]; exact cx.ok.nd) (by rw [cx.N]; exact hN) (LocOk.loc (.inr ⟨ht, hx⟩) cx) PE.s (sw_cell (by rw [cx.sc]; exact hx)) (LocOk.fn (.inr ⟨ht, hx⟩) cx)).to (h X cx S H σ tk he hf _ fun v dv S' A' H' s f r q => ⟨S', _, A', s, (he.mono s).set r, f, q⟩)
end
end LB

/-! Layer 7: own defs, methods, classes: promises over data, calls, the rule of a def; raise. -/
namespace LB
open PySem PySem.Spec PyProof.Rows L2

/-- a promise over data: arguments, what is owned; what is wanted of the end, of an exception -/
abbrev ASp := List DV → AH → (DV → AH → Prop) → Rz → Prop
def toSp (n : Nat) (asp : ASp) : Sp := fun vs H Q E => ∃ S A ds Q₀ E₀, ds.length = n ∧ Fit S A H ∧ RepVs S vs ds ∧ asp ds A Q₀ E₀ ∧
  (∀ dv A' S' v H', Same S S' → Fit S' A' H' → RepV S' v dv → Q₀ dv A' → Q v H') ∧ (∀ C A' S' H', Same S S' → Fit S' A' H' → E₀ C A' → E (.ref C) none H')
/-- a def that keeps a promise, and how it is called -/
structure Callee (g : Gv) (x : Str) (ps : List Str) (lv : Nat) (asp : ASp) : Prop where
  ex : ∃ f fd, FnOk g.P g.w g.K g.mg g.base (L2.CX g.P g.w) lv f fd ps (toSp ps.length asp) ∧ g.mg x = some (.ref f) ∧ W.keepIn g.K (.ref f) = true ∧ Binds g.K fd ps []
structure MethOk (g : Gv) (C : Addr) (m : Str) (ps : List Str) (lv : Nat) (asp : ASp) : Prop where
  cls : Cls g.K C
  ex : ∃ f fd, FnOk g.P g.w g.K g.mg g.base (L2.CX g.P g.w) lv f fd ps (toSp ps.length asp) ∧ Meth g.K C m f ∧ Binds g.K fd ps []
structure MakeOk (g : Gv) (x : Str) (C : Addr) (ps : List Str) (lv : Nat) (asp : ASp) : Prop where
  mg : g.mg x = some (.ref C)
  ex : ∃ f fd, FnOk g.P g.w g.K g.mg g.base (L2.CX g.P g.w) lv f fd ps (toSp ps.length asp) ∧ Mk g.K C f ∧ Binds g.K fd ps []

section
variable {g : Gv} {I : CI} {R : Rz} {Γ : Gam} {A : AH} {pos p apos : Pos} {e o a b c : Expr} {es : List Expr} {ds : List DV} {D : AEnds} {Q : DV → AH → Prop} {asp : ASp} {ps : List Str} {lv : Nat} {x m : Str} {C : Addr}

/-- what a promise wants, from the data's side -/
theorem toSp_of {S : Hp} {A : AH} {H : Hp} {vs : List V} {ds : List DV} {n : Nat} {Q : DV → AH → Prop} {R : Rz} {Qv : VK} (hf : Fit S A H) (r : RepVs S vs ds) (hn : ds.length = n) (h : asp ds A Q R) {S0 : Hp} (s0 : Same S0 S) (k : ∀ v dv S' A' H', Same S0 S' → Fit S' A' H' → RepV S' v dv → Q dv A' → Qv v H') : toSp n asp vs H Qv (WR S0 R) :=
  ⟨S, A, ds, Q, R, hn, hf, r, h, fun dv A' S' v H' s f r q => k v dv S' A' H' (s0.trans s) f r q, fun C A' S' H' s f q => ⟨C, S', A', rfl, rfl, s0.trans s, f, q⟩⟩
theorem we_call (F : Callee g x ps lv asp) (hl : lv ≤ I.k) (hg : GlS I.sc x) (ha : VA g I Γ A (e :: es) ds) (hn : ds.length = ps.length) (h : asp ds A Q R) (hs : nostar e = true := by rfl) (hss : es.all nostar = true := by rfl) (hd : (x == ("__debug__" : Str)) = false := by decide) : WE g I R Γ A (.Call (.Name x p) (e :: es) [] pos) Q := by
  intro X cx S H σ tk he hf Qv k
  obtain ⟨ea, rfl⟩ := cx.eq
  obtain ⟨f, fd, F, hm, hk, hb⟩ := F.ex
  refine (pe_call F (cx.room.mono hl) (hg.gl cx.sc) hm hk hb .nil tk.pass PA.s hd (star_cons hs es X.env) (star_any pos X.env hss)).to (ha X cx A (ExtA.refl A) S H σ he hf _ fun vs S1 H1 s1 f1 r1 => ?_)
  rw [List.append_nil]
  exact toSp_of f1 r1 hn h s1 k
theorem we_call0 (F : Callee g x ps lv asp) (hl : lv ≤ I.k) (hg : GlS I.sc x) (hn : 0 = ps.length) (h : asp [] A Q R) (hd : (x == ("__debug__" : Str)) = false := by decide) : WE g I R Γ A (.Call (.Name x p) [] [] pos) Q := by
  intro X cx S H σ tk he hf Qv k
  obtain ⟨ea, rfl⟩ := cx.eq
  obtain ⟨f, fd, F, hm, hk, hb⟩ := F.ex
  refine (pe_call0 F (cx.room.mono hl) (hg.gl cx.sc) hm hk hb .nil tk.pass hd).to ?_
  exact toSp_of hf .nil hn h (Same.refl S) k
/-- a call that neither raises nor changes what is owned, as an expression's worth -/
theorem ve_call {dv : DV} (F : Callee g x ps lv asp) (hl : lv ≤ I.k) (hg : GlS I.sc x) (ha : VA g I Γ A (e :: es) ds) (hn : ds.length = ps.length) (h : ∀ A1, ExtA A A1 → asp ds A1 (fun d A' => d = dv ∧ A' = A1) fun _ _ => False) (hs : nostar e = true := by rfl) (hss : es.all nostar = true := by rfl) (hd : (x == ("__debug__" : Str)) = false := by decide) : VE g I Γ A (.Call (.Name x p) (e :: es) [] pos) dv := by
  intro X cx A1 ex S H σ he hf Qv k
  obtain ⟨ea, rfl⟩ := cx.eq
  obtain ⟨f, fd, F, hm, hk, hb⟩ := F.ex
  refine (pe_call (E := E0) F (cx.room.mono hl) (hg.gl cx.sc) hm hk hb .nil passL PA.s hd (star_cons hs es X.env) (star_any pos X.env hss)).to (ha X cx A1 ex S H σ he hf _ fun vs S1 H1 s1 f1 r1 => ?_)
  rw [List.append_nil]
  exact ⟨S1, A1, ds, _, _, hn, f1, r1, h A1 ex, fun d A' S' v H' s f r q => by obtain ⟨rfl, rfl⟩ := q; exact k v S' H' (s1.trans s) f r, fun _ _ _ _ _ _ q => q⟩
theorem we_meth {l : Addr} {fs : List (Str × FV)} (F : MethOk g C m ps lv asp) (hl : lv ≤ I.k) (ho : VE g I Γ A o (.r l)) (hA : A l = some (aoI C fs)) (hm : fs.lookup m = none) (ha : VA g I Γ A (e :: es) ds) (hn : ds.length + 1 = ps.length) (h : asp (.r l :: ds) A Q R) (hs : nostar e = true := by rfl) (hss : es.all nostar = true := by rfl)
    {pl : Env → Sem Bool} (ht : ∀ env, eval (.Call (.Attribute o m apos) (e :: es) [] pos) env = (do
      let ov ← eval o env
      standAt apos.atName
      let (f, first) ← holding [ov] (getMethod ov m (pl env))
      callWith pos f first (backTo pos (starEach (e :: es) env)) (backToKw pos (keywordEach [] env))) := by intro _; rfl) : WE g I R Γ A (.Call (.Attribute o m apos) (e :: es) [] pos) Q := by
  intro X cx S H σ tk he hf Qv k
  obtain ⟨ea, rfl⟩ := cx.eq
  obtain ⟨f, fd, F', hm', hb⟩ := F.ex
  refine (pe_meth (pl := pl X.env) PE.s F.cls hm' F' (cx.room.mono hl) hb .nil tk.pass PA.s (star_cons hs es X.env) (star_any pos X.env hss) (ht X.env)).to (ho X cx A (ExtA.refl A) S H σ he hf _ fun v S1 H1 s1 f1 r1 => ?_)
  obtain ⟨dx, vfs, e1, e2, e3⟩ := f1.ins hA
  refine ⟨l, dx, vfs, r1, e1, lookup_none_keys e2.symm hm, ?_⟩
  refine ha X cx A (ExtA.refl A) S1 H1 σ (he.mono s1) f1 _ fun vs S2 H2 s2 f2 r2 => ?_
  rw [List.append_nil, show v = .ref l from r1]
  exact toSp_of f2 (.cons (d := .r l) rfl r2) (by rw [List.length_cons]; exact hn) h (s1.trans s2) k
theorem we_meth0 {l : Addr} {fs : List (Str × FV)} (F : MethOk g C m ps lv asp) (hl : lv ≤ I.k) (ho : VE g I Γ A o (.r l)) (hA : A l = some (aoI C fs)) (hm : fs.lookup m = none) (hn : 1 = ps.length) (h : asp [.r l] A Q R)
    {pl : Env → Sem Bool} (ht : ∀ env, eval (.Call (.Attribute o m apos) [] [] pos) env = (do
      let ov ← eval o env
      standAt apos.atName
      let (f, first) ← holding [ov] (getMethod ov m (pl env))
      callWith pos f first (backTo pos (starEach [] env)) (backToKw pos (keywordEach [] env))) := by intro _; rfl) : WE g I R Γ A (.Call (.Attribute o m apos) [] [] pos) Q := by
  intro X cx S H σ tk he hf Qv k
  obtain ⟨ea, rfl⟩ := cx.eq
  obtain ⟨f, fd, F', hm', hb⟩ := F.ex
  refine (pe_meth0 (pl := pl X.env) PE.s F.cls hm' F' (cx.room.mono hl) hb .nil tk.pass (ht X.env)).to (ho X cx A (ExtA.refl A) S H σ he hf _ fun v S1 H1 s1 f1 r1 => ?_)
  obtain ⟨dx, vfs, e1, e2, e3⟩ := f1.ins hA
  refine ⟨l, dx, vfs, r1, e1, lookup_none_keys e2.symm hm, ?_⟩
  show toSp ps.length asp (v :: ([] ++ [])) H1 Qv (WR S R)
  rw [List.append_nil, show v = .ref l from r1]
  exact toSp_of f1 (.cons (d := .r l) rfl .nil) hn h s1 k
/-- C(..): a new instance -/
theorem we_make (F : MakeOk g x C ps lv asp) (hl : lv + 1 ≤ I.k) (hg : GlS I.sc x) (ha : VA g I Γ A (e :: es) ds) (hn : ds.length + 1 = ps.length) (h : ∀ l, A l = none → asp (.r l :: ds) (updA A l (aoI C [])) (fun dv A' => dv = .d .none ∧ Q (.r l) A') R) (hs : nostar e = true := by rfl) (hss : es.all nostar = true := by rfl) (hd : (x == ("__debug__" : Str)) = false := by decide) : WE g I R Γ A (.Call (.Name x p) (e :: es) [] pos) Q := by
  intro X cx S H σ tk he hf Qv k
  obtain ⟨ea, rfl⟩ := cx.eq
  obtain ⟨f, fd, F', M, hb⟩ := F.ex
  refine (pe_make M F' (cx.room.mono hl) (hg.gl cx.sc) F.mg hb .nil tk.pass PA.s hd (star_cons hs es X.env) (star_any pos X.env hss)).to (ha X cx A (ExtA.refl A) S H σ he hf _ fun vs S1 H1 s1 f1 r1 => ?_)
  intro y dy hy hdy hne
  rw [List.append_nil]
  have f2 := f1.insNew (C := C) hy hdy hne
  refine toSp_of f2 (.cons (d := .r y) rfl r1) (by rw [List.length_cons]; exact hn) (h y (f1.noneA hy)) s1 fun v dv S' A' H' s f r q => ?_
  obtain ⟨rfl, q⟩ := q
  exact ⟨Rp.non_of r, k _ (.r y) S' A' H' s f rfl q⟩
theorem we_make0 (F : MakeOk g x C ps lv asp) (hl : lv + 1 ≤ I.k) (hg : GlS I.sc x) (hn : 1 = ps.length) (h : ∀ l, A l = none → asp [.r l] (updA A l (aoI C [])) (fun dv A' => dv = .d .none ∧ Q (.r l) A') R) (hd : (x == ("__debug__" : Str)) = false := by decide) : WE g I R Γ A (.Call (.Name x p) [] [] pos) Q := by
  intro X cx S H σ tk he hf Qv k
  obtain ⟨ea, rfl⟩ := cx.eq
  obtain ⟨f, fd, F', M, hb⟩ := F.ex
  refine (pe_make0 M F' (cx.room.mono hl) (hg.gl cx.sc) F.mg hb .nil tk.pass hd).to ?_
  intro y dy hy hdy hne
  have f2 := hf.insNew (C := C) hy hdy hne
  refine toSp_of f2 (.cons (d := .r y) rfl .nil) hn (h y (hf.noneA hy)) (Same.refl S) fun v dv S' A' H' s f r q => ?_
  obtain ⟨rfl, q⟩ := q
  exact ⟨Rp.non_of r, k _ (.r y) S' A' H' s f rfl q⟩

/-! ### fields -/
theorem ve_fld {l : Addr} {fs : List (Str × FV)} {n : Str} {d : DV} (cl : Cls g.K C) (na : NoAttr g.K C n) (ho : VE g I Γ A o (.r l)) (hA : A l = some (aoI C fs)) (hn : fs.lookup n = some (.v d)) (hb : ∀ env, attributeBase o n env (eval o env) = eval o env := by intro _; rfl) : VE g I Γ A (.Attribute o n pos) d := by
  intro X cx A1 ex S H σ he hf Q k
  obtain ⟨ea, rfl⟩ := cx.eq
  refine (pe_fld PE.s (hb X.env)).to (ho X cx A1 ex S H σ he hf _ fun v S1 H1 s1 f1 r1 => ?_)
  obtain ⟨dx, vfs, e1, e2, e3⟩ := f1.ins (ex _ _ hA)
  obtain ⟨u, e4, e5⟩ := e3 n d hn
  exact ⟨l, C, dx, vfs, u, r1, e1, cl, na, e4, k u S1 H1 s1 f1 e5⟩
theorem ws_fld {l : Addr} {fs : List (Str × FV)} {n : Str} {pa : Pos} (cl : Cls g.K C) (na : NoAttr g.K C n) (hv : WE g I R Γ A e fun d A' => A' l = some (aoI C fs) ∧ fs.length < 1000 ∧ VE g I Γ A' o (.r l) ∧ D.nx Γ (updA A' l (aoI C (put n (.v d) fs)))) (hs : ∀ env, swapsWith e (some (.Attribute o n pa)) pos.line env = pure false := by intro _; rfl) : WS g I R Γ A (.Assign [.Attribute o n pa] e pos) D := by
  intro X cx S H σ tk he hf
  obtain ⟨ea, rfl⟩ := cx.eq
  refine (ps_fld PE.s PE.s (hs X.env)).to (hv X cx S H σ tk he hf _ fun y dv S1 A1 H1 s1 f1 ry ⟨q1, q2, q3, q4⟩ => ?_)
  refine q3 X cx A1 (ExtA.refl A1) S1 H1 σ (he.mono s1) f1 _ fun v S2 H2 s2 f2 r2 => ?_
  obtain ⟨dx, vfs, e1, e2, e3⟩ := f2.ins q1
  refine ⟨l, C, dx, vfs, r2, e1, cl, na, ?_, ?_⟩
  · have := congrArg List.length e2
    rw [List.length_map, List.length_map] at this
    omega
  · exact ⟨S2, Γ, _, s1.trans s2, he.mono (s1.trans s2), f2.fieldSet q1 e1 (ry.mono s2), q4⟩

/-! ### the methods of lists -/
theorem we_append {l : Addr} {xs : List DV} {d : DV} (ho : VE g I Γ A o (.r l)) (hA : A l = some (aoL xs)) (ha : VE g I Γ A e d) (hz : xs.length < sizeLine) (h : Q (.d .none) (updA A l (aoL (xs ++ [d])))) (hs : nostar e = true := by rfl) (hb : ∀ env, attributeBase o "append" env (eval o env) = eval o env := by intro _; rfl) (hln : (apos.endLine == pos.line) = true := by rfl)
    (hfew : ∀ env, ((backTo pos (starEach [e] env)).all (fun x => !x.1) && (backToKw pos (keywordEach [] env)).all (fun x => x.1.isSome) && decide ([e].length + ([] : List Keyword).length + (if ([] : List Keyword).isEmpty then 0 else 1) < 30)) = true := by intro _; rfl) : WE g I R Γ A (.Call (.Attribute o "append" apos) [e] [] pos) Q := by
  intro X cx S H σ tk he hf Qv k
  refine (pe_bm PySem.F.plainAttrs_list PySem.F.slot_list_append PySem.F.type_list_append mt_append PE.s PA.s (hb X.env) (hfew X.env) hln (star_cons hs [] X.env) (star_any pos X.env rfl)).to (ho X cx A (ExtA.refl A) S H σ he hf _ fun v S1 H1 s1 f1 r1 => ?_)
  obtain ⟨vs, e1, e2⟩ := f1.list hA
  rw [show v = .ref l from r1]
  refine ⟨.inl ⟨rfl, vs, .of e1⟩, va_cons ha va_nil hs X cx A (ExtA.refl A) S1 H1 σ (he.mono s1) f1 _ fun us S2 H2 s2 f2 rr => ?_⟩
  obtain ⟨u, rfl, r2⟩ := rr.one
  obtain ⟨ws, e3, e4⟩ := f2.list hA
  exact ⟨l, ws, u, rfl, rfl, e3, by rw [e4.length]; exact hz, k _ (.d .none) S2 _ _ (s1.trans s2) (f2.listSet hA (e4.append (.cons r2 .nil))) .non h⟩
/-- xs.extend(ys): ys frozen -/
theorem we_extend {l : Addr} {xs : List DV} {ys : List PyData} (ho : VE g I Γ A o (.r l)) (hA : A l = some (aoL xs)) (ha : DE g I Γ A e (.list ys)) (hz : xs.length + ys.length ≤ sizeLine) (h : Q (.d .none) (updA A l (aoL (xs ++ ys.map .d)))) (hs : nostar e = true := by rfl) (hb : ∀ env, attributeBase o "extend" env (eval o env) = eval o env := by intro _; rfl) (hln : (apos.endLine == pos.line) = true := by rfl)
    (hfew : ∀ env, ((backTo pos (starEach [e] env)).all (fun x => !x.1) && (backToKw pos (keywordEach [] env)).all (fun x => x.1.isSome) && decide ([e].length + ([] : List Keyword).length + (if ([] : List Keyword).isEmpty then 0 else 1) < 30)) = true := by intro _; rfl) : WE g I R Γ A (.Call (.Attribute o "extend" apos) [e] [] pos) Q := by
  intro X cx S H σ tk he hf Qv k
  refine (pe_bm PySem.F.plainAttrs_list PySem.F.slot_list_extend PySem.F.type_list_extend mt_extend PE.s PA.s (hb X.env) (hfew X.env) hln (star_cons hs [] X.env) (star_any pos X.env rfl)).to (ho X cx A (ExtA.refl A) S H σ he hf _ fun v S1 H1 s1 f1 r1 => ?_)
  obtain ⟨vs, e1, e2⟩ := f1.list hA
  rw [show v = .ref l from r1]
  refine ⟨.inl ⟨rfl, vs, .of e1⟩, va_cons ha va_nil hs X cx A (ExtA.refl A) S1 H1 σ (he.mono s1) f1 _ fun us S2 H2 s2 f2 rr => ?_⟩
  obtain ⟨u, rfl, r2⟩ := rr.one
  obtain ⟨ws, e3, e4⟩ := f2.list hA
  obtain ⟨m, ys', rfl, e5, e6⟩ := Rp.lst_of r2
  exact ⟨l, m, ws, ys', rfl, rfl, e3, f2.same _ _ e5, by rw [e4.length, e6.length]; exact hz, k _ (.d .none) S2 _ _ (s1.trans s2) (f2.listSet hA (e4.append (RepVs.ofData e6))) .non h⟩
theorem we_pop {l : Addr} {xs : List DV} {d : DV} (ho : VE g I Γ A o (.r l)) (hA : A l = some (aoL xs)) (hd : xs[xs.length - 1]? = some d) (h : Q d (updA A l (aoL xs.dropLast))) (hb : ∀ env, attributeBase o "pop" env (eval o env) = eval o env := by intro _; rfl) (hln : (apos.endLine == pos.line) = true := by rfl) : WE g I R Γ A (.Call (.Attribute o "pop" apos) [] [] pos) Q := by
  intro X cx S H σ tk he hf Qv k
  refine (pe_bm0 PySem.F.plainAttrs_list PySem.F.slot_list_pop PySem.F.type_list_pop mt_pop PE.s (hb X.env) hln).to (ho X cx A (ExtA.refl A) S H σ he hf _ fun v S1 H1 s1 f1 r1 => ?_)
  obtain ⟨vs, e1, e2⟩ := f1.list hA
  rw [show v = .ref l from r1]
  obtain ⟨u, e3, e4⟩ := e2.get hd
  exact ⟨.inl ⟨rfl, vs, .of e1⟩, l, vs, u, rfl, rfl, e1, by rw [e2.length]; exact e3, k u d S1 _ _ s1 (f1.listSet hA e2.dropLast) e4 h⟩
/-- xs[i] = e -/
theorem ws_setIx {l : Addr} {xs : List DV} {k : Int} {j : Nat} {d : DV} {p2 : Pos} (hv : VE g I Γ A e d) (ho : VE g I Γ A o (.r l)) (hA : A l = some (aoL xs)) (hi : DE g I Γ A b (.int k)) (hj : ixN xs.length k = some j) (h : D.nx Γ (updA A l (aoL (xs.set j d))))
    (ha : ∀ env v, assign (.Subscript o b p2) env v = (do
      let ov ← holding [v] (eval o env)
      let iv ← holding [v, ov] (eval b env)
      standAt p2
      holding [v, ov, iv] (setItem ov iv v)
      release [v, ov, iv] []) := by intro _ _; rfl) (hs : ∀ env, swapsWithSole [.Subscript o b p2] e pos.line env = pure false := by intro _; rfl) (hw : ∀ env, swappedStores [.Subscript o b p2] e env = pure none := by intro _; rfl)
    (h1 : ∀ env, (assignEach [.Subscript o b p2] env).map (·.2) = [assign (.Subscript o b p2) env] := by intro _; rfl) : WS g I R Γ A (.Assign [.Subscript o b p2] e pos) D := by
  intro X cx S H σ tk he hf
  refine (ps_asg PE.s (pg_sub PE.s PE.s set_list (ha X.env)) (hs X.env) (hw X.env) (h1 X.env)).to (hv X cx A (ExtA.refl A) S H σ he hf _ fun y S1 H1 s1 f1 ry => ?_)
  refine ho X cx A (ExtA.refl A) S1 H1 σ (he.mono s1) f1 _ fun v S2 H2 s2 f2 r2 => hi X cx A (ExtA.refl A) S2 H2 σ (he.mono (s1.trans s2)) f2 _ fun u S3 H3 s3 f3 r3 => ?_
  obtain ⟨vs, e1, e2⟩ := f3.list hA
  have s13 := (s1.trans s2).trans s3
  exact ⟨l, vs, k, j, r2, Rp.int_of r3, e1, by rw [e2.length]; exact hj, S3, Γ, _, s13, he.mono s13, f3.listSet hA (e2.set j (ry.mono (s2.trans s3))), h⟩

/-! ### raise -/
/-- an own class below ValueError, without an __init__ of its own -/
structure ExcOk (g : Gv) (x : Str) (C : Addr) : Prop where
  exc : W.excIn g.K C [.type "ValueError", .type "Exception", .type "BaseException", .type "object"] "ValueError.__new__" = true
  mg : g.mg x = some (.ref C)
  keep : W.keepIn g.K (.ref C) = true
  sub : W.subIn g.K (.ref C) (.type "BaseException") = some true
  ty : W.typeIn g.K (.ref C) = some (.type "type")
theorem ws_raise {mm : Str} {j : Nat} {p2 : Pos} (E : ExcOk g x C) (hg : GlS I.sc x) (h : R C A) (hd : (x == ("__debug__" : Str)) = false := by decide) : WS g I R Γ A (.Raise (some (.Call (.Name x p) [.Constant (.str mm) j p2] [] pos)) none apos) D := by
  intro X cx S H σ tk he hf
  obtain ⟨ea, rfl⟩ := cx.eq
  exact (ps_raise cx.calm tk (pmk_own PySem.F.excBase_ValueError E.exc E.mg E.keep (raises_own E.sub E.ty) (hg.gl cx.sc) hd)).to ⟨C, S, A, rfl, rfl, Same.refl S, hf, h⟩

/-! ### a def keeps its promise -/
theorem start_env {S : Hp} {vs : List V} {ds : List DV} {N : List Str} (r : RepVs S vs ds) (hl : ds.length ≤ N.length) : EnvOk S (ds.map some ++ List.replicate (N.length - ds.length) none) (L2.start N vs) := by
  unfold L2.start
  refine ⟨by simp [r.length], fun i dv q => ?_⟩
  by_cases h : i < ds.length
  · rw [List.getElem?_append_left (by rw [List.length_map]; exact h), List.getElem?_map] at q
    cases e : ds[i]? with
    | none => rw [e] at q; cases q
    | some d =>
      rw [e] at q
      cases q
      obtain ⟨v, h1, h2⟩ := r.get e
      exact ⟨v, by rw [List.getElem?_append_left (by rw [List.length_map, r.length]; exact h), List.getElem?_map, h1]; rfl, h2⟩
  · rw [List.getElem?_append_right (by rw [List.length_map]; omega), List.getElem?_replicate] at q
    split at q
    · cases q
    · cases q
abbrev ciOf (N : List Str) (st : Stmt) (vis : List Bool) (k : Nat) : CI := ⟨N, defScope st, vis, k, true, fun _ => true⟩
theorem def_ok {P : Program} {w : World} {K : W.Frag} {mg : Str → Option Value} {base : Heap} {ea : Err → Addr} {x qual : Str} {st : Stmt} {f : Addr} {fd : FuncData} {N ps : List Str} {k : Nat} {asp : ASp} {vis : List Bool} (F : Fun K x qual st f fd) (Sc : FnScope N ps (defScope st)) (okI : (ciOf N st vis k).Ok)
    (hb : ∀ ds A Q E, ds.length = ps.length → asp ds A Q E → WSs ⟨P, w, K, mg, base, ea⟩ (ciOf N st vis k) E (ds.map some ++ List.replicate (N.length - ds.length) none) A (defBody st) ⟨fun _ A' => Q (.d .none) A', Q, fun _ _ => False, fun _ _ => False⟩) : FnOk P w K mg base (L2.CX P w) (k + 1) f fd ps (toSp ps.length asp) := by
  have hpl : ps.length ≤ N.length := by have := congrArg List.length Sc.pre; rw [List.length_take] at this; omega
  refine F.okX Sc (fun vs H Q E ⟨S, A, ds, _, _, hn, hf, r, _⟩ => by rw [r.length]; exact hn) fun cdv Ar outer s H vs Q E hr ⟨S, A, ds, Q₀, E₀, hn, hf, r, h, kq, ke⟩ => ⟨_, PSs.s, ?_⟩
  have cx : Cok ⟨P, w, K, mg, base, ea⟩ (ciOf N st vis k) (cxOf (L2.CX P w) P w K mg base N qual (defScope st) f cdv Ar outer s H E) :=
    ⟨⟨ea, rfl⟩, rfl, rfl, rfl, hr, okI, PassesOwn.leaving, fun _ _ => rfl, fun _ _ => rfl, fun _ => ⟨rfl, rfl, rfl⟩⟩
  have tk : TakesR (cxOf (L2.CX P w) P w K mg base N qual (defScope st) f cdv Ar outer s H E) S E₀ := by
    refine Takes.imp (takes_of rfl rfl rfl rfl) fun cls d σ H' ⟨C, S', A', h1, h2, h3, h4, h5⟩ => ?_
    subst h1 h2
    exact ke C A' S' H' h3 h4 h5
  refine (hb ds A Q₀ E₀ hn h _ cx S H _ tk (start_env r (by rw [hn]; exact hpl)) hf).imp (fun _ H' ⟨S', Γ, A', s, _, f, q⟩ => kq _ A' S' .non H' s f (show RepV S' .non (.d .none) from Rp.non) q) (fun v H' ⟨S', dv, A', s, f, r, q⟩ => kq dv A' S' v H' s f r q) (fun _ _ ⟨_, _, _, _, _, _, q⟩ => q) (fun _ _ ⟨_, _, _, _, _, _, q⟩ => q)
end
end LB

/-! Layer 8: an error caught and kept, isinstance of it. -/
namespace LB
open PySem PySem.Spec PyProof.Rows L2

section
variable {X : Cx} {pins : List (Addr × Obj)} {σ : L2.St} {H : Hp} {s : Shared}
/-- an object of ours, younger than the entry, comes to be tracked -/
theorem track {a : Addr} {oe : Obj} {vs : Array Value} {o : HO} (J : Inv X pins σ H s) (hg : s.heap.get? a = some oe) (hd : oe.data = .fields vs) (hn : H a = none) (hL : a ≠ X.env.locals) (new : X.s_0.heap.get? a = none) (hp : ∀ q ∈ X.pn ++ pins, q.1 ≠ a) (ho : ObjOk X.prog X.w (upd H a o) s.heap a o) : Inv X pins σ (upd H a o) s where
  ok := J.ok
  os := J.os
  bare := J.bare
  base := ⟨J.base.keep, J.base.slot, fun b u e n hx => by
      rw [upd_ne (fun z => by rw [z, new] at e; cases e)]
      exact J.base.free b u e n hx, J.base.there, fun b xs e => by
      have q := J.base.tups b xs e
      rw [upd_ne (ne_of_none q hn)]; exact q, fun b u xs e => by
      have q := J.base.frzs b u xs e
      rw [upd_ne (ne_of_none q hn)]; exact q, fun b ps e => by
      obtain ⟨m, q⟩ := J.base.tbls b ps e
      exact ⟨m, by rw [upd_ne (ne_of_none q hn)]; exact q⟩⟩
  loc := J.loc
  cell := J.cell
  free := by rw [upd_ne hL.symm]; exact J.free
  freeC := fun x c e => by
    have : c ≠ a := fun z => by
      obtain ⟨v, o', h1, h2⟩ := J.cell x c e
      rw [z, hg] at h1
      cases h1
      rw [hd] at h2
      cases h2
    rw [upd_ne this]; exact J.freeC x c e
  pin := fun q hq => by
    obtain ⟨h1, h2, h3, h4, h5⟩ := J.pin q hq
    exact ⟨h1, by rw [upd_ne (hp q hq)]; exact h2, h3, h4, h5⟩
  hok := J.hok.laidN (fun _ _ z => z) hn ho
  len := J.len
end

/-- what the clause wishes: the error kept in slot i, its own name (slot j) gone -/
def wKeep (K : W.Frag) (c : Value) (i j n : Nat) (D : Ends) : WX := fun cls d σ H => W.exmOne K cls c = some true ∧ d = none ∧ ∃ C, cls = .ref C ∧ (σ.length = n → ∀ a, H a = none → D.nx (((σ.set j (some (.ref a))).set i (some (.ref a))).set j none) (upd H a (ExH a C)))
section
variable {X : Cx} {x n kn : Str} {c : Value} {i j : Nat} {body : List Stmt} {np pk pn2 ps2 pos pos' : Pos} {tb : WX → TS}
/-- try: body; except x as n: kept = n -/
theorem ps_try_keep (hs : X.stack = X.env :: X.outer) (hf : X.env.frame = some X.env.locals) (hex : X.ex = []) (hN : X.N.Nodup) (hj : X.N[j]? = some n) (hln : X.env.kindOf n = some .local) (hi : X.N[i]? = some kn) (hlk : X.env.scope.names.lookup kn = some .local) (hc : Names X x c)
    (hdn : (n == ("__debug__" : Str)) = false) (hdc : (n == ("__classdict__" : Str)) = false)
    (hb : ∀ (W : WX) (pn : List (Addr × Obj)) (xe : Value → Shared → Prop), Takes (X.tr pn xe) W → PassesOwn (model X.prog X.w) X.A X.env xe → PSs (X.tr pn xe) body (tb W)) :
    PS X (.Try body [.ExceptHandler (some (.Name x np)) (some n) [.Assign [.Name kn pk] (.Name n pn2) ps2] pos'] [] [] pos) (fun D σ H => tb (wKeep X.K c i j X.N.length D) D σ H) := by
  refine ⟨fun pins s σ H D I h => ?_⟩
  have ok := I.ok
  have hfr : X.A.frames = some (X.env :: X.outer) := by rw [ok.frames, hs]
  have hloc : L2.Loc X.env.scope n := .inl hln
  refine wpAny_Try_except (wpAny_mono ((hb (wKeep X.K c i j X.N.length D) (X.pn ++ pins) _ (fun u s' xx => ?tk) PassesOwn.looking).run [] s σ H D (I.toTry _) h) (fun f s1 hsp => ?nx) (fun e s1 he => he))
  case nx =>
    cases f with
    | next =>
      obtain ⟨σ', H', J, q⟩ := hsp
      exact wpAny_execs_nil ⟨σ', H', J.ofTry ok, q⟩
    | brk =>
      obtain ⟨σ', H', J, q⟩ := hsp
      exact ⟨σ', H', J.ofTry ok, q⟩
    | cont =>
      obtain ⟨σ', H', J, q⟩ := hsp
      exact ⟨σ', H', J.ofTry ok, q⟩
    | ret u =>
      obtain ⟨v, σ', H', J, r, q⟩ := hsp
      exact ⟨v, σ', H', J.ofTry ok, r, q⟩
  case tk =>
    obtain ⟨a, B, sI, pins', σ1, H1, cls, d, rfl, J0, nb, up, sky, na, os, ag, hm1, rfl, C, rfl, hq⟩ := xx
    have J : Inv X pins σ1 H1 sI := J0.ofTry ok
    have sky1 : Sky B (X.env :: X.outer) a (Zc (.ref C) none) X.env.locals s'.heap := hs ▸ sky
    have hBa : B.get? a = none := by
      rcases sky1 with z | z | z
      · exact z.2.1
      · exact z.2.1
      · exact z.2.1
    show wpAny (model X.prog X.w) X.A (noteFrame (.ref a) X.env) _ _ _
    refine Sky.land Zc.steady hfr hf sky1 fun h3 fl3 up3 => ?_
    have J3 : Inv X pins σ1 H1 { s' with heap := h3 } := J.landed nb fl3.1 (up.trans up3) os ag
    obtain ⟨o3, v3, g3, z3, d3⟩ := fl3.there
    have nfr : a ∉ frs (X.env :: X.outer) := fun hm => by
      obtain ⟨_, o', e', hnf⟩ := fl3.2.2.1.mem hm
      rw [g3] at e'
      cases e'
      exact hnf _ d3
    have nL : a ≠ X.env.locals := fun z => nfr (List.mem_filterMap.mpr ⟨X.env, List.mem_cons_self, by rw [hf, z]⟩)
    have nF : a ∉ X.fs := fun hm => by
      obtain ⟨e, he, q⟩ := List.mem_filterMap.mp hm
      exact nfr (List.mem_filterMap.mpr ⟨e, List.mem_cons_of_mem _ he, q⟩)
    have hIa : sI.heap.get? a = none := by
      cases q : sI.heap.get? a with
      | none => rfl
      | some o =>
        have := nb a o q (by rw [hs]; exact nfr)
        rw [hBa] at this
        cases this
    have h0a : X.s_0.heap.get? a = none := by
      cases q : X.s_0.heap.get? a with
      | none => rfl
      | some o =>
        obtain ⟨o', q'⟩ := J.base.there a o q (by rw [hex]; exact fun z => nomatch z)
        rw [hIa] at q'
        cases q'
    have hpa : ∀ q ∈ X.pn ++ pins, q.1 ≠ a := fun q hq' z => by
      have := (J.pin q hq').1
      rw [z, hIa] at this
      cases this
    have S3 := J3.suite g3 d3 na nL nF
    refine wpAny_handleBy_cons (codeAny_handlers_test ?_) (by intro q; cases q)
    have LT : W.Looks (model X.prog X.w) h3 (typeOf (.ref a)) (.ref C) := fun A Q E s k q => wpAny_typeOf_ref (k _ _ g3) (by rw [z3.1]; exact q)
    have LM := W.exm_one (M := model X.prog X.w) J3.kIn LT hm1
    have test : ∀ {Q : Value → Shared → Prop} {E : Value → Shared → Prop}, Q c { s' with heap := h3 } → wpAny (model X.prog X.w) (X.A.mark (some (.ref a))) (eval (.Name x np) X.env) Q E { s' with heap := h3 } := fun {Q E} q => by
      obtain ⟨hg, hdbg, hm | ⟨hm, hv, hnn⟩⟩ := hc
      · exact ld_glob (X := X.suite a ((a, o3) :: (X.pn ++ pins))) S3 hg hm q hdbg
      · exact ld_blt (X := X.suite a ((a, o3) :: (X.pn ++ pins))) S3 hg hm hv q hnn hdbg
    refine test (LM.here (codeAny_handlers_suite_as (HandSPX.lands_againZ fl3 fun h4 fl4 up4 => ?_)))
    have J4 : Inv X pins σ1 H1 { s' with heap := h4 } := J.landed nb fl4.1 ((up.trans up3).trans up4) os ag
    obtain ⟨o4, v4, g4, z4, d4⟩ := fl4.there
    have S4 := J4.suite g4 d4 na nL nF
    refine store_ok (X := X.suite a ((a, o4) :: (X.pn ++ pins))) (v := .ref a) S4 hN hj hloc rfl (fun s5 S5 => ?_) (.inr hln)
    have suite : PSs (X.suite a ((a, o4) :: (X.pn ++ pins))) [.Assign [.Name kn pk] (.Name n pn2) ps2] (tAsg (tVar j) (gName i)) :=
      pss_one (ps_set (i := i) hN hi (.inl hlk) (pe_var (i := j) hj (.inl hln) hdn hdc) rfl (.inr hlk))
    have hjl : j < (σ1.set j (some (V.ref a))).length := by
      rw [List.length_set, J.len]; exact (List.getElem?_eq_some_iff.mp hj).1
    refine wpAny_mono (suite.run [] s5 _ H1 ⟨fun σ6 H6 => σ6 = ((σ1.set j (some (V.ref a))).set i (some (V.ref a))) ∧ H6 = H1, fun _ _ => False, fun _ _ => False, fun _ _ => False⟩ S5 ⟨.ref a, by rw [List.getElem?_set_self (by rw [List.length_set] at hjl; exact hjl)], rfl, rfl⟩) (fun f s6 hsp => ?_) (fun _ _ z => False.elim z)
    cases f with
    | next =>
      obtain ⟨σ6, H6, S6, rfl, rfl⟩ := hsp
      refine gone_ok (X := X.suite a ((a, o4) :: (X.pn ++ pins))) S6 hN hj hln fun s7 S7 => ?_
      obtain ⟨p1, p2, p3, p4, p5⟩ := S7.pin (a, o4) (List.mem_append_left _ List.mem_cons_self)
      have J7 : Inv X pins _ H6 s7 := S7.unsuite ok
      refine ⟨_, upd H6 a (ExH a C), track J7 p1 d4 p2 p3 h0a hpa ⟨⟨o4, p1, z4, ⟨_, d4⟩⟩, ⟨o4, p1⟩, fun h1 h2 ⟨oe, q1, q2, q3⟩ k => ⟨oe, k _ q1, q2, q3⟩⟩, hq J.len a na⟩
    | brk => obtain ⟨_, _, _, z⟩ := hsp; exact z.elim
    | cont => obtain ⟨_, _, _, z⟩ := hsp; exact z.elim
    | ret u => obtain ⟨_, _, _, _, _, z⟩ := hsp; exact z.elim
end

/-- isinstance of a kept error -/
theorem call_isX {X : Cx} : CallR X (.builtin "isinstance") (fun xs H Q => ∃ (a D : Addr) (c : V) (cv : Value) (b : Bool), xs = [.ref a, c] ∧ H a = some (ExH a D) ∧ ExcC X.K D ∧ (∀ u, RelV c u → u = cv) ∧ W.kitOne X.K (.ref D) cv = some b ∧ Q (.bl b) H) := by
  intro pins s σ H xs us Q I r h
  obtain ⟨a, D, c, cv, b, rfl, ha, E, hcv, hk, q⟩ := h
  cases r with
  | cons rx rr =>
    cases rr with
    | cons rt rr =>
      cases rr
      cases rx
      have ec := hcv _ rt
      subst ec
      obtain ⟨⟨oe, h1, ⟨h2, h3⟩, vs, h4⟩, _⟩ := I.hok a _ ha
      have J : W.InstAt s.heap a oe D none := by
        obtain ⟨oc, od, oda, osl⟩ := oe
        dsimp only at h2 h3 h4
        subst h2 h3 h4
        exact ⟨h1, rfl, rfl, trivial⟩
      exact W.kia_one (W.handS_kitx_exc E.hg E.hk E.hs E.hd E.ha E.hn E.ht E.hm) I.kIn J hk (fun z => nomatch z) fun tk => ⟨.bl b, H, I.kept (t' := tk) fun _ _ z => z, rfl, q⟩

section
variable {g : Gv} {I : CI} {R : Rz} {Γ : Gam} {A : AH} {pos p : Pos} {e a b c : Expr} {D : AEnds}
theorem de_isiX {C C' : Addr} {r : Bool} (ha : VE g I Γ A a (.x C)) (hb : VE g I Γ A b (.r C')) (E : ExcC g.K C) (hk : W.kitOne g.K (.ref C) (.ref C') = some r) (hg : GlS I.sc "isinstance") (hm : g.mg "isinstance" = none) (hn : nostar a = true := by rfl) (hn2 : nostar b = true := by rfl) : DE g I Γ A (.Call (.Name "isinstance" p) [a, b] [] pos) (.bool r) :=
  ve_callB (fun X cx => call_isX) (fun X cx A1 ex S H vs f rr Q z => by
    obtain ⟨ea, rfl⟩ := cx.eq
    obtain ⟨v, u, rfl, ⟨l, rfl, r1⟩, r2⟩ := rr.two
    refine ⟨l, C, u, .ref C', r, rfl, f.same _ _ r1, E, fun w hw => ?_, hk, z _ S H (Same.refl S) f (.bl _)⟩
    rw [show u = .ref C' from r2] at hw
    exact hw) hg hm boot_isi' (va_cons ha (va_cons hb va_nil hn2) hn) hn (by rw [List.all_cons, hn2]; rfl) (by decide) (by decide)
theorem de_isiXT {C : Addr} {n : String} {r : Bool} (ha : VE g I Γ A a (.x C)) (hb : VE g I Γ A b (.t n)) (E : ExcC g.K C) (hk : W.kitOne g.K (.ref C) (.type n) = some r) (hg : GlS I.sc "isinstance") (hm : g.mg "isinstance" = none) (hn : nostar a = true := by rfl) (hn2 : nostar b = true := by rfl) : DE g I Γ A (.Call (.Name "isinstance" p) [a, b] [] pos) (.bool r) :=
  ve_callB (fun X cx => call_isX) (fun X cx A1 ex S H vs f rr Q z => by
    obtain ⟨ea, rfl⟩ := cx.eq
    obtain ⟨v, u, rfl, ⟨l, rfl, r1⟩, r2⟩ := rr.two
    refine ⟨l, C, u, .type n, r, rfl, f.same _ _ r1, E, fun w hw => ?_, hk, z _ S H (Same.refl S) f (.bl _)⟩
    rw [show u = .ty n from r2] at hw
    exact hw) hg hm boot_isi' (va_cons ha (va_cons hb va_nil hn2) hn) hn (by rw [List.all_cons, hn2]; rfl) (by decide) (by decide)

/-- try: body; except X as n: kept = n. Behind an error only what is kept is known of the names -/
theorem ws_try_keep {x n kn : Str} {C0 : Addr} (i j : Nat) {body : List Stmt} {np pk pn2 ps2 pos' : Pos} (ht : I.top = true) (hj : I.N[j]? = some n) (hln : I.sc.names.lookup n = some .local) (hi : I.N[i]? = some kn) (hlk : I.sc.names.lookup kn = some .local) (hij : i ≠ j) (hg : GlS I.sc x) (hm : g.mg x = some (.ref C0)) (hvis : I.vis[j]? = some true)
    (hdbg : (x == ("__debug__" : Str)) = false) (hΓ : Γ.length = I.N.length)
    (h : WSs g I (fun C A' => W.exmOne g.K (.ref C) (.ref C0) = some true ∧ D.nx ((List.replicate I.N.length none).set i (some (.x C))) A') Γ A body D) :
    WS g I R Γ A (.Try body [.ExceptHandler (some (.Name x np)) (some n) [.Assign [.Name kn pk] (.Name n pn2) ps2] pos'] [] [] pos) D := by
  intro X cx S H σ tk he hf
  obtain ⟨ea, rfl⟩ := cx.eq
  obtain ⟨h1, h2, h3⟩ := cx.top ht
  obtain ⟨v1, v2, v3⟩ := cx.ok.vis j n hj hvis
  refine (ps_try_keep (tb := fun W => fun D' σ' H' => σ' = σ ∧ H' = H ∧ D' = endsOf S D ∧ W = wKeep X.K (.ref C0) i j X.N.length (endsOf S D)) h1 h2 h3 (by rw [cx.N]; exact cx.ok.nd) (by rw [cx.N]; exact hj) (by show X.env.scope.names.lookup n = _; rw [cx.sc]; exact hln) (by rw [cx.N]; exact hi) (by rw [cx.sc]; exact hlk) ⟨hg.gl cx.sc, hdbg, .inl hm⟩ v2 v3 fun W pn xe tkW po => ⟨fun pins s σ' H' D' Iv ⟨e1, e2, e3, e4⟩ => ?_⟩).to ⟨rfl, rfl, rfl, rfl⟩
  subst e1 e2 e3 e4
  have cx' : Cok (gOf X ea) I (X.tr pn xe) := ⟨⟨ea, rfl⟩, cx.N, cx.sc, cx.calm, cx.room, cx.ok, po, cx.fn, cx.cel, cx.top⟩
  refine h (X.tr pn xe) cx' S H' σ' (Takes.imp tkW fun cls d σ2 H2 ⟨C, S2, A2, e1, e2, s2, f2, q1, q2⟩ => ?_) he hf pins s Iv
  subst e1 e2
  refine ⟨q1, rfl, C, rfl, fun hl a ha => ?_⟩
  obtain ⟨f3, s3⟩ := f2.laidS ha (o := ExH a C)
  refine ⟨_, _, A2, s2.trans s3, ?_, f3, q2⟩
  rw [cx.N] at hl
  refine ⟨by simp [hl], fun m dv q => ?_⟩
  by_cases e : m = i
  · subst e
    have hlt : m < I.N.length := (List.getElem?_eq_some_iff.mp hi).1
    rw [List.getElem?_set_self (by rw [List.length_replicate]; exact hlt)] at q
    cases q
    refine ⟨.ref a, ?_, a, rfl, upd_same⟩
    rw [List.getElem?_set_ne (Ne.symm hij), List.getElem?_set_self (by rw [List.length_set, hl]; exact hlt)]
  · rw [List.getElem?_set_ne (Ne.symm e), List.getElem?_replicate] at q
    split at q <;> cases q
end
end LB

/-! Layer 9: shapes that a program prints: slots set, typed items, pure promises, loops by folds. -/
namespace LB
open PySem PySem.Spec PyProof.Rows L2

inductive SetG : Gam → Nat → Option DV → Gam → Prop
  | z {a d : Option DV} {r : Gam} : SetG (a :: r) 0 d (d :: r)
  | s {a d : Option DV} {n : Nat} {r r' : Gam} (h : SetG r n d r') : SetG (a :: r) (n + 1) d (a :: r')
theorem SetG.eq {Γ Γ' : Gam} {i : Nat} {d : Option DV} (h : SetG Γ i d Γ') : Γ.set i d = Γ' := by
  induction h with
  | z => rfl
  | s _ ih => rw [List.set_cons_succ, ih]
def LessG : Gam → Gam → Prop
  | [], [] => True
  | none :: r, _ :: r' => LessG r r'
  | some d :: r, o :: r' => o = some d ∧ LessG r r'
  | [], _ :: _ => False
  | _ :: _, [] => False
theorem LessG.len : ∀ {Γ' Γ : Gam}, LessG Γ' Γ → Γ'.length = Γ.length
  | [], [], _ => rfl
  | none :: r, _ :: r', h => by rw [List.length_cons, List.length_cons, LessG.len (Γ' := r) (Γ := r') h]
  | some d :: r, o :: r', h => by rw [List.length_cons, List.length_cons, LessG.len (Γ' := r) (Γ := r') h.2]
  | [], _ :: _, h => h.elim
  | none :: _, [], h => h.elim
  | some _ :: _, [], h => h.elim
theorem LessG.get : ∀ {Γ' Γ : Gam}, LessG Γ' Γ → ∀ (i : Nat) (dv : DV), Γ'[i]? = some (some dv) → Γ[i]? = some (some dv)
  | [], [], _, i, dv, e => by simp at e
  | none :: r, o :: r', h, 0, dv, e => by simp at e
  | none :: r, o :: r', h, i + 1, dv, e => by simpa using LessG.get (Γ' := r) (Γ := r') h i dv (by simpa using e)
  | some d :: r, o :: r', h, 0, dv, e => by
    have e' : d = dv := by simpa using e
    rw [h.1, e']; rfl
  | some d :: r, o :: r', h, i + 1, dv, e => by simpa using LessG.get (Γ' := r) (Γ := r') h.2 i dv (by simpa using e)
  | [], _ :: _, h, _, _, _ => h.elim
  | none :: _, [], h, _, _, _ => h.elim
  | some _ :: _, [], h, _, _, _ => h.elim
theorem LessG.refl : ∀ (Γ : Gam), LessG Γ Γ
  | [] => trivial
  | none :: r => LessG.refl r
  | some _ :: r => ⟨rfl, LessG.refl r⟩

def nth {α : Type} [Inhabited α] (xs : List α) (k : Int) : α := xs.getD k.toNat default
theorem nth_get {α : Type} [Inhabited α] {xs : List α} {k : Int} (h0 : 0 ≤ k) (h1 : k < xs.length) : xs[k.toNat]? = some (nth xs k) := by
  have h : k.toNat < xs.length := by omega
  unfold nth
  rw [List.getD_eq_getElem?_getD, List.getElem?_eq_getElem h]; rfl
theorem nth_mem {α : Type} [Inhabited α] {xs : List α} {k : Int} (h0 : 0 ≤ k) (h1 : k < xs.length) : nth xs k ∈ xs := List.mem_of_getElem? (nth_get h0 h1)
theorem atI_nth {α : Type} [Inhabited α] {xs : List α} {k : Int} (h0 : 0 ≤ k) (h1 : k < xs.length) : atI xs k = some (nth xs k) := by
  have e : k = ((k.toNat : Nat) : Int) := by omega
  rw [e, atI_nat (j := k.toNat) (by rw [nth_get h0 h1])]
  congr 2
theorem atI_map {α β : Type} {f : α → β} {xs : List α} {k : Int} {x : α} (h : atI xs k = some x) : atI (xs.map f) k = some (f x) := by
  unfold atI at h ⊢
  rw [List.length_map]
  cases q : ixN xs.length k with
  | none => rw [q] at h; cases h
  | some m =>
    rw [q] at h
    have h' : xs[m]? = some x := h
    show (xs.map f)[m]? = some (f x)
    rw [List.getElem?_map, h']; rfl

/-- a Bool look at a context -/
def ciC (I : CI) : Bool := decide I.N.Nodup && (I.N.zip I.vis).all fun q => !q.2 || ((match I.sc.names.lookup q.1 with | some .local => true | some .cell => true | some .free => true | _ => false) && !(q.1 == ("__debug__" : Str)) && !(q.1 == ("__classdict__" : Str)))
theorem ci_by {I : CI} (h : ciC I = true) : I.Ok := by
  unfold ciC at h
  rw [Bool.and_eq_true] at h
  refine ⟨of_decide_eq_true h.1, fun i x h1 h2 => ?_⟩
  have hm : (x, true) ∈ I.N.zip I.vis := by
    refine List.mem_of_getElem? (i := i) ?_
    rw [List.getElem?_zip_eq_some]
    exact ⟨h1, h2⟩
  have q := List.all_eq_true.mp h.2 _ hm
  simp only [Bool.not_true, Bool.false_or, Bool.and_eq_true, Bool.not_eq_true'] at q
  obtain ⟨⟨q1, q2⟩, q3⟩ := q
  refine ⟨?_, q2, q3⟩
  unfold Vis
  split at q1
  · exact .inl (by assumption)
  · exact .inr (.inl (by assumption))
  · exact .inr (.inr (by assumption))
  · cases q1

/-- a pure promise: what the mirror says, an error's class or data -/
def pSp (ea : Err → Addr) (f : List DV → Except Err PyData → Prop) : ASp := fun ds A Q E => ∃ o, f ds o ∧ (∀ r, o = .ok r → Q (.d r) A) ∧ (∀ e, o = .error e → E (ea e) A)
abbrev tI (c : List Int) : PyData := .tuple (c.map .int)
abbrev lI (c : List Int) : PyData := .list (c.map .int)

section
variable {g : Gv} {I : CI} {R : Rz} {Γ Γ' Γ₀ : Gam} {A : AH} {pos p : Pos} {e a b c : Expr} {D : AEnds} {es : List Expr} {st : Stmt} {sts : List Stmt}
/-! ### statements, the slots told anew -/
theorem s_set {x : Str} {p' : Pos} {dv : DV} (i : Nat) (hN : I.N[i]? = some x) (hx : LocOk I x) (hG : SetG Γ i (some dv) Γ') (h : VE g I Γ A e dv) (k : WSs g I R Γ' A sts D) (hs : ∀ env, swapsWith e (some (.Name x p')) pos.line env = pure false := by intro _; rfl) : WSs g I R Γ A (.Assign [.Name x p'] e pos :: sts) D :=
  wss_cons (ws_set i hN hx (h.we (by rw [hG.eq]; exact k)) hs)
/-- .. by a general expression -/
theorem s_setW {x : Str} {p' : Pos} (i : Nat) (hN : I.N[i]? = some x) (hx : LocOk I x) (h : WE g I R Γ A e fun dv A' => WSs g I R (Γ.set i (some dv)) A' sts D) (hs : ∀ env, swapsWith e (some (.Name x p')) pos.line env = pure false := by intro _; rfl) : WSs g I R Γ A (.Assign [.Name x p'] e pos :: sts) D :=
  wss_cons (ws_set i hN hx h hs)
theorem s_expr (h : WE g I R Γ A e fun _ A' => WSs g I R Γ A' sts D) (hs : ∀ env, swapsWith e none pos.line env = pure false := by intro _; rfl) : WSs g I R Γ A (.Expr e pos :: sts) D := wss_cons (ws_expr h hs)
theorem s_ret {dv : DV} (h : VE g I Γ A e dv) (k : D.rt dv A) : WSs g I R Γ A (.Return (some e) pos :: sts) D :=
  wss_cons (ws_ret (h.we k))
theorem s_retW (h : WE g I R Γ A e D.rt) : WSs g I R Γ A (.Return (some e) pos :: sts) D := wss_cons (ws_ret h)
/-- if: what is not taken falls away; both go on by themselves -/
theorem s_if {k : Bool} {st1 st2 : List Stmt} (h : DT g I Γ A c k) (h1 : k = true → WSs g I R Γ A st1 { D with nx := fun Γ' A' => WSs g I R Γ' A' sts D }) (h2 : k = false → WSs g I R Γ A st2 { D with nx := fun Γ' A' => WSs g I R Γ' A' sts D }) : WSs g I R Γ A (.If c st1 st2 pos :: sts) D := wss_cons (ws_if h h1 h2)
/-- if without else: the suite leaves (return, raise) or goes on -/
theorem s_if1 {k : Bool} {st1 : List Stmt} (h : DT g I Γ A c k) (h1 : k = true → WSs g I R Γ A st1 { D with nx := fun Γ' A' => WSs g I R Γ' A' sts D }) (h2 : k = false → WSs g I R Γ A sts D) : WSs g I R Γ A (.If c st1 [] pos :: sts) D := wss_cons (ws_if h h1 fun q => wss_nil (h2 q))
/-- .. where the test is false -/
theorem s_ifF {k : Bool} {st1 : List Stmt} (h : DT g I Γ A c k) (hk : k = false) (h2 : WSs g I R Γ A sts D) : WSs g I R Γ A (.If c st1 [] pos :: sts) D := wss_cons (ws_if h (fun q => by rw [hk] at q; cases q) fun q => wss_nil h2)
theorem s_nil (h : D.nx Γ A) : WSs g I R Γ A [] D := wss_nil h
theorem s_less (h : LessG Γ' Γ) (k : WSs g I R Γ' A sts D) : WSs g I R Γ A sts D := wss_less h.len h.get (ExtA.refl A) k
theorem s_raise {x mm : Str} {C : Addr} {j : Nat} {p2 apos : Pos} (E : ExcOk g x C) (hg : GlS I.sc x) (h : R C A) (hd : (x == ("__debug__" : Str)) = false := by decide) : WSs g I R Γ A (.Raise (some (.Call (.Name x p) [.Constant (.str mm) j p2] [] pos)) none apos :: sts) D := wss_cons (ws_raise E hg h hd)
theorem s_unpack {tg : Expr} {d : PyData} (ht : TgD g I tg Γ d Γ') (h : DE g I Γ A e d) (k : WSs g I R Γ' A sts D) (hs : ∀ env, swapsWithSole [tg] e pos.line env = pure false := by intro _; rfl) (hw : ∀ env, swappedStores [tg] e env = pure none := by intro _; rfl)
    (h1 : ∀ env, (assignEach [tg] env).map (·.2) = [assign tg env] := by intro _; rfl) : WSs g I R Γ A (.Assign [tg] e pos :: sts) D := wss_cons (ws_unpack ht (h.we ⟨rfl, k⟩) hs hw h1)
theorem TgD.set {tg : Expr} {d : PyData} (h : TgD g I tg Γ d Γ₀) (q : Γ₀ = Γ') : TgD g I tg Γ d Γ' := q ▸ h
theorem td_name {x : Str} (i : Nat) (hN : I.N[i]? = some x) (hx : LocOk I x) {d : PyData} (hG : SetG Γ i (some (.d d)) Γ') : TgD g I (.Name x p) Γ d Γ' := (tg_name i hN hx).set hG.eq
theorem td_tup2 {x y : Str} {px py : Pos} {kk : Nat} (i j : Nat) (hN : I.N[i]? = some x) (hx : LocOk I x) (hN2 : I.N[j]? = some y) (hx2 : LocOk I y) {d1 d2 : PyData} (hG : SetG Γ i (some (.d d1)) Γ₀) (hG2 : SetG Γ₀ j (some (.d d2)) Γ') : TgD g I (.Tuple [.Name x px, .Name y py] kk p) Γ (.tuple [d1, d2]) Γ' :=
  (tg_tup2 i j hN hx hN2 hx2).set (by rw [hG.eq, hG2.eq])
theorem tb_nameG {x : Str} (i : Nat) {vs : List Nat} (hv : i ∈ vs) (hN : I.N[i]? = some x) (hx : LocOk I x) {d : PyData} (hG : SetG Γ i (some (.d d)) Γ') : TgB g I vs (.Name x p) Γ d Γ' := by
  rw [← hG.eq]
  exact tb_name i hv hN hx
theorem tb_tup2G {x y : Str} {px py : Pos} {kk : Nat} (i j : Nat) {vs : List Nat} (hv : i ∈ vs) (hv2 : j ∈ vs) (hN : I.N[i]? = some x) (hx : LocOk I x) (hN2 : I.N[j]? = some y) (hx2 : LocOk I y) {d1 d2 : PyData} (hG : SetG Γ i (some (.d d1)) Γ₀) (hG2 : SetG Γ₀ j (some (.d d2)) Γ') : TgB g I vs (.Tuple [.Name x px, .Name y py] kk p) Γ (.tuple [d1, d2]) Γ' := by
  rw [← hG2.eq, ← hG.eq]
  exact tb_tup2 i j hv hv2 hN hx hN2 hx2

/-! ### items of typed rows -/
variable {α β : Type} {xs : List α} {f : α → PyData} {k i : Int} {dv : DV}
theorem de_ixTn [Inhabited α] (ha : DE g I Γ A a (.tuple (xs.map f))) (hb : DE g I Γ A b (.int k)) (h0 : 0 ≤ k) (h1 : k < xs.length) (hs : PlainIx b := by intro _ _; rfl) : DE g I Γ A (.Subscript a b pos) (f (nth xs k)) := de_ixT ha hb (atI_map (atI_nth h0 h1)) hs
theorem de_ixLn [Inhabited α] (ha : VE g I Γ A a dv) (q : IsL A dv (xs.map f)) (hb : DE g I Γ A b (.int k)) (h0 : 0 ≤ k) (h1 : k < xs.length) (hs : PlainIx b := by intro _ _; rfl) : DE g I Γ A (.Subscript a b pos) (f (nth xs k)) := de_ixL ha q hb (atI_map (atI_nth h0 h1)) hs
theorem de_ixFn {ns : List Int} (ha : VE g I Γ A a (.f g.K ns)) (hb : DE g I Γ A b (.int k)) (h0 : 0 ≤ k) (h1 : k < ns.length) (hs : PlainIx b := by intro _ _; rfl) : DE g I Γ A (.Subscript a b pos) (.int (nth ns k)) := de_ixF ha hb (atI_nth h0 h1) hs
/-- a written list or tuple of things, at a place -/
theorem de_ixLd {ds : List PyData} {d : PyData} (ha : DE g I Γ A a (.list ds)) (hb : DE g I Γ A b (.int k)) (h : atI ds k = some d) (hs : PlainIx b := by intro _ _; rfl) : DE g I Γ A (.Subscript a b pos) d := de_ixL ha (.d _) hb h hs
/-- arguments that are data -/
def DA (g : Gv) (I : CI) (Γ : Gam) (A : AH) (es : List Expr) (ds : List PyData) : Prop := VA g I Γ A es (ds.map .d)
theorem da_nil : DA g I Γ A [] [] := va_nil
theorem da_cons {d : PyData} {ds : List PyData} (h : DE g I Γ A e d) (hr : DA g I Γ A es ds) (hn : nostar e = true := by rfl) : DA g I Γ A (e :: es) (d :: ds) := va_cons h hr hn
theorem d_tup {ds : List PyData} {kk : Nat} (h : DA g I Γ A es ds) (hz : ds.length ≤ 1000 := by simp) : DE g I Γ A (.Tuple es kk pos) (.tuple ds) := de_tup h (Nat.le_trans hz (by rw [sizeLine_eq]; omega))
theorem d_lst {ds : List PyData} (h : DA g I Γ A es ds) (hz : ds.length ≤ 1000 := by simp) : DE g I Γ A (.List es pos) (.list ds) := de_lst h (Nat.le_trans hz (by rw [sizeLine_eq]; omega))
theorem de_gintE {x : Str} {n : Int} (hg : GlS I.sc x) (hm : ∃ t, g.mg x = some (.int n t)) (hd : (x == ("__debug__" : Str)) = false := by decide) : DE g I Γ A (.Name x pos) (.int n) := by
  obtain ⟨t, hm⟩ := hm
  exact de_gint hg hm hd
theorem de_gstrE {x y : Str} (hg : GlS I.sc x) (hm : ∃ t, g.mg x = some (.str y t)) (hd : (x == ("__debug__" : Str)) = false := by decide) : DE g I Γ A (.Name x pos) (.str y) := by
  obtain ⟨t, hm⟩ := hm
  exact de_gstr hg hm hd
/-! ### calls by pure promises -/
variable {F : List DV → Except Err PyData → Prop} {ps : List Str} {lv : Nat} {ds : List DV} {x : Str}
theorem de_call {r : PyData} (C : Callee g x ps lv (pSp g.ea F)) (hl : lv ≤ I.k) (hg : GlS I.sc x) (ha : VA g I Γ A (e :: es) ds) (hn : ds.length = ps.length) (h : F ds (.ok r)) (hs : nostar e = true := by rfl) (hss : es.all nostar = true := by rfl) (hd : (x == ("__debug__" : Str)) = false := by decide) : DE g I Γ A (.Call (.Name x p) (e :: es) [] pos) r :=
  ve_call C hl hg ha hn (fun A1 _ => ⟨_, h, fun r' q => by cases q; exact ⟨rfl, rfl⟩, fun _ q => by cases q⟩) hs hss hd
theorem we_callR {o : Except Err PyData} {Q : DV → AH → Prop} (C : Callee g x ps lv (pSp g.ea F)) (hl : lv ≤ I.k) (hg : GlS I.sc x) (ha : VA g I Γ A (e :: es) ds) (hn : ds.length = ps.length) (h : F ds o) (hok : ∀ r, o = .ok r → Q (.d r) A) (her : ∀ e, o = .error e → R (g.ea e) A) (hs : nostar e = true := by rfl) (hss : es.all nostar = true := by rfl) (hd : (x == ("__debug__" : Str)) = false := by decide) : WE g I R Γ A (.Call (.Name x p) (e :: es) [] pos) Q :=
  we_call C hl hg ha hn ⟨o, h, hok, her⟩ hs hss hd

/-! ### comprehensions, typed -/
variable {zs : List α} {fe : β → PyData} {h : α → β} {pr : α → Bool} {Γz : α → Gam} {tg iter elt : Expr} {ifs : List Expr} {scope : Scope}
theorem d_lc (fe : β → PyData) (own : List (Str × Nat)) (vis : List Bool) (ok : BlkOk I.N I.sc scope own) (okI : (I.blk scope vis).Ok) (hi : ItD g I Γ A iter (zs.map f)) (hw : wipeG Γ (own.map (·.2)) = Γ₀)
    (ht : ∀ z ∈ zs, TgB g (I.blk scope vis) (own.map (·.2)) tg Γ₀ (f z) (Γz z)) (he : ∀ z ∈ zs, DE g (I.blk scope vis) (Γz z) A elt (fe (h z))) (hz : zs.length ≤ 16777216)
    (hs : ∀ env x, foldedSetIterable iter env x = pure x := by intro _ _; rfl) : DE g I Γ A (.ListComp elt [⟨tg, iter, [], 0⟩] scope pos) (.list ((zs.map h).map fe)) := by
  have q := de_lc (pos := pos) (pr := fun _ => true) (h := fun z => fe (h z)) own vis ok okI hi (by rw [hw]; exact ht) (fun _ _ => dts_nil) (fun z hz _ => he z hz) (by rw [sizeLine_eq]; exact hz) hs
  rw [List.filter_eq_self.mpr fun _ _ => rfl] at q
  rw [List.map_map]
  exact q
theorem d_lcI (fe : β → PyData) (own : List (Str × Nat)) (vis : List Bool) (ok : BlkOk I.N I.sc scope own) (okI : (I.blk scope vis).Ok) (hi : ItD g I Γ A iter (zs.map f)) (hw : wipeG Γ (own.map (·.2)) = Γ₀)
    (ht : ∀ z ∈ zs, TgB g (I.blk scope vis) (own.map (·.2)) tg Γ₀ (f z) (Γz z)) (hp : ∀ z ∈ zs, DT g (I.blk scope vis) (Γz z) A c (pr z)) (he : ∀ z ∈ zs, pr z = true → DE g (I.blk scope vis) (Γz z) A elt (fe (h z))) (hz : zs.length ≤ 16777216)
    (hs : ∀ env x, foldedSetIterable iter env x = pure x := by intro _ _; rfl) : DE g I Γ A (.ListComp elt [⟨tg, iter, [c], 0⟩] scope pos) (.list (((zs.filter pr).map h).map fe)) := by
  have q := de_lc (pos := pos) (pr := pr) (h := fun z => fe (h z)) own vis ok okI hi (by rw [hw]; exact ht) (fun z hz => dts_one (hp z hz)) he (by rw [sizeLine_eq]; exact hz) hs
  rw [List.map_map]
  exact q
theorem s_setLc {x : Str} {p' : Pos} (i : Nat) (hN : I.N[i]? = some x) (hx : I.sc.names.lookup x = some .local) (ha : (scope.names.any fun (n, k) => n == x && (k == .local || k == .cell)) = false) (hl : (p'.line == pos.line) = true) (hk : I.sc.kind = .function) {spos : Pos}
    (fe : β → PyData) (own : List (Str × Nat)) (vis : List Bool) (ok : BlkOk I.N I.sc scope own) (okI : (I.blk scope vis).Ok) (hi : ItD g I Γ A iter (zs.map f)) (hw : wipeG Γ (own.map (·.2)) = Γ₀)
    (ht : ∀ z ∈ zs, TgB g (I.blk scope vis) (own.map (·.2)) tg Γ₀ (f z) (Γz z)) (he : ∀ z ∈ zs, DE g (I.blk scope vis) (Γz z) A elt (fe (h z))) (hz : zs.length ≤ 16777216) (hG : SetG Γ i (some (.d (.list ((zs.map h).map fe)))) Γ')
    (k : WSs g I R Γ' A sts D) (hs : ∀ env x, foldedSetIterable iter env x = pure x := by intro _ _; rfl) : WSs g I R Γ A (.Assign [.Name x p'] (.ListComp elt [⟨tg, iter, [], 0⟩] scope pos) spos :: sts) D := by
  refine wss_cons (ws_setLc (pr := fun _ => true) (h := fun z => fe (h z)) i hN hx ha hl hk own vis ok okI hi (by rw [hw]; exact ht) (fun _ _ => dts_nil) (fun z hz _ => he z hz) (by rw [sizeLine_eq]; exact hz) ?_ hs)
  rw [List.map_map] at hG
  rw [List.filter_eq_self.mpr fun _ _ => rfl]
  exact hG.eq ▸ k
theorem s_setLcI {x : Str} {p' : Pos} (i : Nat) (hN : I.N[i]? = some x) (hx : I.sc.names.lookup x = some .local) (ha : (scope.names.any fun (n, k) => n == x && (k == .local || k == .cell)) = false) (hl : (p'.line == pos.line) = true) (hk : I.sc.kind = .function) {spos : Pos}
    (fe : β → PyData) (own : List (Str × Nat)) (vis : List Bool) (ok : BlkOk I.N I.sc scope own) (okI : (I.blk scope vis).Ok) (hi : ItD g I Γ A iter (zs.map f)) (hw : wipeG Γ (own.map (·.2)) = Γ₀)
    (ht : ∀ z ∈ zs, TgB g (I.blk scope vis) (own.map (·.2)) tg Γ₀ (f z) (Γz z)) (hp : ∀ z ∈ zs, DT g (I.blk scope vis) (Γz z) A c (pr z)) (he : ∀ z ∈ zs, pr z = true → DE g (I.blk scope vis) (Γz z) A elt (fe (h z))) (hz : zs.length ≤ 16777216) (hG : SetG Γ i (some (.d (.list (((zs.filter pr).map h).map fe)))) Γ')
    (k : WSs g I R Γ' A sts D) (hs : ∀ env x, foldedSetIterable iter env x = pure x := by intro _ _; rfl) : WSs g I R Γ A (.Assign [.Name x p'] (.ListComp elt [⟨tg, iter, [c], 0⟩] scope pos) spos :: sts) D := by
  refine wss_cons (ws_setLc (pr := pr) (h := fun z => fe (h z)) i hN hx ha hl hk own vis ok okI hi (by rw [hw]; exact ht) (fun z hz => dts_one (hp z hz)) he (by rw [sizeLine_eq]; exact hz) ?_ hs)
  rw [List.map_map] at hG
  exact hG.eq ▸ k
/-- name = [..], the name a cell -/
theorem s_setC {x : Str} {p' : Pos} (i : Nat) {gs : List Comprehension} {spos : Pos} {dv : DV} (hN : I.N[i]? = some x) (hx : I.sc.names.lookup x = some .cell) (ht : I.cl x = true) (hG : SetG Γ i (some dv) Γ') (h : VE g I Γ A (.ListComp elt gs scope pos) dv) (k : WSs g I R Γ' A sts D) : WSs g I R Γ A (.Assign [.Name x p'] (.ListComp elt gs scope pos) spos :: sts) D :=
  wss_cons (ws_setC i hN hx ht (h.we (by rw [hG.eq]; exact k)))

/-! ### loops by folds -/
theorem TgD.less {tg : Expr} {d : PyData} (h : TgD g I tg Γ₀ d Γ') (q : LessG Γ₀ Γ) : TgD g I tg Γ d Γ' := fun X cx => by
  obtain ⟨t, pg, z⟩ := h X cx
  exact ⟨t, pg, fun S A H σ v he hf r Q k => z S A H σ v (he.less q.len q.get) hf r Q k⟩
theorem rng_succ (lo : Int) (n : Nat) : rng lo (n + 1) = rng lo n ++ [lo + n] := by
  unfold rng
  rw [List.range_succ, List.map_append]; rfl
variable {T : Type} {sts2 : List Stmt}
/-- for x in range(n): the state told by G, AA; J: what is known of it ahead of turn i -/
theorem s_forR {tg : Expr} {j : Int} {p1 p2 : Pos} (G : T → Gam) (AA : T → AH) (step : T → Int → T) (J : Nat → T → Prop) (s0 : T) (hg : GlS I.sc "range") (hm : g.mg "range" = none) (ha : DE g I Γ A a (.int j)) (hj : j < 2 ^ 62) (hj0 : -(2 ^ 62) ≤ j) (h0 : LessG (G s0) Γ) (hA : A = AA s0) (J0 : J 0 s0)
    (hb : ∀ (i : Nat) s, i < j.toNat → J i s → s = (rng 0 i).foldl step s0 → J (i + 1) (step s i) ∧ ∃ Γ2, TgD g I tg (G s) (.int i) Γ2 ∧ WSs g I R Γ2 (AA s) sts { D with nx := fun Γ3 A3 => LessG (G (step s i)) Γ3 ∧ A3 = AA (step s i), ct := fun Γ3 A3 => LessG (G (step s i)) Γ3 ∧ A3 = AA (step s i), bk := fun Γ' A' => WSs g I R Γ' A' sts2 D })
    (k : J j.toNat ((rng 0 j.toNat).foldl step s0) → WSs g I R (G ((rng 0 j.toNat).foldl step s0)) (AA ((rng 0 j.toNat).foldl step s0)) sts2 D) (hn : nostar a = true := by rfl) (hf : ∀ env x, foldedSetIterable (.Call (.Name "range" p1) [a] [] p2) env x = pure x := by intro _ _; rfl) : WSs g I R Γ A (.For tg (.Call (.Name "range" p1) [a] [] p2) sts [] pos :: sts2) D := by
  refine wss_cons (ws_for_range1 (dg := fun _ => .none) (fun i Γ1 A1 => LessG (G ((rng 0 i).foldl step s0)) Γ1 ∧ A1 = AA ((rng 0 i).foldl step s0) ∧ J i ((rng 0 i).foldl step s0)) hg hm ha hj hj0 ⟨h0, hA, J0⟩ (fun i Γ1 A1 hi ⟨q1, q2, q3⟩ => ?_) (fun Γ1 A1 ⟨q1, q2, q3⟩ => ?_) hn hf)
  · obtain ⟨j1, Γ2, ht, hw⟩ := hb i _ hi q3 rfl
    have e : (rng 0 (i + 1)).foldl step s0 = step ((rng 0 i).foldl step s0) i := by rw [rng_succ, List.foldl_append, Int.zero_add]; rfl
    refine ⟨Γ2, ht.less q1, ?_⟩
    rw [q2]
    refine hw.imp (fun Γ3 A3 h => ?_) (fun _ _ h => h) (fun _ _ h => h) (fun Γ3 A3 h => ?_)
    · rw [e]; exact ⟨h.1, h.2, j1⟩
    · rw [e]; exact ⟨h.1, h.2, j1⟩
  · rw [q2]
    exact s_less q1 (k q3)
theorem s_forR2 {tg : Expr} {i0 j : Int} {p1 p2 : Pos} (G : T → Gam) (AA : T → AH) (step : T → Int → T) (J : Nat → T → Prop) (s0 : T) (hg : GlS I.sc "range") (hm : g.mg "range" = none) (ha : DE g I Γ A a (.int i0)) (hb2 : DE g I Γ A b (.int j)) (hj : j < 2 ^ 62) (hj0 : -(2 ^ 62) ≤ j) (hi : i0 < 2 ^ 62) (hi0 : -(2 ^ 62) ≤ i0) (h0 : LessG (G s0) Γ) (hA : A = AA s0) (J0 : J 0 s0)
    (hb : ∀ (i : Nat) s, i < (j - i0).toNat → J i s → s = (rng i0 i).foldl step s0 → J (i + 1) (step s (i0 + i)) ∧ ∃ Γ2, TgD g I tg (G s) (.int (i0 + i)) Γ2 ∧ WSs g I R Γ2 (AA s) sts { D with nx := fun Γ3 A3 => LessG (G (step s (i0 + i))) Γ3 ∧ A3 = AA (step s (i0 + i)), ct := fun Γ3 A3 => LessG (G (step s (i0 + i))) Γ3 ∧ A3 = AA (step s (i0 + i)), bk := fun Γ' A' => WSs g I R Γ' A' sts2 D })
    (k : J (j - i0).toNat ((rng i0 (j - i0).toNat).foldl step s0) → WSs g I R (G ((rng i0 (j - i0).toNat).foldl step s0)) (AA ((rng i0 (j - i0).toNat).foldl step s0)) sts2 D) (hn : nostar a = true := by rfl) (hn2 : nostar b = true := by rfl) (hf : ∀ env x, foldedSetIterable (.Call (.Name "range" p1) [a, b] [] p2) env x = pure x := by intro _ _; rfl) : WSs g I R Γ A (.For tg (.Call (.Name "range" p1) [a, b] [] p2) sts [] pos :: sts2) D := by
  refine wss_cons (ws_for_range2 (fun i Γ1 A1 => LessG (G ((rng i0 i).foldl step s0)) Γ1 ∧ A1 = AA ((rng i0 i).foldl step s0) ∧ J i ((rng i0 i).foldl step s0)) hg hm ha hb2 hj hj0 hi hi0 ⟨h0, hA, J0⟩ (fun i Γ1 A1 hi ⟨q1, q2, q3⟩ => ?_) (fun Γ1 A1 ⟨q1, q2, q3⟩ => ?_) hn hn2 hf)
  · obtain ⟨j1, Γ2, ht, hw⟩ := hb i _ hi q3 rfl
    have e : (rng i0 (i + 1)).foldl step s0 = step ((rng i0 i).foldl step s0) (i0 + i) := by rw [rng_succ, List.foldl_append]; rfl
    refine ⟨Γ2, ht.less q1, ?_⟩
    rw [q2]
    refine hw.imp (fun Γ3 A3 h => ?_) (fun _ _ h => h) (fun _ _ h => h) (fun Γ3 A3 h => ?_)
    · rw [e]; exact ⟨h.1, h.2, j1⟩
    · rw [e]; exact ⟨h.1, h.2, j1⟩
  · rw [q2]
    exact s_less q1 (k q3)
/-- for x in a frozen row -/
theorem s_forL {tg : Expr} {dv : DV} (G : T → Gam) (AA : T → AH) (step : T → α → T) (J : Nat → T → Prop) (s0 : T) (ha : VE g I Γ A a dv) (q : dv = .d (.list (zs.map f)) ∨ dv = .d (.tuple (zs.map f))) (h0 : LessG (G s0) Γ) (hA : A = AA s0) (J0 : J 0 s0)
    (hb : ∀ (i : Nat) z s, zs[i]? = some z → J i s → s = (zs.take i).foldl step s0 → J (i + 1) (step s z) ∧ ∃ Γ2, TgD g I tg (G s) (f z) Γ2 ∧ WSs g I R Γ2 (AA s) sts { D with nx := fun Γ3 A3 => LessG (G (step s z)) Γ3 ∧ A3 = AA (step s z), ct := fun Γ3 A3 => LessG (G (step s z)) Γ3 ∧ A3 = AA (step s z), bk := fun Γ' A' => WSs g I R Γ' A' sts2 D })
    (k : J zs.length (zs.foldl step s0) → WSs g I R (G (zs.foldl step s0)) (AA (zs.foldl step s0)) sts2 D) (hf : ∀ env x, foldedSetIterable a env x = pure x := by intro _ _; rfl) : WSs g I R Γ A (.For tg a sts [] pos :: sts2) D := by
  refine wss_cons (ws_for (xs := zs.map f) (fun i Γ1 A1 => LessG (G ((zs.take i).foldl step s0)) Γ1 ∧ A1 = AA ((zs.take i).foldl step s0) ∧ J i ((zs.take i).foldl step s0)) ha q ⟨h0, hA, J0⟩ (fun i d Γ1 A1 hi ⟨q1, q2, q3⟩ => ?_) (fun Γ1 A1 h => ?_) hf)
  · rw [List.getElem?_map] at hi
    cases hz : zs[i]? with
    | none => rw [hz] at hi; cases hi
    | some z =>
      rw [hz] at hi
      cases hi
      obtain ⟨j1, Γ2, ht, hw⟩ := hb i z _ hz q3 rfl
      have e : (zs.take (i + 1)).foldl step s0 = step ((zs.take i).foldl step s0) z := by rw [List.take_add_one, hz, List.foldl_append]; rfl
      refine ⟨Γ2, ht.less q1, ?_⟩
      rw [q2]
      refine hw.imp (fun Γ3 A3 h => ?_) (fun _ _ h => h) (fun _ _ h => h) (fun Γ3 A3 h => ?_)
      · rw [e]; exact ⟨h.1, h.2, j1⟩
      · rw [e]; exact ⟨h.1, h.2, j1⟩
  · rw [List.length_map, List.take_length] at h
    obtain ⟨q1, q2, q3⟩ := h
    rw [q2]
    exact s_less q1 (k q3)
/-- while: the state told by G, AA, a number that falls; the test alone looks -/
theorem s_while (G : T → Gam) (AA : T → AH) (tst : T → Bool) (step : T → T) (J : T → Prop) (μ : T → Nat) (s0 : T) (h0 : LessG (G s0) Γ) (hA : A = AA s0) (J0 : J s0)
    (ht : ∀ s, J s → DT g I (G s) (AA s) c (tst s))
    (hb : ∀ s, J s → tst s = true → J (step s) ∧ μ (step s) < μ s ∧ WSs g I R (G s) (AA s) sts { D with nx := fun Γ3 A3 => LessG (G (step s)) Γ3 ∧ A3 = AA (step s), ct := fun Γ3 A3 => LessG (G (step s)) Γ3 ∧ A3 = AA (step s), bk := fun Γ' A' => WSs g I R Γ' A' sts2 D })
    (k : ∀ s, J s → tst s = false → WSs g I R (G s) (AA s) sts2 D) : WSs g I R Γ A (.While c sts [] pos :: sts2) D := by
  refine wss_cons (ws_while (fun m Γ1 A1 => ∃ s, m = μ s ∧ LessG (G s) Γ1 ∧ A1 = AA s ∧ J s) ⟨_, s0, rfl, h0, hA, J0⟩ fun m Γ1 A1 ⟨s, q0, q1, q2, q3⟩ => ?_)
  subst q0 q2
  intro X cx S H σ tk he hf Qv z
  refine ht s q3 X cx (AA s) (ExtA.refl _) S H σ (he.less q1.len q1.get) hf _ fun S' H' s' f' => z _ S' (AA s) H' s' f' ⟨fun e => ?_, fun e => ?_⟩
  · obtain ⟨j1, m1, w1⟩ := hb s q3 e
    refine s_less q1 (w1.imp (fun Γ3 A3 h => ⟨_, m1, step s, rfl, h.1, h.2, j1⟩) (fun _ _ h => h) (fun _ _ h => h) (fun Γ3 A3 h => ⟨_, m1, step s, rfl, h.1, h.2, j1⟩))
  · exact s_less q1 (k s q3 e)
end
end LB
namespace LB
open PySem PySem.Spec PyProof.Rows L2
/-- a def of the text as it stands behind the top: its object, its name, how it binds -/
structure Df (g : Gv) (x : Str) (ps : List Str) (st : Stmt) : Prop where
  ex : ∃ f fd, Fun g.K x x st f fd ∧ g.mg x = some (.ref f) ∧ Binds g.K fd ps []
theorem callee_ok {g : Gv} {x : Str} {ps N : List Str} {st : Stmt} {vis : List Bool} {k : Nat} {asp : ASp} (F : Df g x ps st) (Sc : FnScope N ps (defScope st)) (okI : (ciOf N st vis k).Ok)
    (hb : ∀ ds A Q E, ds.length = ps.length → asp ds A Q E → WSs g (ciOf N st vis k) E (ds.map some ++ List.replicate (N.length - ds.length) none) A (defBody st) ⟨fun _ A' => Q (.d .none) A', Q, fun _ _ => False, fun _ _ => False⟩) : Callee g x ps (k + 1) asp := by
  obtain ⟨f, fd, h1, h2, h3⟩ := F.ex
  exact ⟨f, fd, def_ok (ea := g.ea) h1 Sc okI hb, h2, h1.kp, h3⟩
/-- a method of a class's text -/
structure Dm (g : Gv) (C : Addr) (x qual : Str) (ps : List Str) (st : Stmt) : Prop where
  cls : Cls g.K C
  ex : ∃ f fd, Fun g.K x qual st f fd ∧ Meth g.K C x f ∧ Binds g.K fd ps []
theorem meth_ok {g : Gv} {C : Addr} {x qual : Str} {ps N : List Str} {st : Stmt} {vis : List Bool} {k : Nat} {asp : ASp} (F : Dm g C x qual ps st) (Sc : FnScope N ps (defScope st)) (okI : (ciOf N st vis k).Ok)
    (hb : ∀ ds A Q E, ds.length = ps.length → asp ds A Q E → WSs g (ciOf N st vis k) E (ds.map some ++ List.replicate (N.length - ds.length) none) A (defBody st) ⟨fun _ A' => Q (.d .none) A', Q, fun _ _ => False, fun _ _ => False⟩) : MethOk g C x ps (k + 1) asp := by
  obtain ⟨f, fd, h1, h2, h3⟩ := F.ex
  exact ⟨F.cls, f, fd, def_ok (ea := g.ea) h1 Sc okI hb, h2, h3⟩
structure Di (g : Gv) (cn : Str) (C : Addr) (qual : Str) (ps : List Str) (st : Stmt) : Prop where
  mg : g.mg cn = some (.ref C)
  ex : ∃ f fd, Fun g.K "__init__" qual st f fd ∧ Mk g.K C f ∧ Binds g.K fd ps []
theorem make_ok {g : Gv} {C : Addr} {cn qual : Str} {ps N : List Str} {st : Stmt} {vis : List Bool} {k : Nat} {asp : ASp} (F : Di g cn C qual ps st) (Sc : FnScope N ps (defScope st)) (okI : (ciOf N st vis k).Ok)
    (hb : ∀ ds A Q E, ds.length = ps.length → asp ds A Q E → WSs g (ciOf N st vis k) E (ds.map some ++ List.replicate (N.length - ds.length) none) A (defBody st) ⟨fun _ A' => Q (.d .none) A', Q, fun _ _ => False, fun _ _ => False⟩) : MakeOk g cn C ps (k + 1) asp := by
  obtain ⟨f, fd, h1, h2, h3⟩ := F.ex
  exact ⟨F.mg, f, fd, def_ok (ea := g.ea) h1 Sc okI hb, h2, h3⟩
end LB

/-! Layer 10: count, index, repeated tuples, reversed lists. -/
namespace LB
open PySem PySem.Spec PyProof.Rows L2

/-- xs.count(y) of flat things -/
theorem mt_countF {X : Cx} : MtR X "list.count" (fun x xs H Q => ∃ (p : Addr) (ys : List V) (y : V), x = .ref p ∧ xs = [y] ∧ SqL X.K H p ys ∧ flatV y = true ∧ ys.all flatV = true ∧ Q (.int ((ys.countP fun z => eqV z y : Nat) : Int)) H) := by
  intro pins s σ H x xs v us Q I rx rxs h
  obtain ⟨p, ys, y, rfl, rfl, hs, fy, fys, q⟩ := h
  cases rx
  obtain ⟨u, rfl, ru⟩ := rxs.one
  obtain ⟨its, rv, ⟨⟨cls, dd, data, sl⟩, n, ho, hc, hdn, hd⟩, hlen⟩ := I.list hs
  simp only at hc hd
  subst hc hd
  have cnt : ∀ {zs : List V} {ws : List Value}, Vals zs ws → zs.all flatV = true → ws.countP (eqU y) = zs.countP fun z => eqV z y := fun {zs ws} r f => by
    induction r with
    | nil => rfl
    | cons r1 r2 ih =>
      rw [List.all_cons, Bool.and_eq_true] at f
      rw [List.countP_cons, List.countP_cons, ih f.2, eqU_of r1 f.1]
  refine call_meets PySem.F.slot_list_count ⟨_, ho, rfl⟩ PySem.F.entry_list_count (PySem.F.args_list_count_2 _ _)
    (SeqAt.list_countAt p its.toArray n dd sl u (eqU y)) ⟨ho, fun w hw => mem_eqAt ru fy rv fys w (by simpa using hw), ?_⟩
  refine ⟨.int ((ys.countP fun z => eqV z y : Nat) : Int), H, I.tok _, ⟨s.toks, ?_⟩, q⟩
  show Value.int ((its.toArray.toList.countP (eqU y) : Nat) : Int) s.toks = _
  rw [show its.toArray.toList = its from rfl, cnt rv fys]
theorem flat_bools : ∀ bs : List Bool, (bs.map V.bl).all flatV = true
  | [] => rfl
  | b :: bs => by rw [List.map_cons, List.all_cons, flat_bools bs]; rfl
theorem eqV_bl (a b : Bool) : eqV (.bl a) (.bl b) = (a == b) := rfl
theorem eqV_int (a b : Int) : eqV (.int a) (.int b) = (a == b) := rfl
theorem count_bools (b : Bool) : ∀ bs : List Bool, ((bs.map V.bl).countP fun z => eqV z (.bl b)) = bs.count b
  | [] => rfl
  | x :: bs => by rw [List.map_cons, List.countP_cons, count_bools b bs, List.count_cons, eqV_bl]
theorem count_ints (b : Int) : ∀ bs : List Int, ((bs.map V.int).countP fun z => eqV z (.int b)) = bs.count b
  | [] => rfl
  | x :: bs => by rw [List.map_cons, List.countP_cons, count_ints b bs, List.count_cons, eqV_int]

section
variable {g : Gv} {I : CI} {R : Rz} {Γ Γ' Γ₀ : Gam} {A : AH} {pos p apos : Pos} {e o a b c : Expr} {D : AEnds} {dv : DV} {bs : List Bool} {ns : List Int} {x : Bool} {i : Int}
theorem de_countB (ho : VE g I Γ A o dv) (q : IsL A dv (bs.map .bool)) (ha : DE g I Γ A e (.bool x)) (hs : nostar e = true := by rfl) (hb : ∀ env, attributeBase o "count" env (eval o env) = eval o env := by intro _; rfl) (hln : (apos.endLine == pos.line) = true := by rfl)
    (hfew : ∀ env, ((backTo pos (starEach [e] env)).all (fun x => !x.1) && (backToKw pos (keywordEach [] env)).all (fun x => x.1.isSome) && decide ([e].length + ([] : List Keyword).length + (if ([] : List Keyword).isEmpty then 0 else 1) < 30)) = true := by intro _; rfl) : DE g I Γ A (.Call (.Attribute o "count" apos) [e] [] pos) (.int (bs.count x : Nat)) := by
  intro X cx A1 ex S H σ he hf Q k
  refine (pe_bm PySem.F.plainAttrs_list PySem.F.slot_list_count PySem.F.type_list_count mt_countF PE.s PA.s (hb X.env) (hfew X.env) hln (star_cons hs [] X.env) (star_any pos X.env rfl)).to (ho X cx A1 ex S H σ he hf _ fun v S1 H1 s1 f1 r1 => ?_)
  obtain ⟨l, vs, rfl, h1, h2⟩ := q.sq ex f1 r1
  refine ⟨.inl ⟨rfl, vs, .of h1⟩, va_cons ha va_nil hs X cx A1 ex S1 H1 σ (he.mono s1) f1 _ fun us S2 H2 s2 f2 rr => ?_⟩
  obtain ⟨u, rfl, r2⟩ := rr.one
  obtain ⟨l', ws, e1, h3, h4⟩ := q.sq ex f2 (r1.mono s2)
  cases e1
  obtain rfl := h4.bools
  rw [Rp.bl_of r2]
  exact ⟨l, _, _, rfl, rfl, .of h3, rfl, flat_bools bs, by rw [count_bools]; exact k _ S2 H2 (s1.trans s2) f2 (.int _)⟩
theorem de_countI (ho : VE g I Γ A o dv) (q : IsL A dv (ns.map .int)) (ha : DE g I Γ A e (.int i)) (hs : nostar e = true := by rfl) (hb : ∀ env, attributeBase o "count" env (eval o env) = eval o env := by intro _; rfl) (hln : (apos.endLine == pos.line) = true := by rfl)
    (hfew : ∀ env, ((backTo pos (starEach [e] env)).all (fun x => !x.1) && (backToKw pos (keywordEach [] env)).all (fun x => x.1.isSome) && decide ([e].length + ([] : List Keyword).length + (if ([] : List Keyword).isEmpty then 0 else 1) < 30)) = true := by intro _; rfl) : DE g I Γ A (.Call (.Attribute o "count" apos) [e] [] pos) (.int (ns.count i : Nat)) := by
  intro X cx A1 ex S H σ he hf Q k
  refine (pe_bm PySem.F.plainAttrs_list PySem.F.slot_list_count PySem.F.type_list_count mt_countF PE.s PA.s (hb X.env) (hfew X.env) hln (star_cons hs [] X.env) (star_any pos X.env rfl)).to (ho X cx A1 ex S H σ he hf _ fun v S1 H1 s1 f1 r1 => ?_)
  obtain ⟨l, vs, rfl, h1, h2⟩ := q.sq ex f1 r1
  refine ⟨.inl ⟨rfl, vs, .of h1⟩, va_cons ha va_nil hs X cx A1 ex S1 H1 σ (he.mono s1) f1 _ fun us S2 H2 s2 f2 rr => ?_⟩
  obtain ⟨u, rfl, r2⟩ := rr.one
  obtain ⟨l', ws, e1, h3, h4⟩ := q.sq ex f2 (r1.mono s2)
  cases e1
  obtain rfl := h4.ints
  rw [Rp.int_of r2]
  exact ⟨l, _, _, rfl, rfl, .of h3, rfl, flat_ints ns, by rw [count_ints]; exact k _ S2 H2 (s1.trans s2) f2 (.int _)⟩
theorem de_indexB {j : Nat} (ho : VE g I Γ A o dv) (q : IsL A dv (bs.map .bool)) (ha : DE g I Γ A e (.bool x)) (hj : bs[j]? = some x) (hno : ∀ (m : Nat) z, m < j → bs[m]? = some z → z ≠ x) (hs : nostar e = true := by rfl) (hb : ∀ env, attributeBase o "index" env (eval o env) = eval o env := by intro _; rfl) (hln : (apos.endLine == pos.line) = true := by rfl)
    (hfew : ∀ env, ((backTo pos (starEach [e] env)).all (fun x => !x.1) && (backToKw pos (keywordEach [] env)).all (fun x => x.1.isSome) && decide ([e].length + ([] : List Keyword).length + (if ([] : List Keyword).isEmpty then 0 else 1) < 30)) = true := by intro _; rfl) : DE g I Γ A (.Call (.Attribute o "index" apos) [e] [] pos) (.int (j : Nat)) := by
  intro X cx A1 ex S H σ he hf Q k
  refine (pe_bm PySem.F.plainAttrs_list PySem.F.slot_list_index PySem.F.type_list_index mt_index PE.s PA.s (hb X.env) (hfew X.env) hln (star_cons hs [] X.env) (star_any pos X.env rfl)).to (ho X cx A1 ex S H σ he hf _ fun v S1 H1 s1 f1 r1 => ?_)
  obtain ⟨l, vs, rfl, h1, h2⟩ := q.sq ex f1 r1
  refine ⟨.inl ⟨rfl, vs, .of h1⟩, va_cons ha va_nil hs X cx A1 ex S1 H1 σ (he.mono s1) f1 _ fun us S2 H2 s2 f2 rr => ?_⟩
  obtain ⟨u, rfl, r2⟩ := rr.one
  obtain ⟨l', ws, e1, h3, h4⟩ := q.sq ex f2 (r1.mono s2)
  cases e1
  obtain rfl := h4.bools
  rw [Rp.bl_of r2]
  refine ⟨l, _, .bl x, j, .bl x, rfl, rfl, .of h3, rfl, flat_bools bs, by rw [List.getElem?_map, hj]; rfl, by rw [eqV_bl]; simp, fun m z' hm hz => ?_, k _ S2 H2 (s1.trans s2) f2 (.int _)⟩
  rw [List.getElem?_map] at hz
  cases q' : bs[m]? with
  | none => rw [q'] at hz; cases hz
  | some w =>
    rw [q'] at hz
    cases hz
    rw [eqV_bl]
    exact beq_eq_false_iff_ne.mpr (hno m w hm q')
/-- (x,) * n, n at least 2 -/
theorem de_repT {xs : List PyData} (ha : DE g I Γ A a (.tuple xs)) (hb : DE g I Γ A b (.int i)) (h1 : 2 ≤ i) (h2 : i ≤ 1000) (hne : xs ≠ []) (hz : xs.length ≤ 1000) : DE g I Γ A (.BinOp a .Mult b pos) (.tuple (List.replicate i.toNat xs).flatten) :=
  ve_op (fun _ _ => op_repT) (fun X c A1 ex S H v u f r1 r2 Q k => by
    obtain ⟨l, ws, rfl, e1, e2⟩ := Rp.tup_of r1
    refine ⟨l, i, ws, rfl, Rp.int_of r2, .of (f.same _ _ e1), fun z => ?_, h1, h2, by rw [e2.length]; exact hz, fun t ht => ?_⟩
    · subst z
      cases e2
      exact hne rfl
    obtain ⟨f', s'⟩ := f.laidS ht (o := .tup (List.replicate i.toNat ws).flatten)
    refine k _ _ _ s' f' (.tup upd_same ?_)
    have : ∀ n : Nat, RpAll (upd S t (.tup (List.replicate i.toNat ws).flatten)) (List.replicate n ws).flatten (List.replicate n xs).flatten := fun n => by
      induction n with
      | zero => exact .nil
      | succ n ih => rw [List.replicate_succ, List.replicate_succ, List.flatten_cons, List.flatten_cons]; exact (e2.mono s').append ih
    exact this _) ha hb
theorem RpAll.reverse {S : Hp} : ∀ {vs : List V} {ds : List PyData}, RpAll S vs ds → RpAll S vs.reverse ds.reverse
  | _, _, .nil => .nil
  | _, _, .cons h r => by rw [List.reverse_cons, List.reverse_cons]; exact (RpAll.reverse r).append (.cons h .nil)
/-- xs[::-1] -/
theorem de_revL {xs : List PyData} {kk : Nat} {p1 p2 p3 : Pos} (ha : VE g I Γ A a dv) (q : IsL A dv xs) : DE g I Γ A (.Subscript a (.Slice none none (some (.UnaryOp .USub (.Constant (.int 1) kk p1) p2)) p3) pos) (.list xs.reverse) := by
  intro X cx A1 ex S H σ he hf Q k
  refine (pe_revL PE.s).to (ha X cx A1 ex S H σ he hf _ fun v S1 H1 s1 f1 r1 => ?_)
  obtain ⟨l, vs, rfl, h1, h2⟩ := q.sq ex f1 r1
  refine ⟨l, vs, rfl, .of h1, fun t ht => ?_⟩
  obtain ⟨f', s'⟩ := f1.laidS ht (o := .lst vs.reverse)
  exact k _ _ _ (s1.trans s') f' (.lst upd_same (h2.mono s').reverse)
/-! a comprehension whose items are data of any kind -/
variable {α : Type} {zs : List α} {f h : α → PyData} {Γz : α → Gam} {tg iter elt : Expr} {scope : Scope}
theorem d_lcD (own : List (Str × Nat)) (vis : List Bool) (ok : BlkOk I.N I.sc scope own) (okI : (I.blk scope vis).Ok) (hi : ItD g I Γ A iter (zs.map f)) (hw : wipeG Γ (own.map (·.2)) = Γ₀)
    (ht : ∀ z ∈ zs, TgB g (I.blk scope vis) (own.map (·.2)) tg Γ₀ (f z) (Γz z)) (he : ∀ z ∈ zs, DE g (I.blk scope vis) (Γz z) A elt (h z)) (hz : zs.length ≤ 16777216)
    (hs : ∀ env x, foldedSetIterable iter env x = pure x := by intro _ _; rfl) : DE g I Γ A (.ListComp elt [⟨tg, iter, [], 0⟩] scope pos) (.list (zs.map h)) := by
  have q := d_lc (pos := pos) (fun x : PyData => x) own vis ok okI hi hw ht he hz hs
  rw [List.map_id''] at q
  exact q
  exact fun _ => rfl
end
end LB

/-! Layer 11: what is owned may be dropped at the ends; owned lists of data by statements. -/
namespace LB
open PySem PySem.Spec PyProof.Rows L2
abbrev oL (xs : List PyData) : AO := aoL (xs.map .d)
theorem updA_comm {A : AH} {a b : Addr} {o u : AO} (h : a ≠ b) : updA (updA A a o) b u = updA (updA A b u) a o := by
  funext c
  unfold updA
  by_cases q : c = b
  · subst q; rw [if_pos rfl, if_neg (Ne.symm h), if_pos rfl]
  · rw [if_neg q, if_neg q]
theorem ne_ofA {A : AH} {a b : Addr} {o : AO} (h : A a = some o) (h2 : A b = none) : a ≠ b := fun e => by rw [e, h2] at h; cases h
theorem updA_self {A : AH} {a : Addr} {o : AO} (h : A a = some o) : updA A a o = A := by
  funext c
  unfold updA
  by_cases q : c = a
  · rw [if_pos q, q, h]
  · rw [if_neg q]
/-- a wish that may drop what is owned -/
def Rup (R : Rz) : Rz := fun C A' => ∃ A, ExtA A A' ∧ R C A
def Qup (Q : DV → AH → Prop) : DV → AH → Prop := fun d A' => ∃ A, ExtA A A' ∧ Q d A
section
variable {g : Gv} {I : CI} {R : Rz} {Γ Γ' Γ₀ : Gam} {A A' : AH} {pos p apos : Pos} {e o a b c : Expr} {D : AEnds} {dv : DV} {sts : List Stmt} {l : Addr} {xs : List PyData} {d : PyData}
theorem s_up {nx : Gam → AH → Prop} {Q : DV → AH → Prop} {bk ct : Gam → AH → Prop} (h : WSs g I (Rup R) Γ A sts ⟨fun Γ' A' => ∃ A, ExtA A A' ∧ nx Γ' A, Qup Q, bk, ct⟩) : WSs g I R Γ A sts ⟨nx, Q, bk, ct⟩ := fun X cx S H σ tk he hf =>
  (h X cx S H σ (Takes.imp tk fun cls d σ2 H2 ⟨C, S2, A2, e1, e2, s2, f2, A3, x, q⟩ => ⟨C, S2, A3, e1, e2, s2, f2.fewer x, q⟩) he hf).imp (fun _ _ ⟨S', Γ', A', s, x, f, A3, y, q⟩ => ⟨S', Γ', A3, s, x, f.fewer y, q⟩) (fun _ _ ⟨S', dv, A', s, f, r, A3, y, q⟩ => ⟨S', dv, A3, s, f.fewer y, r, q⟩) (fun _ _ q => q) (fun _ _ q => q)
theorem s_drop (x : ExtA A A') (h : WSs g I R Γ A sts D) : WSs g I R Γ A' sts D := wss_less rfl (fun _ _ q => q) x h
theorem s_appD {p2 : Pos} (ho : VE g I Γ A o (.r l)) (hA : A l = some (oL xs)) (ha : DE g I Γ A e d) (hz : xs.length < 16777216) (k : WSs g I R Γ (updA A l (oL (xs ++ [d]))) sts D) (hs : nostar e = true := by rfl) (hb : ∀ env, attributeBase o "append" env (eval o env) = eval o env := by intro _; rfl) (hln : (apos.endLine == pos.line) = true := by rfl)
    (hfew : ∀ env, ((backTo pos (starEach [e] env)).all (fun x => !x.1) && (backToKw pos (keywordEach [] env)).all (fun x => x.1.isSome) && decide ([e].length + ([] : List Keyword).length + (if ([] : List Keyword).isEmpty then 0 else 1) < 30)) = true := by intro _; rfl) (hw : ∀ env, swapsWith (.Call (.Attribute o "append" apos) [e] [] pos) none p2.line env = pure false := by intro _; rfl) :
    WSs g I R Γ A (.Expr (.Call (.Attribute o "append" apos) [e] [] pos) p2 :: sts) D :=
  s_expr (we_append ho hA ha (by rw [List.length_map, sizeLine_eq]; exact hz) (by rw [show (xs.map DV.d ++ [.d d]) = (xs ++ [d]).map .d from by rw [List.map_append]; rfl]; exact k) hs hb hln hfew) hw
theorem s_six {k : Int} {p2 : Pos} (hv : DE g I Γ A e d) (ho : VE g I Γ A o (.r l)) (hA : A l = some (oL xs)) (hi : DE g I Γ A b (.int k)) (h0 : 0 ≤ k) (h1 : k < xs.length) (h : WSs g I R Γ (updA A l (oL (xs.set k.toNat d))) sts D)
    (ha : ∀ env v, assign (.Subscript o b p2) env v = (do
      let ov ← holding [v] (eval o env)
      let iv ← holding [v, ov] (eval b env)
      standAt p2
      holding [v, ov, iv] (setItem ov iv v)
      release [v, ov, iv] []) := by intro _ _; rfl) (hs : ∀ env, swapsWithSole [.Subscript o b p2] e pos.line env = pure false := by intro _; rfl) (hw : ∀ env, swappedStores [.Subscript o b p2] e env = pure none := by intro _; rfl)
    (hx : ∀ env, (assignEach [.Subscript o b p2] env).map (·.2) = [assign (.Subscript o b p2) env] := by intro _; rfl) : WSs g I R Γ A (.Assign [.Subscript o b p2] e pos :: sts) D :=
  wss_cons (ws_setIx (j := k.toNat) hv ho hA hi (by rw [List.length_map]; unfold ixN; rw [if_pos h0, if_pos h1]) (by rw [show (xs.map DV.d).set k.toNat (.d d) = (xs.set k.toNat d).map .d from (List.map_set ..).symm]; exact h) ha hs hw hx)
/-- a list is made that stays owned -/
theorem s_new {x : Str} {p' : Pos} {es : List Expr} (i : Nat) (hN : I.N[i]? = some x) (hx : LocOk I x) {ds : List PyData} (ha : DA g I Γ A es ds) (hz : ds.length ≤ 1000) (k : ∀ l, A l = none → WSs g I R (Γ.set i (some (.r l))) (updA A l (oL ds)) sts D) (hs : ∀ env, swapsWith (.List es pos) (some (.Name x p')) apos.line env = pure false := by intro _; rfl) : WSs g I R Γ A (.Assign [.Name x p'] (.List es pos) apos :: sts) D :=
  s_setW i hN hx (we_lst ha (by rw [List.length_map, sizeLine_eq]; omega) k) hs
theorem s_newRep {x : Str} {p' : Pos} {kI : Int} (i : Nat) (hN : I.N[i]? = some x) (hx : LocOk I x) (ha : VE g I Γ A a dv) (q : IsL A dv xs) (hb : DE g I Γ A b (.int kI)) (h1 : -(2 ^ 62) ≤ kI) (h2 : kI < 2 ^ 62) (hz : xs.length * kI.toNat ≤ 16777216) (k : ∀ l, A l = none → WSs g I R (Γ.set i (some (.r l))) (updA A l (oL (List.replicate kI.toNat xs).flatten)) sts D) (hs : ∀ env, swapsWith (.BinOp a .Mult b pos) (some (.Name x p')) apos.line env = pure false := by intro _; rfl) : WSs g I R Γ A (.Assign [.Name x p'] (.BinOp a .Mult b pos) apos :: sts) D :=
  s_setW i hN hx (we_repL ha q hb (by omega) (by omega) (by rw [sizeLine_eq]; exact hz) k) hs
theorem s_newLst {x : Str} {p' pf : Pos} (i : Nat) (hN : I.N[i]? = some x) (hx : LocOk I x) (h : VE g I Γ A e dv) (q : IsQ A dv xs) (hg : GlS I.sc "list") (hm : g.mg "list" = none) (k : ∀ l, A l = none → WSs g I R (Γ.set i (some (.r l))) (updA A l (oL xs)) sts D) (hn : nostar e = true := by rfl) (hs : ∀ env, swapsWith (.Call (.Name "list" pf) [e] [] pos) (some (.Name x p')) apos.line env = pure false := by intro _; rfl) : WSs g I R Γ A (.Assign [.Name x p'] (.Call (.Name "list" pf) [e] [] pos) apos :: sts) D :=
  s_setW i hN hx (we_list h q k hg hm hn) hs
theorem de_ifC {α : Type} (f : α → PyData) {k : Bool} {x y : α} (h : DT g I Γ A c k) (h1 : k = true → DE g I Γ A a (f x)) (h2 : k = false → DE g I Γ A b (f y)) : DE g I Γ A (.IfExp c a b pos) (f (if k = true then x else y)) :=
  (de_if h h1 h2).eq (by cases k <;> rfl)
/-- a rule of comparison for a shape of the sides -/
theorem we_cmpI {op : CmpOp} {f : Int → Int → Bool} {Q : DV → AH → Prop} {r : Cx → R2} (h1 : ∀ X, Cok g I X → OpR X (compareOp op) (r X)) (h2 : ∀ X i j (H : Hp) (Q : VK), Q (.bl (f i j)) H → r X (.int i) (.int j) H Q) (hm : behindInMarks op b = false) (ha : WE g I R Γ A a fun d1 A1 => WE g I R Γ A1 b fun d2 A2 => ∃ i j, d1 = .d (.int i) ∧ d2 = .d (.int j) ∧ Q (.d (.bool (f i j))) A2) : WE g I R Γ A (.Compare a [op] [b] pos) Q := by
  intro X cx S H σ tk he hf Qv z
  refine (pe_cmpR (h1 X cx) PE.s PE.s hm).to (ha X cx S H σ tk he hf _ fun v d1 S1 A1 H1 s1 f1 r1 k2 => k2 X cx S1 H1 σ (tk.mono s1) (he.mono s1) f1 _ fun u d2 S2 A2 H2 s2 f2 r2 h3 => ?_)
  obtain ⟨i, j, rfl, rfl, q⟩ := h3
  rw [Rp.int_of r1, Rp.int_of r2]
  exact h2 X i j H2 Qv (z _ (.d (.bool (f i j))) S2 A2 H2 (s1.trans s2) f2 (Rp.bl _) q)
theorem we_ge {Q : DV → AH → Prop} (ha : WE g I R Γ A a fun d1 A1 => WE g I R Γ A1 b fun d2 A2 => ∃ i j, d1 = .d (.int i) ∧ d2 = .d (.int j) ∧ Q (.d (.bool (decide (j ≤ i)))) A2) : WE g I R Γ A (.Compare a [.GtE] [b] pos) Q :=
  we_cmpI (f := fun i j => decide (j ≤ i)) (fun _ _ => op_ge) (fun X i j H Q q => ⟨i, j, rfl, rfl, q⟩) (nobehind b (by decide) (by decide)) ha
/-- a right side that always raises -/
theorem s_unpackF {tg : Expr} {d : PyData} (ht : TgD g I tg Γ d Γ') (h : WE g I R Γ A e fun _ _ => False) (hs : ∀ env, swapsWithSole [tg] e pos.line env = pure false := by intro _; rfl) (hw : ∀ env, swappedStores [tg] e env = pure none := by intro _; rfl)
    (h1 : ∀ env, (assignEach [tg] env).map (·.2) = [assign tg env] := by intro _; rfl) : WSs g I R Γ A (.Assign [tg] e pos :: sts) D := wss_cons (ws_unpack ht (h.imp fun _ _ z => z.elim) hs hw h1)
theorem we_if {k : Bool} {Q : DV → AH → Prop} (h : DT g I Γ A c k) (h1 : k = true → WE g I R Γ A a Q) (h2 : k = false → WE g I R Γ A b Q) : WE g I R Γ A (.IfExp c a b pos) Q := fun X cx S H σ tk he hf Qv q =>
  (pe_ifExp PT.s PE.s PE.s).to (h X cx A (ExtA.refl A) S H σ he hf _ fun S' H' s f => by
    cases k with
    | true =>
      rw [if_pos rfl]
      exact h1 rfl X cx S' H' σ (tk.mono s) (he.mono s) f Qv fun v dv S2 A2 H2 s2 => q v dv S2 A2 H2 (s.trans s2)
    | false =>
      rw [if_neg Bool.false_ne_true]
      exact h2 rfl X cx S' H' σ (tk.mono s) (he.mono s) f Qv fun v dv S2 A2 H2 s2 => q v dv S2 A2 H2 (s.trans s2))
/-- what was owned is frozen -/
theorem s_frz (i : Nat) (hG : Γ[i]? = some (some (.r l))) (hl : A l = none) (hS : SetG Γ i (some (.d (.list xs))) Γ') (k : WSs g I R Γ' A sts D) : WSs g I R Γ (updA A l (oL xs)) sts D :=
  wss_freeze i hG updA_same (by rw [delA_updA hl, hS.eq]; exact k)
theorem s_eqA (h : A = A') (k : WSs g I R Γ A' sts D) : WSs g I R Γ A sts D := h ▸ k
theorem isl_o (hA : A l = some (oL xs)) : IsL A (.r l) xs := .o hA
end
/-! what kind a thing is -/
def isIntD : PyData → Bool
  | .int _ => true
  | .bool _ => true
  | _ => false
def isBoolD : PyData → Bool
  | .bool _ => true
  | _ => false
theorem kit_int (d : PyData) : kitB (tyD d) "int" = some (isIntD d) := by
  have h : ["NoneType", "bool", "int", "str", "list", "tuple", "dict"].map (kitB · "int") = [some false, some true, some true, some false, some false, some false, some false] := by decide +kernel
  simp only [List.map_cons, List.map_nil, List.cons.injEq] at h
  obtain ⟨h1, h2, h3, h4, h5, h6, h7, _⟩ := h
  cases d <;> assumption
theorem kit_bool (d : PyData) : kitB (tyD d) "bool" = some (isBoolD d) := by
  have h : ["NoneType", "bool", "int", "str", "list", "tuple", "dict"].map (kitB · "bool") = [some false, some true, some false, some false, some false, some false, some false] := by decide +kernel
  simp only [List.map_cons, List.map_nil, List.cons.injEq] at h
  obtain ⟨h1, h2, h3, h4, h5, h6, h7, _⟩ := h
  cases d <;> assumption
def nmE : Err → Option Str
  | .counts => some "counts"
  | .game => some "game"
  | .plan => some "plan"
  | .question => some "question"
  | .liar => some "liar"
  | .text => some "text"
  | _ => none
def nm5 : Err → Option Str
  | .counts => some "counts"
  | .game => some "game"
  | .plan => some "plan"
  | .question => some "question"
  | .liar => some "liar"
  | _ => none
theorem updA2 {A : AH} {a b : Addr} {x y z : AO} (h : a ≠ b) : updA (updA (updA A a x) b y) a z = updA (updA A a z) b y := by
  rw [updA_comm h, updA_updA, updA_comm (Ne.symm h)]
theorem atI_last {α : Type} {xs : List α} {n : Nat} {x : α} (h : xs.length = n + 1) (hx : xs[n]? = some x) : atI xs (-1) = some x := by
  unfold atI ixN
  rw [h, if_neg (by omega), if_pos (by omega)]
  show xs[(-1 + ((n + 1 : Nat) : Int)).toNat]? = _
  rw [show (-1 + ((n + 1 : Nat) : Int)).toNat = n from by omega, hx]
/-! small plain facts -/
theorem rng_len (lo : Int) (n : Nat) : (rng lo n).length = n := rng_length lo n
theorem foldl_congr {α β : Type} {f h : β → α → β} : ∀ {xs : List α} {s : β}, (∀ s, ∀ x ∈ xs, f s x = h s x) → xs.foldl f s = xs.foldl h s
  | [], _, _ => rfl
  | x :: xs, s, q => by
    rw [List.foldl_cons, List.foldl_cons, q s x List.mem_cons_self]
    exact foldl_congr fun s y hy => q s y (List.mem_cons_of_mem _ hy)
/-- the fold over a stretch, by a row of states -/
theorem foldl_rng {β : Type} {f : β → Int → β} {s0 : β} (S : Nat → β) (h0 : S 0 = s0) : ∀ (n : Nat), (∀ i : Nat, i < n → f (S i) i = S (i + 1)) → (rng 0 n).foldl f s0 = S n
  | 0, _ => h0.symm
  | n + 1, h => by
    rw [rng_succ, List.foldl_append, foldl_rng S h0 n fun i hi => h i (Nat.lt_succ_of_lt hi), Int.zero_add]
    exact h n (Nat.lt_succ_self n)
end LB

/-! Mirrors 1: weights. -/
namespace LB
open PySem PySem.Spec PyProof.Rows L2
def goodC (c : List Int) : Bool := (decide (1 ≤ (c.length : Int)) && decide ((c.length : Int) ≤ 5)) && c.all fun x => decide (0 ≤ x) && decide (x ≤ 64)
def lookCounts (c : List Int) : Except Err Unit := if goodC c = true then .ok () else .error .counts
def goodQ (m : Int) : Bool := decide (0 ≤ m) && decide (m ≤ 60)
def lookQs (m : Int) : Except Err Unit := if goodQ m = true then .ok () else .error .counts
def chStep (m : Int) (s : Int × Int) (k : Int) : Int × Int := (s.1 + s.2, s.2 * (m - k) / (k + 1))
def choicesV (m t : Int) : Int := ((rng 0 ((if t < m then t else m) + 1).toNat).foldl (chStep m) (0, 1)).1
def weightV (c : List Int) (m : Int) : Int := (rng 0 c.length).foldl (fun s k => s + nth c k * choicesV m (c.length - 1 - k)) 0
def weightM (c : List Int) (m : Int) : Except Err Int := do
  lookCounts c
  lookQs m
  pure (weightV c m)
def twoTo (m : Int) : Int := (rng 0 m.toNat).foldl (fun s _ => 2 * s) 1
def partOk (c p : List Int) : Bool := decide (p.length = c.length) && (rng 0 c.length).all fun k => decide (0 ≤ nth p k) && decide (nth p k ≤ nth c k)
def restV (c p : List Int) : List Int := (rng 0 c.length).map fun k => nth c k - nth p k
def behindY (c p : List Int) : List Int := (rng 0 c.length).map fun k => nth p k + (if 0 < k then nth (restV c p) (k - 1) else 0)
def behindN (c p : List Int) : List Int := (rng 0 c.length).map fun k => nth (restV c p) k + (if 0 < k then nth p (k - 1) else 0)
def behindM (c p : List Int) : Except Err (List Int × List Int) := do
  lookCounts c
  if partOk c p = true then pure (behindY c p, behindN c p) else .error .counts
def dPair (q : List Int × List Int) : PyData := .tuple [tI q.1, tI q.2]
def heavierM (c p : List Int) (m : Int) : Except Err Bool := do
  let q ← behindM c p
  let a ← weightM q.1 m
  let b ← weightM q.2 m
  pure (decide (b ≤ a))
/-- what bound's loop stands before -/
def boundT (c : List Int) (m : Int) : Bool := decide (1 < c.sum) && decide (twoTo m < weightV c m)
def boundV (c : List Int) : Int := ((((List.range 61).find? fun (m : Nat) => !boundT c (m : Int)).getD 0 : Nat) : Int)
def boundM (c : List Int) : Except Err Int := do
  lookCounts c
  pure (boundV c)

def sp_look_counts (ea : Err → Addr) : ASp := pSp ea fun ds o => ∃ c : List Int, ds = [.d (tI c)] ∧ o = (lookCounts c).map fun _ => .none
def sp_look_questions (ea : Err → Addr) : ASp := pSp ea fun ds o => ∃ m : Int, ds = [.d (.int m)] ∧ o = (lookQs m).map fun _ => .none
def sp_choices (ea : Err → Addr) : ASp := pSp ea fun ds o => ∃ m t : Int, ds = [.d (.int m), .d (.int t)] ∧ 0 ≤ m ∧ m ≤ 60 ∧ 0 ≤ t ∧ t ≤ 4 ∧ o = .ok (.int (choicesV m t))
def sp_weight (ea : Err → Addr) : ASp := pSp ea fun ds o => ∃ (c : List Int) (m : Int), ds = [.d (tI c), .d (.int m)] ∧ o = (weightM c m).map .int
def sp_two_to (ea : Err → Addr) : ASp := pSp ea fun ds o => ∃ m : Int, ds = [.d (.int m)] ∧ 0 ≤ m ∧ m ≤ 60 ∧ o = .ok (.int (twoTo m))
def sp_behind (ea : Err → Addr) : ASp := pSp ea fun ds o => ∃ c p : List Int, ds = [.d (tI c), .d (tI p)] ∧ o = (behindM c p).map dPair
def sp_bound (ea : Err → Addr) : ASp := pSp ea fun ds o => ∃ c : List Int, ds = [.d (tI c)] ∧ o = (boundM c).map .int
def sp_heavier (ea : Err → Addr) : ASp := pSp ea fun ds o => ∃ (c p : List Int) (m : Int), ds = [.d (tI c), .d (tI p), .d (.int m)] ∧ o = (heavierM c p m).map .bool
end LB

/-! Mirrors 3: what the laws draw. -/
namespace LB
open PySem PySem.Spec PyProof.Rows L2
def cellV (ns : List Int) (k : Int) : Int := if ns.isEmpty then 0 else nth ns (k % ns.length)
def mixV (ns : List Int) (k : Int) : Int :=
  (((cellV ns k + 104729 * (k + 1)) % 4294967291) ^ (5 : Int).toNat % 4294967279 / 64 * 69621 + ((cellV ns k + 104729 * (k + 1)) % 4294967291) ^ (5 : Int).toNat % 4294967279) % 4294967231
theorem mixV_bd (ns : List Int) (k : Int) : 0 ≤ mixV ns k ∧ mixV ns k < 4294967231 := ⟨Int.emod_nonneg _ (by decide), Int.emod_lt_of_pos _ (by decide)⟩
theorem mixV_0 (ns : List Int) (k : Int) : 0 ≤ mixV ns k := (mixV_bd ns k).1
/-- a drawn number under a bound -/
theorem mix_lt (ns : List Int) (k : Int) {n : Int} (h : 0 < n) : 0 ≤ mixV ns k % n ∧ mixV ns k % n < n := ⟨Int.emod_nonneg _ (by omega), Int.emod_lt_of_pos _ h⟩
theorem mix4_lt (ns : List Int) (k d : Int) {n : Int} (h : 0 < n) : 0 ≤ mixV ns k / d % n ∧ mixV ns k / d % n < n := ⟨Int.emod_nonneg _ (by omega), Int.emod_lt_of_pos _ h⟩
def sp_cell (g : Gv) : ASp := pSp g.ea fun ds o => ∃ (ns : List Int) (k : Int), ds = [.f g.K ns, .d (.int k)] ∧ o = .ok (.int (cellV ns k))
def sp_mix (g : Gv) : ASp := pSp g.ea fun ds o => ∃ (ns : List Int) (k : Int), ds = [.f g.K ns, .d (.int k)] ∧ o = .ok (.int (mixV ns k))
def wholeV (d : PyData) : Bool := isIntD d && !isBoolD d
def sp_whole (ea : Err → Addr) : ASp := pSp ea fun ds o => ∃ d : PyData, ds = [.d d] ∧ o = .ok (.bool (wholeV d))
def sp_refusal (ea : Err → Addr) : ASp := pSp ea fun ds o => (ds = [.d .none] ∧ o = .ok (.str "ok")) ∨ ∃ (e : Err) (s : Str), ds = [.x (ea e)] ∧ nmE e = some s ∧ o = .ok (.str s)
def sp_refusal5 (ea : Err → Addr) : ASp := pSp ea fun ds o => (ds = [.d .none] ∧ o = .ok (.str "ok")) ∨ ∃ (e : Err) (s : Str), ds = [.x (ea e)] ∧ nm5 e = some s ∧ o = .ok (.str s)
/-- the law: True, whatever the script -/
def sp_law (K : W.Frag) : ASp := fun ds A Q _ => ∃ ns : List Int, ds = [.f K ns] ∧ Q (.d (.bool true)) A
/-! counts that are drawn -/
def cntStep (ns : List Int) (k size : Int) (s : List Int × Int) (j : Int) : List Int × Int :=
  (s.1 ++ [if decide (j = size - 1) = true then s.2 else mixV ns (k + 2 + j) / 4 % (s.2 + 1)], s.2 - (if decide (j = size - 1) = true then s.2 else mixV ns (k + 2 + j) / 4 % (s.2 + 1)))
def cntRow (ns : List Int) (k most size : Int) : List Int := ((rng 0 size.toNat).foldl (cntStep ns k size) ([], mixV ns (k + 1) % (most + 1))).1
def countsV (ns : List Int) (k most : Int) (sizes : List Int) : List Int :=
  let r := cntRow ns k most (nth sizes (mixV ns k % sizes.length))
  if decide (mixV ns (k + 9) % 2 = 0) = true then r.reverse else r
def sp_counts (g : Gv) : ASp := pSp g.ea fun ds o => ∃ (ns : List Int) (k most : Int) (sizes : List Int), ds = [.f g.K ns, .d (.int k), .d (.int most), .d (lI sizes)] ∧ 0 ≤ most ∧ most ≤ 1000 ∧ sizes ≠ [] ∧ sizes.length ≤ 1000 ∧ (∀ x ∈ sizes, 0 ≤ x ∧ x ≤ 1000) ∧ o = .ok (tI (countsV ns k most sizes))
/-- what is drawn: as long as asked, nothing below none, the sum the number drawn ahead -/
theorem cntRow_spec (ns : List Int) (k most size : Int) (hm : 0 ≤ most) : ∀ n : Nat, (n : Int) ≤ size →
    let s := (rng 0 n).foldl (cntStep ns k size) ([], mixV ns (k + 1) % (most + 1))
    s.1.length = n ∧ (∀ x ∈ s.1, 0 ≤ x) ∧ 0 ≤ s.2 ∧ s.1.sum + s.2 = mixV ns (k + 1) % (most + 1) := by
  intro n
  induction n with
  | zero =>
    intro _
    have q := mix_lt ns (k + 1) (n := most + 1) (by omega)
    refine ⟨rfl, fun x hx => (List.not_mem_nil hx).elim, q.1, ?_⟩
    show (0 : Int) + _ = _
    rw [Int.zero_add]; rfl
  | succ n ih =>
    intro hn
    have hs := ih (by omega)
    rw [rng_succ, List.foldl_append]
    generalize (rng 0 n).foldl (cntStep ns k size) ([], mixV ns (k + 1) % (most + 1)) = s at hs
    obtain ⟨h1, h2, h3, h4⟩ := hs
    show (cntStep ns k size s (0 + n)).1.length = _ ∧ (∀ x ∈ (cntStep ns k size s (0 + n)).1, 0 ≤ x) ∧ 0 ≤ (cntStep ns k size s (0 + n)).2 ∧ _
    unfold cntStep
    have hv : ∀ v : Int, 0 ≤ v → v ≤ s.2 → (s.1 ++ [v]).length = n + 1 ∧ (∀ x ∈ s.1 ++ [v], 0 ≤ x) ∧ 0 ≤ s.2 - v ∧ (s.1 ++ [v]).sum + (s.2 - v) = mixV ns (k + 1) % (most + 1) := fun v v0 v1 => by
      refine ⟨by rw [List.length_append, h1]; rfl, fun x hx => ?_, by omega, ?_⟩
      · rcases List.mem_append.mp hx with q | q
        · exact h2 x q
        · rw [List.mem_singleton.mp q]; exact v0
      · rw [List.sum_append]; simp; omega
    refine hv _ ?_ ?_
    · split
      · exact h3
      · exact (mix4_lt ns _ 4 (by omega)).1
    · split
      · exact Int.le_refl _
      · have := (mix4_lt ns (k + 2 + (0 + n)) 4 (n := s.2 + 1) (by omega)).2
        omega
theorem sum_nonneg : ∀ {xs : List Int}, (∀ x ∈ xs, 0 ≤ x) → 0 ≤ xs.sum
  | [], _ => Int.le_refl _
  | x :: xs, h => by rw [List.sum_cons]; exact Int.add_nonneg (h x List.mem_cons_self) (sum_nonneg fun y hy => h y (List.mem_cons_of_mem _ hy))
theorem mem_le_sum : ∀ {xs : List Int}, (∀ x ∈ xs, 0 ≤ x) → ∀ x ∈ xs, x ≤ xs.sum
  | [], _, x, hx => (List.not_mem_nil hx).elim
  | y :: ys, h, x, hx => by
    rw [List.sum_cons]
    have a := h y List.mem_cons_self
    have b := sum_nonneg (xs := ys) fun z hz => h z (List.mem_cons_of_mem _ hz)
    rcases List.mem_cons.mp hx with rfl | q
    · omega
    · have := mem_le_sum (xs := ys) (fun z hz => h z (List.mem_cons_of_mem _ hz)) x q
      omega
theorem sum_reverse : ∀ xs : List Int, xs.reverse.sum = xs.sum
  | [] => rfl
  | x :: xs => by rw [List.reverse_cons, List.sum_append, sum_reverse xs, List.sum_cons]; simp; omega
theorem countsV_spec (ns : List Int) (k most : Int) (sizes : List Int) (hm : 0 ≤ most) (hs : sizes ≠ []) (h0 : ∀ x ∈ sizes, 0 ≤ x) :
    ((countsV ns k most sizes).length : Int) ∈ sizes ∧ (∀ x ∈ countsV ns k most sizes, 0 ≤ x) ∧ (countsV ns k most sizes).sum ≤ most := by
  have hl : 0 < (sizes.length : Int) := by cases sizes with | nil => exact absurd rfl hs | cons a b => simp
  have q := mix_lt ns k hl
  have hmem := nth_mem (xs := sizes) q.1 q.2
  have z0 := h0 _ hmem
  have r := cntRow_spec ns k most (nth sizes (mixV ns k % sizes.length)) hm (nth sizes (mixV ns k % sizes.length)).toNat (by omega)
  have q2 := mix_lt ns (k + 1) (n := most + 1) (by omega)
  unfold countsV
  show ((if _ then (cntRow ns k most _).reverse else cntRow ns k most _).length : Int) ∈ sizes ∧ _
  unfold cntRow
  generalize (rng 0 (nth sizes (mixV ns k % sizes.length)).toNat).foldl (cntStep ns k (nth sizes (mixV ns k % sizes.length))) ([], mixV ns (k + 1) % (most + 1)) = s at r
  obtain ⟨r1, r2, r3, r4⟩ := r
  have e : ((s.1.length : Nat) : Int) ∈ sizes := by rw [r1]; rw [show (((nth sizes (mixV ns k % sizes.length)).toNat : Nat) : Int) = nth sizes (mixV ns k % sizes.length) from by omega]; exact hmem
  split
  · exact ⟨by rw [List.length_reverse]; exact e, fun x hx => r2 x (List.mem_reverse.mp hx), by show s.1.reverse.sum ≤ most; rw [sum_reverse]; omega⟩
  · exact ⟨e, r2, by show s.1.sum ≤ most; omega⟩
end LB

/-! Layer 12: data that may be compared; rows picked from; parts cut. -/
namespace LB
open PySem PySem.Spec PyProof.Rows L2
structure Sh (n : Nat) (d : PyData) : Prop where
  lay : d.canLay0 = true
  dep : d.depth ≤ n
structure ShAll (n : Nat) (ds : List PyData) : Prop where
  lay : PyData.canLayAll0 ds = true
  dep : PyData.depthAll ds ≤ n
theorem Sh.int {n : Nat} {i : Int} : Sh n (.int i) := ⟨rfl, Nat.zero_le _⟩
theorem Sh.bool {n : Nat} {i : Bool} : Sh n (.bool i) := ⟨rfl, Nat.zero_le _⟩
theorem Sh.none {n : Nat} : Sh n .none := ⟨rfl, Nat.zero_le _⟩
theorem Sh.str {n : Nat} {x : Str} (h : PyData.canLay0 (.str x) = true) : Sh n (.str x) := ⟨h, Nat.zero_le _⟩
theorem ShAll.nil {n : Nat} : ShAll n [] := ⟨rfl, Nat.zero_le _⟩
theorem ShAll.cons {n : Nat} {d : PyData} {ds : List PyData} (h : Sh n d) (k : ShAll n ds) : ShAll n (d :: ds) :=
  ⟨by show (d.canLay0 && PyData.canLayAll0 ds) = true; rw [h.lay, k.lay]; rfl, Nat.max_le.mpr ⟨h.dep, k.dep⟩⟩
theorem ShAll.mem {n : Nat} : ∀ {ds : List PyData}, (∀ d ∈ ds, Sh n d) → ShAll n ds
  | [], _ => .nil
  | d :: ds, h => .cons (h d List.mem_cons_self) (ShAll.mem fun x hx => h x (List.mem_cons_of_mem _ hx))
theorem ShAll.map {n : Nat} {α : Type} {f : α → PyData} {xs : List α} (h : ∀ x, Sh n (f x)) : ShAll n (xs.map f) := .mem fun d hd => by
  obtain ⟨x, _, rfl⟩ := List.mem_map.mp hd
  exact h x
theorem ShAll.append {n : Nat} {a b : List PyData} (h : ShAll n a) (k : ShAll n b) : ShAll n (a ++ b) := by
  induction a with
  | nil => exact k
  | cons x xs ih =>
    have hl := h.lay
    have h1 : x.canLay0 = true ∧ PyData.canLayAll0 xs = true := by
      have : (x.canLay0 && PyData.canLayAll0 xs) = true := hl
      simpa using this
    have h2 := Nat.max_le.mp h.dep
    exact .cons ⟨h1.1, h2.1⟩ (ih ⟨h1.2, h2.2⟩)
theorem Sh.list {n : Nat} {ds : List PyData} (h : ShAll n ds) : Sh (n + 1) (.list ds) := ⟨h.lay, Nat.succ_le_succ h.dep⟩
theorem Sh.tuple {n : Nat} {ds : List PyData} (h : ShAll n ds) : Sh (n + 1) (.tuple ds) := ⟨h.lay, Nat.succ_le_succ h.dep⟩
theorem Sh.ok {n : Nat} {d : PyData} (h : Sh n d) (hn : n ≤ 64) : SeqAt.shaped d = true := by
  unfold SeqAt.shaped
  rw [h.lay, decide_eq_true (Nat.le_trans h.dep hn)]; rfl
theorem Sh.eqv {n : Nat} {d : PyData} (h : Sh n d) : PyData.eqv d d = true := SeqAt.eqv_refl d h.lay
/-! ints and what is made of them are alike just if they are the same -/
inductive Same0 : PyData → PyData → Prop
  | int (i j : Int) : Same0 (.int i) (.int j)
  | bool (i j : Bool) : Same0 (.bool i) (.bool j)
  | str (i j : Str) : Same0 (.str i) (.str j)
section
variable {g : Gv} {I : CI} {R : Rz} {Γ Γ' Γ₀ : Gam} {A A' : AH} {pos p apos : Pos} {e o a b c : Expr} {D : AEnds} {dv : DV} {sts : List Stmt} {l : Addr} {xs : List PyData} {d : PyData}
theorem c_neR {n : Nat} {x y : PyData} (e : x = y) (h : Sh n y) (hn : n ≤ 64) : CmpD g I A .NotEq (.d x) (.d y) false := by
  subst e
  have q := c_neD (g := g) (I := I) (A := A) (h.ok hn) (h.ok hn)
  rwa [h.eqv] at q
theorem c_eqR {n : Nat} {x y : PyData} (e : x = y) (h : Sh n y) (hn : n ≤ 64) : CmpD g I A .Eq (.d x) (.d y) true := by
  subst e
  have q := c_eqD (g := g) (I := I) (A := A) (h.ok hn) (h.ok hn)
  rwa [h.eqv] at q
/-- one of a row that stands there -/
theorem atI_pick {α : Type} [Inhabited α] (f : α → PyData) (xs : List α) {k : Int} (h0 : 0 ≤ k) (h1 : k < xs.length) : atI (xs.map f) k = some (f (nth xs k)) := atI_map (atI_nth h0 h1)
theorem cut_1 {α : Type} (xs : List α) : cutD xs (some 1) none = xs.drop 1 := by
  unfold cutD HT.sIx
  simp
  rcases xs with _ | ⟨x, xs⟩
  · rfl
  · simp
theorem flat_rep {α β : Type} (f : α → β) (x : α) : ∀ n : Nat, (List.replicate n [f x]).flatten = (List.replicate n x).map f
  | 0 => rfl
  | n + 1 => by rw [List.replicate_succ, List.flatten_cons, flat_rep f x n]; rfl
theorem flat_rep1 {α : Type} (x : α) : ∀ n : Nat, (List.replicate n [x]).flatten = List.replicate n x
  | 0 => rfl
  | n + 1 => by rw [List.replicate_succ, List.flatten_cons, flat_rep1 x n]; rfl
theorem map_const {α β : Type} {f : α → β} {y : β} : ∀ {xs : List α}, (∀ x ∈ xs, f x = y) → xs.map f = List.replicate xs.length y
  | [], _ => rfl
  | x :: xs, h => by rw [List.map_cons, h x List.mem_cons_self, map_const fun z hz => h z (List.mem_cons_of_mem _ hz)]; rfl
end
end LB

/-! Layer 13: the law's start and end. -/
namespace LB
open PySem PySem.Spec PyProof.Rows L2
theorem kit_typeV {K : PySem.W.Frag} {C : Addr} (h : PySem.W.subIn K (.ref C) (.type "ValueError") = some true) : PySem.W.kitOne K (.ref C) (.type "ValueError") = some true := by
  unfold PySem.W.kitOne
  rw [if_neg (by intro q; cases q)]
  show (if PySem.W.kitMeta "ValueError" = true then PySem.W.subIn K (.ref C) (.type "ValueError") else none) = some true
  rw [if_pos (by decide +kernel)]
  exact h
theorem kit_self {K : PySem.W.Frag} (C : Addr) : PySem.W.kitOne K (.ref C) (.ref C) = some true := by
  unfold PySem.W.kitOne
  rw [if_pos (beq_self_eq_true _)]
theorem kit_ne {K : PySem.W.Frag} {C D : Addr} (h : PySem.W.subIn K (.ref C) (.ref D) = some false) (h1 : PySem.W.subIn K (.ref C) (.ref C) = some true) (h2 : PySem.W.isClsIn K D = true) (h3 : PySem.W.typeIn K (.ref D) = some (.type "type")) : PySem.W.kitOne K (.ref C) (.ref D) = some false := by
  have hne : ¬ ((Value.ref C == Value.ref D) = true) := fun e => by
    have e2 : Value.ref C = Value.ref D := eq_of_beq e
    rw [e2] at h1
    rw [Value.ref.inj e2, h1] at h
    cases h
  have e2 : ((PySem.W.clsIn K D).isSome && PySem.W.typeIn K (.ref D) == some (.type "type")) = true := by
    have h2' : (PySem.W.clsIn K D).isSome = true := h2
    rw [h2', h3] <;> rfl
  unfold PySem.W.kitOne
  rw [if_neg hne]
  show (if ((PySem.W.clsIn K D).isSome && PySem.W.typeIn K (.ref D) == some (.type "type")) = true then PySem.W.subIn K (.ref C) (.ref D) else none) = some false
  rw [if_pos e2]
  exact h
theorem law_start {K : PySem.W.Frag} {H : Hp} {a : Addr} {ns : List Int} (hO : Only H) (hS : SqL K H a (ns.map V.int)) : toSp 1 (sp_law K) [.ref a] H (fun v _ => v = .bl true) fun _ _ _ => False :=
  ⟨H, fun _ => none, [.f K ns], fun dv _ => dv = .d (.bool true), fun _ _ => False, rfl, ⟨Same.refl H, fun _ => none, fun _ _ _ => rfl, fun _ _ z => nomatch z⟩, .cons ⟨a, rfl, fun H' s => s.seq hS⟩ .nil, ⟨ns, rfl, rfl⟩,
    fun dv A' S' v H' _ _ r e => by subst e; exact Rp.bl_of r, fun _ _ _ _ _ _ z => z⟩
theorem cx_end {P : Program} {w : World} {H : Hp} {s : Shared} {e : Value} {s' : Shared} (z : L2.CX P w [] H s (fun _ _ _ => False) e s') : False := by
  obtain ⟨_, _, _, _, _, _, _, _, _, _, _, _, q⟩ := z
  exact q
end LB

/-! Layer 14: sorted(set(xs)) of a list of whole numbers. -/
namespace LB
open PySem PySem.Spec PyProof.Rows L2
section
variable {P : Program} {w : World} {A : Around} {E : Value → Shared → Prop} {s : Shared}
abbrev noSet (w : World) : Obj := { cls := .type "set", dict := none, data := .set #[] 0 (.fresh 0 0 (!w.params.followText "set-order")) }
theorem set_fromL {l : Addr} {its : Array Value} (zs : List Int) {Q : Value → Shared → Prop} (nh : A.handled = none) (isl : s.heap.IsList l its) (iz : IntsAre its.toList zs) (few : zs.length + 1 < scanBound)
    (k : ∀ (g' : Heap) (tk c : Nat), SetR w g' s.heap.objs.size (fun j => decide (j ∈ zs)) c → c ≤ zs.length → (∀ b o, s.heap.get? b = some o → g'.get? b = some o) → Q (.ref s.heap.objs.size) { s with heap := g', toks := tk }) :
    wpAny (model P w) A (call (.type "set") [.ref l]) Q E s := by
  have sz : its.size = zs.length := by have := IntsAre.length iz; rw [Array.length_toList] at this; exact this
  obtain ⟨c0, t0, m0⟩ := F.called_set.mro
  have x1 := F.called_set.made
  have x2 := F.called_set.sub
  apply wpAny_call; apply codeAny_of_tree; (show wpAny _ _ (callAny (.type "set") _) _ _ _)
  apply wpAny_pure; refine ⟨Code.quiet_builtin _ (by decide +kernel), codeAny_builtin F.entry_type_call ?_⟩; rw [Around.under_plain (weight_type_call_type "set" [.ref l] []) rfl]
  have x3 := F.called_set.notType
  have x4 := F.called_set.canCreate
  have x5 := F.typeCall_set_1 (.ref l)
  repeat (any_goals (first | assumption | wp_step))
  apply codeAny_mono (code_set_led1 (.ref l) (E := E) (Q₁ := fun v z => v = .ref s.heap.objs.size ∧ z = { s with heap := s.heap.push (noSet w) }) ⟨rfl, rfl⟩)
  intro r z hz
  cases r with
  | error e => exact hz
  | ok fl =>
    cases fl with
    | ret v =>
      obtain ⟨rfl, rfl⟩ := hz
      have y1 : (s.heap.push (noSet w)).get? s.heap.objs.size = some (noSet w) := Heap.get?_push_size _ rfl
      have y2 : Shared.TypeIs { s with heap := s.heap.push (noSet w) } (.ref s.heap.objs.size) "set" := ⟨_, y1, rfl⟩
      have y3 := F.called_set.init.lookup
      have y4 := F.called_set.init.bind (.ref s.heap.objs.size)
      repeat (any_goals (first | assumption | wp_step))
      apply codeAny_mono (codeAny_call_builtin (R := wants (fun v u => v = .none ∧ ∃ g' tk c, u = { s with heap := g', toks := tk } ∧ SetR w g' s.heap.objs.size (fun j => decide (j ∈ zs)) c ∧ c ≤ zs.length ∧ ∀ b o, s.heap.get? b = some o → g'.get? b = some o) E) F.called_set.init.plain F.entry_set_init (check_set_init_1 y2 ?_))
      · intro r2 u hu
        cases r2 with
        | error e => exact hu
        | ok f2 =>
          cases f2 with
          | ret v2 =>
            obtain ⟨rfl, g', tk, c, rfl, u1, u2, u3⟩ := hu
            repeat (any_goals (first | assumption | wp_step))
            exact k _ _ _ u1 u2 u3
          | _ => exact hu.elim
      · obtain ⟨⟨oc, od, oda, osl⟩, ol, ocl, on, odt⟩ := isl
        dsimp only at ocl odt
        subst ocl odt
        have v1 : (s.heap.push (noSet w)).get? l = some { cls := .type "list", dict := od, data := .seq its on, slots := osl } := Heap.get?_push_of_some _ ol
        have v2 := F.sub_list_set
        have v3 := F.sub_list_frozenset
        have v4 : (Value.type "list" == Value.type "dict") = false := by decide
        have v5 : (s.heap.push (noSet w)).IsList l its := ⟨_, v1, rfl, on, rfl⟩
        unfold Builtin.«set.__init__» noKeywords Builtin.Frozenset.updateFrom; generalize hP : pyIter = PP; wp_walk; subst hP
        apply wpAny_pyIter_list v5; apply wpAny_bind; apply wpAny_runValue
        have lt := Heap.lt_size ol
        have nh3 : A.in1.in1.in1.handled = none := by simp [nh]
        have n1 : l ≠ (s.heap.push (noSet w)).objs.size := by rw [Heap.size_push]; exact Nat.ne_of_lt (Nat.lt_succ_of_lt lt)
        have n2 : s.heap.objs.size ∉ [(s.heap.push (noSet w)).objs.size, l] := by
          rw [Heap.size_push]
          intro q
          rcases List.mem_cons.mp q with q | q
          · omega
          · exact Nat.ne_of_gt lt (List.mem_singleton.mp q)
        have val : ∀ (i : Nat) (v : Value), its[i]? = some v → ∃ k t, zs[i]? = some k ∧ v = .int k t := fun i v hv => by
          have hi : i < zs.length := by rw [← sz]; exact (Array.getElem?_eq_some_iff.mp hv).1
          obtain ⟨t, e⟩ := IntsAre.int_at iz i v (by rw [Array.getElem?_toList]; exact hv)
          exact ⟨zs[i], t, List.getElem?_eq_getElem hi, by rw [e, List.getD_eq_getElem?_getD, List.getElem?_eq_getElem hi]; rfl⟩
        apply set_update_ints ((Walks.list nh3 _ l n1 its).toS) s.heap.objs.size n2 zs sz few val (its.size - 0) 0 _ (by omega) (Nat.zero_le _) ⟨⟨_, Heap.get?_push_size _ rfl, rfl, rfl⟩, v5.push _⟩
        · exact ⟨0, Nat.le_refl 0, setR_new_at (Heap.get?_push_of_some _ y1)⟩
        · intro s' c' mv hc hS
          obtain ⟨g', gg, dd, tk, os⟩ := s'
          have e1 : gg = s.gens := mv.gens
          have e2 : dd = s.drawn := mv.drawn
          have e3 : os = s.os := mv.os
          subst e1 e2 e3
          show wpAny _ _ _ _ _ _
          apply wpAny_pure; (show wpAny _ _ (ret Value.none) _ _ _)
          rw [sz] at hc
          refine wpAny_pure ⟨rfl, g', tk, c', rfl, hS, hc, fun b o e => ?_⟩
          have bl := Heap.lt_size e
          refine mv.heap b o (fun q => ?_) (Heap.get?_push_of_some _ (Heap.get?_push_of_some _ e))
          rcases List.mem_cons.mp q with q | q
          · exact Nat.ne_of_lt bl q
          · rw [Heap.size_push] at q
            exact Nat.ne_of_lt (Nat.lt_succ_of_lt bl) (List.mem_singleton.mp q)
    | _ => exact hz.elim
end
section
variable {X : Cx}
/-- set(xs) of ints, by what it makes -/
theorem call_setL (hc : X.calm = true) : CallR X (.type "set") (fun xs H Q => ∃ (l : Addr) (ns : List Int), xs = [.ref l] ∧ SqL X.K H l (ns.map V.int) ∧ ns.length ≤ 1000 ∧ ∀ (p : Addr) (c : Nat), H p = none → c ≤ ns.length → Q (.ref p) (upd H p (SetO X.w p (fun j => decide (j ∈ ns)) c))) := by
  intro pins s σ H xs us Q I r h
  obtain ⟨l, ns, rfl, hs, hl, q⟩ := h
  cases r with
  | cons rx rr =>
    cases rr
    cases rx
    obtain ⟨its, rv, ⟨⟨cls, dd, data, sl⟩, n, ho, hc2, hdn, hd⟩, hlen⟩ := I.list hs
    simp only at hc2 hd
    subst hc2 hd
    refine set_fromL ns (I.ok.hd hc) ⟨_, ho, rfl, n, rfl⟩ (ints_of_vals rv) (by unfold scanBound; omega) fun g' tk c hS hle kp => ?_
    exact ⟨.ref _, upd H s.heap.objs.size (SetO X.w s.heap.objs.size (fun j => decide (j ∈ ns)) c), I.laid (t' := tk) kp (Nat.le_refl _) (setO_new hS), rfl, q _ c (I.hok.fresh (Nat.le_refl _)) hle⟩
end
/-! ### the plain side: rising rows -/
def rising : List Int → Bool
  | a :: b :: r => decide (a < b) && rising (b :: r)
  | _ => true
theorem rising_pw : ∀ {xs : List Int}, rising xs = true ↔ xs.Pairwise (· < ·)
  | [] => ⟨fun _ => .nil, fun _ => rfl⟩
  | [a] => ⟨fun _ => List.pairwise_singleton _ _, fun _ => rfl⟩
  | a :: b :: r => by
    show (decide (a < b) && rising (b :: r)) = true ↔ _
    rw [Bool.and_eq_true, decide_eq_true_eq, rising_pw]
    constructor
    · rintro ⟨h, k⟩
      refine List.pairwise_cons.mpr ⟨fun c hc => ?_, k⟩
      rcases List.mem_cons.mp hc with rfl | q
      · exact h
      · have := (List.pairwise_cons.mp k).1 c q; omega
    · intro q
      obtain ⟨h, k⟩ := List.pairwise_cons.mp q
      exact ⟨h b List.mem_cons_self, k⟩
/-- two rising rows of the same members are the same -/
theorem rising_uniq : ∀ {xs ys : List Int}, xs.Pairwise (· < ·) → ys.Pairwise (· < ·) → (∀ k, k ∈ xs ↔ k ∈ ys) → xs = ys
  | [], [], _, _, _ => rfl
  | [], y :: ys, _, _, h => absurd ((h y).mpr List.mem_cons_self) List.not_mem_nil
  | x :: xs, [], _, _, h => absurd ((h x).mp List.mem_cons_self) List.not_mem_nil
  | x :: xs, y :: ys, hx, hy, h => by
    have px := List.pairwise_cons.mp hx
    have py := List.pairwise_cons.mp hy
    have e : x = y := by
      rcases List.mem_cons.mp ((h x).mp List.mem_cons_self) with q | q
      · exact q
      · rcases List.mem_cons.mp ((h y).mpr List.mem_cons_self) with z | z
        · exact z.symm
        · have a := py.1 x q
          have b := px.1 y z
          omega
    subst e
    rw [rising_uniq px.2 py.2 fun k => ?_]
    constructor
    · intro hk
      have a := px.1 k hk
      rcases List.mem_cons.mp ((h k).mp (List.mem_cons_of_mem _ hk)) with q | q
      · omega
      · exact q
    · intro hk
      have a := py.1 k hk
      rcases List.mem_cons.mp ((h k).mpr (List.mem_cons_of_mem _ hk)) with q | q
      · omega
      · exact q
/-- the rising row of the members of a row -/
def putU (x : Int) : List Int → List Int
  | [] => [x]
  | y :: r => if x < y then x :: y :: r else if x = y then y :: r else y :: putU x r
def sortU : List Int → List Int
  | [] => []
  | x :: r => putU x (sortU r)
theorem mem_putU {x k : Int} : ∀ {ys : List Int}, k ∈ putU x ys ↔ k = x ∨ k ∈ ys
  | [] => by unfold putU; simp
  | y :: r => by
    unfold putU
    split
    · simp
    · split
      · rename_i h; subst h; simp
      · rw [List.mem_cons, mem_putU, List.mem_cons]
        constructor
        · rintro (h | h | h)
          · exact .inr (.inl h)
          · exact .inl h
          · exact .inr (.inr h)
        · rintro (h | h | h)
          · exact .inr (.inl h)
          · exact .inl h
          · exact .inr (.inr h)
theorem mem_sortU {k : Int} : ∀ {xs : List Int}, k ∈ sortU xs ↔ k ∈ xs
  | [] => Iff.rfl
  | x :: r => by show k ∈ putU x (sortU r) ↔ _; rw [mem_putU, mem_sortU, List.mem_cons]
theorem putU_pw {x : Int} : ∀ {ys : List Int}, ys.Pairwise (· < ·) → (putU x ys).Pairwise (· < ·)
  | [], _ => List.pairwise_singleton _ _
  | y :: r, h => by
    have p := List.pairwise_cons.mp h
    unfold putU
    split
    · rename_i q
      refine List.pairwise_cons.mpr ⟨fun z hz => ?_, h⟩
      rcases List.mem_cons.mp hz with rfl | e
      · exact q
      · have := p.1 z e; omega
    · split
      · exact h
      · refine List.pairwise_cons.mpr ⟨fun z hz => ?_, putU_pw p.2⟩
        rcases mem_putU.mp hz with rfl | e
        · omega
        · exact p.1 z e
theorem sortU_pw : ∀ xs : List Int, (sortU xs).Pairwise (· < ·)
  | [] => .nil
  | x :: r => putU_pw (sortU_pw r)
theorem sortU_eq {ns zs : List Int} (h : zs.Pairwise (· < ·)) (k : ∀ j, j ∈ zs ↔ j ∈ ns) : zs = sortU ns :=
  rising_uniq h (sortU_pw ns) fun j => (k j).trans mem_sortU.symm
theorem sortU_fix {ns : List Int} : ns = sortU ns ↔ rising ns = true :=
  ⟨fun h => by rw [rising_pw, h]; exact sortU_pw ns, fun h => sortU_eq (rising_pw.mp h) fun _ => Iff.rfl⟩
section
variable {g : Gv} {I : CI} {R : Rz} {Γ : Gam} {A : AH} {pos p pos2 p2 : Pos} {e : Expr} {dv : DV} {ns : List Int}
theorem boot_set' : bootBuiltins "set" = some (.type "set") := by decide +kernel
/-- sorted(set(xs)) -/
theorem de_sortedSet (h : VE g I Γ A e dv) (q : IsL A dv (ns.map .int)) (hz : ns.length < 64) (hg : GlS I.sc "sorted") (hm : g.mg "sorted" = none) (hg2 : GlS I.sc "set") (hm2 : g.mg "set" = none) (hn : nostar e = true := by rfl) : DE g I Γ A (.Call (.Name "sorted" p) [.Call (.Name "set" p2) [e] [] pos2] [] pos) (lI (sortU ns)) := by
  intro X cx A1 ex S H σ he hf Q z
  obtain ⟨ea, rfl⟩ := cx.eq
  refine (pe_callB (cr_sortedSet cx.calm) (hg.gl cx.sc) hm boot_sorted' (pa_cons (pe_callTy (call_setL cx.calm) (hg2.gl cx.sc) hm2 boot_set' PA.s (by decide) (by decide) (star_cons hn [] X.env) (star_any pos2 X.env rfl)) pa_nil) (by decide) (by decide)).to ?_
  refine va_cons h va_nil hn X cx A1 ex S H σ he hf _ fun vs S1 H1 s1 f1 r1 => ?_
  obtain ⟨v, rfl, r⟩ := r1.one
  obtain ⟨l, ws, rfl, h1, h2⟩ := q.sq ex f1 r
  obtain rfl := h2.ints
  refine ⟨l, ns, rfl, .of h1, by omega, fun t c ht hc => ?_⟩
  obtain ⟨f2, s2⟩ := f1.laidS ht (o := SetO X.w t (fun j => decide (j ∈ ns)) c)
  refine ⟨t, _, c, rfl, upd_same, by omega, fun zs u hzs hmem hlen hu => ?_⟩
  obtain ⟨f3, s3⟩ := f2.laidS hu (o := .lst (zs.map V.int))
  have e := sortU_eq hzs fun j => (hmem j).trans (by rw [decide_eq_true_eq])
  subst e
  exact z _ _ _ ((s1.trans s2).trans s3) f3 (.lst upd_same (RpAll.ofInts _))
end
end LB

/-! Layer 15: tuples of whole numbers, which is less. -/
namespace LB
open PySem PySem.Spec PyProof.Rows L2
/-- the order of rows of whole numbers -/
def lexLt : List Int → List Int → Bool
  | [], [] => false
  | [], _ :: _ => true
  | _ :: _, [] => false
  | x :: xs, y :: ys => if x = y then lexLt xs ys else decide (x < y)
def lexLe : List Int → List Int → Bool
  | [], _ => true
  | _ :: _, [] => false
  | x :: xs, y :: ys => if x = y then lexLe xs ys else decide (x ≤ y)
theorem lexAt_lt (as bs : List Int) : ∀ (k i : Nat) (xs ys : List Int), as.drop i = xs → bs.drop i = ys → k = min xs.length ys.length → i ≤ as.length → i ≤ bs.length →
    Ob.lexAt (fun j => decide (as.getD j 0 = bs.getD j 0)) (fun j => decide (as.getD j 0 < bs.getD j 0)) (decide (as.length < bs.length)) i k = lexLt xs ys := by
  intro k
  induction k with
  | zero =>
    intro i xs ys h1 h2 hk i1 i2
    have l1 := congrArg List.length h1
    have l2 := congrArg List.length h2
    rw [List.length_drop] at l1 l2
    show decide _ = _
    cases xs with
    | nil =>
      cases ys with
      | nil => exact decide_eq_false (by simp at l1 l2; omega)
      | cons y ys => exact decide_eq_true (by simp at l1 l2; omega)
    | cons x xs =>
      cases ys with
      | nil => exact decide_eq_false (by simp at l1 l2; omega)
      | cons y ys => simp at hk
  | succ k ih =>
    intro i xs ys h1 h2 hk i1 i2
    cases xs with
    | nil => simp at hk
    | cons x xs =>
      cases ys with
      | nil => simp at hk
      | cons y ys =>
        have l1 := congrArg List.length h1
        have l2 := congrArg List.length h2
        rw [List.length_drop, List.length_cons] at l1 l2
        have g1 : as.getD i 0 = x := by rw [List.getD_eq_getElem?_getD, ← List.head?_drop, h1]; rfl
        have g2 : bs.getD i 0 = y := by rw [List.getD_eq_getElem?_getD, ← List.head?_drop, h2]; rfl
        rw [Ob.lexAt_succ, g1, g2]
        have n1 : as.drop (i + 1) = xs := by rw [← List.drop_drop, h1]; rfl
        have n2 : bs.drop (i + 1) = ys := by rw [← List.drop_drop, h2]; rfl
        rw [ih (i + 1) xs ys n1 n2 (by simp at hk; omega) (by omega) (by omega)]
        show (if decide (x = y) = true then _ else _) = if x = y then _ else _
        by_cases e : x = y
        · rw [if_pos (decide_eq_true e), if_pos e]
        · rw [if_neg (by simp [e]), if_neg e]
theorem lexAt_le (as bs : List Int) : ∀ (k i : Nat) (xs ys : List Int), as.drop i = xs → bs.drop i = ys → k = min xs.length ys.length → i ≤ as.length → i ≤ bs.length →
    Ob.lexAt (fun j => decide (as.getD j 0 = bs.getD j 0)) (fun j => decide (as.getD j 0 ≤ bs.getD j 0)) (decide (as.length ≤ bs.length)) i k = lexLe xs ys := by
  intro k
  induction k with
  | zero =>
    intro i xs ys h1 h2 hk i1 i2
    have l1 := congrArg List.length h1
    have l2 := congrArg List.length h2
    rw [List.length_drop] at l1 l2
    show decide _ = _
    cases xs with
    | nil => exact decide_eq_true (by simp at l1 l2; omega)
    | cons x xs =>
      cases ys with
      | nil => exact decide_eq_false (by simp at l1 l2; omega)
      | cons y ys => simp at hk
  | succ k ih =>
    intro i xs ys h1 h2 hk i1 i2
    cases xs with
    | nil => simp at hk
    | cons x xs =>
      cases ys with
      | nil => simp at hk
      | cons y ys =>
        have l1 := congrArg List.length h1
        have l2 := congrArg List.length h2
        rw [List.length_drop, List.length_cons] at l1 l2
        have g1 : as.getD i 0 = x := by rw [List.getD_eq_getElem?_getD, ← List.head?_drop, h1]; rfl
        have g2 : bs.getD i 0 = y := by rw [List.getD_eq_getElem?_getD, ← List.head?_drop, h2]; rfl
        rw [Ob.lexAt_succ, g1, g2]
        have n1 : as.drop (i + 1) = xs := by rw [← List.drop_drop, h1]; rfl
        have n2 : bs.drop (i + 1) = ys := by rw [← List.drop_drop, h2]; rfl
        rw [ih (i + 1) xs ys n1 n2 (by simp at hk; omega) (by omega) (by omega)]
        show (if decide (x = y) = true then _ else _) = if x = y then _ else _
        by_cases e : x = y
        · rw [if_pos (decide_eq_true e), if_pos e]
        · rw [if_neg (by simp [e]), if_neg e]
theorem op_ltTup {X : Cx} (un : X.A.units < cLine) : OpR X (compareOp .Lt) (fun x y H Q => ∃ (a b : Addr) (ns ms : List Int), x = .ref a ∧ y = .ref b ∧ SqT X.K H a (ns.map V.int) ∧ SqT X.K H b (ms.map V.int) ∧ Q (.bl (lexLt ns ms)) H) := by
  intro pins s σ H x y v u Q I rx ry h
  obtain ⟨a, b, ns, ms, rfl, rfl, ha, hb, q⟩ := h
  cases rx; cases ry
  obtain ⟨is, u1, t1, _⟩ := I.tuple ha
  obtain ⟨js, u2, t2, _⟩ := I.tuple hb
  have m1 : IntsAre is ns := Vals.ints u1
  have m2 : IntsAre js ms := Vals.ints u2
  have k1 : is.toArray.size = ns.length := by rw [List.size_toArray]; exact m1.length
  have k2 : js.toArray.size = ms.length := by rw [List.size_toArray]; exact m2.length
  have p1 : ∀ j (_ : j < is.toArray.size), ∃ t, is.toArray[j] = .int (ns.getD j 0) t := fun j hj => IntsAre.int_at m1 _ _ (by simp at hj; simp [hj])
  have p2 : ∀ j (_ : j < js.toArray.size), ∃ t, js.toArray[j] = .int (ms.getD j 0) t := fun j hj => IntsAre.int_at m2 _ _ (by simp at hj; simp [hj])
  have key := Ob.RcOp.tuples_lt (A := X.A) (s := s) (e := fun j => decide (ns.getD j 0 = ms.getD j 0)) (r := fun j => decide (ns.getD j 0 < ms.getD j 0)) t1 t2 un (fun j h1 h2 => by
    obtain ⟨t, et⟩ := p1 j h1
    obtain ⟨t', et'⟩ := p2 j h2
    rw [et, et', show decide (ns.getD j 0 = ms.getD j 0) = (ns.getD j 0 == ms.getD j 0) from by rw [Bool.eq_iff_iff, decide_eq_true_eq, beq_iff_eq]]
    exact SeqAt.EqAt.int_int _ _ _ _) (fun j h1 h2 _ => by
    obtain ⟨t, et⟩ := p1 j h1
    obtain ⟨t', et'⟩ := p2 j h2
    rw [et, et']
    exact Ob.RcOp.lt_int _ _ _ _)
  rw [k1, k2, lexAt_lt ns ms _ 0 ns ms rfl rfl rfl (Nat.zero_le _) (Nat.zero_le _)] at key
  exact key X.prog X.w X.xe (EP X pins σ Q) ⟨.bl _, H, I, rfl, q⟩
section
variable {g : Gv} {I : CI} {R : Rz} {Γ Γ' Γ₀ Γ₁ : Gam} {A : AH} {pos p : Pos} {e a b c : Expr} {dv : DV} {ns ms : List Int}
theorem c_ltT : CmpD g I A .Lt (.d (tI ns)) (.d (tI ms)) (lexLt ns ms) := ⟨⟨_, fun X c => op_ltTup (by have := c.room.un; omega), fun X c A1 ex S H v u f r1 r2 Q q => by
  obtain ⟨ea, rfl⟩ := c.eq
  obtain ⟨l1, w1, rfl, e1, q1⟩ := Rp.tup_of r1
  obtain ⟨l2, w2, rfl, e2, q2⟩ := Rp.tup_of r2
  obtain rfl := q1.ints
  obtain rfl := q2.ints
  exact ⟨l1, l2, ns, ms, rfl, rfl, .of (f.same _ _ e1), .of (f.same _ _ e2), q⟩⟩, nm_of (by decide) (by decide)⟩
theorem c_leT : CmpD g I A .LtE (.d (tI ns)) (.d (tI ms)) (lexLe ns ms) := ⟨⟨_, fun X c => op_leT (by have := c.room.un; omega), fun X c A1 ex S H v u f r1 r2 Q q => by
  obtain ⟨ea, rfl⟩ := c.eq
  obtain ⟨l1, w1, rfl, e1, q1⟩ := Rp.tup_of r1
  obtain ⟨l2, w2, rfl, e2, q2⟩ := Rp.tup_of r2
  obtain rfl := q1.ints
  obtain rfl := q2.ints
  exact ⟨l1, l2, ns, ms, rfl, rfl, .of (f.same _ _ e1), .of (f.same _ _ e2), by rw [lexAt_le ns ms _ 0 ns ms rfl rfl rfl (Nat.zero_le _) (Nat.zero_le _)]; exact q⟩⟩, nm_of (by decide) (by decide)⟩
theorem td_tup3 {x y z : Str} {px py pz : Pos} {kk : Nat} (i j l : Nat) (hN : I.N[i]? = some x) (hx : LocOk I x) (hN2 : I.N[j]? = some y) (hx2 : LocOk I y) (hN3 : I.N[l]? = some z) (hx3 : LocOk I z) {d1 d2 d3 : PyData} (h1 : SetG Γ i (some (.d d1)) Γ₀) (h2 : SetG Γ₀ j (some (.d d2)) Γ₁) (h3 : SetG Γ₁ l (some (.d d3)) Γ') :
    TgD g I (.Tuple [.Name x px, .Name y py, .Name z pz] kk p) Γ (.tuple [d1, d2, d3]) Γ' := (tg_tup3 i j l hN hx hN2 hx2 hN3 hx3).set (by rw [h1.eq, h2.eq, h3.eq])
end
end LB

/-! Layer 16: promises that look at what is owned; typed equality; what a law keeps of an error. -/
namespace LB
open PySem PySem.Spec PyProof.Rows L2
/-- a pure promise whose arguments may be owned lists -/
def pSpA (ea : Err → Addr) (f : AH → List DV → Except Err PyData → Prop) : ASp := fun ds A Q E => ∃ o, f A ds o ∧ (∀ r, o = .ok r → Q (.d r) A) ∧ (∀ e, o = .error e → E (ea e) A)
section
variable {g : Gv} {I : CI} {R : Rz} {Γ Γ' Γ₀ Γ₁ : Gam} {A : AH} {pos p : Pos} {e a b c : Expr} {es : List Expr} {dv : DV} {ds : List DV} {D : AEnds} {ps : List Str} {lv : Nat} {x : Str} {sts : List Stmt}
theorem de_callA {r : PyData} {F : AH → List DV → Except Err PyData → Prop} (C : Callee g x ps lv (pSpA g.ea F)) (hl : lv ≤ I.k) (hg : GlS I.sc x) (ha : VA g I Γ A (e :: es) ds) (hn : ds.length = ps.length) (h : ∀ A1, ExtA A A1 → F A1 ds (.ok r)) (hs : nostar e = true := by rfl) (hss : es.all nostar = true := by rfl) (hd : (x == ("__debug__" : Str)) = false := by decide) : DE g I Γ A (.Call (.Name x p) (e :: es) [] pos) r :=
  ve_call C hl hg ha hn (fun A1 ex => ⟨_, h A1 ex, fun r' q => by cases q; exact ⟨rfl, rfl⟩, fun e q => by cases q⟩) hs hss hd
theorem we_callRA {o : Except Err PyData} {Q : DV → AH → Prop} {F : AH → List DV → Except Err PyData → Prop} (C : Callee g x ps lv (pSpA g.ea F)) (hl : lv ≤ I.k) (hg : GlS I.sc x) (ha : VA g I Γ A (e :: es) ds) (hn : ds.length = ps.length) (h : F A ds o) (hok : ∀ r, o = .ok r → Q (.d r) A) (her : ∀ e, o = .error e → R (g.ea e) A) (hs : nostar e = true := by rfl) (hss : es.all nostar = true := by rfl) (hd : (x == ("__debug__" : Str)) = false := by decide) : WE g I R Γ A (.Call (.Name x p) (e :: es) [] pos) Q :=
  we_call C hl hg ha hn ⟨o, h, hok, her⟩ hs hss hd
theorem WSs.impR {R' : Rz} (h : WSs g I R Γ A sts D) (k : ∀ C A', R C A' → R' C A') : WSs g I R' Γ A sts D := fun X cx S H σ tk he hf =>
  h X cx S H σ (Takes.imp tk fun cls d σ2 H2 ⟨C, S2, A2, e1, e2, s2, f2, q⟩ => ⟨C, S2, A2, e1, e2, s2, f2, k _ _ q⟩) he hf
/-! comparisons of lists that may be owned -/
theorem c_neX {xs : List PyData} {y : PyData} (q : IsL A dv xs) (hx : SeqAt.shaped (.list xs) = true) (hy : SeqAt.shaped y = true) : CmpD g I A .NotEq dv (.d y) (!PyData.eqv (.list xs) y) :=
  ⟨⟨_, fun X c => op_neD c.room.units, fun X c A1 ex S H v u f r1 r2 Q z => by
    obtain ⟨l, vs, rfl, h1, h2⟩ := q.sq ex f r1
    exact ⟨.list xs, y, (Rp.lst h1 (h2.mono f.same)).dp, (Rp.mono f.same r2).dp, hx, hy, z⟩⟩, nm_of (by decide) (by decide)⟩
theorem c_eqX {xs : List PyData} {y : PyData} (q : IsL A dv xs) (hx : SeqAt.shaped (.list xs) = true) (hy : SeqAt.shaped y = true) : CmpD g I A .Eq dv (.d y) (PyData.eqv (.list xs) y) :=
  ⟨⟨_, fun X c => op_eqD c.room.units, fun X c A1 ex S H v u f r1 r2 Q z => by
    obtain ⟨l, vs, rfl, h1, h2⟩ := q.sq ex f r1
    exact ⟨.list xs, y, (Rp.lst h1 (h2.mono f.same)).dp, (Rp.mono f.same r2).dp, hx, hy, z⟩⟩, nm_of (by decide) (by decide)⟩
theorem c_inX {k : Int} {ns : List Int} (q : IsL A dv (ns.map .int)) : CmpD g I A .In (.d (.int k)) dv (decide (k ∈ ns)) := ⟨⟨_, fun _ _ => op_in_seq, fun X c A1 ex S H v u f r1 r2 Q z => by
  obtain ⟨l, vs, rfl, h1, h2⟩ := q.sq ex f r2
  obtain rfl := h2.ints
  cases Rp.int_of r1
  exact ⟨l, _, rfl, .inl (.of h1), rfl, flat_ints ns, by simpa [inV_ints] using z⟩⟩, fun _ => .inr (.inl rfl)⟩
theorem c_ninX {k : Int} {ns : List Int} (q : IsL A dv (ns.map .int)) : CmpD g I A .NotIn (.d (.int k)) dv (!decide (k ∈ ns)) := ⟨⟨_, fun _ _ => op_notIn_seq, fun X c A1 ex S H v u f r1 r2 Q z => by
  obtain ⟨l, vs, rfl, h1, h2⟩ := q.sq ex f r2
  obtain rfl := h2.ints
  cases Rp.int_of r1
  exact ⟨l, _, rfl, .inl (.of h1), rfl, flat_ints ns, by simpa [inV_ints] using z⟩⟩, fun _ => .inr (.inr rfl)⟩
theorem dt_truthX {xs : List PyData} (h : VE g I Γ A e dv) (q : IsL A dv xs) (he : ∀ env whole, isTrue e env whole = (do let v ← whole; standAt e.pos; holding [v] (truthy v)) := by intro _ _; rfl) : DT g I Γ A e (!xs.isEmpty) := by
  intro X c A1 ex S H σ hv hf Q z
  refine (pt_truth PE.s (he X.env)).to (h X c A1 ex S H σ hv hf _ fun v S1 H1 s1 f1 r1 => ?_)
  obtain ⟨l, vs, rfl, h1, h2⟩ := q.sq ex f1 r1
  exact ⟨!xs.isEmpty, .inl ⟨vs, .of h1, by cases h2 <;> rfl⟩, z S1 H1 s1 f1⟩
end
/-! typed equality -/
def EqE {α : Type} [DecidableEq α] (f : α → PyData) : Prop := ∀ a b, PyData.eqv (f a) (f b) = decide (a = b)
theorem EqE.int : EqE PyData.int := fun a b => by show (a == b) = _; rw [Bool.eq_iff_iff, beq_iff_eq, decide_eq_true_eq]
theorem EqE.bool : EqE PyData.bool := fun a b => by show (a == b) = _; rw [Bool.eq_iff_iff, beq_iff_eq, decide_eq_true_eq]
theorem EqE.str : EqE PyData.str := fun a b => by show (a == b) = _; rw [Bool.eq_iff_iff, beq_iff_eq, decide_eq_true_eq]
theorem EqE.all {α : Type} [DecidableEq α] {f : α → PyData} (h : EqE f) : ∀ xs ys : List α, PyData.eqvAll (xs.map f) (ys.map f) = decide (xs = ys)
  | [], [] => rfl
  | [], y :: ys => rfl
  | x :: xs, [] => rfl
  | x :: xs, y :: ys => by
    show (PyData.eqv (f x) (f y) && PyData.eqvAll (xs.map f) (ys.map f)) = _
    rw [h, EqE.all h xs ys, Bool.eq_iff_iff]
    simp
theorem EqE.list {α : Type} [DecidableEq α] {f : α → PyData} (h : EqE f) : EqE fun xs : List α => PyData.list (xs.map f) := fun xs ys => h.all xs ys
theorem EqE.tuple {α : Type} [DecidableEq α] {f : α → PyData} (h : EqE f) : EqE fun xs : List α => PyData.tuple (xs.map f) := fun xs ys => h.all xs ys
theorem EqE.pair {α β : Type} [DecidableEq α] [DecidableEq β] {f : α → PyData} {g : β → PyData} (h : EqE f) (k : EqE g) : EqE fun x : α × β => PyData.tuple [f x.1, g x.2] := fun x y => by
  show (PyData.eqv (f x.1) (f y.1) && (PyData.eqv (g x.2) (g y.2) && true)) = _
  rw [h, k, Bool.eq_iff_iff]
  simp [Prod.ext_iff]
section
variable {g : Gv} {I : CI} {A : AH} {n : Nat}
theorem c_eqE {α : Type} [DecidableEq α] {f : α → PyData} (h : EqE f) (s : ∀ a, Sh n (f a)) (hn : n ≤ 64) (a b : α) : CmpD g I A .Eq (.d (f a)) (.d (f b)) (decide (a = b)) := by
  have q := c_eqD (g := g) (I := I) (A := A) ((s a).ok hn) ((s b).ok hn)
  rwa [h a b] at q
theorem c_neE {α : Type} [DecidableEq α] {f : α → PyData} (h : EqE f) (s : ∀ a, Sh n (f a)) (hn : n ≤ 64) (a b : α) : CmpD g I A .NotEq (.d (f a)) (.d (f b)) (!decide (a = b)) := by
  have q := c_neD (g := g) (I := I) (A := A) ((s a).ok hn) ((s b).ok hn)
  rwa [h a b] at q
theorem c_neLI {xs ys : List Int} : CmpD g I A .NotEq (.d (lI xs)) (.d (lI ys)) (!decide (xs = ys)) := c_neE (n := 2) EqE.int.list (fun _ => .list (.map fun _ => .int)) (by decide) xs ys
theorem c_eqLI {xs ys : List Int} : CmpD g I A .Eq (.d (lI xs)) (.d (lI ys)) (decide (xs = ys)) := c_eqE (n := 2) EqE.int.list (fun _ => .list (.map fun _ => .int)) (by decide) xs ys
theorem c_neXI {dv : DV} {xs ys : List Int} (q : IsL A dv (xs.map .int)) : CmpD g I A .NotEq dv (.d (lI ys)) (!decide (xs = ys)) := by
  have z := c_neX (g := g) (I := I) q ((Sh.list (n := 1) (.map fun _ => .int)).ok (by decide)) ((Sh.list (n := 1) (ShAll.map (f := PyData.int) (xs := ys) fun _ => .int)).ok (by decide))
  rwa [show PyData.eqv (.list (xs.map .int)) (lI ys) = decide (xs = ys) from EqE.int.list xs ys] at z
end
/-! loops whose turns may leave: what is known comes behind the turn -/
section
variable {g : Gv} {I : CI} {R : Rz} {Γ : Gam} {A : AH} {pos : Pos} {a : Expr} {D : AEnds} {sts sts2 : List Stmt} {T α : Type} {f : α → PyData} {zs : List α}
theorem s_forLJ {tg : Expr} {dv : DV} (G : T → Gam) (AA : T → AH) (step : T → α → T) (J : Nat → T → Prop) (s0 : T) (ha : VE g I Γ A a dv) (q : dv = .d (.list (zs.map f)) ∨ dv = .d (.tuple (zs.map f))) (h0 : LessG (G s0) Γ) (hA : A = AA s0) (J0 : J 0 s0)
    (hb : ∀ (i : Nat) z s, zs[i]? = some z → J i s → s = (zs.take i).foldl step s0 → ∃ Γ2, TgD g I tg (G s) (f z) Γ2 ∧ WSs g I R Γ2 (AA s) sts { D with nx := fun Γ3 A3 => J (i + 1) (step s z) ∧ LessG (G (step s z)) Γ3 ∧ A3 = AA (step s z), ct := fun Γ3 A3 => J (i + 1) (step s z) ∧ LessG (G (step s z)) Γ3 ∧ A3 = AA (step s z), bk := fun Γ' A' => WSs g I R Γ' A' sts2 D })
    (k : J zs.length (zs.foldl step s0) → WSs g I R (G (zs.foldl step s0)) (AA (zs.foldl step s0)) sts2 D) (hf : ∀ env x, foldedSetIterable a env x = pure x := by intro _ _; rfl) : WSs g I R Γ A (.For tg a sts [] pos :: sts2) D := by
  refine wss_cons (ws_for (xs := zs.map f) (fun i Γ1 A1 => LessG (G ((zs.take i).foldl step s0)) Γ1 ∧ A1 = AA ((zs.take i).foldl step s0) ∧ J i ((zs.take i).foldl step s0)) ha q ⟨h0, hA, J0⟩ (fun i d Γ1 A1 hi ⟨q1, q2, q3⟩ => ?_) (fun Γ1 A1 h => ?_) hf)
  · rw [List.getElem?_map] at hi
    cases hz : zs[i]? with
    | none => rw [hz] at hi; cases hi
    | some z =>
      rw [hz] at hi
      cases hi
      obtain ⟨Γ2, ht, hw⟩ := hb i z _ hz q3 rfl
      have e : (zs.take (i + 1)).foldl step s0 = step ((zs.take i).foldl step s0) z := by rw [List.take_add_one, hz, List.foldl_append]; rfl
      refine ⟨Γ2, ht.less q1, ?_⟩
      rw [q2]
      refine hw.imp (fun Γ3 A3 h => ?_) (fun _ _ h => h) (fun _ _ h => h) (fun Γ3 A3 h => ?_)
      · rw [e]; exact ⟨h.2.1, h.2.2, h.1⟩
      · rw [e]; exact ⟨h.2.1, h.2.2, h.1⟩
  · rw [List.length_map, List.take_length] at h
    obtain ⟨q1, q2, q3⟩ := h
    rw [q2]
    exact s_less q1 (k q3)
theorem s_forRJ {tg : Expr} {j : Int} {p1 p2 : Pos} (G : T → Gam) (AA : T → AH) (step : T → Int → T) (J : Nat → T → Prop) (s0 : T) (hg : GlS I.sc "range") (hm : g.mg "range" = none) (ha : DE g I Γ A a (.int j)) (hj : j < 2 ^ 62) (hj0 : -(2 ^ 62) ≤ j) (h0 : LessG (G s0) Γ) (hA : A = AA s0) (J0 : J 0 s0)
    (hb : ∀ (i : Nat) s, i < j.toNat → J i s → s = (rng 0 i).foldl step s0 → ∃ Γ2, TgD g I tg (G s) (.int i) Γ2 ∧ WSs g I R Γ2 (AA s) sts { D with nx := fun Γ3 A3 => J (i + 1) (step s i) ∧ LessG (G (step s i)) Γ3 ∧ A3 = AA (step s i), ct := fun Γ3 A3 => J (i + 1) (step s i) ∧ LessG (G (step s i)) Γ3 ∧ A3 = AA (step s i), bk := fun Γ' A' => WSs g I R Γ' A' sts2 D })
    (k : J j.toNat ((rng 0 j.toNat).foldl step s0) → WSs g I R (G ((rng 0 j.toNat).foldl step s0)) (AA ((rng 0 j.toNat).foldl step s0)) sts2 D) (hn : nostar a = true := by rfl) (hf : ∀ env x, foldedSetIterable (.Call (.Name "range" p1) [a] [] p2) env x = pure x := by intro _ _; rfl) : WSs g I R Γ A (.For tg (.Call (.Name "range" p1) [a] [] p2) sts [] pos :: sts2) D := by
  refine wss_cons (ws_for_range1 (dg := fun _ => .none) (fun i Γ1 A1 => LessG (G ((rng 0 i).foldl step s0)) Γ1 ∧ A1 = AA ((rng 0 i).foldl step s0) ∧ J i ((rng 0 i).foldl step s0)) hg hm ha hj hj0 ⟨h0, hA, J0⟩ (fun i Γ1 A1 hi ⟨q1, q2, q3⟩ => ?_) (fun Γ1 A1 ⟨q1, q2, q3⟩ => ?_) hn hf)
  · obtain ⟨Γ2, ht, hw⟩ := hb i _ hi q3 rfl
    have e : (rng 0 (i + 1)).foldl step s0 = step ((rng 0 i).foldl step s0) i := by rw [rng_succ, List.foldl_append, Int.zero_add]; rfl
    refine ⟨Γ2, ht.less q1, ?_⟩
    rw [q2]
    refine hw.imp (fun Γ3 A3 h => ?_) (fun _ _ h => h) (fun _ _ h => h) (fun Γ3 A3 h => ?_)
    · rw [e]; exact ⟨h.2.1, h.2.2, h.1⟩
    · rw [e]; exact ⟨h.2.1, h.2.2, h.1⟩
  · rw [q2]
    exact s_less q1 (k q3)
end
/-! ### an error is kept, told by its name -/
def sp_ref (nm : Err → Option Str) (ea : Err → Addr) : ASp := pSp ea fun ds o => (ds = [.d .none] ∧ o = .ok (.str "ok")) ∨ ∃ (e : Err) (s : Str), ds = [.x (ea e)] ∧ nm e = some s ∧ o = .ok (.str s)
section
variable {g : Gv} {I : CI} {R : Rz} {Γ Γ' Γ₀ Γ₁ : Gam} {A : AH} {pos p q1 q2 q3 q4 q5 q6 q7 q8 np pk pn2 ps2 pos' tpos r1 r2 r3 : Pos} {D : AEnds} {lv cn : Nat} {kn n xn fn x fn' : Str} {body sts : List Stmt} {CL : Addr}
/-- try: body; except X as e: kept = e; return found if kept is None else refusal(kept) -/
theorem s_keep {nm : Err → Option Str} (i j k : Nat) (ht : I.top = true) (hk : I.N[k]? = some n) (hln : I.sc.names.lookup n = some .local) (hi : I.N[i]? = some kn) (hlk : I.sc.names.lookup kn = some .local) (hik : i ≠ k) (hg : GlS I.sc xn) (hm : g.mg xn = some (.ref CL)) (hvk : I.vis[k]? = some true) (hvi : I.vis[i]? = some true) (hj : I.N[j]? = some fn) (hvj : I.vis[j]? = some true) (hdbg : (xn == ("__debug__" : Str)) = false) (hΓ : Γ.length = I.N.length)
    (hx : ∀ e s, nm e = some s → W.exmOne g.K (.ref (g.ea e)) (.ref CL) = some true) (C : Callee g x [fn'] lv (sp_ref nm g.ea)) (hlv : lv ≤ I.k) (hgx : GlS I.sc x) (hdx : (x == ("__debug__" : Str)) = false)
    (h : WSs g I (fun C A' => ∃ e s, C = g.ea e ∧ nm e = some s ∧ D.rt (.d (.str s)) A') Γ A body { D with nx := fun Γ' A' => Γ'[i]? = some (some (.d .none)) ∧ ∃ d, Γ'[j]? = some (some d) ∧ D.rt d A' }) :
    WSs g I R Γ A (.Try body [.ExceptHandler (some (.Name xn np)) (some n) [.Assign [.Name kn pk] (.Name n pn2) ps2] pos'] [] [] tpos :: .Return (some (.IfExp (.Compare (.Name kn q1) [.Is] [.Constant .none cn q2] q3) (.Name fn q4) (.Call (.Name x q5) [.Name kn q6] [] q7) q8)) pos :: sts) D := by
  have hil : i < I.N.length := (List.getElem?_eq_some_iff.mp hi).1
  obtain ⟨P, eP⟩ : ∃ P : Gam → AH → Prop, P = fun Γ' A' => (Γ'[i]? = some (some (.d .none)) ∧ ∃ d, Γ'[j]? = some (some d) ∧ D.rt d A') ∨ ∃ e s, Γ'[i]? = some (some (.x (g.ea e))) ∧ nm e = some s ∧ D.rt (.d (.str s)) A' := ⟨_, rfl⟩
  refine wss_cut P (ws_try_keep i k ht hk hln hi hlk hik hg hm hvk hdbg hΓ ?_) fun Γ' A' hP => ?_
  · refine WSs.impR (h.imp (fun Γ' A' q => ?_) (fun _ _ q => q) (fun _ _ q => q) (fun _ _ q => q)) fun C A' q => ?_
    · show P Γ' A'
      rw [eP]
      exact .inl q
    · obtain ⟨e, s, e1, e2, e3⟩ := q
      refine ⟨by rw [e1]; exact hx e s e2, ?_⟩
      show P _ A'
      rw [eP]
      exact .inr ⟨e, s, by rw [e1, List.getElem?_set_self (by rw [List.length_replicate]; exact hil)], e2, e3⟩
  rw [eP] at hP
  rcases hP with ⟨h1, d, h2, h3⟩ | ⟨e, s, h1, h2, h3⟩
  · exact s_retW (we_if (c_is.dt (ve_var i hi hvi h1) de_none (by rfl)) (fun _ => (ve_var j hj hvj h2).we h3) fun hc => by cases hc)
  · exact s_retW (we_if (c_is.dt (ve_var i hi hvi h1) de_none (by rfl)) (fun hc => by cases hc) fun _ => (de_call C hlv hgx (va_cons (ve_var i hi hvi h1) va_nil) rfl (.inr ⟨e, s, rfl, h2, rfl⟩) rfl rfl hdx).we h3)
end
end LB

/-! Layer 17: rows made by a comprehension that stay owned. -/
namespace LB
open PySem PySem.Spec PyProof.Rows L2
section
variable {g : Gv} {I : CI} {R : Rz} {Γ Γ' Γ₀ : Gam} {A : AH} {pos p : Pos} {e a b c iter elt tg : Expr} {D : AEnds} {sts : List Stmt} {α β : Type} {zs : List α} {f : α → PyData} {h : α → β} {pr : α → Bool} {Γz : α → Gam} {scope : Scope}
theorem w_lc {Q : DV → AH → Prop} (fe : β → PyData) (own : List (Str × Nat)) (vis : List Bool) (ok : BlkOk I.N I.sc scope own) (okI : (I.blk scope vis).Ok) (hi : ItD g I Γ A iter (zs.map f)) (hw : wipeG Γ (own.map (·.2)) = Γ₀)
    (ht : ∀ z ∈ zs, TgB g (I.blk scope vis) (own.map (·.2)) tg Γ₀ (f z) (Γz z)) (he : ∀ z ∈ zs, DE g (I.blk scope vis) (Γz z) A elt (fe (h z))) (hz : zs.length ≤ 16777216) (k : ∀ l, A l = none → Q (.r l) (updA A l (oL ((zs.map h).map fe))))
    (hs : ∀ env x, foldedSetIterable iter env x = pure x := by intro _ _; rfl) : WE g I R Γ A (.ListComp elt [⟨tg, iter, [], 0⟩] scope pos) Q :=
  we_lc (pr := fun _ => true) (h := fun z => fe (h z)) own vis ok okI hi (by rw [hw]; exact ht) (fun _ _ => dts_nil) (fun z hz _ => he z hz) (by rw [sizeLine_eq]; exact hz) (fun l hl => by
    have := k l hl
    rw [List.map_map] at this
    rw [List.filter_eq_self.mpr fun _ _ => rfl]
    exact this) hs
theorem w_lcI {Q : DV → AH → Prop} (fe : β → PyData) (own : List (Str × Nat)) (vis : List Bool) (ok : BlkOk I.N I.sc scope own) (okI : (I.blk scope vis).Ok) (hi : ItD g I Γ A iter (zs.map f)) (hw : wipeG Γ (own.map (·.2)) = Γ₀)
    (ht : ∀ z ∈ zs, TgB g (I.blk scope vis) (own.map (·.2)) tg Γ₀ (f z) (Γz z)) (hp : ∀ z ∈ zs, DT g (I.blk scope vis) (Γz z) A c (pr z)) (he : ∀ z ∈ zs, pr z = true → DE g (I.blk scope vis) (Γz z) A elt (fe (h z))) (hz : zs.length ≤ 16777216) (k : ∀ l, A l = none → Q (.r l) (updA A l (oL (((zs.filter pr).map h).map fe))))
    (hs : ∀ env x, foldedSetIterable iter env x = pure x := by intro _ _; rfl) : WE g I R Γ A (.ListComp elt [⟨tg, iter, [c], 0⟩] scope pos) Q :=
  we_lc (pr := pr) (h := fun z => fe (h z)) own vis ok okI hi (by rw [hw]; exact ht) (fun z hz => dts_one (hp z hz)) he (by rw [sizeLine_eq]; exact hz) (fun l hl => by
    have := k l hl
    rw [List.map_map] at this
    exact this) hs
/-- while: each turn tells the next state, or leaves -/
theorem s_whileJ {T : Type} {sts2 : List Stmt} (G : T → Gam) (AA : T → AH) (tst : T → Bool) (J : T → Prop) (μ : T → Nat) (s0 : T) (h0 : LessG (G s0) Γ) (hA : A = AA s0) (J0 : J s0)
    (ht : ∀ s, J s → DT g I (G s) (AA s) c (tst s))
    (hb : ∀ s, J s → tst s = true → WSs g I R (G s) (AA s) sts { D with nx := fun Γ3 A3 => ∃ s', J s' ∧ μ s' < μ s ∧ LessG (G s') Γ3 ∧ A3 = AA s', ct := fun Γ3 A3 => ∃ s', J s' ∧ μ s' < μ s ∧ LessG (G s') Γ3 ∧ A3 = AA s', bk := fun Γ' A' => WSs g I R Γ' A' sts2 D })
    (k : ∀ s, J s → tst s = false → WSs g I R (G s) (AA s) sts2 D) : WSs g I R Γ A (.While c sts [] pos :: sts2) D := by
  refine wss_cons (ws_while (fun m Γ1 A1 => ∃ s, m = μ s ∧ LessG (G s) Γ1 ∧ A1 = AA s ∧ J s) ⟨_, s0, rfl, h0, hA, J0⟩ fun m Γ1 A1 ⟨s, q0, q1, q2, q3⟩ => ?_)
  subst q0 q2
  intro X cx S H σ tk he hf Qv z
  refine ht s q3 X cx (AA s) (ExtA.refl _) S H σ (he.less q1.len q1.get) hf _ fun S' H' s' f' => z _ S' (AA s) H' s' f' ⟨fun e => ?_, fun e => ?_⟩
  · refine s_less q1 ((hb s q3 e).imp (fun Γ3 A3 h => ?_) (fun _ _ h => h) (fun _ _ h => h) (fun Γ3 A3 h => ?_))
    · obtain ⟨s', j, m1, l1, a1⟩ := h
      exact ⟨_, m1, s', rfl, l1, a1, j⟩
    · obtain ⟨s', j, m1, l1, a1⟩ := h
      exact ⟨_, m1, s', rfl, l1, a1, j⟩
  · exact s_less q1 (k s q3 e)
/-- name = [..], a cell, the row owned -/
theorem s_setCO {x : Str} {p' : Pos} (i : Nat) {spos : Pos} (hN : I.N[i]? = some x) (hx : I.sc.names.lookup x = some .cell) (ht0 : I.cl x = true) (fe : β → PyData) (own : List (Str × Nat)) (vis : List Bool) (ok : BlkOk I.N I.sc scope own) (okI : (I.blk scope vis).Ok) (hi : ItD g I Γ A iter (zs.map f)) (hw : wipeG Γ (own.map (·.2)) = Γ₀)
    (ht : ∀ z ∈ zs, TgB g (I.blk scope vis) (own.map (·.2)) tg Γ₀ (f z) (Γz z)) (he : ∀ z ∈ zs, DE g (I.blk scope vis) (Γz z) A elt (fe (h z))) (hz : zs.length ≤ 16777216) (k : ∀ l, A l = none → WSs g I R (Γ.set i (some (.r l))) (updA A l (oL ((zs.map h).map fe))) sts D)
    (hs : ∀ env x, foldedSetIterable iter env x = pure x := by intro _ _; rfl) : WSs g I R Γ A (.Assign [.Name x p'] (.ListComp elt [⟨tg, iter, [], 0⟩] scope pos) spos :: sts) D :=
  wss_cons (ws_setC i hN hx ht0 (w_lc fe own vis ok okI hi hw ht he hz k hs))
/-- .. no cell -/
theorem s_setLcO {x : Str} {p' : Pos} (i : Nat) (hN : I.N[i]? = some x) (hx : I.sc.names.lookup x = some .local) (ha : (scope.names.any fun (n, k) => n == x && (k == .local || k == .cell)) = false) (hl : (p'.line == pos.line) = true) (hk : I.sc.kind = .function) {spos : Pos} (fe : β → PyData) (own : List (Str × Nat)) (vis : List Bool) (ok : BlkOk I.N I.sc scope own) (okI : (I.blk scope vis).Ok) (hi : ItD g I Γ A iter (zs.map f)) (hw : wipeG Γ (own.map (·.2)) = Γ₀)
    (ht : ∀ z ∈ zs, TgB g (I.blk scope vis) (own.map (·.2)) tg Γ₀ (f z) (Γz z)) (he : ∀ z ∈ zs, DE g (I.blk scope vis) (Γz z) A elt (fe (h z))) (hz : zs.length ≤ 16777216) (k : ∀ l, A l = none → WSs g I R (Γ.set i (some (.r l))) (updA A l (oL ((zs.map h).map fe))) sts D)
    (hs : ∀ env x, foldedSetIterable iter env x = pure x := by intro _ _; rfl) : WSs g I R Γ A (.Assign [.Name x p'] (.ListComp elt [⟨tg, iter, [], 0⟩] scope pos) spos :: sts) D :=
  wss_cons (ws_setLcO (pr := fun _ => true) (h := fun z => fe (h z)) i hN hx ha hl hk own vis ok okI hi (by rw [hw]; exact ht) (fun _ _ => dts_nil) (fun z hz _ => he z hz) (by rw [sizeLine_eq]; exact hz) (fun l hl => by
    have := k l hl
    rw [List.map_map] at this
    rw [List.filter_eq_self.mpr fun _ _ => rfl]
    exact this) hs)
theorem s_extD {l : Addr} {o : Expr} {apos p2 : Pos} {xs ys : List PyData} (ho : VE g I Γ A o (.r l)) (hA : A l = some (oL xs)) (ha : DE g I Γ A e (.list ys)) (hz : xs.length + ys.length ≤ 16777216) (k : WSs g I R Γ (updA A l (oL (xs ++ ys))) sts D) (hs : nostar e = true := by rfl) (hb : ∀ env, attributeBase o "extend" env (eval o env) = eval o env := by intro _; rfl) (hln : (apos.endLine == pos.line) = true := by rfl)
    (hfew : ∀ env, ((backTo pos (starEach [e] env)).all (fun x => !x.1) && (backToKw pos (keywordEach [] env)).all (fun x => x.1.isSome) && decide ([e].length + ([] : List Keyword).length + (if ([] : List Keyword).isEmpty then 0 else 1) < 30)) = true := by intro _; rfl) (hw : ∀ env, swapsWith (.Call (.Attribute o "extend" apos) [e] [] pos) none p2.line env = pure false := by intro _; rfl) :
    WSs g I R Γ A (.Expr (.Call (.Attribute o "extend" apos) [e] [] pos) p2 :: sts) D :=
  s_expr (we_extend ho hA ha (by rw [List.length_map, sizeLine_eq]; exact hz) (by rw [show (xs.map DV.d ++ ys.map .d) = (xs ++ ys).map .d from by rw [List.map_append]]; exact k) hs hb hln hfew) hw
end
theorem ci_lv {N : List Str} {st : Stmt} {vis : List Bool} {k : Nat} (h : (ciOf N st vis 0).Ok) : (ciOf N st vis k).Ok := ⟨h.1, h.2⟩
theorem ci_lv2 {N : List Str} {st : Stmt} {vis vis2 : List Bool} {k : Nat} {sc : Scope} (h : ((ciOf N st vis 0).blk sc vis2).Ok) : ((ciOf N st vis k).blk sc vis2).Ok := ⟨h.1, h.2⟩
theorem blk_lv {N : List Str} {st : Stmt} {vis : List Bool} {k : Nat} {sc : Scope} {own : List (Str × Nat)} (h : BlkOk (ciOf N st vis 0).N (ciOf N st vis 0).sc sc own) : BlkOk (ciOf N st vis k).N (ciOf N st vis k).sc sc own := h
theorem kit_listL (xs : List PyData) : kitB (tyD (.list xs)) "list" = some true := by
  have h : kitB "list" "list" = some true := by decide +kernel
  exact h
end LB

/-! Layer 18: written data at once; owned tuples; arguments with effects. -/
namespace LB
open PySem PySem.Spec PyProof.Rows L2
/-- what a written thing is -/
def litD : Nat → Expr → Option PyData
  | 0, _ => none
  | n + 1, e => match e with
    | .Constant (.int i) _ _ => some (.int i)
    | .Constant (.bool i) _ _ => some (.bool i)
    | .Constant .none _ _ => some .none
    | .Constant (.str x) _ _ => some (.str x)
    | .UnaryOp .USub a _ => match litD n a with
      | some (.int i) => some (.int (-i))
      | _ => none
    | .List es _ => if es.length ≤ 1000 then (es.mapM (litD n)).map .list else none
    | .Tuple es _ _ => if es.length ≤ 1000 then (es.mapM (litD n)).map .tuple else none
    | _ => none
theorem litD_star {n : Nat} {e : Expr} {d : PyData} (h : litD n e = some d) : nostar e = true := by
  cases n with
  | zero => cases h
  | succ n => cases e <;> first | rfl | (simp [litD] at h)
section
variable {g : Gv} {I : CI} {R : Rz} {Γ : Gam} {A : AH} {pos p : Pos} {e a b : Expr} {D : AEnds}
theorem da_lit {n : Nat} (ih : ∀ (e : Expr) (d : PyData), litD n e = some d → DE g I Γ A e d) : ∀ (es : List Expr) (ds : List PyData), es.mapM (litD n) = some ds → DA g I Γ A es ds
  | [], ds, h => by
    simp at h; subst h; exact da_nil
  | e :: es, ds, h => by
    rw [List.mapM_cons] at h
    cases h1 : litD n e with
    | none => rw [h1] at h; cases h
    | some d =>
      rw [h1] at h
      cases h2 : es.mapM (litD n) with
      | none => rw [h2] at h; cases h
      | some r =>
        rw [h2] at h
        cases h
        exact da_cons (ih e d h1) (da_lit ih es r h2) (litD_star h1)
theorem mapM_len {α β : Type} {f : α → Option β} : ∀ {xs : List α} {ys : List β}, xs.mapM f = some ys → ys.length = xs.length
  | [], ys, h => by simp at h; subst h; rfl
  | x :: xs, ys, h => by
    rw [List.mapM_cons] at h
    cases h1 : f x with
    | none => rw [h1] at h; cases h
    | some d =>
      rw [h1] at h
      cases h2 : xs.mapM f with
      | none => rw [h2] at h; cases h
      | some r =>
        rw [h2] at h
        cases h
        rw [List.length_cons, List.length_cons, mapM_len h2]
theorem de_lit : ∀ (n : Nat) (e : Expr) (d : PyData), litD n e = some d → DE g I Γ A e d
  | 0, _, _, h => by cases h
  | n + 1, e, d, h => by
    unfold litD at h
    split at h
    · cases h; exact de_int
    · cases h; exact de_bool
    · cases h; exact de_none
    · cases h; exact de_str
    · rename_i a p
      split at h
      · rename_i i hi
        cases h
        exact de_neg (de_lit n a _ hi)
      · cases h
    · rename_i es p
      split at h
      · rename_i hl
        cases h2 : es.mapM (litD n) with
        | none => rw [h2] at h; cases h
        | some r =>
          rw [h2] at h
          cases h
          exact d_lst (da_lit (de_lit n) es r h2) (by rw [mapM_len h2]; exact hl)
      · cases h
    · rename_i es k p
      split at h
      · rename_i hl
        cases h2 : es.mapM (litD n) with
        | none => rw [h2] at h; cases h
        | some r =>
          rw [h2] at h
          cases h
          exact d_tup (da_lit (de_lit n) es r h2) (by rw [mapM_len h2]; exact hl)
      · cases h
    · cases h
/-! ### owned tuples -/
def aoT (xs : List DV) : AO where
  P := fun S a c => ∃ vs, c a = some (.tup vs) ∧ RepVs S vs xs
  root := fun ⟨_, h, _⟩ => by rw [h]; intro z; cases z
  mono := fun e1 e2 ⟨vs, h, r⟩ => ⟨vs, e2 _ _ h, r.mono e1⟩
theorem Fit.tupo {S : Hp} {A : AH} {H : Hp} (f : Fit S A H) {a : Addr} {xs : List DV} (ha : A a = some (aoT xs)) : ∃ vs, H a = some (.tup vs) ∧ RepVs S vs xs := by
  obtain ⟨ow, h1, h2⟩ := f.own
  obtain ⟨vs, hc, r⟩ := h2 a _ ha
  exact ⟨vs, (chunk_some hc).2, r⟩
theorem Fit.tupNew {S : Hp} {A : AH} {H : Hp} (f : Fit S A H) {p : Addr} {ys : List DV} {ws : List V} (hp : H p = none) (r : RepVs S ws ys) : Fit S (updA A p (aoT ys)) (upd H p (.tup ws)) :=
  f.laidA hp fun _ h => ⟨ws, h, r⟩
/-- arguments whose making changes what is owned -/
def WA (g : Gv) (I : CI) (R : Rz) (Γ : Gam) (A : AH) (es : List Expr) (Q : List DV → AH → Prop) : Prop :=
  ∀ X, Cok g I X → ∀ S H σ, TakesR X S R → EnvOk S Γ σ → Fit S A H → ∀ Qv : List V → Hp → Prop, (∀ vs dvs S' A' H', Same S S' → Fit S' A' H' → RepVs S' vs dvs → Q dvs A' → Qv vs H') → sA X es σ H Qv
theorem wa_nil {Q : List DV → AH → Prop} (h : Q [] A) : WA g I R Γ A [] Q := fun X c S H σ tk hv hf Qv k => pa_nil.to (k _ [] S A H (Same.refl S) hf .nil h)
theorem wa_cons {es : List Expr} {Q : List DV → AH → Prop} (h : WE g I R Γ A e fun d A1 => WA g I R Γ A1 es fun ds A2 => Q (d :: ds) A2) (hn : nostar e = true := by rfl) : WA g I R Γ A (e :: es) Q := fun X c S H σ tk hv hf Qv k =>
  (pa_cons PE.s PA.s (star_cons hn es X.env)).to (h X c S H σ tk hv hf _ fun v d S1 A1 H1 s1 f1 r1 k2 => k2 X c S1 H1 σ (tk.mono s1) (hv.mono s1) f1 _ fun vs ds S2 A2 H2 s2 f2 r2 q => k _ (d :: ds) S2 A2 H2 (s1.trans s2) f2 (.cons (r1.mono s2) r2) q)
theorem VA.wa {es : List Expr} {ds : List DV} {Q : List DV → AH → Prop} (h : VA g I Γ A es ds) (q : Q ds A) : WA g I R Γ A es Q := fun X c S H σ tk hv hf Qv k =>
  h X c A (ExtA.refl A) S H σ hv hf _ fun vs S' H' s f r => k vs ds S' A H' s f r q
theorem we_tupO {es : List Expr} {k : Nat} {Q : DV → AH → Prop} (h : WA g I R Γ A es fun ds A' => ds.length ≤ 1000 ∧ ∀ t, A' t = none → Q (.r t) (updA A' t (aoT ds))) : WE g I R Γ A (.Tuple es k pos) Q := by
  intro X c S H σ tk he hf Qv z
  refine (pe_tup PA.s).to (h X c S H σ tk he hf _ fun vs ds S1 A1 H1 s1 f1 r1 ⟨hz, q⟩ => ⟨by rw [r1.length, sizeLine_eq]; omega, fun t ht => ?_⟩)
  exact z _ (.r t) S1 _ _ s1 (f1.tupNew ht r1) rfl (q t (f1.noneA ht))
theorem ve_ixOT {d : DV} {l : Addr} {ys : List DV} {i : Int} (ha : VE g I Γ A a (.r l)) (hl : A l = some (aoT ys)) (hb : DE g I Γ A b (.int i)) (hi : atI ys i = some d) (hs : PlainIx b := by intro _ _; rfl) : VE g I Γ A (.Subscript a b pos) d := by
  intro X c A1 ex S H σ he hf Q k
  refine (pe_ix ix_tup PE.s PE.s hs).to (ha X c A1 ex S H σ he hf _ fun v S1 H1 s1 f1 r1 => hb X c A1 ex S1 H1 σ (he.mono s1) f1 _ fun u S2 H2 s2 f2 r2 => ?_)
  obtain ⟨ws, h1, h2⟩ := f2.tupo (ex _ _ hl)
  obtain ⟨n, e1, e2⟩ : ∃ n, ixN ys.length i = some n ∧ ys[n]? = some d := by
    unfold atI at hi
    cases q : ixN ys.length i with
    | none => rw [q] at hi; cases hi
    | some n => rw [q] at hi; exact ⟨n, rfl, hi⟩
  obtain ⟨w, e3, r3⟩ := h2.get e2
  exact ⟨l, ws, i, w, r1, Rp.int_of r2, .of h1, by unfold atI; rw [h2.length, e1]; exact e3, k _ S2 H2 (s1.trans s2) f2 r3⟩
/-- a pair (row, thing), its row owned, is frozen -/
theorem s_frzP {sts : List Stmt} {Γ' : Gam} (i : Nat) {lt ll : Addr} {xs : List PyData} {d : PyData} (hG : Γ[i]? = some (some (.r lt))) (ht : A lt = some (aoT [.r ll, .d d])) (hl : A ll = some (oL xs)) (hne : ll ≠ lt) (hS : SetG Γ i (some (.d (.tuple [.list xs, d]))) Γ') (k : WSs g I R Γ' (delA (delA A ll) lt) sts D) : WSs g I R Γ A sts D :=
  wss_ghost fun S H σ he hf => by
    obtain ⟨S1, f1, s1, r1⟩ := hf.freezeL hl
    obtain ⟨S2, c, f2, s2, s3, vs, hc, rv⟩ := f1.freeze (a := lt) (ao := aoT [.r ll, .d d]) (by rw [delA_ne hne.symm]; exact ht)
    obtain ⟨v, e1, e2⟩ := he.2 i _ hG
    have ev : v = .ref lt := e2
    subst ev
    have rp : Rp S2 (.ref lt) (.tuple [.list xs, d]) := by
      refine .tup (s3 _ _ hc) ?_
      cases rv with
      | cons h t =>
        have h' : _ = V.ref ll := h
        subst h'
        cases t with
        | cons h2 t2 =>
          cases t2
          exact .cons (Rp.mono s2 r1) (.cons (Rp.mono s2 h2) .nil)
    refine ⟨S2, Γ.set i (some (.d (.tuple [.list xs, d]))), _, s1.trans s2, ?_, f2, by rw [hS.eq]; exact k⟩
    have := (he.mono (s1.trans s2)).set (i := i) (v := .ref lt) (dv := .d (.tuple [.list xs, d])) rp
    rwa [show σ.set i (some (.ref lt)) = σ from by
      refine List.ext_getElem? fun j => ?_
      by_cases q : j = i
      · subst q
        have hl : j < σ.length := (List.getElem?_eq_some_iff.mp e1).1
        rw [List.getElem?_set_self hl, e1]
      · rw [List.getElem?_set_ne (Ne.symm q)]] at this
end
end LB

/-! Layer 19: instances: what is within them opened and shut; calls of methods as worth; effects in tests. -/
namespace LB
open PySem PySem.Spec PyProof.Rows L2
def cAt (g : Gv) (x : Str) : Addr := match g.mg x with
  | some (.ref a) => a
  | _ => 0
theorem cAt_eq {g : Gv} {x : Str} {C : Addr} (h : g.mg x = some (.ref C)) : cAt g x = C := by unfold cAt; rw [h]
/-- what is owned, seen in another way -/
def View (A A' : AH) : Prop := ∀ S H, Fit S A H → Fit S A' H
theorem View.refl (A : AH) : View A A := fun _ _ f => f
theorem View.trans {A B C : AH} (h : View A B) (k : View B C) : View A C := fun S H f => k S H (h S H f)
theorem View.ext {A A' : AH} (h : ExtA A A') : View A' A := fun _ _ f => f.fewer h
theorem View.of {A A' : AH} (h : A = A') : View A A' := h ▸ View.refl A
theorem View.fold {A : AH} {a C l : Addr} {fs : List (Str × FV)} {n : Str} {x : AO} (ha : A a = some (aoI C fs)) (hl : A l = some x) (hla : l ≠ a) (hn : fs.lookup n = some (.v (.r l))) : View A (updA (delA A l) a (aoI C (put n (.o x) fs))) := fun _ _ f => f.fold ha hl hla hn
def RV (R : Rz) : Rz := fun C A' => ∃ A, View A' A ∧ R C A
def QV (Q : DV → AH → Prop) : DV → AH → Prop := fun d A' => ∃ A, View A' A ∧ Q d A
def rSem (X : Cx) (f : Value → Value → Sem Value) : R2 := fun x y H Q => ∀ pins s σ v u, L2.Inv X pins σ H s → L2.RelV x v → L2.RelV y u → wpAny (model X.prog X.w) X.A (f v u) (EP X pins σ Q) X.xe s
theorem rSem_ok {X : Cx} {f : Value → Value → Sem Value} : OpR X f (rSem X f) := fun pins s σ H x y v u Q I rx ry h => h pins s σ v u I rx ry
section
variable {g : Gv} {I : CI} {R : Rz} {Γ : Gam} {A A' : AH} {pos p apos : Pos} {e o a b c : Expr} {es : List Expr} {ds : List DV} {D : AEnds} {Q : DV → AH → Prop} {asp : ASp} {ps : List Str} {lv : Nat} {x m : Str} {C l : Addr} {fs : List (Str × FV)} {sts : List Stmt} {xs ys : List PyData}
theorem s_view {nx : Gam → AH → Prop} {Q : DV → AH → Prop} {bk ct : Gam → AH → Prop} (h : WSs g I (RV R) Γ A sts ⟨fun Γ' A' => ∃ A, View A' A ∧ nx Γ' A, QV Q, bk, ct⟩) : WSs g I R Γ A sts ⟨nx, Q, bk, ct⟩ := fun X cx S H σ tk he hf =>
  (h X cx S H σ (Takes.imp tk fun cls d σ2 H2 ⟨C, S2, A2, e1, e2, s2, f2, A3, x, q⟩ => ⟨C, S2, A3, e1, e2, s2, x _ _ f2, q⟩) he hf).imp (fun _ _ ⟨S', Γ', A', s, x, f, A3, y, q⟩ => ⟨S', Γ', A3, s, x, y _ _ f, q⟩) (fun _ _ ⟨S', dv, A', s, f, r, A3, y, q⟩ => ⟨S', dv, A3, s, y _ _ f, r, q⟩) (fun _ _ q => q) (fun _ _ q => q)
theorem s_viewA (h : View A A') (k : WSs g I R Γ A' sts D) : WSs g I R Γ A sts D := wss_ghost fun S H σ he hf => ⟨S, Γ, A', Same.refl S, he, h _ _ hf, k⟩
theorem s_open {n : Str} {x : AO} (ha : A l = some (aoI C fs)) (hn : fs.lookup n = some (.o x)) (k : ∀ lt, A lt = none → lt ≠ l → WSs g I R Γ (updA (updA A l (aoI C (put n (.v (.r lt)) fs))) lt x) sts D) : WSs g I R Γ A sts D := wss_ghost fun S H σ he hf => by
  obtain ⟨lt, h1, h2, f⟩ := hf.unfold ha hn
  exact ⟨S, Γ, _, Same.refl S, he, f, k lt h1 h2⟩
/-! ### methods that only look -/
theorem ve_meth {dv : DV} (F : MethOk g C m ps lv asp) (hl : lv ≤ I.k) (ho : VE g I Γ A o (.r l)) (hA : A l = some (aoI C fs)) (hm : fs.lookup m = none) (ha : VA g I Γ A (e :: es) ds) (hn : ds.length + 1 = ps.length) (h : ∀ A1, ExtA A A1 → asp (.r l :: ds) A1 (fun d A' => d = dv ∧ A' = A1) fun _ _ => False) (hs : nostar e = true := by rfl) (hss : es.all nostar = true := by rfl)
    {pl : Env → Sem Bool} (ht : ∀ env, eval (.Call (.Attribute o m apos) (e :: es) [] pos) env = (do
      let ov ← eval o env
      standAt apos.atName
      let (f, first) ← holding [ov] (getMethod ov m (pl env))
      callWith pos f first (backTo pos (starEach (e :: es) env)) (backToKw pos (keywordEach [] env))) := by intro _; rfl) : VE g I Γ A (.Call (.Attribute o m apos) (e :: es) [] pos) dv := by
  intro X cx A1 ex S H σ he hf Qv k
  obtain ⟨ea, rfl⟩ := cx.eq
  obtain ⟨f, fd, F', hm', hb⟩ := F.ex
  refine (pe_meth (E := E0) (pl := pl X.env) PE.s F.cls hm' F' (cx.room.mono hl) hb .nil passL PA.s (star_cons hs es X.env) (star_any pos X.env hss) (ht X.env)).to (ho X cx A1 ex S H σ he hf _ fun v S1 H1 s1 f1 r1 => ?_)
  obtain ⟨dx, vfs, e1, e2, e3⟩ := f1.ins (ex _ _ hA)
  refine ⟨l, dx, vfs, r1, e1, lookup_none_keys e2.symm hm, ?_⟩
  refine ha X cx A1 ex S1 H1 σ (he.mono s1) f1 _ fun vs S2 H2 s2 f2 r2 => ?_
  rw [List.append_nil, show v = .ref l from r1]
  exact ⟨S2, A1, .r l :: ds, _, _, by rw [List.length_cons]; exact hn, f2, .cons (d := .r l) rfl r2, h A1 ex, fun d A' S' v H' s f r q => by obtain ⟨rfl, rfl⟩ := q; exact k v S' H' ((s1.trans s2).trans s) f r, fun _ _ _ _ _ _ q => q⟩
theorem ve_meth0 {dv : DV} (F : MethOk g C m ps lv asp) (hl : lv ≤ I.k) (ho : VE g I Γ A o (.r l)) (hA : A l = some (aoI C fs)) (hm : fs.lookup m = none) (hn : 1 = ps.length) (h : ∀ A1, ExtA A A1 → asp [.r l] A1 (fun d A' => d = dv ∧ A' = A1) fun _ _ => False)
    {pl : Env → Sem Bool} (ht : ∀ env, eval (.Call (.Attribute o m apos) [] [] pos) env = (do
      let ov ← eval o env
      standAt apos.atName
      let (f, first) ← holding [ov] (getMethod ov m (pl env))
      callWith pos f first (backTo pos (starEach [] env)) (backToKw pos (keywordEach [] env))) := by intro _; rfl) : VE g I Γ A (.Call (.Attribute o m apos) [] [] pos) dv := by
  intro X cx A1 ex S H σ he hf Qv k
  obtain ⟨ea, rfl⟩ := cx.eq
  obtain ⟨f, fd, F', hm', hb⟩ := F.ex
  refine (pe_meth0 (E := E0) (pl := pl X.env) PE.s F.cls hm' F' (cx.room.mono hl) hb .nil passL (ht X.env)).to (ho X cx A1 ex S H σ he hf _ fun v S1 H1 s1 f1 r1 => ?_)
  obtain ⟨dx, vfs, e1, e2, e3⟩ := f1.ins (ex _ _ hA)
  refine ⟨l, dx, vfs, r1, e1, lookup_none_keys e2.symm hm, ?_⟩
  show toSp ps.length asp (v :: ([] ++ [])) H1 Qv _
  rw [List.append_nil, show v = .ref l from r1]
  exact ⟨S1, A1, [.r l], _, _, hn, f1, .cons (d := .r l) rfl .nil, h A1 ex, fun d A' S' v H' s f r q => by obtain ⟨rfl, rfl⟩ := q; exact k v S' H' (s1.trans s) f r, fun _ _ _ _ _ _ q => q⟩
/-- a new list handed out, frozen at once -/
theorem de_meth0F (F : MethOk g C m ps lv asp) (hl : lv ≤ I.k) (ho : VE g I Γ A o (.r l)) (hA : A l = some (aoI C fs)) (hm : fs.lookup m = none) (hn : 1 = ps.length) (h : ∀ A1, ExtA A A1 → asp [.r l] A1 (fun d A' => ∃ l', d = .r l' ∧ A1 l' = none ∧ A' = updA A1 l' (oL xs)) fun _ _ => False)
    {pl : Env → Sem Bool} (ht : ∀ env, eval (.Call (.Attribute o m apos) [] [] pos) env = (do
      let ov ← eval o env
      standAt apos.atName
      let (f, first) ← holding [ov] (getMethod ov m (pl env))
      callWith pos f first (backTo pos (starEach [] env)) (backToKw pos (keywordEach [] env))) := by intro _; rfl) : DE g I Γ A (.Call (.Attribute o m apos) [] [] pos) (.list xs) := by
  intro X cx A1 ex S H σ he hf Qv k
  obtain ⟨ea, rfl⟩ := cx.eq
  obtain ⟨f, fd, F', hm', hb⟩ := F.ex
  refine (pe_meth0 (E := E0) (pl := pl X.env) PE.s F.cls hm' F' (cx.room.mono hl) hb .nil passL (ht X.env)).to (ho X cx A1 ex S H σ he hf _ fun v S1 H1 s1 f1 r1 => ?_)
  obtain ⟨dx, vfs, e1, e2, e3⟩ := f1.ins (ex _ _ hA)
  refine ⟨l, dx, vfs, r1, e1, lookup_none_keys e2.symm hm, ?_⟩
  show toSp ps.length asp (v :: ([] ++ [])) H1 Qv _
  rw [List.append_nil, show v = .ref l from r1]
  refine ⟨S1, A1, [.r l], _, _, hn, f1, .cons (d := .r l) rfl .nil, h A1 ex, fun d A' S' v H' s f r q => ?_, fun _ _ _ _ _ _ q => q⟩
  obtain ⟨l', rfl, hl', rfl⟩ := q
  obtain ⟨S2, f2, s2, r2⟩ := f.freezeL updA_same
  rw [delA_updA hl'] at f2
  rw [show v = .ref l' from r]
  exact k _ S2 H' ((s1.trans s).trans s2) f2 r2
/-! ### effects in comparisons and tests -/
theorem we_cmp {op : CmpOp} (ha : WE g I R Γ A a fun d1 A1 => WE g I R Γ A1 b fun d2 A2 => ∃ k, CmpD g I A2 op d1 d2 k ∧ Q (.d (.bool k)) A2) (hm : behindInMarks op b = false := by rfl) : WE g I R Γ A (.Compare a [op] [b] pos) Q := by
  intro X cx S H σ tk he hf Qv z
  refine (pe_cmpR (rSem_ok (X := X) (f := compareOp op)) PE.s PE.s hm).to (ha X cx S H σ tk he hf _ fun v d1 S1 A1 H1 s1 f1 r1 k2 => k2 X cx S1 H1 σ (tk.mono s1) (he.mono s1) f1 _ fun u d2 S2 A2 H2 s2 f2 r2 ⟨k, C, q⟩ => ?_)
  obtain ⟨r, x1, x2⟩ := C.ex
  exact fun pins s σ' v' u' Iv rv ru => x1 X cx pins s σ' H2 v u v' u' Qv Iv rv ru (x2 X cx A2 (ExtA.refl A2) S2 H2 v u f2 (r1.mono s2) r2 Qv (z _ (.d (.bool k)) S2 A2 H2 (s1.trans s2) f2 (Rp.bl k) q))
theorem wt_cmp {op : CmpOp} {Q : Bool → AH → Prop} (ha : WE g I R Γ A a fun d1 A1 => WE g I R Γ A1 b fun d2 A2 => ∃ k, CmpD g I A2 op d1 d2 k ∧ Q k A2) (hm : behindInMarks op b = false := by rfl) : WT g I R Γ A (.Compare a [op] [b] pos) Q := by
  intro X cx S H σ tk he hf Qv z
  refine (pt_cmpR (rSem_ok (X := X) (f := compareOp op)) PE.s PE.s hm).to (ha X cx S H σ tk he hf _ fun v d1 S1 A1 H1 s1 f1 r1 k2 => k2 X cx S1 H1 σ (tk.mono s1) (he.mono s1) f1 _ fun u d2 S2 A2 H2 s2 f2 r2 ⟨k, C, q⟩ => ?_)
  obtain ⟨r, x1, x2⟩ := C.ex
  exact fun pins s σ' v' u' Iv rv ru => x1 X cx pins s σ' H2 v u v' u' _ Iv rv ru (x2 X cx A2 (ExtA.refl A2) S2 H2 v u f2 (r1.mono s2) r2 _ ⟨k, rfl, z k S2 A2 H2 (s1.trans s2) f2 q⟩)
theorem wt_val {Q : Bool → AH → Prop} (h : WE g I R Γ A e fun d A' => ∃ k, d = .d (.bool k) ∧ Q k A') (he : ∀ env whole, isTrue e env whole = (do let v ← whole; standAt e.pos; holding [v] (truthy v)) := by intro _ _; rfl) : WT g I R Γ A e Q := by
  intro X c S H σ tk hv hf Qv z
  refine (pt_val PE.s (he X.env)).to (h X c S H σ tk hv hf _ fun v d S1 A1 H1 s1 f1 r1 ⟨k, e1, q⟩ => ?_)
  subst e1
  exact ⟨k, Rp.bl_of r1, z k S1 A1 H1 s1 f1 q⟩
theorem wt_not {Q : Bool → AH → Prop} (h : WT g I R Γ A e fun k A' => Q (!k) A') : WT g I R Γ A (.UnaryOp .Not e pos) Q := fun X c S H σ tk hv hf Qv z =>
  (pt_not PT.s).to (h X c S H σ tk hv hf _ fun k S' A' H' s f q => z (!k) S' A' H' s f q)
/-- if by a test with effects, going on by itself -/
theorem s_ifW {st1 st2 : List Stmt} (h : WT g I R Γ A c fun k A' => (k = true → WSs g I R Γ A' st1 { D with nx := fun Γ' A' => WSs g I R Γ' A' sts D }) ∧ (k = false → WSs g I R Γ A' st2 { D with nx := fun Γ' A' => WSs g I R Γ' A' sts D })) : WSs g I R Γ A (.If c st1 st2 pos :: sts) D := wss_cons (ws_ifW h)
/-! ### lists joined, whoever owns them -/
theorem de_addX {d1 d2 : DV} (ha : VE g I Γ A a d1) (q1 : IsL A d1 xs) (hb : VE g I Γ A b d2) (q2 : IsL A d2 ys) (hz : xs.length + ys.length ≤ 16777216) : DE g I Γ A (.BinOp a .Add b pos) (.list (xs ++ ys)) :=
  ve_op (fun _ _ => op_cat) (fun X c A1 ex S H v u f r1 r2 Q k => by
    obtain ⟨l, vs, rfl, h1, z1⟩ := q1.sq ex f r1
    obtain ⟨m, ws, rfl, h2, z2⟩ := q2.sq ex f r2
    refine ⟨l, m, vs, ws, rfl, rfl, h1, h2, by rw [z1.length, z2.length, sizeLine_eq]; exact hz, fun p hp => ?_⟩
    obtain ⟨f', s'⟩ := f.laidS hp (o := .lst (vs ++ ws))
    exact k _ _ _ s' f' (.lst upd_same ((z1.mono s').append (z2.mono s')))) ha hb
end
theorem ext_none {A A1 : AH} (h : ExtA A A1) {l : Addr} (q : A1 l = none) : A l = none := by
  cases e : A l with
  | none => rfl
  | some o => have := h l o e; rw [q] at this; cases this
theorem ext_upd {A A1 : AH} (h : ExtA A A1) {l : Addr} {o : AO} (q : A l = none) : ExtA A (updA A1 l o) := fun a u z => by
  rw [updA_ne (fun e => by rw [e, q] at z; cases z)]; exact h a u z
theorem ext_del {A A1 : AH} (h : ExtA A A1) {l : Addr} (q : A l = none) : ExtA A (delA A1 l) := fun a u z => by
  rw [delA_ne (fun e => by rw [e, q] at z; cases z)]; exact h a u z
theorem ext_both {A A1 : AH} (h : ExtA A A1) {l : Addr} {o : AO} : ExtA (updA A l o) (updA A1 l o) := fun a u z => by
  by_cases e : a = l
  · subst e; rw [updA_same] at z ⊢; exact z
  · rw [updA_ne e] at z ⊢; exact h a u z
/-- a promise to hand out a new list, nothing else changed -/
def pSpL (f : AH → List DV → List PyData → Prop) : ASp := fun ds A Q _ => ∃ xs, f A ds xs ∧ ∀ l, A l = none → Q (.r l) (updA A l (oL xs))
end LB

/-! Layer 20: an error kept and told at once; receivers with effects; slices from behind. -/
namespace LB
open PySem PySem.Spec PyProof.Rows L2
section
variable {g : Gv} {I : CI} {R : Rz} {Γ Γ' : Gam} {A : AH} {pos p apos q1 q2 q3 q4 q5 q6 q7 q8 np pk pn2 ps2 pos' tpos : Pos} {e o a b c : Expr} {D : AEnds} {lv cn : Nat} {kn n xn x fn' : Str} {body sts : List Stmt} {CL l : Addr} {dv : DV} {xs : List PyData}
/-- try: body; except X as e: kept = e; return refusal(kept) -/
theorem s_keepR {nm : Err → Option Str} (i k : Nat) (ht : I.top = true) (hk : I.N[k]? = some n) (hln : I.sc.names.lookup n = some .local) (hi : I.N[i]? = some kn) (hlk : I.sc.names.lookup kn = some .local) (hik : i ≠ k) (hg : GlS I.sc xn) (hm : g.mg xn = some (.ref CL)) (hvk : I.vis[k]? = some true) (hvi : I.vis[i]? = some true) (hdbg : (xn == ("__debug__" : Str)) = false) (hΓ : Γ.length = I.N.length)
    (hx : ∀ e s, nm e = some s → W.exmOne g.K (.ref (g.ea e)) (.ref CL) = some true) (C : Callee g x [fn'] lv (sp_ref nm g.ea)) (hlv : lv ≤ I.k) (hgx : GlS I.sc x) (hdx : (x == ("__debug__" : Str)) = false)
    (h : WSs g I (fun C A' => ∃ e s, C = g.ea e ∧ nm e = some s ∧ D.rt (.d (.str s)) A') Γ A body { D with nx := fun Γ' A' => Γ'[i]? = some (some (.d .none)) ∧ D.rt (.d (.str "ok")) A' }) :
    WSs g I R Γ A (.Try body [.ExceptHandler (some (.Name xn np)) (some n) [.Assign [.Name kn pk] (.Name n pn2) ps2] pos'] [] [] tpos :: .Return (some (.Call (.Name x q5) [.Name kn q6] [] q7)) pos :: sts) D := by
  have hil : i < I.N.length := (List.getElem?_eq_some_iff.mp hi).1
  obtain ⟨P, eP⟩ : ∃ P : Gam → AH → Prop, P = fun Γ' A' => (Γ'[i]? = some (some (.d .none)) ∧ D.rt (.d (.str "ok")) A') ∨ ∃ e s, Γ'[i]? = some (some (.x (g.ea e))) ∧ nm e = some s ∧ D.rt (.d (.str s)) A' := ⟨_, rfl⟩
  refine wss_cut P (ws_try_keep i k ht hk hln hi hlk hik hg hm hvk hdbg hΓ ?_) fun Γ' A' hP => ?_
  · refine WSs.impR (h.imp (fun Γ' A' q => ?_) (fun _ _ q => q) (fun _ _ q => q) (fun _ _ q => q)) fun C A' q => ?_
    · show P Γ' A'
      rw [eP]
      exact .inl q
    · obtain ⟨e, s, e1, e2, e3⟩ := q
      refine ⟨by rw [e1]; exact hx e s e2, ?_⟩
      show P _ A'
      rw [eP]
      exact .inr ⟨e, s, by rw [e1, List.getElem?_set_self (by rw [List.length_replicate]; exact hil)], e2, e3⟩
  rw [eP] at hP
  rcases hP with ⟨h1, h3⟩ | ⟨e, s, h1, h2, h3⟩
  · exact s_ret (de_call C hlv hgx (va_cons (ve_var i hi hvi h1) va_nil) rfl (.inl ⟨rfl, rfl⟩) rfl rfl hdx) h3
  · exact s_ret (de_call C hlv hgx (va_cons (ve_var i hi hvi h1) va_nil) rfl (.inr ⟨e, s, rfl, h2, rfl⟩) rfl rfl hdx) h3
/-- o.append(e), o by an expression with effects -/
theorem we_appendW {Q : DV → AH → Prop} (ho : WE g I R Γ A o fun d A1 => ∃ l xs dd, d = .r l ∧ A1 l = some (oL xs) ∧ xs.length < 16777216 ∧ DE g I Γ A1 e dd ∧ Q (.d .none) (updA A1 l (oL (xs ++ [dd])))) (hs : nostar e = true := by rfl) (hb : ∀ env, attributeBase o "append" env (eval o env) = eval o env := by intro _; rfl) (hln : (apos.endLine == pos.line) = true := by rfl)
    (hfew : ∀ env, ((backTo pos (starEach [e] env)).all (fun x => !x.1) && (backToKw pos (keywordEach [] env)).all (fun x => x.1.isSome) && decide ([e].length + ([] : List Keyword).length + (if ([] : List Keyword).isEmpty then 0 else 1) < 30)) = true := by intro _; rfl) : WE g I R Γ A (.Call (.Attribute o "append" apos) [e] [] pos) Q := by
  intro X cx S H σ tk he hf Qv k
  refine (pe_bm PySem.F.plainAttrs_list PySem.F.slot_list_append PySem.F.type_list_append mt_append PE.s PA.s (hb X.env) (hfew X.env) hln (star_cons hs [] X.env) (star_any pos X.env rfl)).to (ho X cx S H σ tk he hf _ fun v d S1 A1 H1 s1 f1 r1 hq => ?_)
  obtain ⟨l, xs, dd, rfl, hA, hz, ha, h⟩ := hq
  obtain ⟨vs, e1, e2⟩ := f1.list hA
  rw [show v = .ref l from r1]
  refine ⟨.inl ⟨rfl, vs, .of e1⟩, va_cons ha va_nil hs X cx A1 (ExtA.refl A1) S1 H1 σ (he.mono s1) f1 _ fun us S2 H2 s2 f2 rr => ?_⟩
  obtain ⟨u, rfl, r2⟩ := rr.one
  obtain ⟨ws, e3, e4⟩ := f2.list hA
  have e5 : RepVs S2 (ws ++ [u]) ((xs ++ [dd]).map .d) := by rw [List.map_append]; exact e4.append (.cons r2 .nil)
  exact ⟨l, ws, u, rfl, rfl, e3, by rw [e4.length, List.length_map, sizeLine_eq]; exact hz, k _ (.d .none) S2 _ _ (s1.trans s2) (f2.listSet hA e5) .non h⟩
theorem s_fld {C : Addr} {fs : List (Str × FV)} {n' : Str} {pa : Pos} (cl : Cls g.K C) (na : NoAttr g.K C n') (hv : WE g I R Γ A e fun d A' => A' l = some (aoI C fs) ∧ fs.length < 1000 ∧ VE g I Γ A' o (.r l) ∧ WSs g I R Γ (updA A' l (aoI C (put n' (.v d) fs))) sts D) (hs : ∀ env, swapsWith e (some (.Attribute o n' pa)) pos.line env = pure false := by intro _; rfl) : WSs g I R Γ A (.Assign [.Attribute o n' pa] e pos :: sts) D := wss_cons (ws_fld cl na hv hs)
/-- a row and an instance stand apart -/
theorem s_neQ {C : Addr} {fs : List (Str × FV)} (hq : IsL A dv xs) (h2 : A l = some (aoI C fs)) (k : (∀ a, dv = .r a → a ≠ l) → WSs g I R Γ A sts D) : WSs g I R Γ A sts D := fun X cx S H σ tk he hf => by
  refine k (fun a e1 e2 => ?_) X cx S H σ tk he hf
  subst e1 e2
  cases hq with
  | o h =>
    obtain ⟨vs, h1, _⟩ := hf.list h
    obtain ⟨dx, vfs, h3, _⟩ := hf.ins h2
    rw [h1] at h3
    cases h3
/-- an owned list that is like data -/
theorem c_neXR {n : Nat} {y : PyData} (q : IsL A dv xs) (e : y = .list xs) (h : Sh n y) (hn : n ≤ 64) : CmpD g I A .NotEq dv (.d y) false := by
  subst e
  have z := c_neX (g := g) (I := I) q (h.ok hn) (h.ok hn)
  rwa [h.eqv] at z
theorem c_eqXR {n : Nat} {y : PyData} (q : IsL A dv xs) (e : y = .list xs) (h : Sh n y) (hn : n ≤ 64) : CmpD g I A .Eq dv (.d y) true := by
  subst e
  have z := c_eqX (g := g) (I := I) q (h.ok hn) (h.ok hn)
  rwa [h.eqv] at z
end
theorem cut_m1 {α : Type} (xs : List α) : cutD xs none (some (-1)) = xs.dropLast := by
  unfold cutD HT.sIx
  simp
  rw [List.dropLast_eq_take]
  congr 1
  omega
theorem cut_till {α : Type} (xs : List α) (k : Nat) : cutD xs none (some (k : Int)) = xs.take k := by
  unfold cutD HT.sIx
  simp
  rw [if_neg (by omega)]
  omega
end LB

/-! Layer 21: owned dicts whose keys are tuples of data. -/
namespace LB
open PySem PySem.Spec PyProof.Rows L2
mutual
theorem rp_nested {P : Program} {w : World} {H : Hp} {h : Heap} (ok : L2.HOk P w H h) : ∀ {k : NestedKey} {v : V} {u : Value}, Rp H v k.data → L2.RelV v u → NestedIs h k u
  | .none, _, u, .non, r => by
    cases (show u = Value.none from r); exact .none
  | .num i, _, u, .int _, r => by
    obtain ⟨t, rfl⟩ := (show ∃ t, u = Value.int i t from r); exact .int i t
  | .text x, _, u, .str _, r => by
    obtain ⟨t, rfl⟩ := (show ∃ t, u = Value.str x t from r); exact .text x t
  | .tup ks, _, u, .tup (a := a) (xs := xs) ha hr, r => by
    cases (show u = Value.ref a from r)
    obtain ⟨_, its, rv, o, e1, e2, n, e3⟩ := (show L2.ObjOk P w H h a (.tup xs) from ok a _ ha)
    exact .tup e1 e2 e3 (by rw [List.toList_toArray]; exact rpAll_nested ok hr rv)
theorem rpAll_nested {P : Program} {w : World} {H : Hp} {h : Heap} (ok : L2.HOk P w H h) : ∀ {ks : List NestedKey} {vs : List V} {us : List Value}, RpAll H vs (NestedKey.datas ks) → L2.Vals vs us → NestedAll h ks us
  | [], _, us, .nil, r => by cases r; exact .nil
  | k :: ks, _, us, .cons h1 h2, r => by
    cases r with
    | cons r1 r2 => exact .cons (rp_nested ok h1 r1) (rpAll_nested ok h2 r2)
end
/-- the dict's own object, by its entries -/
def rawD (P : Program) (w : World) (d : Addr) (xs : List (NestedKey × Addr × Value)) : Heap → Prop := fun h =>
  ∃ o es ep, h.get? d = some o ∧ o.ExactDict ∧ o.data = .dict es ep ∧ es.toList = xs.map (entryOfKey (nestedKind P w)) ∧ (xs.map (·.1)).Nodup
theorem rawD_ok {P : Program} {w : World} {H : Hp} {h : Heap} {d : Addr} {xs : List (NestedKey × Addr × Value)} (r : rawD P w d xs h) : L2.ObjOk P w H h d (.ext (rawD P w d xs)) :=
  ⟨r, let ⟨o, _, _, e, _⟩ := r; ⟨o, e⟩, fun h1 h2 ⟨o, es, ep, e, q⟩ k => ⟨o, es, ep, k _ e, q⟩⟩
inductive DRel (S : Hp) : List (NestedKey × DV) → List (NestedKey × Addr × Value) → Prop
  | nil : DRel S [] []
  | cons {k : NestedKey} {a : Addr} {u : Value} {v : V} {d : DV} {kvs : List (NestedKey × DV)} {xs : List (NestedKey × Addr × Value)} : k.depth ≤ 8 → Rp S (.ref a) k.data → L2.RelV v u → RepV S v d → DRel S kvs xs → DRel S ((k, d) :: kvs) ((k, a, u) :: xs)
theorem DRel.mono {S S' : Hp} (e : Same S S') : ∀ {kvs : List (NestedKey × DV)} {xs : List (NestedKey × Addr × Value)}, DRel S kvs xs → DRel S' kvs xs
  | _, _, .nil => .nil
  | _, _, .cons h1 h2 h3 h4 r => .cons h1 (Rp.mono e h2) h3 (RepV.mono e h4) (DRel.mono e r)
theorem DRel.len {S : Hp} : ∀ {kvs : List (NestedKey × DV)} {xs : List (NestedKey × Addr × Value)}, DRel S kvs xs → kvs.length = xs.length
  | _, _, .nil => rfl
  | _, _, .cons _ _ _ _ r => by rw [List.length_cons, List.length_cons, r.len]
theorem DRel.is {P : Program} {w : World} {S H : Hp} {h : Heap} (e : Same S H) (ok : L2.HOk P w H h) : ∀ {kvs : List (NestedKey × DV)} {xs : List (NestedKey × Addr × Value)}, DRel S kvs xs → ∀ x ∈ xs, (nestedKind P w).is h x.1 x.2.1
  | _, _, .nil, _, hx => (List.not_mem_nil hx).elim
  | _, _, .cons h1 h2 h3 h4 r, x, hx => by
    rcases List.mem_cons.mp hx with rfl | q
    · exact ⟨rp_nested ok (Rp.mono e h2) rfl, h1⟩
    · exact DRel.is e ok r x q
def valK (kvs : List (NestedKey × DV)) (k : NestedKey) : Option DV := (kvs.find? fun x => decide (x.1 = k)).map (·.2)
def putKD (kvs : List (NestedKey × DV)) (k : NestedKey) (d : DV) : List (NestedKey × DV) := if (valK kvs k).isSome then kvs.map fun x => if x.1 = k then (x.1, d) else x else kvs ++ [(k, d)]
theorem DRel.val {S : Hp} {k : NestedKey} : ∀ {kvs : List (NestedKey × DV)} {xs : List (NestedKey × Addr × Value)}, DRel S kvs xs → match valK kvs k with
    | none => atKey xs k = none
    | some d => ∃ p v, atKey xs k = some p ∧ L2.RelV v p.2 ∧ RepV S v d
  | _, _, .nil => rfl
  | _, _, .cons (k := k') (a := a) (u := u) (d := d) (kvs := kvs) (xs := xs) h1 h2 h3 h4 r => by
    have ih := r.val (k := k)
    by_cases e : k' = k
    · have e1 : valK ((k', d) :: kvs) k = some d := by simp [valK, e]
      have e2 : atKey ((k', a, u) :: xs) k = some (a, u) := by simp [atKey, e]
      rw [e1]
      exact ⟨_, _, e2, h3, h4⟩
    · have e1 : valK ((k', d) :: kvs) k = valK kvs k := by simp [valK, e]
      have e2 : atKey ((k', a, u) :: xs) k = atKey xs k := by simp [atKey, e]
      rw [e1, e2]
      exact ih
theorem DRel.some_iff {S : Hp} {k : NestedKey} {kvs : List (NestedKey × DV)} {xs : List (NestedKey × Addr × Value)} (r : DRel S kvs xs) : (atKey xs k).isSome = (valK kvs k).isSome := by
  have h := r.val (k := k)
  cases e : valK kvs k with
  | none => rw [e] at h; rw [h]; rfl
  | some d => rw [e] at h; obtain ⟨p, v, h1, _⟩ := h; rw [h1]; rfl
theorem DRel.repl {S : Hp} {k : NestedKey} {u : Value} {v : V} {d : DV} (h3 : L2.RelV v u) (h4 : RepV S v d) : ∀ {kvs : List (NestedKey × DV)} {xs : List (NestedKey × Addr × Value)}, DRel S kvs xs → DRel S (kvs.map fun x => if x.1 = k then (x.1, d) else x) (xs.map (putAt k u))
  | _, _, .nil => .nil
  | _, _, .cons (k := k') h1 h2 q3 q4 r => by
    rw [List.map_cons, List.map_cons]
    by_cases e : k' = k
    · unfold putAt
      rw [if_pos e, if_pos e]
      exact .cons h1 h2 h3 h4 (DRel.repl h3 h4 r)
    · unfold putAt
      rw [if_neg e, if_neg e]
      exact .cons h1 h2 q3 q4 (DRel.repl h3 h4 r)
theorem DRel.snoc {S : Hp} {k : NestedKey} {a : Addr} {u : Value} {v : V} {d : DV} (h1 : k.depth ≤ 8) (h2 : Rp S (.ref a) k.data) (h3 : L2.RelV v u) (h4 : RepV S v d) : ∀ {kvs : List (NestedKey × DV)} {xs : List (NestedKey × Addr × Value)}, DRel S kvs xs → DRel S (kvs ++ [(k, d)]) (xs ++ [(k, a, u)])
  | _, _, .nil => .cons h1 h2 h3 h4 .nil
  | _, _, .cons q1 q2 q3 q4 r => .cons q1 q2 q3 q4 (DRel.snoc h1 h2 h3 h4 r)
theorem DRel.put {S : Hp} {k : NestedKey} {a : Addr} {u : Value} {v : V} {d : DV} {kvs : List (NestedKey × DV)} {xs : List (NestedKey × Addr × Value)} (r : DRel S kvs xs) (h1 : k.depth ≤ 8) (h2 : Rp S (.ref a) k.data) (h3 : L2.RelV v u) (h4 : RepV S v d) : DRel S (putKD kvs k d) (storedH xs k a u) := by
  unfold putKD storedH
  rw [r.some_iff]
  by_cases e : (valK kvs k).isSome = true
  · rw [if_pos e, if_pos e]; exact r.repl h3 h4
  · rw [if_neg e, if_neg e]; exact r.snoc h1 h2 h3 h4
theorem valK_put (kvs : List (NestedKey × DV)) (k j : NestedKey) (d : DV) : valK (putKD kvs k d) j = if j = k then some d else valK kvs j := by
  unfold putKD
  by_cases e : (valK kvs k).isSome = true
  · rw [if_pos e]
    have key : ∀ kvs : List (NestedKey × DV), valK (kvs.map fun x => if x.1 = k then (x.1, d) else x) j = if j = k then (valK kvs k).map fun _ => d else valK kvs j := fun kvs => by
      induction kvs with
      | nil => simp [valK]
      | cons x r ih =>
        obtain ⟨k', d'⟩ := x
        rw [List.map_cons]
        by_cases h : k' = k
        · rw [if_pos h]
          by_cases h2 : j = k
          · rw [if_pos h2]; simp [valK, h, h2]
          · rw [if_neg h2]
            have h3 : ¬ k' = j := fun z => h2 (z.symm.trans h)
            have i1 : valK ((k', d) :: r.map fun x => if x.1 = k then (x.1, d) else x) j = valK (r.map fun x => if x.1 = k then (x.1, d) else x) j := by simp [valK, h3]
            have i2 : valK ((k', d') :: r) j = valK r j := by simp [valK, h3]
            rw [i1, i2, ih, if_neg h2]
        · rw [if_neg h]
          have i3 : valK ((k', d') :: r) k = valK r k := by simp [valK, h]
          by_cases h4 : k' = j
          · have h2 : ¬ j = k := fun z => h (h4.trans z)
            rw [if_neg h2]; simp [valK, h4]
          · have i1 : valK ((k', d') :: r.map fun x => if x.1 = k then (x.1, d) else x) j = valK (r.map fun x => if x.1 = k then (x.1, d) else x) j := by simp [valK, h4]
            have i2 : valK ((k', d') :: r) j = valK r j := by simp [valK, h4]
            rw [i1, i2, ih, i3]
    rw [key]
    obtain ⟨x, hx⟩ := Option.isSome_iff_exists.mp e
    by_cases h2 : j = k
    · rw [if_pos h2, if_pos h2, hx]; rfl
    · rw [if_neg h2, if_neg h2]
  · rw [if_neg e]
    have hn : valK kvs k = none := by cases z : valK kvs k with | none => rfl | some x => rw [z] at e; exact absurd rfl e
    have key : ∀ kvs : List (NestedKey × DV), valK kvs k = none → valK (kvs ++ [(k, d)]) j = if j = k then some d else valK kvs j := fun kvs => by
      induction kvs with
      | nil =>
        intro _
        by_cases h : j = k
        · rw [if_pos h]; simp [valK, h]
        · rw [if_neg h]
          have h3 : ¬ k = j := fun z => h z.symm
          simp [valK, h3]
      | cons x r ih =>
        obtain ⟨k', d'⟩ := x
        intro hk
        have h : ¬ k' = k := fun z => by simp [valK, z] at hk
        have hr : valK r k = none := by have i3 : valK ((k', d') :: r) k = valK r k := by simp [valK, h]
                                        rw [i3] at hk; exact hk
        rw [List.cons_append]
        by_cases h4 : k' = j
        · have h2 : ¬ j = k := fun z => h (h4.trans z)
          rw [if_neg h2]; simp [valK, h4]
        · have i1 : valK ((k', d') :: (r ++ [(k, d)])) j = valK (r ++ [(k, d)]) j := by simp [valK, h4]
          have i2 : valK ((k', d') :: r) j = valK r j := by simp [valK, h4]
          rw [i1, i2, ih hr]
    exact key kvs hn
theorem putKD_len (kvs : List (NestedKey × DV)) (k : NestedKey) (d : DV) : (putKD kvs k d).length ≤ kvs.length + 1 := by
  unfold putKD; split
  · rw [List.length_map]; omega
  · rw [List.length_append]; simp
/-- an owned dict -/
def aoK (P : Program) (w : World) (kvs : List (NestedKey × DV)) : AO where
  P := fun S a c => ∃ xs, c a = some (.ext (rawD P w a xs)) ∧ (a == sysModules) = false ∧ DRel S kvs xs
  root := fun ⟨_, h, _⟩ => by rw [h]; intro z; cases z
  mono := fun e1 e2 ⟨xs, h, q, r⟩ => ⟨xs, e2 _ _ h, q, r.mono e1⟩
theorem Fit.dict {S : Hp} {A : AH} {H : Hp} (f : Fit S A H) {P : Program} {w : World} {a : Addr} {kvs : List (NestedKey × DV)} (ha : A a = some (aoK P w kvs)) : ∃ xs, H a = some (.ext (rawD P w a xs)) ∧ (a == sysModules) = false ∧ DRel S kvs xs := by
  obtain ⟨ow, h1, h2⟩ := f.own
  obtain ⟨xs, hc, q, r⟩ := h2 a _ ha
  exact ⟨xs, (chunk_some hc).2, q, r⟩
section
variable {X : Cx} {pins : List (Addr × Obj)} {σ : L2.St} {H S : Hp} {s : Shared} {a b : Addr} {kvs : List (NestedKey × DV)} {xs : List (NestedKey × Addr × Value)} {k : NestedKey}
/-- the dict as the library tells it -/
theorem dictOf (I : L2.Inv X pins σ H s) (ha : H a = some (.ext (rawD X.prog X.w a xs))) (e : Same S H) (r : DRel S kvs xs) : s.heap.DictOfH (nestedKind X.prog X.w) a xs := by
  obtain ⟨⟨o, es, ep, h1, h2, h3, h4, h5⟩, _⟩ := I.hok a _ ha
  exact ⟨o, es, ep, h1, h2, h3, h4, r.is e I.hok, h5⟩
def rDIn (X : Cx) (neg : Bool) : R2 := fun y x H Q => ∃ (a b : Addr) (xs : List (NestedKey × Addr × Value)) (S : Hp) (kvs : List (NestedKey × DV)) (k : NestedKey), y = .ref b ∧ x = .ref a ∧ H a = some (.ext (rawD X.prog X.w a xs)) ∧ (a == sysModules) = false ∧ Same S H ∧ DRel S kvs xs ∧ Rp S (.ref b) k.data ∧ k.depth ≤ 8 ∧ Q (.bl (neg != (valK kvs k).isSome)) H
theorem op_dIn (hu : X.A.units + 64 < cLine) : OpR X (compareOp .In) (rDIn X false) := by
  intro pins s σ H y x v u Q I ry rx h
  obtain ⟨a, b, xs, S, kvs, k, rfl, rfl, ha, hd, e, r, rk, dk, q⟩ := h
  cases ry; cases rx
  refine wpAny_in_heap (knd := nestedKind X.prog X.w) (by show X.A.units + 1 + 8 < cLine; omega) ⟨rp_nested I.hok (Rp.mono e rk) rfl, dk⟩ hd (dictOf I ha e r) ?_
  exact ⟨.bl _, H, I.kept fun _ _ z => z, by rw [r.some_iff]; rfl, by simpa using q⟩
theorem op_dNotIn (hu : X.A.units + 64 < cLine) : OpR X (compareOp .NotIn) (rDIn X true) := by
  intro pins s σ H y x v u Q I ry rx h
  obtain ⟨a, b, xs, S, kvs, k, rfl, rfl, ha, hd, e, r, rk, dk, q⟩ := h
  cases ry; cases rx
  refine notIn_keyed (knd := nestedKind X.prog X.w) (by show X.A.units + 1 + 8 < cLine; omega) ⟨rp_nested I.hok (Rp.mono e rk) rfl, dk⟩ hd ⟨xs, dictOf I ha e r, rfl⟩ ?_
  refine ⟨.bl (!(valK kvs k).isSome), H, I.kept fun _ _ z => z, ?_, by simpa using q⟩
  rw [valueAt_pairsH, Option.isSome_map, r.some_iff]; rfl
def tKGet (X : Cx) (td ty : TE) : TE := fun σ H Q => td σ H fun x H1 => ty σ H1 fun y H2 => ∃ (a b : Addr) (xs : List (NestedKey × Addr × Value)) (S : Hp) (kvs : List (NestedKey × DV)) (k : NestedKey) (d : DV), y = .ref b ∧ x = .ref a ∧ H2 a = some (.ext (rawD X.prog X.w a xs)) ∧ Same S H2 ∧ DRel S kvs xs ∧ Rp S (.ref b) k.data ∧ k.depth ≤ 8 ∧ valK kvs k = some d ∧ ∀ v, RepV S v d → Q v H2
theorem pe_kget {o i : Expr} {td ty : TE} {pos : Pos} (hu : X.A.units + 64 < cLine) (ho : PE X o td) (hi : PE X i ty) (hs : NoSl i) : PE X (.Subscript o i pos) (tKGet X td ty) := by
  refine ⟨fun pins s σ H Q I h => ?_⟩
  refine subD_of PySem.F.slot_dict_getitem.lookup hs (thn (ho.run pins s σ H _ I h) fun u s1 ⟨x, H1, I1, rx, q1⟩ => thn (hi.run pins s1 σ H1 _ I1 q1) fun iv s2 ⟨y, H2, I2, ry, a, b, xs, S, kvs, k, d, ey, ex, ha, e, r, rk, dk, hv, q⟩ => ?_)
  subst ex ey
  cases rx; cases ry
  have D := dictOf I2 ha e r
  have hv2 := r.val (k := k)
  rw [hv] at hv2
  obtain ⟨p, v, h1, h2, h3⟩ := hv2
  refine ⟨D.typeIs, ?_⟩
  exact wpAny_getItem_heap (knd := nestedKind X.prog X.w) (by show X.A.units + 1 + 8 < cLine; omega) ⟨rp_nested I2.hok (Rp.mono e rk) rfl, dk⟩ D h1 ⟨v, H2, I2.kept fun _ _ z => z, h2, q v h3⟩
def sKPut (X : Cx) (td ty tv : TE) : TS := fun D σ H => tv σ H fun v H1 => td σ H1 fun x H2 => ty σ H2 fun y H3 => ∃ (a b : Addr) (xs : List (NestedKey × Addr × Value)) (S : Hp) (kvs : List (NestedKey × DV)) (k : NestedKey), y = .ref b ∧ x = .ref a ∧ H3 a = some (.ext (rawD X.prog X.w a xs)) ∧ Same S H3 ∧ DRel S kvs xs ∧ Rp S (.ref b) k.data ∧ k.depth ≤ 8 ∧ kvs.length ≤ 1000000 ∧
  ∀ u, L2.RelV v u → D.nx σ (upd H3 a (.ext (rawD X.prog X.w a (storedH xs k b u))))
theorem ps_kput {o i value : Expr} {td ty tv : TE} {pos pos' : Pos} (hu : X.A.units + 64 < cLine) (ho : PE X o td) (hi : PE X i ty) (hv : PE X value tv) (hs : swapsWith value (some (.Subscript o i pos')) pos.line X.env = pure false) :
    PS X (.Assign [.Subscript o i pos'] value pos) (sKPut X td ty tv) := by
  refine ⟨fun pins s σ H D I h => ?_⟩
  refine wpAny_Assign_Subscript (thn (hv.run pins s σ H _ I h) fun ru s1 ⟨v, H1, I1, rv, q1⟩ => thn (ho.run pins s1 σ H1 _ I1 q1) fun u s2 ⟨x, H2, I2, rx, q2⟩ => thn (hi.run pins s2 σ H2 _ I2 q2) fun iv s3 ⟨y, H3, I3, ry, a, b, xs, S, kvs, k, ey, ex, ha, e, r, rk, dk, hl, q⟩ => ?_) hs
  subst ex ey
  cases rx; cases ry
  have D' := dictOf I3 ha e r
  refine wpAny_setItem_heap (knd := nestedKind X.prog X.w) (hsz := by rw [← r.len, sizeLine_eq]; omega) (by show X.A.units + 1 + 8 < cLine; omega) ⟨rp_nested I3.hok (Rp.mono e rk) rfl, dk⟩ D' fun h' hm hsb => ?_
  obtain ⟨o', es, ep, g1, g2, g3, g4, g5, g6⟩ := hm
  exact ⟨σ, _, d_write I3 (by rw [ha]; exact True.intro) hsb ⟨o', g1⟩ (rawD_ok ⟨o', es, ep, g1, g2, g3, g4, g6⟩), q ru rv⟩
def tDNewH (X : Cx) : TE := fun _ H Q => ∀ p, H p = none → (p == sysModules) = false → Q (.ref p) (upd H p (.ext (rawD X.prog X.w p [])))
theorem pe_dnewH {pos : Pos} : PE X (.Dict [] [] pos) (tDNewH X) := ⟨fun pins s σ H Q I h =>
  wpAny_Dict_empty ⟨.ref s.heap.objs.size, _, I.laid (a := s.heap.objs.size) (o := .ext (rawD X.prog X.w s.heap.objs.size [])) (t' := s.toks) (fun _ _ q => Heap.get?_push_of_some _ q) (Nat.le_refl _) (rawD_ok ⟨_, #[], 0, Heap.get?_push_size _ rfl, ⟨rfl, rfl, rfl⟩, rfl, rfl, List.nodup_nil⟩), rfl, h _ (I.hok.fresh (Nat.le_refl _)) (beq_eq_false_iff_ne.mpr (Ne.symm (Nat.ne_of_lt I.big)))⟩⟩
end
section
variable {g : Gv} {I : CI} {R : Rz} {Γ : Gam} {A : AH} {pos p pos' : Pos} {e o i a b : Expr} {D : AEnds} {kvs : List (NestedKey × DV)} {k : NestedKey} {l : Addr} {sts : List Stmt}
theorem key_ref {S : Hp} {v : V} : ∀ {ks : List NestedKey}, Rp S v (NestedKey.tup ks).data → ∃ b, v = .ref b
  | _, .tup _ _ => ⟨_, rfl⟩
theorem c_inK {ks : List NestedKey} (hl : A l = some (aoK g.P g.w kvs)) (hd : (NestedKey.tup ks).depth ≤ 8) : CmpD g I A .In (.d (NestedKey.tup ks).data) (.r l) (valK kvs (.tup ks)).isSome := ⟨⟨_, fun X c => op_dIn c.room.units, fun X c A1 ex S H v u f r1 r2 Q q => by
  obtain ⟨ea, rfl⟩ := c.eq
  obtain ⟨xs, h1, h2, h3⟩ := f.dict (ex _ _ hl)
  obtain ⟨b, rfl⟩ := key_ref r1
  exact ⟨l, b, xs, S, kvs, .tup ks, rfl, r2, h1, h2, f.same, h3, r1, hd, by simpa using q⟩⟩, fun _ => .inr (.inl rfl)⟩
theorem c_ninK {ks : List NestedKey} (hl : A l = some (aoK g.P g.w kvs)) (hd : (NestedKey.tup ks).depth ≤ 8) : CmpD g I A .NotIn (.d (NestedKey.tup ks).data) (.r l) (!(valK kvs (.tup ks)).isSome) := ⟨⟨_, fun X c => op_dNotIn c.room.units, fun X c A1 ex S H v u f r1 r2 Q q => by
  obtain ⟨ea, rfl⟩ := c.eq
  obtain ⟨xs, h1, h2, h3⟩ := f.dict (ex _ _ hl)
  obtain ⟨b, rfl⟩ := key_ref r1
  exact ⟨l, b, xs, S, kvs, .tup ks, rfl, r2, h1, h2, f.same, h3, r1, hd, by simpa using q⟩⟩, fun _ => .inr (.inr rfl)⟩
theorem ve_ixK {ks : List NestedKey} {d : DV} (ha : VE g I Γ A o (.r l)) (hl : A l = some (aoK g.P g.w kvs)) (hb : DE g I Γ A i (NestedKey.tup ks).data) (hd : (NestedKey.tup ks).depth ≤ 8) (hv : valK kvs (.tup ks) = some d) (hs : NoSl i := by intro _ _; rfl) : VE g I Γ A (.Subscript o i pos) d := by
  intro X c A1 ex S H σ he hf Q z
  obtain ⟨ea, rfl⟩ := c.eq
  refine (pe_kget c.room.units PE.s PE.s hs).to (ha X c A1 ex S H σ he hf _ fun v S1 H1 s1 f1 r1 => hb X c A1 ex S1 H1 σ (he.mono s1) f1 _ fun u S2 H2 s2 f2 r2 => ?_)
  obtain ⟨xs, h1, h2, h3⟩ := f2.dict (ex _ _ hl)
  obtain ⟨b, rfl⟩ := key_ref r2
  exact ⟨l, b, xs, S2, kvs, .tup ks, d, rfl, r1, h1, f2.same, h3, r2, hd, hv, fun v rv => z v S2 H2 (s1.trans s2) f2 rv⟩
/-- {} -/
theorem we_dnew {Q : DV → AH → Prop} (k : ∀ l, A l = none → Q (.r l) (updA A l (aoK g.P g.w []))) : WE g I R Γ A (.Dict [] [] pos) Q := by
  intro X c S H σ _ he hf Qv z
  obtain ⟨ea, rfl⟩ := c.eq
  exact (pe_dnewH (X := X)).to fun t ht hs => z _ (.r t) S _ _ (Same.refl S) (hf.laidA (ao := aoK X.prog X.w []) ht fun _ h => ⟨[], h, hs, .nil⟩) rfl (k t (hf.noneA ht))
/-- d[key] = e -/
theorem s_kput (hv : WE g I R Γ A e fun d A' => ∃ l kvs ks, VE g I Γ A' o (.r l) ∧ A' l = some (aoK g.P g.w kvs) ∧ DE g I Γ A' i (NestedKey.tup ks).data ∧ (NestedKey.tup ks).depth ≤ 8 ∧ kvs.length ≤ 1000000 ∧ WSs g I R Γ (updA A' l (aoK g.P g.w (putKD kvs (.tup ks) d))) sts D)
    (hs : ∀ env, swapsWith e (some (.Subscript o i pos')) pos.line env = pure false := by intro _; rfl) : WSs g I R Γ A (.Assign [.Subscript o i pos'] e pos :: sts) D := wss_cons (by
  intro X c S H σ tk he hf
  obtain ⟨ea, rfl⟩ := c.eq
  refine (ps_kput c.room.units PE.s PE.s PE.s (hs X.env)).to (hv X c S H σ tk he hf _ fun v d S1 A1 H1 s1 f1 r1 ⟨l, kvs, ks, ho, hA, hi, hd, hlen, q⟩ => ?_)
  refine ho X c A1 (ExtA.refl A1) S1 H1 σ (he.mono s1) f1 _ fun x S2 H2 s2 f2 r2 => hi X c A1 (ExtA.refl A1) S2 H2 σ (he.mono (s1.trans s2)) f2 _ fun y S3 H3 s3 f3 r3 => ?_
  obtain ⟨xs, h1, h2, h3⟩ := f3.dict hA
  obtain ⟨b, rfl⟩ := key_ref r3
  refine ⟨l, b, xs, S3, kvs, .tup ks, rfl, r2, h1, f3.same, h3, r3, hd, hlen, fun u ru => ?_⟩
  have hstep : ∀ c : Hp, (aoK X.prog X.w kvs).P S3 l c → (aoK X.prog X.w (putKD kvs (.tup ks) d)).P S3 l (upd c l (.ext (rawD X.prog X.w l (storedH xs (.tup ks) b u)))) := fun c _ =>
    ⟨storedH xs (.tup ks) b u, upd_same, h2, h3.put hd r3 ru ((r1.mono s2).mono s3)⟩
  exact ⟨S3, Γ, _, (s1.trans s2).trans s3, he.mono ((s1.trans s2).trans s3), f3.write hA hstep, q⟩)
end
end LB

/-! Layer 22: comprehensions whose items change what is owned; how many keys a dict may have. -/
namespace LB
open PySem PySem.Spec PyProof.Rows L2
/-- what is walked is frozen, whatever changes beside -/
def ItF (g : Gv) (I : CI) (Γ : Gam) (A : AH) (iter : Expr) (ds : List PyData) : Prop :=
  ∀ X, Cok g I X → ∀ A1, ExtA A A1 → ∃ wi : TI, (∀ tg, PI X tg iter wi) ∧ ∀ S H σ, EnvOk S Γ σ → Fit S A1 H → ∀ T : It → Hp → Prop,
    (∀ S1 H1 J, Same S S1 → Fit S1 A1 H1 → (∀ i S' A' H', Same S1 S' → Fit S' A' H' → (i < ds.length → J.go i H' ∧ ∀ x H2, J.yld i H' x H2 → H2 = H' ∧ ∃ d, ds[i]? = some d ∧ Rp S' x d) ∧ (ds.length ≤ i → J.stop i H')) → T J H1) → wi σ H T
section
variable {g : Gv} {I : CI} {R : Rz} {Γ Γ₀ : Gam} {A : AH} {pos p : Pos} {a : Expr}
theorem itf_list {xs : List PyData} (h : DE g I Γ A a (.list xs)) : ItF g I Γ A a xs := fun X cx A1 ex => ⟨_, fun _ => pi_list PE.s, fun S H σ he hf T k => by
  refine h X cx A1 ex S H σ he hf _ fun v S1 H1 s1 f1 r1 => ?_
  obtain ⟨l, vs, rfl, h1, h2⟩ := Rp.lst_of r1
  refine ⟨l, rfl, ⟨vs, .of (f1.same _ _ h1)⟩, k S1 H1 _ s1 f1 fun i S' A' H' s f => ?_⟩
  have h3 := f.same _ _ (s _ _ h1)
  have h4 := h2.mono s
  refine ⟨fun hi => ?_, fun hi => ⟨vs, .of h3, by rw [h4.length]; exact hi⟩⟩
  obtain ⟨d, hd⟩ : ∃ d, xs[i]? = some d := ⟨xs[i], List.getElem?_eq_getElem hi⟩
  obtain ⟨w, hw, rw'⟩ := h4.get hd
  refine ⟨⟨vs, w, .of h3, hw⟩, fun x H2 y => ⟨y.1, d, hd, ?_⟩⟩
  have := y.2 vs (.of h3)
  rw [hw] at this
  cases this
  exact rw'⟩
theorem takes_no {X : Cx} {S : Hp} : TakesR X S fun _ _ => False := fun u s' ⟨a, B, sI, pins, σ, H, cls, d, e, I, nb, up, sky, na, os, ag, w⟩ => by
  obtain ⟨_, _, _, _, _, _, _, q⟩ := w
  exact q.elim
variable {α β : Type} {zs : List α} {f : α → PyData} {Γz : α → Gam} {tg iter elt : Expr} {scope : Scope}
/-- [elt for tg in iter], each item a step -/
theorem we_lcW {Q : DV → AH → Prop} (fe : β → PyData) (J : Nat → AH → List β → Prop) (own : List (Str × Nat)) (vis : List Bool) (ok : BlkOk I.N I.sc scope own) (okI : (I.blk scope vis).Ok) (hi : ItF g I Γ A iter (zs.map f)) (hw : wipeG Γ (own.map (·.2)) = Γ₀)
    (ht : ∀ z ∈ zs, TgB g (I.blk scope vis) (own.map (·.2)) tg Γ₀ (f z) (Γz z)) (J0 : J 0 A []) (hz : zs.length ≤ 1000000) (hl : ∀ i A' ys, J i A' ys → ys.length = i)
    (he : ∀ (i : Nat) z (A' : AH) (ys : List β) L, zs[i]? = some z → J i A' ys → A' L = none → WE g (I.blk scope vis) (fun _ _ => False) (Γz z) (updA A' L (oL (ys.map fe))) elt fun d A'' => ∃ y A3, d = .d (fe y) ∧ A3 L = none ∧ A'' = updA A3 L (oL (ys.map fe)) ∧ J (i + 1) A3 (ys ++ [y]))
    (k : ∀ l A' ys, J zs.length A' ys → A' l = none → Q (.r l) (updA A' l (oL (ys.map fe)))) (hs : ∀ env x, foldedSetIterable iter env x = pure x := by intro _ _; rfl) : WE g I R Γ A (.ListComp elt [⟨tg, iter, [], 0⟩] scope pos) Q := by
  intro X cx S H σ tk hv hf Qv q
  obtain ⟨wi, hpi, hwi⟩ := hi X cx A (ExtA.refl A)
  have key : tLc wi (gAll X scope tg) (tAll X scope []) (eAll X scope elt) (own.map (·.2)) σ H Qv := by
    refine hwi S H σ hv hf _ fun S1 H1 It s1 f1 turn L hL => ?_
    have LA : A L = none := f1.noneA hL
    refine ⟨fun i m H' => m = zs.length - i ∧ i ≤ zs.length ∧ ∃ S' A' ys, Same S1 S' ∧ A' L = none ∧ J i A' ys ∧ Fit S' (updA A' L (oL (ys.map fe))) H', ⟨zs.length, by simp, Nat.zero_le _, S1, A, [], Same.refl S1, LA, J0, f1.listNew hL .nil⟩, ?_⟩
    rintro i m H2 ⟨rfl, hile, S2, A2, ys, s2, hA2, jj, f2⟩
    obtain ⟨t1, t2⟩ := turn i S2 _ H2 s2 f2
    rw [List.length_map] at t1 t2
    by_cases hlt : i < zs.length
    · obtain ⟨go, yl⟩ := t1 hlt
      refine .inr ⟨go, fun H' => ∃ S' A' ys', Same S1 S' ∧ A' L = none ∧ J (i + 1) A' ys' ∧ Fit S' (updA A' L (oL (ys'.map fe))) H', fun H' ⟨S', A', ys', q1, q2, q3, q4⟩ => ⟨zs.length - (i + 1), by omega, rfl, hlt, S', A', ys', q1, q2, q3, q4⟩, fun x H3 y => ?_⟩
      obtain ⟨rfl, d, hd, rd⟩ := yl x H3 y
      obtain ⟨z, hzi⟩ : ∃ z, zs[i]? = some z := ⟨zs[i], List.getElem?_eq_getElem hlt⟩
      have hm : z ∈ zs := List.mem_of_getElem? hzi
      rw [List.getElem?_map, hzi] at hd
      cases hd
      have hwv : EnvOk S2 (wipeG Γ (own.map (·.2))) (L2.wipe σ (own.map (·.2))) := (hv.mono (s1.trans s2)).wipe _
      intro s H0 C cl fp
      have cb := cx.blk okI s H0 C cl fp
      obtain ⟨t, pg, hq⟩ := ht z hm _ cb
      rw [hw] at hwv
      refine pg.to (hq S2 _ H3 _ x hwv f2 rd _ fun σ3 he3 hw3 => ⟨by rw [hw3, wipe_wipe], ?_⟩)
      intro s' H0' C' cl' fp' pins1 s1' Iv
      have cb' := cx.blk okI s' H0' C' cl' fp'
      obtain ⟨tt, ptt, htt⟩ := (dts_nil (g := g) (I := I.blk scope vis) (Γ := Γz z) (A := fun _ => none)) _ cb' (updA A2 L (oL (ys.map fe))) (fun _ _ z => nomatch z)
      refine ptt.run pins1 s1' σ3 H3 _ Iv (htt S2 H3 σ3 he3 f2 _ fun S4 H4 s4 f4 => ?_)
      rw [if_pos rfl]
      intro s5 H05 C5 cl5 fp5
      have cb5 := cx.blk okI s5 H05 C5 cl5 fp5
      have tk5 : TakesR (X.blk s5 H05 scope (compEnvC scope cl5 C5 X.env) fp5) S4 fun _ _ => False := takes_no
      refine he i z A2 ys L hzi jj hA2 _ cb5 S4 H4 σ3 tk5 (he3.mono s4) f4 _ fun v dv S5 A5 H5 s6 f5 r5 hy => ?_
      obtain ⟨y', A3, rfl, hA3, rfl, j3⟩ := hy
      obtain ⟨vs, q1, q2⟩ := f5.list (updA_same (A := A3) (a := L))
      refine ⟨vs, q1, ?_, S5, A3, ys ++ [y'], (s2.trans s4).trans s6, hA3, j3, ?_⟩
      · rw [q2.length, List.length_map, List.length_map, hl _ _ _ jj, sizeLine_eq]; omega
      · have := f5.listSet (updA_same (A := A3) (a := L)) (q2.append (.cons (d := .d (fe y')) r5 .nil))
        rw [updA_updA] at this
        rw [List.map_append]
        show Fit S5 (updA A3 L (aoL ((ys.map fe ++ [fe y']).map .d))) _
        rw [List.map_append]
        exact this
    · have e : i = zs.length := by omega
      subst e
      exact .inl ⟨t2 (Nat.le_refl _), q _ (.r L) S2 _ H2 (s1.trans s2) f2 rfl (k L A2 ys jj hA2)⟩
  exact (pe_lc cx.calm (by rw [cx.N]; exact cx.ok.nd) (hpi tg) (by rw [cx.N, cx.sc]; exact ok) PGall PTsall PEall (hs X.env)).to key
end
/-! how many keys -/
theorem len_le_of_sub {α : Type} [DecidableEq α] : ∀ {l U : List α}, l.Nodup → (∀ x ∈ l, x ∈ U) → l.length ≤ U.length
  | [], _, _, _ => Nat.zero_le _
  | x :: l, U, h, k => by
    have hx := k x List.mem_cons_self
    have p := List.nodup_cons.mp h
    have := len_le_of_sub (l := l) (U := U.erase x) p.2 fun y hy => (List.mem_erase_of_ne (fun e : y = x => p.1 (by rw [← e]; exact hy))).mpr (k y (List.mem_cons_of_mem _ hy))
    rw [List.length_erase_of_mem hx] at this
    have pos : 0 < U.length := List.length_pos_of_mem hx
    rw [List.length_cons]; omega
structure KeysIn (U : List NestedKey) (kvs : List (NestedKey × DV)) : Prop where
  nd : (kvs.map (·.1)).Nodup
  sub : ∀ k ∈ kvs.map (·.1), k ∈ U
theorem KeysIn.nil {U : List NestedKey} : KeysIn U [] := ⟨List.nodup_nil, fun _ h => (List.not_mem_nil h).elim⟩
theorem KeysIn.len {U : List NestedKey} {kvs : List (NestedKey × DV)} (h : KeysIn U kvs) : kvs.length ≤ U.length := by
  have := len_le_of_sub h.nd h.sub
  rwa [List.length_map] at this
theorem valK_mem {kvs : List (NestedKey × DV)} {k : NestedKey} : (valK kvs k).isSome = true ↔ k ∈ kvs.map (·.1) := by
  induction kvs with
  | nil => simp [valK]
  | cons x r ih =>
    obtain ⟨k', d⟩ := x
    by_cases e : k' = k
    · simp [valK, e]
    · have i1 : valK ((k', d) :: r) k = valK r k := by simp [valK, e]
      rw [i1, ih, List.map_cons, List.mem_cons]
      exact ⟨.inr, fun z => z.resolve_left fun q => e q.symm⟩
theorem putKD_keys (kvs : List (NestedKey × DV)) (k : NestedKey) (d : DV) : (putKD kvs k d).map (·.1) = if (valK kvs k).isSome = true then kvs.map (·.1) else kvs.map (·.1) ++ [k] := by
  unfold putKD
  by_cases e : (valK kvs k).isSome = true
  · rw [if_pos e, if_pos e, List.map_map]
    refine List.map_congr_left fun x _ => ?_
    show (if x.1 = k then (x.1, d) else x).1 = x.1
    split <;> rfl
  · rw [if_neg e, if_neg e, List.map_append]; rfl
theorem KeysIn.put {U : List NestedKey} {kvs : List (NestedKey × DV)} (h : KeysIn U kvs) {k : NestedKey} {d : DV} (hk : k ∈ U) : KeysIn U (putKD kvs k d) := by
  have e := putKD_keys kvs k d
  by_cases c : (valK kvs k).isSome = true
  · rw [if_pos c] at e
    exact ⟨by rw [e]; exact h.nd, by rw [e]; exact h.sub⟩
  · rw [if_neg c] at e
    refine ⟨?_, fun x hx => ?_⟩
    · rw [e, List.nodup_append]
      refine ⟨h.nd, List.nodup_cons.mpr ⟨List.not_mem_nil, List.nodup_nil⟩, fun a ha b hb => ?_⟩
      rw [List.mem_singleton.mp hb]
      intro z
      exact c (valK_mem.mpr (z ▸ ha))
    · rw [e] at hx
      rcases List.mem_append.mp hx with q | q
      · exact h.sub x q
      · rw [List.mem_singleton.mp q]; exact hk
/-! ### a dict that is known by what always holds of it -/
def aoKI (P : Program) (w : World) (J : List (NestedKey × DV) → Prop) : AO where
  P := fun S a c => ∃ kvs, J kvs ∧ (aoK P w kvs).P S a c
  root := fun ⟨_, _, h⟩ => (aoK _ _ _).root h
  mono := fun e1 e2 ⟨kvs, j, h⟩ => ⟨kvs, j, (aoK _ _ _).mono e1 e2 h⟩
theorem Fit.swap {S : Hp} {A : AH} {H : Hp} (f : Fit S A H) {a : Addr} {ao ao' : AO} (ha : A a = some ao) (h : ∀ c, ao.P S a c → ao'.P S a c) : Fit S (updA A a ao') H := by
  obtain ⟨ow, h1, h2⟩ := f.own
  refine ⟨f.same, ow, h1, fun b o q => ?_⟩
  by_cases e : b = a
  · subst e; rw [updA_same] at q; cases q; exact h _ (h2 b ao ha)
  · rw [updA_ne e] at q; exact h2 b o q
theorem View.swap {A : AH} {a : Addr} {ao ao' : AO} (ha : A a = some ao) (h : ∀ S c, ao.P S a c → ao'.P S a c) : View A (updA A a ao') := fun S _ f => f.swap ha (h S)
theorem View.shutK {A : AH} {a : Addr} {P : Program} {w : World} {J : List (NestedKey × DV) → Prop} {kvs : List (NestedKey × DV)} (ha : A a = some (aoK P w kvs)) (j : J kvs) : View A (updA A a (aoKI P w J)) := View.swap ha fun _ _ h => ⟨kvs, j, h⟩
/-- .. and all is as before -/
theorem View.shutK' {A : AH} {a : Addr} {P : Program} {w : World} {J : List (NestedKey × DV) → Prop} {kvs : List (NestedKey × DV)} (ha : A a = some (aoKI P w J)) (j : J kvs) : View (updA A a (aoK P w kvs)) A := by
  have := View.shutK (A := updA A a (aoK P w kvs)) (J := J) updA_same j
  rwa [updA_updA, updA_self ha] at this
section
variable {g : Gv} {I : CI} {R : Rz} {Γ : Gam} {A : AH} {pos p pos' : Pos} {e o i a b c : Expr} {D : AEnds} {J : List (NestedKey × DV) → Prop} {l : Addr} {sts : List Stmt}
theorem s_openK (hl : A l = some (aoKI g.P g.w J)) (k : ∀ kvs, J kvs → WSs g I R Γ (updA A l (aoK g.P g.w kvs)) sts D) : WSs g I R Γ A sts D := fun X cx S H σ tk he hf => by
  obtain ⟨ow, h1, h2⟩ := hf.own
  obtain ⟨kvs, j, h⟩ := h2 l _ hl
  refine k kvs j X cx S H σ tk he ⟨hf.same, ow, h1, fun b o q => ?_⟩
  by_cases c : b = l
  · subst c; rw [updA_same] at q; cases q; exact h
  · rw [updA_ne c] at q; exact h2 b o q
theorem WE.openK {Q : DV → AH → Prop} (hl : A l = some (aoKI g.P g.w J)) (k : ∀ kvs, J kvs → WE g I R Γ (updA A l (aoK g.P g.w kvs)) e Q) : WE g I R Γ A e Q := fun X cx S H σ tk he hf => by
  obtain ⟨ow, h1, h2⟩ := hf.own
  obtain ⟨kvs, j, h⟩ := h2 l _ hl
  refine k kvs j X cx S H σ tk he ⟨hf.same, ow, h1, fun b o q => ?_⟩
  by_cases c : b = l
  · subst c; rw [updA_same] at q; cases q; exact h
  · rw [updA_ne c] at q; exact h2 b o q
/-- d[key] = e, the dict known by J alone -/
theorem s_kputI (hv : WE g I R Γ A e fun d A' => ∃ l J ks, VE g I Γ A' o (.r l) ∧ A' l = some (aoKI g.P g.w J) ∧ DE g I Γ A' i (NestedKey.tup ks).data ∧ (NestedKey.tup ks).depth ≤ 8 ∧ (∀ kvs, J kvs → kvs.length ≤ 1000000) ∧ ∀ kvs, J kvs → WSs g I R Γ (updA A' l (aoK g.P g.w (putKD kvs (.tup ks) d))) sts D)
    (hs : ∀ env, swapsWith e (some (.Subscript o i pos')) pos.line env = pure false := by intro _; rfl) : WSs g I R Γ A (.Assign [.Subscript o i pos'] e pos :: sts) D := wss_cons (by
  intro X c S H σ tk he hf
  obtain ⟨ea, rfl⟩ := c.eq
  refine (ps_kput c.room.units PE.s PE.s PE.s (hs X.env)).to (hv X c S H σ tk he hf _ fun v d S1 A1 H1 s1 f1 r1 ⟨l, J, ks, ho, hA, hi, hd, hlen, q⟩ => ?_)
  refine ho X c A1 (ExtA.refl A1) S1 H1 σ (he.mono s1) f1 _ fun x S2 H2 s2 f2 r2 => hi X c A1 (ExtA.refl A1) S2 H2 σ (he.mono (s1.trans s2)) f2 _ fun y S3 H3 s3 f3 r3 => ?_
  obtain ⟨kvs, j, f4⟩ : ∃ kvs, J kvs ∧ Fit S3 (updA A1 l (aoK X.prog X.w kvs)) H3 := by
    obtain ⟨ow, h1, h2⟩ := f3.own
    obtain ⟨kvs, j, h⟩ := h2 l _ hA
    refine ⟨kvs, j, f3.same, ow, h1, fun b o q => ?_⟩
    by_cases c : b = l
    · subst c; rw [updA_same] at q; cases q; exact h
    · rw [updA_ne c] at q; exact h2 b o q
  obtain ⟨xs, h1, h2, h3⟩ := f4.dict updA_same
  obtain ⟨b, rfl⟩ := key_ref r3
  refine ⟨l, b, xs, S3, kvs, .tup ks, rfl, r2, h1, f4.same, h3, r3, hd, hlen kvs j, fun u ru => ?_⟩
  have hstep : ∀ c : Hp, (aoK X.prog X.w kvs).P S3 l c → (aoK X.prog X.w (putKD kvs (.tup ks) d)).P S3 l (upd c l (.ext (rawD X.prog X.w l (storedH xs (.tup ks) b u)))) := fun c _ =>
    ⟨storedH xs (.tup ks) b u, upd_same, h2, h3.put hd r3 ru ((r1.mono s2).mono s3)⟩
  have f5 := f4.write updA_same hstep
  rw [updA_updA] at f5
  exact ⟨S3, Γ, _, (s1.trans s2).trans s3, he.mono ((s1.trans s2).trans s3), f5, q kvs j⟩)
/-- a tuple of data made by items with effects -/
theorem we_tupD {es : List Expr} {k : Nat} {Q : DV → AH → Prop} (h : WA g I R Γ A es fun ds A' => ∃ xs : List PyData, ds = xs.map .d ∧ xs.length ≤ 1000 ∧ Q (.d (.tuple xs)) A') : WE g I R Γ A (.Tuple es k pos) Q := by
  intro X c S H σ tk he hf Qv z
  refine (pe_tup PA.s).to (h X c S H σ tk he hf _ fun vs ds S1 A1 H1 s1 f1 r1 ⟨xs, e1, hz, q⟩ => ⟨by rw [r1.length, sizeLine_eq, e1, List.length_map]; omega, fun t ht => ?_⟩)
  subst e1
  obtain ⟨f', s'⟩ := f1.laidS ht (o := .tup vs)
  exact z _ (.d (.tuple xs)) _ A1 _ (s1.trans s') f' (.tup upd_same (r1.rp.mono s')) q
theorem c_ninE {α : Type} [DecidableEq α] {f : α → PyData} {n : Nat} (h : EqE f) (s : ∀ a, Sh n (f a)) (hn : n + 1 ≤ 64) (x : α) (ys : List α) : CmpD g I A .NotIn (.d (f x)) (.d (.list (ys.map f))) (!decide (x ∈ ys)) := by
  have q := c_ninD (g := g) (I := I) (A := A) (x := f x) (ys := ys.map f) ((s x).ok (by omega)) ((Sh.list (.map s)).ok hn)
  have e : ((ys.map f).any fun z => PyData.eqv z (f x)) = decide (x ∈ ys) := by
    rw [List.any_map, Bool.eq_iff_iff, List.any_eq_true, decide_eq_true_eq]
    constructor
    · rintro ⟨y, hy, e⟩
      have e : PyData.eqv (f y) (f x) = true := e
      rw [h, decide_eq_true_eq] at e
      exact e ▸ hy
    · intro hx
      refine ⟨x, hx, ?_⟩
      show PyData.eqv (f x) (f x) = true
      rw [h, decide_eq_true_eq]
  rwa [e] at q
end
/-- for x in range(i0, j): what is known comes behind the turn -/
theorem s_forR2J {g : Gv} {I : CI} {R : Rz} {Γ : Gam} {A : AH} {pos : Pos} {a b : Expr} {D : AEnds} {sts sts2 : List Stmt} {tg : Expr} {i0 j : Int} {p1 p2 : Pos} (G : Gam) (J : Nat → Prop) (hg : GlS I.sc "range") (hm : g.mg "range" = none) (ha : DE g I Γ A a (.int i0)) (hb2 : DE g I Γ A b (.int j)) (hj : j < 2 ^ 62) (hj0 : -(2 ^ 62) ≤ j) (hi : i0 < 2 ^ 62) (hi0 : -(2 ^ 62) ≤ i0) (h0 : LessG G Γ) (J0 : J 0)
    (hb : ∀ (i : Nat), i < (j - i0).toNat → J i → ∃ Γ2, TgD g I tg G (.int (i0 + i)) Γ2 ∧ WSs g I R Γ2 A sts { D with nx := fun Γ3 A3 => J (i + 1) ∧ LessG G Γ3 ∧ A3 = A, ct := fun Γ3 A3 => J (i + 1) ∧ LessG G Γ3 ∧ A3 = A, bk := fun Γ' A' => WSs g I R Γ' A' sts2 D })
    (k : J (j - i0).toNat → WSs g I R G A sts2 D) (hn : nostar a = true := by rfl) (hn2 : nostar b = true := by rfl) (hf : ∀ env x, foldedSetIterable (.Call (.Name "range" p1) [a, b] [] p2) env x = pure x := by intro _ _; rfl) : WSs g I R Γ A (.For tg (.Call (.Name "range" p1) [a, b] [] p2) sts [] pos :: sts2) D := by
  refine wss_cons (ws_for_range2 (fun i Γ1 A1 => LessG G Γ1 ∧ A1 = A ∧ J i) hg hm ha hb2 hj hj0 hi hi0 ⟨h0, rfl, J0⟩ (fun i Γ1 A1 hi ⟨q1, q2, q3⟩ => ?_) (fun Γ1 A1 ⟨q1, q2, q3⟩ => ?_) hn hn2 hf)
  · obtain ⟨Γ2, ht, hw⟩ := hb i hi q3
    refine ⟨Γ2, ht.less q1, ?_⟩
    rw [q2]
    exact hw.imp (fun Γ3 A3 h => ⟨h.2.1, h.2.2, h.1⟩) (fun _ _ h => h) (fun _ _ h => h) (fun Γ3 A3 h => ⟨h.2.1, h.2.2, h.1⟩)
  · rw [q2]
    exact s_less q1 (k q3)
end LB

/-! Layer 23: what leaves nothing behind is worth data; calls whose arguments have effects. -/
namespace LB
open PySem PySem.Spec PyProof.Rows L2
section
variable {g : Gv} {I : CI} {R : Rz} {Γ : Gam} {A : AH} {pos p apos : Pos} {e o a b c : Expr} {es : List Expr} {dv : DV} {Q : DV → AH → Prop} {asp : ASp} {ps : List Str} {lv : Nat} {x m : Str} {C : Addr}
theorem ve_ofW (h : ∀ A1, ExtA A A1 → WE g I (fun _ _ => False) Γ A1 e fun d A' => d = dv ∧ View A' A1) : VE g I Γ A e dv := fun X c A1 ex S H σ he hf Qv k =>
  h A1 ex X c S H σ takes_no he hf _ fun v d S' A' H' s f r ⟨e1, vw⟩ => k v S' H' s (vw _ _ f) (e1 ▸ r)
theorem we_callW (F : Callee g x ps lv asp) (hl : lv ≤ I.k) (hg : GlS I.sc x) (ha : WA g I R Γ A (e :: es) fun ds A1 => ds.length = ps.length ∧ asp ds A1 Q R) (hs : nostar e = true := by rfl) (hss : es.all nostar = true := by rfl) (hd : (x == ("__debug__" : Str)) = false := by decide) : WE g I R Γ A (.Call (.Name x p) (e :: es) [] pos) Q := by
  intro X cx S H σ tk he hf Qv k
  obtain ⟨ea, rfl⟩ := cx.eq
  obtain ⟨f, fd, F, hm, hk, hb⟩ := F.ex
  refine (pe_call F (cx.room.mono hl) (hg.gl cx.sc) hm hk hb .nil tk.pass PA.s hd (star_cons hs es X.env) (star_any pos X.env hss)).to (ha X cx S H σ tk he hf _ fun vs ds S1 A1 H1 s1 f1 r1 ⟨hn, h⟩ => ?_)
  rw [List.append_nil]
  exact toSp_of f1 r1 hn h s1 k
theorem WE.view (h : WE g I R Γ A e (QV Q)) : WE g I R Γ A e Q := fun X c S H σ tk he hf Qv k => h X c S H σ tk he hf _ fun v d S' A' H' s f r ⟨A2, vw, q⟩ => k v d S' A2 H' s (vw _ _ f) r q
/-- {}, known by J alone -/
theorem we_dnewI {J : List (NestedKey × DV) → Prop} (j : J []) (k : ∀ l, A l = none → Q (.r l) (updA A l (aoKI g.P g.w J))) : WE g I R Γ A (.Dict [] [] pos) Q :=
  WE.view (we_dnew fun l hl => ⟨_, View.shutK updA_same j, by rw [updA_updA]; exact k l hl⟩)
end
end LB

/-! Layer 24: a tuple times one. -/
namespace L2
open PySem PySem.Spec PyProof.Rows
theorem tuple_mulW1 (l : Addr) (items : Array Value) (n : Nat) (dd : Option Addr) (sl : Array (Option Value)) (u : Tok) :
    Meets (Builtin.«tuple.__mul__» ⟨[.ref l, .int 1 u], []⟩) (fun _ R s => s.heap.get? l = some { cls := .type "tuple", dict := dd, data := .seq items n, slots := sl } ∧
      R (.ok (.ret (Value.ref l))) s) :=
  .of_wp fun prog w A R s h => by
    obtain ⟨hp, g, d, tk, os⟩ := s
    obtain ⟨hl, h⟩ := h
    have f1 := AutoSeq1.idx_int
    wp_walk using wpAny_loadPart' hl
    repeat (first
      | (refine wpAny_ite_false (decide_eq_false (by decide)) ?_; wp_walk using wpAny_loadPart' hl)
      | (refine wpAny_ite_true (decide_eq_true (by simp)) ?_; wp_walk using wpAny_loadPart' hl))
    exact ⟨_, rfl, h⟩
def rRepT1 (K : PySem.W.Frag) : R2 := fun x y H Q => ∃ l xs, x = .ref l ∧ y = .int 1 ∧ SqT K H l xs ∧ xs ≠ [] ∧ Q (.ref l) H
theorem op_repT1 {X : Cx} : OpR X (binaryOp .Mult) (rRepT1 X.K) := by
  intro pins s σ H x y v u Q I rx ry h
  obtain ⟨l, xs, rfl, rfl, hT, hne, q⟩ := h
  cases rx
  obtain ⟨t, rfl⟩ := ry
  obtain ⟨its, r, ⟨⟨cls, dd, data, sl⟩, ho, hc, n, hd⟩, hs⟩ := I.tuple hT
  simp only at hc hd
  subst hc hd
  refine wpAny_binaryOp_repeat_ref (T := "tuple") (U := "int") (by decide) ⟨_, ho, rfl⟩ (fun s' => typeIs_int s' 1 t) noFill_tuple_mul F.fills_int_mul F.slot_int_rmul repeat_tuple F.slot_int_index.lookup
    (call_meets F.slot_int_rmul (typeIs_int s 1 t) F.entry_int_rmul (F.args_int_rmul_2 _ _) (int_rmul_tuple 1 t l its.toArray n dd sl)
      ⟨ho, rfl, ⟨_, ho, rfl⟩, call_meets F.slot_tuple_mul ⟨_, ho, rfl⟩ F.entry_tuple_mul (F.args_tuple_mul_2 _ _) (tuple_mulW1 l its.toArray n dd sl t) ⟨ho, ?_⟩⟩)
  exact ⟨.ref l, H, I.kept fun _ _ z => z, rfl, q⟩
end L2
namespace LB
open PySem PySem.Spec PyProof.Rows L2
section
variable {g : Gv} {I : CI} {Γ : Gam} {A : AH} {pos : Pos} {a b : Expr} {i : Int}
theorem de_repT1 {xs : List PyData} (ha : DE g I Γ A a (.tuple xs)) (hb : DE g I Γ A b (.int 1)) (hne : xs ≠ []) : DE g I Γ A (.BinOp a .Mult b pos) (.tuple xs) :=
  ve_op (fun _ _ => op_repT1) (fun X c A1 ex S H v u f r1 r2 Q k => by
    obtain ⟨l, ws, rfl, e1, e2⟩ := Rp.tup_of r1
    exact ⟨l, ws, rfl, Rp.int_of r2, .of (f.same _ _ e1), (fun z => by subst z; cases e2; exact hne rfl), k _ _ _ (Same.refl S) f r1⟩) ha hb
/-- (x,) * n, n at least 1 -/
theorem de_repTn {xs : List PyData} (ha : DE g I Γ A a (.tuple xs)) (hb : DE g I Γ A b (.int i)) (h1 : 1 ≤ i) (h2 : i ≤ 1000) (hne : xs ≠ []) (hz : xs.length ≤ 1000) : DE g I Γ A (.BinOp a .Mult b pos) (.tuple (List.replicate i.toNat xs).flatten) := by
  by_cases h : i = 1
  · subst h
    refine DE.eq (de_repT1 ha hb hne) ?_
    show PyData.tuple xs = .tuple (xs ++ [])
    rw [List.append_nil]
  · exact de_repT ha hb (by omega) h2 hne hz
end
end LB

/-! Layer 31: a tuple times none. -/
namespace L2
open PySem PySem.Spec PyProof.Rows
theorem tuple_mulW0 (l : Addr) (items : Array Value) (n : Nat) (dd : Option Addr) (sl : Array (Option Value)) (u : Tok) (c1 : (items.isEmpty || (0 : Int) == 1) = false) (c2 : (decide ((0 : Int) ≤ 0) || items.isEmpty) = true) :
    Meets (Builtin.«tuple.__mul__» ⟨[.ref l, .int 0 u], []⟩) (fun _ R s => s.heap.get? l = some { cls := .type "tuple", dict := dd, data := .seq items n, slots := sl } ∧
      R (.ok (.ret (Value.ref s.heap.objs.size))) { s with heap := s.heap.push { cls := Value.type "tuple", data := Data.seq #[] }, toks := s.toks }) :=
  .of_wp fun prog w A R s h => by
    obtain ⟨hp, g, d, tk, os⟩ := s
    obtain ⟨hl, h⟩ := h
    have f1 := AutoSeq1.idx_int
    wp_walk using wpAny_loadPart' hl
    repeat (first
      | (refine wpAny_ite_false (decide_eq_false (by decide)) ?_; wp_walk using wpAny_loadPart' hl)
      | (refine wpAny_ite_false (decide_eq_false (by rw [c1]; exact Bool.false_ne_true)) ?_; wp_walk using wpAny_loadPart' hl)
      | (refine wpAny_ite_true (decide_eq_true c2) ?_; wp_walk using wpAny_loadPart' hl))
    exact ⟨_, rfl, h⟩
def rRepT0 (K : PySem.W.Frag) : R2 := fun x y H Q => ∃ l xs, x = .ref l ∧ y = .int 0 ∧ SqT K H l xs ∧ xs ≠ [] ∧ ∀ p, H p = none → Q (.ref p) (upd H p (.tup []))
theorem op_repT0 {X : Cx} : OpR X (binaryOp .Mult) (rRepT0 X.K) := by
  intro pins s σ H x y v u Q I rx ry h
  obtain ⟨l, xs, rfl, rfl, hT, hne, q⟩ := h
  cases rx
  obtain ⟨t, rfl⟩ := ry
  obtain ⟨its, r, ⟨⟨cls, dd, data, sl⟩, ho, hc, n, hd⟩, hs⟩ := I.tuple hT
  simp only at hc hd
  subst hc hd
  have hle : its.length = xs.length := r.length.symm
  have hi : its.toArray.isEmpty = false := by
    cases its with
    | nil => exact absurd (List.eq_nil_of_length_eq_zero hle.symm) hne
    | cons a b => rfl
  refine wpAny_binaryOp_repeat_ref (T := "tuple") (U := "int") (by decide) ⟨_, ho, rfl⟩ (fun s' => typeIs_int s' 0 t) noFill_tuple_mul F.fills_int_mul F.slot_int_rmul repeat_tuple F.slot_int_index.lookup
    (call_meets F.slot_int_rmul (typeIs_int s 0 t) F.entry_int_rmul (F.args_int_rmul_2 _ _) (int_rmul_tuple 0 t l its.toArray n dd sl)
      ⟨ho, rfl, ⟨_, ho, rfl⟩, call_meets F.slot_tuple_mul ⟨_, ho, rfl⟩ F.entry_tuple_mul (F.args_tuple_mul_2 _ _) (tuple_mulW0 l its.toArray n dd sl t (by rw [hi]; rfl) (by rw [hi]; rfl)) ⟨ho, ?_⟩⟩)
  refine ⟨.ref s.heap.objs.size, _, I.laid (t' := s.toks) (o := .tup []) (fun b ob q => Heap.get?_push_of_some _ q) (Nat.le_refl _) ?_, rfl, q _ (I.hok.fresh (Nat.le_refl _))⟩
  exact ⟨by rw [sizeLine_eq]; decide, _, .nil, IsTup.new _ _⟩
end L2
namespace LB
open PySem PySem.Spec PyProof.Rows L2
section
variable {g : Gv} {I : CI} {Γ : Gam} {A : AH} {pos : Pos} {a b : Expr} {i : Int}
theorem de_repT0 {xs : List PyData} (ha : DE g I Γ A a (.tuple xs)) (hb : DE g I Γ A b (.int 0)) (hne : xs ≠ []) : DE g I Γ A (.BinOp a .Mult b pos) (.tuple []) :=
  ve_op (fun _ _ => op_repT0) (fun X c A1 ex S H v u f r1 r2 Q k => by
    obtain ⟨l, ws, rfl, e1, e2⟩ := Rp.tup_of r1
    refine ⟨l, ws, rfl, Rp.int_of r2, .of (f.same _ _ e1), (fun z => by subst z; cases e2; exact hne rfl), fun t ht => ?_⟩
    obtain ⟨f', s'⟩ := f.laidS ht (o := .tup [])
    exact k _ _ _ s' f' (.tup upd_same .nil)) ha hb
/-- (x,) * n, n none or more -/
theorem de_repTz {xs : List PyData} (ha : DE g I Γ A a (.tuple xs)) (hb : DE g I Γ A b (.int i)) (h1 : 0 ≤ i) (h2 : i ≤ 1000) (hne : xs ≠ []) (hz : xs.length ≤ 1000) : DE g I Γ A (.BinOp a .Mult b pos) (.tuple (List.replicate i.toNat xs).flatten) := by
  by_cases h : i = 0
  · subst h; exact de_repT0 ha hb hne
  · exact de_repTn ha hb (by omega) h2 hne hz
end
end LB

/-! Layer 32: texts: slices, signs within, str of a number, int of a text, join, for over a text. -/
namespace L2
open PySem PySem.Spec PyProof.Rows
/-- no sign in a text: within any -/
theorem op_in_none {X : Cx} : OpR X (compareOp .In) (fun x y H Q => ∃ (z : Str), x = .str ⟨#[]⟩ ∧ y = .str z ∧ Q (.bl true) H) := by
  intro pins s σ H x y v u Q I rx ry h
  obtain ⟨z, rfl, rfl, q⟩ := h
  obtain ⟨t, rfl⟩ := rx
  obtain ⟨t', rfl⟩ := ry
  refine PyProof.Rows.in_str (fin_bl I q ?_)
  refine ((PySem.StrLaws.found_iff z ⟨#[]⟩).mpr ⟨0, Nat.zero_le _, ?_⟩).symm
  rw [PySem.StrLaws.subAt_eq]; rfl
end L2
namespace LB
open PySem PySem.Spec PyProof.Rows L2 TL
def mkS (l : List Nat) : Str := ⟨l.toArray⟩
def stD (l : List Nat) : PyData := .str (mkS l)
theorem mkS_len (l : List Nat) : (mkS l).length = l.length := List.size_toArray ..
theorem mkS_tl (l : List Nat) : (mkS l).cps.toList = l := rfl
theorem mkS_inj {a b : List Nat} (h : mkS a = mkS b) : a = b := by
  have := congrArg (fun s : Str => s.cps.toList) h
  exact this
theorem mkS_of (s : Str) : s = mkS s.cps.toList := by cases s; rfl
theorem mkS_app (a b : List Nat) : mkS a ++ mkS b = mkS (a ++ b) := by
  rw [mkS_of (mkS a ++ mkS b)]
  show mkS (tl (mkS a ++ mkS b)) = _
  rw [tl_append]; rfl
theorem cutS_mk (l : List Nat) (lo hi : Option Int) : cutS (mkS l) lo hi = mkS (cutD l lo hi) := by
  unfold cutS cutD
  rw [mkS_len]; rfl
section
variable {g : Gv} {I : CI} {R : Rz} {Γ : Gam} {A : AH} {pos p p2 apos : Pos} {e a b o : Expr} {D : AEnds} {sts sts2 : List Stmt} {lo hi : Option Expr} {ol oh : Option Int}
theorem de_sliceS {l : List Nat} (ha : DE g I Γ A a (stD l)) (hl : VO g I Γ A lo ol) (hh : VO g I Γ A hi oh) (hz : l.length ≤ 16777216) : DE g I Γ A (.Subscript a (.Slice lo hi none p2) pos) (stD (cutD l ol oh)) := by
  intro X c A1 ex S H σ he hf Q k
  obtain ⟨tl, pl, hl⟩ := hl X c A1 ex
  obtain ⟨th, ph, hh⟩ := hh X c A1 ex
  refine (pe_slice sl_str PE.s pl ph).to (ha X c A1 ex S H σ he hf _ fun v S1 H1 s1 f1 r1 => hl S1 H1 σ (he.mono s1) f1 _ fun S2 H2 s2 f2 => hh S2 H2 σ (he.mono (s1.trans s2)) f2 _ fun S3 H3 s3 f3 => ?_)
  refine ⟨mkS l, Rp.str_of r1, by rw [mkS_len, sizeLine_eq]; exact hz, ?_⟩
  rw [cutS_mk]
  exact k _ S3 H3 ((s1.trans s2).trans s3) f3 (.str _)
theorem c_inS1 {c : Nat} {z : List Nat} : CmpD g I A .In (.d (stD [c])) (.d (stD z)) (decide (c ∈ z)) := ⟨⟨_, fun _ _ => op_in_sign, fun X _ A1 ex S H v u f r1 r2 Q q => by
  have e1 := Rp.str_of r1
  have e2 := Rp.str_of r2
  exact ⟨c, mkS z, e1, e2, q⟩⟩, fun _ => .inr (.inl rfl)⟩
theorem c_inS0 {z : List Nat} : CmpD g I A .In (.d (stD [])) (.d (stD z)) true := ⟨⟨_, fun _ _ => op_in_none, fun X _ A1 ex S H v u f r1 r2 Q q => by
  have e1 := Rp.str_of r1
  have e2 := Rp.str_of r2
  exact ⟨mkS z, e1, e2, q⟩⟩, fun _ => .inr (.inl rfl)⟩
theorem c_eqSt {x y : List Nat} : CmpD g I A .Eq (.d (stD x)) (.d (stD y)) (decide (x = y)) := by
  have h := c_eqS (g := g) (I := I) (A := A) (x := mkS x) (y := mkS y)
  rwa [show decide (mkS x = mkS y) = decide (x = y) by rw [Bool.eq_iff_iff, decide_eq_true_eq, decide_eq_true_eq]; exact ⟨mkS_inj, fun h => by rw [h]⟩] at h
theorem c_neSt {x y : List Nat} : CmpD g I A .NotEq (.d (stD x)) (.d (stD y)) (!decide (x = y)) := by
  have h := c_neS (g := g) (I := I) (A := A) (x := mkS x) (y := mkS y)
  rwa [show decide (mkS x = mkS y) = decide (x = y) by rw [Bool.eq_iff_iff, decide_eq_true_eq, decide_eq_true_eq]; exact ⟨mkS_inj, fun h => by rw [h]⟩] at h
theorem inV_strs {x : Str} : ∀ ys : List Str, inV (.str x) (ys.map V.str) = decide (x ∈ ys)
  | [] => rfl
  | y :: ys => by
    have ih := inV_strs (x := x) ys
    unfold inV at ih ⊢
    rw [List.map_cons, List.any_cons, ih]
    have e : eqV (V.str y) (V.str x) = (y == x) := rfl
    rw [e, Bool.beq_eq_decide_eq]
    by_cases q : y = x
    · subst q; simp
    · have q' : ¬ x = y := fun z => q z.symm
      simp [q, q']
theorem flat_strs : ∀ ys : List Str, (ys.map V.str).all flatV = true
  | [] => rfl
  | y :: ys => by rw [List.map_cons, List.all_cons, flat_strs ys]; rfl
/-- a text in a tuple of texts -/
theorem c_inTS {x : List Nat} {ys : List (List Nat)} : CmpD g I A .In (.d (stD x)) (.d (.tuple (ys.map stD))) (decide (x ∈ ys)) := ⟨⟨_, fun _ _ => op_in_seq, fun X c A1 ex S H v u f r1 r2 Q q => by
  obtain ⟨l, vs, rfl, h1, q1⟩ := Rp.tup_of r2
  have e : ys.map stD = (ys.map mkS).map PyData.str := by rw [List.map_map]; rfl
  rw [e] at q1
  obtain rfl := q1.strs
  have e1 := Rp.str_of r1
  subst e1
  refine ⟨l, _, rfl, .inr (.of (f.same _ _ h1)), rfl, flat_strs _, ?_⟩
  have e2 : inV (.str (mkS x)) ((ys.map mkS).map V.str) = decide (x ∈ ys) := by
    rw [inV_strs, Bool.eq_iff_iff, decide_eq_true_eq, decide_eq_true_eq, List.mem_map]
    exact ⟨fun ⟨y, hy, e⟩ => by rw [← mkS_inj e]; exact hy, fun h => ⟨x, h, rfl⟩⟩
  show Q (.bl (if false = true then !inV (.str (mkS x)) ((ys.map mkS).map V.str) else inV (.str (mkS x)) ((ys.map mkS).map V.str))) H
  rw [if_neg (by decide), e2]
  exact q⟩, fun _ => .inr (.inl rfl)⟩
theorem de_addSt {x y : List Nat} (ha : DE g I Γ A a (stD x)) (hb : DE g I Γ A b (stD y)) (hz : x.length + y.length ≤ 16777216) : DE g I Γ A (.BinOp a .Add b pos) (stD (x ++ y)) :=
  DE.eq (de_addS ha hb (by rw [mkS_len, mkS_len, sizeLine_eq]; exact hz)) (by rw [mkS_app]; rfl)
theorem de_lenSt {x : List Nat} (h : DE g I Γ A e (stD x)) (hz : x.length ≤ 16777216) (hg : GlS I.sc "len") (hm : g.mg "len" = none) (hn : nostar e = true := by rfl) : DE g I Γ A (.Call (.Name "len" p) [e] [] pos) (.int x.length) :=
  DE.eq (de_lenS h (by rw [mkS_len, sizeLine_eq]; exact hz) hg hm hn) (by rw [mkS_len])
theorem de_ixSt {x : List Nat} {i : Int} (ha : DE g I Γ A a (stD x)) (hb : DE g I Γ A b (.int i)) (hz : x.length ≤ 16777216) (h0 : 0 ≤ i) (h1 : i < x.length) (hs : PlainIx b := by intro _ _; rfl) : DE g I Γ A (.Subscript a b pos) (stD [nth x i]) :=
  de_ixS ha hb (by rw [mkS_len, sizeLine_eq]; exact hz) (atI_nth (xs := x) h0 h1) hs
/-- str(n) -/
theorem de_strN {n : Int} (ha : DE g I Γ A a (.int n)) (h0 : 0 ≤ n) (h1 : n ≤ 1000000) (hg : GlS I.sc "str") (hm : g.mg "str" = none) (hn : nostar a = true := by rfl) : DE g I Γ A (.Call (.Name "str" p) [a] [] pos) (stD (numL n.toNat)) :=
  ve_callTy (fun X c => call_str_int) (fun X cx A1 ex S H vs f rr Q z => by
    obtain ⟨v, rfl, r1⟩ := rr.one
    refine ⟨n, by rw [Rp.int_of r1], ?_, ?_⟩
    · have : n.natAbs < 2 ^ 1920 := Nat.lt_of_le_of_lt (show n.natAbs ≤ 2 ^ 20 by omega) (Nat.pow_lt_pow_right (by decide) (by decide))
      by_cases h : n.natAbs = 0
      · rw [h]; decide
      · exact (Nat.log2_lt h).mpr this
    · have e : (Str.ofString (toString n)) = mkS (numL n.toNat) := by
        have := tl_num n.toNat
        rw [show ((n.toNat : Nat) : Int) = n by omega] at this
        rw [mkS_of (Str.ofString (toString n))]
        show mkS (tl _) = _
        rw [this]
      have q := z (.str (mkS (numL n.toNat))) S H (Same.refl S) f (.str _)
      rw [← e] at q
      exact q) hg hm boot_str' (va_cons ha va_nil hn) hn rfl (by decide) (by decide)
/-- int(text) of figures -/
theorem de_intSt {w : List Nat} (ha : DE g I Γ A a (stD w)) (hd : NumText.AllDigits w) (hne : w ≠ []) (hl : w.length ≤ 640) (hg : GlS I.sc "int") (hm : g.mg "int" = none) (hn : nostar a = true := by rfl) : DE g I Γ A (.Call (.Name "int" p) [a] [] pos) (.int (NumText.digitsVal w : Nat)) :=
  ve_callTy (fun X c => call_int_str) (fun X cx A1 ex S H vs f rr Q z => by
    obtain ⟨v, rfl, r1⟩ := rr.one
    refine ⟨mkS w, _, by rw [Rp.str_of r1], intText_digits (x := mkS w) hd hne (by rw [mkS_len]; omega), by rw [mkS_len]; exact hl, z _ S H (Same.refl S) f (.int _)⟩) hg hm boot_int' (va_cons ha va_nil hn) hn rfl (by decide) (by decide)
/-- sep.join(texts) -/
theorem de_joinSt {sep : List Nat} {ys : List (List Nat)} (ho : DE g I Γ A o (stD sep)) (ha : DE g I Γ A e (.list (ys.map stD))) (hz : (ys.map List.length).sum + ys.length * sep.length ≤ 16777216) (hs : ∀ env, starEach [e] env = [(false, eval e env)] := by intro _; rfl) (hb : ∀ env, attributeBase o "join" env (eval o env) = eval o env := by intro _; rfl) (hln : (apos.endLine == pos.line) = true := by rfl) : DE g I Γ A (.Call (.Attribute o "join" apos) [e] [] pos) (stD (joinL sep ys)) := by
  intro X cx A1 ex S H σ he hf Q k
  refine (pe_join PE.s PE.s (hs X.env) (hb X.env) hln).to (ho X cx A1 ex S H σ he hf _ fun v S1 H1 s1 f1 r1 => ⟨⟨mkS sep, Rp.str_of r1⟩, ha X cx A1 ex S1 H1 σ (he.mono s1) f1 _ fun u S2 H2 s2 f2 r2 => ?_⟩)
  obtain ⟨l, vs, rfl, h1, h2⟩ := Rp.lst_of r2
  have e2 : ys.map stD = (ys.map mkS).map PyData.str := by rw [List.map_map]; rfl
  rw [e2] at h2
  obtain rfl := h2.strs
  refine ⟨mkS sep, l, ys.map mkS, Rp.str_of r1, rfl, .inl (.of (f2.same _ _ h1)), ?_, ?_⟩
  · rw [List.map_map, List.length_map, mkS_len]
    rw [show ys.map ((fun x : Str => x.length) ∘ mkS) = ys.map List.length from List.map_congr_left fun x _ => mkS_len x]
    exact hz
  · have e3 : Txt.join (mkS sep) (ys.map mkS) = mkS (joinL sep ys) := by
      rw [join_eq, mkS_of (Str.join _ _)]
      show mkS (tl _) = _
      rw [tl_join, List.map_map]
      rw [show ys.map (tl ∘ mkS) = ys by rw [show tl ∘ mkS = id from rfl, List.map_id]]
      rfl
    rw [e3]
    exact k _ S2 H2 (s1.trans s2) f2 (.str _)
end
end LB

/-! Layer 33: for over a text; the last of an owned list set. -/
namespace LB
open PySem PySem.Spec PyProof.Rows L2 TL
section
variable {g : Gv} {I : CI} {R : Rz} {Γ : Gam} {A : AH} {pos p : Pos} {e a b o : Expr} {D : AEnds} {sts sts2 : List Stmt} {T : Type}
theorem ws_forSt {tg : Expr} {l : List Nat} (P : Nat → Gam → AH → Prop) (ha : DE g I Γ A a (stD l)) (h0 : P 0 Γ A)
    (hs : ∀ (i : Nat) c Γ1 A1, l[i]? = some c → P i Γ1 A1 → ∃ Γ2, TgD g I tg Γ1 (stD [c]) Γ2 ∧ WSs g I R Γ2 A1 sts { D with nx := P (i + 1), ct := P (i + 1), bk := D.nx }) (hd : ∀ Γ1 A1, P l.length Γ1 A1 → D.nx Γ1 A1)
    (hf : ∀ env x, foldedSetIterable a env x = pure x := by intro _ _; rfl) : WS g I R Γ A (.For tg a sts [] pos) D := fun X cx S H σ tk he hfit => by
  refine (ps_for cx.po cx.calm (pi_str PE.s) PG.s PSs.s (hf X.env)).to (ha X cx A (ExtA.refl A) S H σ he hfit _ fun v S1 H1 s1 f1 r1 => ?_)
  refine ⟨mkS l, Rp.str_of r1, for_it walk_str (g := sG X tg) (tb := sSs X sts) (D := endsOf S D) (fun i σ' H' => ∃ S' Γ' A', Same S S' ∧ EnvOk S' Γ' σ' ∧ Fit S' A' H' ∧ P i Γ' A') ⟨S1, Γ, A, s1, he.mono s1, f1, h0⟩ (fun _ _ _ _ _ => trivial) (fun i x σ2 H2 H3 hi w y => ?_) (fun σ2 H2 w => ?_)⟩
  · obtain ⟨rfl, c, hc, rfl⟩ := y
    have hc : l[i]? = some c := by
      have h : l.toArray[i]? = some c := hc
      rw [List.getElem?_toArray] at h
      exact h
    obtain ⟨S2, Γ2, A2, s2, he2, f2, q2⟩ := w
    obtain ⟨Γ3, ht, hb⟩ := hs i c Γ2 A2 hc q2
    obtain ⟨t, pg, hq⟩ := ht X cx
    refine pg.to (hq S2 A2 _ σ2 _ he2 f2 (.str _) _ fun σ3 he3 => ?_)
    exact (hb X cx S2 _ σ3 (tk.mono s2) he3 f2).imp (fun _ _ ⟨S', Γ', A', s, x, f, q⟩ => ⟨S', Γ', A', s2.trans s, x, f, q⟩) (fun _ _ ⟨S', dv, A', s, x, f, q⟩ => ⟨S', dv, A', s2.trans s, x, f, q⟩) (fun _ _ ⟨S', Γ', A', s, x, f, q⟩ => ⟨S', Γ', A', s2.trans s, x, f, q⟩) (fun _ _ ⟨S', Γ', A', s, x, f, q⟩ => ⟨S', Γ', A', s2.trans s, x, f, q⟩)
  · obtain ⟨S2, Γ2, A2, s2, he2, f2, q2⟩ := w
    have e : (mkS l).cps.size = l.length := mkS_len l
    rw [e] at q2
    exact ⟨S2, Γ2, A2, s2, he2, f2, hd _ _ q2⟩
/-- for over a text: the state by its signs so far -/
theorem s_forSt {tg : Expr} {l : List Nat} (G : T → Gam) (AA : T → AH) (step : T → Nat → T) (J : Nat → T → Prop) (s0 : T) (ha : DE g I Γ A a (stD l)) (h0 : LessG (G s0) Γ) (hA : A = AA s0) (J0 : J 0 s0)
    (hb : ∀ (i : Nat) c s, l[i]? = some c → J i s → ∃ Γ2, TgD g I tg (G s) (stD [c]) Γ2 ∧ WSs g I R Γ2 (AA s) sts { D with nx := fun Γ3 A3 => J (i + 1) (step s c) ∧ LessG (G (step s c)) Γ3 ∧ A3 = AA (step s c), ct := fun Γ3 A3 => J (i + 1) (step s c) ∧ LessG (G (step s c)) Γ3 ∧ A3 = AA (step s c), bk := fun Γ' A' => WSs g I R Γ' A' sts2 D })
    (k : J l.length (l.foldl step s0) → WSs g I R (G (l.foldl step s0)) (AA (l.foldl step s0)) sts2 D) (hf : ∀ env x, foldedSetIterable a env x = pure x := by intro _ _; rfl) : WSs g I R Γ A (.For tg a sts [] pos :: sts2) D := by
  refine wss_cons (ws_forSt (l := l) (fun i Γ1 A1 => LessG (G ((l.take i).foldl step s0)) Γ1 ∧ A1 = AA ((l.take i).foldl step s0) ∧ J i ((l.take i).foldl step s0)) ha ⟨h0, hA, J0⟩ (fun i c Γ1 A1 hi ⟨q1, q2, q3⟩ => ?_) (fun Γ1 A1 ⟨q1, q2, q3⟩ => ?_) hf)
  · obtain ⟨Γ2, ht, hw⟩ := hb i c _ hi q3
    refine ⟨Γ2, ht.less q1, ?_⟩
    have e : (l.take (i + 1)).foldl step s0 = step ((l.take i).foldl step s0) c := by
      rw [List.take_succ, hi, List.foldl_append]; rfl
    rw [q2, e]
    exact hw.imp (fun Γ3 A3 h => ⟨h.2.1, h.2.2, h.1⟩) (fun _ _ h => h) (fun _ _ h => h) (fun Γ3 A3 h => ⟨h.2.1, h.2.2, h.1⟩)
  · rw [List.take_length] at q1 q2 q3
    rw [q2]
    exact s_less q1 (k q3)
/-- xs[-1] = d -/
theorem s_sixL {l : Addr} {xs : List PyData} {d : PyData} {p2 : Pos} (hv : DE g I Γ A e d) (ho : VE g I Γ A o (.r l)) (hA : A l = some (oL xs)) (hi : DE g I Γ A b (.int (-1))) (hne : xs ≠ []) (h : WSs g I R Γ (updA A l (oL (xs.dropLast ++ [d]))) sts D)
    (ha : ∀ env v, assign (.Subscript o b p2) env v = (do
      let ov ← holding [v] (eval o env)
      let iv ← holding [v, ov] (eval b env)
      standAt p2
      holding [v, ov, iv] (setItem ov iv v)
      release [v, ov, iv] []) := by intro _ _; rfl) (hs : ∀ env, swapsWithSole [.Subscript o b p2] e pos.line env = pure false := by intro _; rfl) (hw : ∀ env, swappedStores [.Subscript o b p2] e env = pure none := by intro _; rfl)
    (hx : ∀ env, (assignEach [.Subscript o b p2] env).map (·.2) = [assign (.Subscript o b p2) env] := by intro _; rfl) : WSs g I R Γ A (.Assign [.Subscript o b p2] e pos :: sts) D := by
  have hl : 0 < xs.length := List.length_pos_iff.mpr hne
  have e1 : xs.set (xs.length - 1) d = xs.dropLast ++ [d] := by
    obtain ⟨ys, y, rfl⟩ : ∃ ys y, xs = ys ++ [y] := ⟨xs.dropLast, xs.getLast hne, (List.dropLast_concat_getLast hne).symm⟩
    rw [List.dropLast_concat, List.length_append, List.length_singleton, Nat.add_sub_cancel, List.set_append_right _ _ (Nat.le_refl _), Nat.sub_self]; rfl
  exact wss_cons (ws_setIx (j := xs.length - 1) hv ho hA hi (by rw [List.length_map]; unfold ixN; rw [if_neg (by decide)]; first | (rw [if_pos (by omega)]; congr 1; omega) | (simp; omega)) (by rw [show (xs.map DV.d).set (xs.length - 1) (.d d) = (xs.set (xs.length - 1) d).map .d from (List.map_set ..).symm, e1]; exact h) ha hs hw hx)
end
end LB

/-! Layer 25: sorted(xs), xs a list of pairs of a whole number and a tuple of such. -/
namespace LB
open PySem PySem.Spec PyProof.Rows L2
theorem lexLt_asym : ∀ {x y : List Int}, lexLt x y = true → lexLt y x = false
  | [], [], h => by cases h
  | [], _ :: _, _ => rfl
  | _ :: _, [], h => by cases h
  | a :: x, b :: y, h => by
    unfold lexLt at h ⊢
    by_cases e : a = b
    · rw [if_pos e] at h; rw [if_pos e.symm]; exact lexLt_asym h
    · rw [if_neg e] at h; rw [if_neg (Ne.symm e)]
      have := of_decide_eq_true h
      exact decide_eq_false (by omega)
theorem lexLt_tr : ∀ {x y z : List Int}, lexLt y x = false → lexLt z y = false → lexLt z x = false
  | [], _, [], _, _ => rfl
  | [], [], _ :: _, _, _ => rfl
  | [], _ :: _, _ :: _, _, _ => rfl
  | _ :: _, [], _, h, _ => by cases h
  | _ :: _, _ :: _, [], _, h => by cases h
  | a :: x, b :: y, c :: z, h1, h2 => by
    unfold lexLt at h1 h2 ⊢
    by_cases e1 : b = a
    · rw [if_pos e1] at h1
      by_cases e2 : c = b
      · rw [if_pos e2] at h2
        rw [if_pos (e2.trans e1)]
        exact lexLt_tr h1 h2
      · rw [if_neg e2] at h2
        have := of_decide_eq_false h2
        rw [if_neg (by omega)]
        exact decide_eq_false (by omega)
    · rw [if_neg e1] at h1
      have h1 := of_decide_eq_false h1
      by_cases e2 : c = b
      · rw [if_neg (by omega)]
        exact decide_eq_false (by omega)
      · rw [if_neg e2] at h2
        have := of_decide_eq_false h2
        rw [if_neg (by omega)]
        exact decide_eq_false (by omega)
theorem lexLt_anti : ∀ {x y : List Int}, lexLt x y = false → lexLt y x = false → x = y
  | [], [], _, _ => rfl
  | [], _ :: _, h, _ => by cases h
  | _ :: _, [], _, h => by cases h
  | a :: x, b :: y, h1, h2 => by
    unfold lexLt at h1 h2
    by_cases e : a = b
    · rw [if_pos e] at h1; rw [if_pos e.symm] at h2
      rw [e, lexLt_anti h1 h2]
    · rw [if_neg e] at h1; rw [if_neg (Ne.symm e)] at h2
      have := of_decide_eq_false h1
      have := of_decide_eq_false h2
      omega
theorem swo_lexLt {α : Type} (k : α → List Int) : SrtO.Swo fun v u => lexLt (k v) (k u) := ⟨fun _ _ h => lexLt_asym h, fun _ _ _ h1 h2 => lexLt_tr h1 h2⟩
/-! the comparison of two such pairs -/
def IsPT (h : Heap) (v : Value) (l : List Int) : Prop := ∃ (x : Int) (ns : List Int) (a : Addr) (o : Obj) (t : Tok) (b : Addr) (n : Nat) (its : List Value), l = x :: ns ∧ v = .ref a ∧ h.get? a = some o ∧ o.cls = .type "tuple" ∧ o.data = .seq #[.int x t, .ref b] n ∧ IsTup h b its.toArray ∧ IntsAre its ns
theorem IsPT.keeps {h h' : Heap} {v : Value} {l : List Int} (p : IsPT h v l) (k : ∀ b o, h.get? b = some o → o.cls = .type "tuple" → h'.get? b = some o) : IsPT h' v l := by
  obtain ⟨x, ns, a, o, t, b, n, its, e0, e, ho, hc, hd, ⟨o2, ho2, hc2, n2, hd2⟩, hi⟩ := p
  exact ⟨x, ns, a, o, t, b, n, its, e0, e, k _ _ ho hc, hc, hd, ⟨o2, k _ _ ho2 hc2, hc2, n2, hd2⟩, hi⟩
theorem nested_ints {h : Heap} : ∀ {its : List Value} {ns : List Int}, IntsAre its ns → NestedAll h (ns.map NestedKey.num) its
  | _, _, .nil => .nil
  | _, _, .cons n t r => .cons (.int n t) (nested_ints r)
theorem depth_ints : ∀ ns : List Int, NestedKey.depthAll (ns.map NestedKey.num) = 0
  | [] => rfl
  | n :: ns => by show max 0 (NestedKey.depthAll (ns.map NestedKey.num)) = 0; rw [depth_ints ns]; rfl
theorem num_inj : ∀ {ns ms : List Int}, ns.map NestedKey.num = ms.map NestedKey.num → ns = ms
  | [], [], _ => rfl
  | [], _ :: _, h => by cases h
  | _ :: _, [], h => by cases h
  | x :: s, y :: t, h => by
    rw [List.map_cons, List.map_cons] at h
    have h1 := List.cons.inj h
    rw [NestedKey.num.inj h1.1, num_inj h1.2]
theorem beq_ints (ns ms : List Int) : NestedKey.beq (.tup (ns.map NestedKey.num)) (.tup (ms.map NestedKey.num)) = decide (ns = ms) := by
  rw [Bool.eq_iff_iff, decide_eq_true_eq]
  exact ⟨fun h => num_inj (NestedKey.tup.inj (NestedKey.eq_of_beq _ _ h)), fun h => by rw [h]; exact NestedKey.beq_self _⟩
theorem eq_tups {A : Around} {s : Shared} {b b' : Addr} {is js : List Value} {ns ms : List Int} (hu : A.units + 8 < cLine) (t1 : IsTup s.heap b is.toArray) (t2 : IsTup s.heap b' js.toArray) (h1 : IntsAre is ns) (h2 : IntsAre js ms) : SeqAt.EqAt A s (.ref b) (.ref b') (decide (ns = ms)) := by
  obtain ⟨o, ho, hc, n, hd⟩ := t1
  obtain ⟨o2, ho2, hc2, n2, hd2⟩ := t2
  rw [← beq_ints]
  refine eqAt_key _ _ A s _ _ (.tup ho hc hd (by rw [List.toList_toArray]; exact nested_ints h1)) (.tup ho2 hc2 hd2 (by rw [List.toList_toArray]; exact nested_ints h2)) ?_
  simp only [NestedKey.depth, depth_ints]
  omega
theorem lt_tups {A : Around} {s : Shared} {b b' : Addr} {is js : List Value} {ns ms : List Int} (hu : A.units + 8 < cLine) (t1 : IsTup s.heap b is.toArray) (t2 : IsTup s.heap b' js.toArray) (m1 : IntsAre is ns) (m2 : IntsAre js ms) : Ob.RcOp .Lt A s (.ref b) (.ref b') (lexLt ns ms) := by
  have k1 : is.toArray.size = ns.length := by rw [List.size_toArray]; exact m1.length
  have k2 : js.toArray.size = ms.length := by rw [List.size_toArray]; exact m2.length
  have p1 : ∀ j (_ : j < is.toArray.size), ∃ t, is.toArray[j] = .int (ns.getD j 0) t := fun j hj => IntsAre.int_at m1 _ _ (by simp at hj; simp [hj])
  have p2 : ∀ j (_ : j < js.toArray.size), ∃ t, js.toArray[j] = .int (ms.getD j 0) t := fun j hj => IntsAre.int_at m2 _ _ (by simp at hj; simp [hj])
  have key := Ob.RcOp.tuples_lt (A := A) (s := s) (e := fun j => decide (ns.getD j 0 = ms.getD j 0)) (r := fun j => decide (ns.getD j 0 < ms.getD j 0)) t1 t2 (by omega) (fun j h1 h2 => by
    obtain ⟨t, et⟩ := p1 j h1
    obtain ⟨t', et'⟩ := p2 j h2
    rw [et, et', show decide (ns.getD j 0 = ms.getD j 0) = (ns.getD j 0 == ms.getD j 0) from by rw [Bool.eq_iff_iff, decide_eq_true_eq, beq_iff_eq]]
    exact SeqAt.EqAt.int_int _ _ _ _) (fun j h1 h2 _ => by
    obtain ⟨t, et⟩ := p1 j h1
    obtain ⟨t', et'⟩ := p2 j h2
    rw [et, et']
    exact Ob.RcOp.lt_int _ _ _ _)
  rw [k1, k2, lexAt_lt ns ms _ 0 ns ms rfl rfl rfl (Nat.zero_le _) (Nat.zero_le _)] at key
  exact key
theorem pt_cmp {prog : Program} {w : World} {A : Around} {s : Shared} {vs : List Value} {k : Value → List Int} (hu : A.units + 8 < cLine) (hp : ∀ v ∈ vs, IsPT s.heap v (k v)) : SrtO.Cmp prog w A s (tuples' true) (fun p => p.1 ∈ vs) (SrtO.lt2 fun v u => lexLt (k v) (k u)) := by
  intro p q hm hm'
  have h1 := hp _ hm
  have h2 := hp _ hm'
  show wpAny (model prog w) A (keyLt' (tuples' true) p.1 q.1) (fun r s' => s' = s ∧ r = lexLt (k p.1) (k q.1)) (fun _ _ => False) s
  obtain ⟨x, ns, a, o, t, b, n, its, e0, e, ho, hc, hd, t1, i1⟩ := h1
  obtain ⟨x', ms, a', o', t', b', n', its', e0', e', ho', hc', hd', t2, i2⟩ := h2
  rw [e0, e0', e, e']
  refine PySem.W.kat_lt ho hd ho' hd' ?_
  show PySem.W.KatLex prog w A true (decide (2 < 2)) _ [(.int x t, .int x' t'), (.ref b, .ref b')] 0 s
  refine PySem.W.kat_cons (SeqAt.EqAt.int_int x t x' t' prog w _ _ ?_)
  have ev : lexLt (x :: ns) (x' :: ms) = if x = x' then lexLt ns ms else decide (x < x') := rfl
  refine PySem.W.kat_go (fun e1 => ?_) (fun e1 => ?_)
  · have ex : x = x' := by simpa using e1
    rw [if_pos ex] at ev
    refine PySem.W.kat_yes (PySem.W.kat_cons (eq_tups hu t1 t2 i1 i2 prog w _ _ ?_))
    refine PySem.W.kat_go (fun e2 => ?_) (fun e2 => ?_)
    · have ey : ns = ms := of_decide_eq_true e2
      have e3 : lexLt (x :: ns) (x' :: ms) = false := by
        rw [ev, ey]
        cases z : lexLt ms ms with
        | false => rfl
        | true =>
          have := lexLt_asym z
          rw [z] at this; cases this
      exact PySem.W.kat_yes (PySem.W.kat_nil ⟨rfl, e3.symm⟩)
    · exact PySem.W.kat_no (PySem.W.kat_one _ _ (lt_tups hu t1 t2 i1 i2 prog w _ _ (show PySem.W.BoolBack _ _ _ from ⟨rfl, ev.symm⟩)))
  · have ex : ¬ x = x' := by simpa using e1
    rw [if_neg ex] at ev
    exact PySem.W.kat_no (oneLt_int ⟨rfl, ev.symm⟩)
theorem pt_firsts {h : Heap} : ∀ {vs : List Value}, (∀ v ∈ vs, ∃ l, IsPT h v l) → ∃ fs : List Value, PySem.W.KatTups h vs fs ∧ fs.length = vs.length ∧ ∀ f ∈ fs, ∃ x t, f = Value.int x t
  | [], _ => ⟨[], PySem.W.KatTups.nil, rfl, fun _ hm => by simp at hm⟩
  | v :: vs, hp => by
    obtain ⟨fs, h1, h2, h3⟩ := pt_firsts (vs := vs) fun v' hm => hp v' (List.mem_cons_of_mem _ hm)
    obtain ⟨l, x, ns, a, o, t, b, n, its, e0, e, ho, hc, hd, _⟩ := hp v (List.mem_cons_self ..)
    subst e
    refine ⟨.int x t :: fs, PySem.W.KatTups.cons ho hc hd rfl h1, by rw [List.length_cons, List.length_cons, h2], fun f hm => ?_⟩
    rcases List.mem_cons.mp hm with rfl | hm
    · exact ⟨x, t, rfl⟩
    · exact h3 f hm
theorem pt_sortable {prog : Program} {w : World} {A : Around} {s : Shared} {a : Addr} {vs : List Value} {k : Value → List Int} (hu : A.units + 8 < cLine) (h0 : 0 < vs.length) (hp : ∀ v ∈ vs, IsPT s.heap v (k v)) (ha : ∀ o, s.heap.get? a = some o → o.cls ≠ .type "tuple") : SrtO.SortableO prog w A s a vs fun v u => lexLt (k v) (k u) := by
  intro h' keep
  have hp' : ∀ v ∈ vs, IsPT h' v (k v) := fun v hm => (hp v hm).keeps fun b o e c => keep b o (fun z => by subst z; exact ha o e c) e
  obtain ⟨fs, h1, h2, h3⟩ := pt_firsts fun v hm => ⟨_, hp' v hm⟩
  refine ⟨tuples' true, fun Q E hq => ?_, pt_cmp hu hp'⟩
  refine PySem.W.kat_kind (T := .type "int") h1 (by omega) (fun f hm => ?_) (by rfl) ?_
  · obtain ⟨x, t, rfl⟩ := h3 f hm
    exact PySem.W.Looks.now
  · have e : (Value.type "int" != Value.type "tuple") = true := by first | decide +kernel | rfl | decide
    rw [e]
    exact hq
theorem sorted_pt {prog : Program} {w : World} {A : Around} {E : Value → Shared → Prop} {s : Shared} {l : Addr} {vs : List Value} {k : Value → List Int} {Q : Value → Shared → Prop} (hu : A.units + 64 < cLine) (hl : s.heap.IsList l vs.toArray) (hz : vs.length ≤ sizeLine) (hp : ∀ v ∈ vs, IsPT s.heap v (k v))
    (h : ∀ (h' : Heap) (d : Addr) (out : List Value), SrtO.Srtd (fun v u => lexLt (k v) (k u)) out → SrtO.Stb (fun v u => lexLt (k v) (k u)) out vs → (∀ b o, s.heap.get? b = some o → h'.get? b = some o) → s.heap.objs.size ≤ d → (∃ n, h'.get? d = some (seqObj "list" out.toArray n)) → Q (.ref d) { s with heap := h' }) :
    wpAny (model prog w) A (call (.builtin "sorted") [.ref l]) Q E s := by
  refine SrtO.sorted_ord (swo_lexLt k) hl hz (fun h2 h₁ a ha kk => ?_) fun out hs hb => ?_
  · refine pt_sortable (s := { s with heap := h₁ }) (by show A.units + 1 + 1 + 8 < cLine; omega) (by omega) (fun v hm => (hp v hm).keeps fun b o e _ => (kk b o e).2) fun o e => ?_
    have e' : some o = some (seqObj "list" vs.toArray 0) := e.symm.trans ha
    cases e'
    intro c
    exact absurd (Value.type.inj c) (by decide)
  · exact h _ _ out hs hb (fun b o e => sortedAll_old e) (Nat.le_succ _) (sortedAll_at s.heap vs out.toArray)
def rSortedPT (K : PySem.W.Frag) : List V → Hp → VK → Prop := fun vs H Q => ∃ (a : Addr) (xs : List V) (k : V → List Int), vs = [V.ref a] ∧ SqL K H a xs ∧ (∀ x ∈ xs, ∃ t b i ns, x = V.ref t ∧ k x = i :: ns ∧ H t = some (.tup [.int i, .ref b]) ∧ H b = some (.tup (ns.map V.int))) ∧
  ∀ ys p, SrtO.Srtd (fun x y => lexLt (k x) (k y)) ys → SrtO.Stb (fun x y => lexLt (k x) (k y)) ys xs → H p = none → Q (.ref p) (upd H p (.lst ys))
theorem cr_sortedPT {X : Cx} (hu : X.A.units + 64 < cLine) : CallR X (.builtin "sorted") (rSortedPT X.K) := by
  intro pins s σ H vs us Q I r h
  obtain ⟨a, xs, k, rfl, hs, hx, q⟩ := h
  obtain ⟨its, rv, hl, hz⟩ := I.list hs
  obtain ⟨u, rfl, ru⟩ := vals1 r
  obtain rfl : u = Value.ref a := ru
  obtain ⟨e1, e2⟩ := refs_back rv fun x m => by
    obtain ⟨t, b, i, ns, e, _⟩ := hx x m
    exact ⟨t, e⟩
  refine sorted_pt (k := fun u => k (backV u)) hu hl.isList (by rw [← rv.length]; exact hz) (fun v hv => ?_) fun h' d out h1 h2 kp hd hn => ?_
  · obtain ⟨t, rfl⟩ := e2 v hv
    have hm : V.ref t ∈ xs := by rw [e1]; exact List.mem_map.mpr ⟨_, hv, rfl⟩
    obtain ⟨t', b, i, ns, e, ek, ht, hb⟩ := hx _ hm
    cases e
    obtain ⟨_, its2, r2, o, ho, hc, n, hd⟩ := I.hok _ _ ht
    obtain ⟨u1, u2, rfl, ri, rj⟩ := vals2 r2
    obtain ⟨t1, rfl⟩ := ri
    obtain rfl : u2 = Value.ref b := rj
    obtain ⟨_, its3, r3, tp⟩ := I.hok _ _ hb
    exact ⟨i, ns, t, o, t1, b, n, its3, ek, rfl, ho, hc, hd, tp, Vals.ints r3⟩
  · have h3 : ∀ u ∈ out, ∃ a, u = Value.ref a := fun u hu => e2 u (h2.perm.mem_iff.mp hu)
    obtain ⟨n, hn⟩ := hn
    have hb : SrtO.Stb (fun x y => lexLt (k x) (k y)) (out.map backV) xs := by
      rw [e1]
      exact SrtO.Stb.map (swo_lexLt k) backV h2
    refine ⟨.ref d, upd H d (.lst (out.map backV)), I.laid (t' := s.toks) kp hd ⟨?_, out, n, vals_back h3, hn⟩, rfl, q _ d (SrtO.srtd_map h1) hb (I.hok.fresh hd)⟩
    rw [hb.len]
    exact hz
/-! as data -/
def dPT (z : Int × List Int) : PyData := .tuple [.int z.1, tI z.2]
def kPT (z : Int × List Int) : List Int := z.1 :: z.2
def sortPT (zs : List (Int × List Int)) : List (Int × List Int) := zs.mergeSort fun a b => !lexLt (kPT b) (kPT a)
theorem kPT_inj {a b : Int × List Int} (h : kPT a = kPT b) : a = b := by
  obtain ⟨x, y⟩ := a
  obtain ⟨u, v⟩ := b
  have := List.cons.inj h
  exact Prod.ext this.1 this.2
theorem sortPT_perm (zs : List (Int × List Int)) : (sortPT zs).Perm zs := List.mergeSort_perm _ _
theorem sortPT_srtd (zs : List (Int × List Int)) : SrtO.Srtd (fun a b => lexLt (kPT a) (kPT b)) (sortPT zs) := by
  have := List.pairwise_mergeSort (le := fun a b : Int × List Int => !lexLt (kPT b) (kPT a)) (fun a b c h1 h2 => by
    rw [Bool.not_eq_true'] at h1 h2 ⊢
    exact lexLt_tr h1 h2) (fun a b => by
    cases z : lexLt (kPT b) (kPT a) with
    | false => rfl
    | true => rw [lexLt_asym z]; rfl) zs
  exact this.imp fun h => by rwa [Bool.not_eq_true'] at h
theorem pt_uniq {l m : List (Int × List Int)} (h1 : SrtO.Srtd (fun a b => lexLt (kPT a) (kPT b)) l) (h2 : SrtO.Srtd (fun a b => lexLt (kPT a) (kPT b)) m) (p : l.Perm m) : l = m := by
  refine SrtO.stb_uniq (swo_lexLt kPT) h1 h2 ⟨p, fun x => ?_⟩
  have only : ∀ l : List (Int × List Int), ∀ y ∈ l.filter (SrtO.eqv (fun a b => lexLt (kPT a) (kPT b)) x), y = x := fun l y hy => by
    have := SrtO.eqv_iff.mp (List.mem_filter.mp hy).2
    exact (kPT_inj (lexLt_anti this.1 this.2)).symm
  rw [List.eq_replicate_iff.mpr ⟨rfl, only l⟩, List.eq_replicate_iff.mpr ⟨rfl, only m⟩, (p.filter _).length_eq]
theorem rp_pt {S : Hp} {v : V} {z : Int × List Int} (h : Rp S v (dPT z)) : ∃ t b, v = .ref t ∧ S t = some (.tup [.int z.1, .ref b]) ∧ S b = some (.tup (z.2.map V.int)) := by
  obtain ⟨t, vs, rfl, h1, h2⟩ := Rp.tup_of h
  cases h2 with
  | cons r1 r2 =>
    cases r2 with
    | cons r2 r3 =>
      cases r3
      obtain ⟨b, ws, rfl, h3, h4⟩ := Rp.tup_of r2
      obtain rfl := h4.ints
      cases Rp.int_of r1
      exact ⟨t, b, rfl, h1, h3⟩
theorem mapInt_inj : ∀ {ns ms : List Int}, ns.map V.int = ms.map V.int → ns = ms
  | [], [], _ => rfl
  | [], _ :: _, h => by cases h
  | _ :: _, [], h => by cases h
  | x :: s, y :: t, h => by
    rw [List.map_cons, List.map_cons] at h
    have h1 := List.cons.inj h
    rw [V.int.inj h1.1, mapInt_inj h1.2]
theorem rp_pt_inj {S : Hp} {v : V} {z z' : Int × List Int} (h : Rp S v (dPT z)) (h' : Rp S v (dPT z')) : z = z' := by
  obtain ⟨t, b, rfl, h1, h2⟩ := rp_pt h
  obtain ⟨t', b', e, h3, h4⟩ := rp_pt h'
  cases e
  rw [h1] at h3
  have e := Option.some.inj h3
  injection e with e
  have e1 := List.cons.inj e
  have e2 := List.cons.inj e1.2
  have eb := V.ref.inj e2.1
  subst eb
  rw [h2] at h4
  have e := Option.some.inj h4
  injection e with e
  exact Prod.ext (V.int.inj e1.1) (mapInt_inj e)
section
variable {g : Gv} {I : CI} {Γ : Gam} {A : AH} {pos p : Pos} {e : Expr} {dv : DV} {zs : List (Int × List Int)}
theorem de_sortedPT (h : VE g I Γ A e dv) (q : IsL A dv (zs.map dPT)) (hg : GlS I.sc "sorted") (hm : g.mg "sorted" = none) (hn : nostar e = true := by rfl) : DE g I Γ A (.Call (.Name "sorted" p) [e] [] pos) (.list ((sortPT zs).map dPT)) :=
  ve_callB (fun X c => cr_sortedPT c.room.units) (fun X cx A1 ex S1 H1 vs f1 rr Q z => by
  obtain ⟨v, rfl, r⟩ := rr.one
  obtain ⟨l, ws, rfl, h1, h2⟩ := q.sq ex f1 r
  have hex : ∀ x ∈ ws, ∃ z ∈ zs, Rp S1 x (dPT z) := by
    clear z q h1 r
    have : ∀ (ws : List V) (zs : List (Int × List Int)), RpAll S1 ws (zs.map dPT) → ∀ x ∈ ws, ∃ z ∈ zs, Rp S1 x (dPT z) := fun ws => by
      induction ws with
      | nil => intro _ _ x hx; exact (List.not_mem_nil hx).elim
      | cons w ws ih =>
        intro zs hr x hx
        cases zs with
        | nil => cases hr
        | cons y zs =>
          cases hr with
          | cons r1 r2 =>
            rcases List.mem_cons.mp hx with rfl | hx
            · exact ⟨y, List.mem_cons_self, r1⟩
            · obtain ⟨z, h1, h2⟩ := ih zs r2 x hx
              exact ⟨z, List.mem_cons_of_mem _ h1, h2⟩
    exact this ws zs h2
  classical
  obtain ⟨kz, hk⟩ : ∃ kz : V → Int × List Int, ∀ x, (∃ z, Rp S1 x (dPT z)) → Rp S1 x (dPT (kz x)) := ⟨fun x => if h : ∃ z, Rp S1 x (dPT z) then Classical.choose h else default, fun x hx => by show Rp S1 x (dPT (dite _ _ _)); rw [dif_pos hx]; exact Classical.choose_spec hx⟩
  have hk2 : ∀ x ∈ ws, Rp S1 x (dPT (kz x)) := fun x hx => hk x (by obtain ⟨z, _, h⟩ := hex x hx; exact ⟨z, h⟩)
  have ezs : ws.map kz = zs := by
    have : ∀ (ws : List V) (zs : List (Int × List Int)), RpAll S1 ws (zs.map dPT) → (∀ x ∈ ws, Rp S1 x (dPT (kz x))) → ws.map kz = zs := fun ws => by
      induction ws with
      | nil => intro zs hr _; cases zs with
        | nil => rfl
        | cons _ _ => cases hr
      | cons w ws ih =>
        intro zs hr hh
        cases zs with
        | nil => cases hr
        | cons y zs =>
          cases hr with
          | cons r1 r2 => rw [List.map_cons, ih zs r2 fun x hx => hh x (List.mem_cons_of_mem _ hx), rp_pt_inj (hh w List.mem_cons_self) r1]
    exact this ws zs h2 hk2
  refine ⟨l, ws, fun x => kPT (kz x), rfl, .of h1, fun x hx => ?_, fun ys t hs hb ht => ?_⟩
  · obtain ⟨t, b, e, q1, q2⟩ := rp_pt (hk2 x hx)
    exact ⟨t, b, _, _, e, rfl, f1.same _ _ q1, f1.same _ _ q2⟩
  · have ey : ys.map kz = sortPT zs := by
      refine pt_uniq (SrtO.srtd_map (lt := fun a b => lexLt (kPT a) (kPT b)) (f := kz) hs) (sortPT_srtd zs) (((hb.perm.map kz).trans (by rw [ezs])).trans (sortPT_perm zs).symm)
    obtain ⟨f2, s2⟩ := f1.laidS ht (o := .lst ys)
    refine z _ _ _ s2 f2 (.lst upd_same ?_)
    rw [← ey]
    have hy : ∀ x ∈ ys, Rp S1 x (dPT (kz x)) := fun x hx => hk2 x (hb.perm.mem_iff.mp hx)
    have : ∀ ys : List V, (∀ x ∈ ys, Rp S1 x (dPT (kz x))) → RpAll S1 ys ((ys.map kz).map dPT) := fun ys => by
      induction ys with
      | nil => intro _; exact .nil
      | cons y ys ih => intro hh; exact .cons (hh y List.mem_cons_self) (ih fun x hx => hh x (List.mem_cons_of_mem _ hx))
    exact (this ys hy).mono s2) hg hm boot_sorted' (va_cons h va_nil hn) hn rfl (by decide) (by decide)
end
end LB

/-! Layer 26: t >= u, tuples of whole numbers. -/
namespace LB
open PySem PySem.Spec PyProof.Rows L2
theorem op_geTup {X : Cx} (un : X.A.units < cLine) : OpR X (compareOp .GtE) (fun x y H Q => ∃ (a b : Addr) (ns ms : List Int), x = .ref a ∧ y = .ref b ∧ SqT X.K H a (ns.map V.int) ∧ SqT X.K H b (ms.map V.int) ∧ Q (.bl (Ob.lexAt (fun j => decide (ns.getD j 0 = ms.getD j 0)) (fun j => decide (ms.getD j 0 ≤ ns.getD j 0)) (decide (ms.length ≤ ns.length)) 0 (min ns.length ms.length))) H) := by
  intro pins s σ H x y v u Q I rx ry h
  obtain ⟨a, b, ns, ms, rfl, rfl, ha, hb, q⟩ := h
  cases rx; cases ry
  obtain ⟨is, u1, t1, _⟩ := I.tuple ha
  obtain ⟨js, u2, t2, _⟩ := I.tuple hb
  have m1 : IntsAre is ns := Vals.ints u1
  have m2 : IntsAre js ms := Vals.ints u2
  have k1 : is.toArray.size = ns.length := by rw [List.size_toArray]; exact m1.length
  have k2 : js.toArray.size = ms.length := by rw [List.size_toArray]; exact m2.length
  have p1 : ∀ j (_ : j < is.toArray.size), ∃ t, is.toArray[j] = .int (ns.getD j 0) t := fun j hj => IntsAre.int_at m1 _ _ (by simp at hj; simp [hj])
  have p2 : ∀ j (_ : j < js.toArray.size), ∃ t, js.toArray[j] = .int (ms.getD j 0) t := fun j hj => IntsAre.int_at m2 _ _ (by simp at hj; simp [hj])
  have key := Ob.RcOp.tuples_ge (A := X.A) (s := s) (e := fun j => decide (ns.getD j 0 = ms.getD j 0)) (r := fun j => decide (ms.getD j 0 ≤ ns.getD j 0)) t1 t2 un (fun j h1 h2 => by
    obtain ⟨t, et⟩ := p1 j h1
    obtain ⟨t', et'⟩ := p2 j h2
    rw [et, et', show decide (ns.getD j 0 = ms.getD j 0) = (ns.getD j 0 == ms.getD j 0) from by rw [Bool.eq_iff_iff, decide_eq_true_eq, beq_iff_eq]]
    exact SeqAt.EqAt.int_int _ _ _ _) (fun j h1 h2 _ => by
    obtain ⟨t, et⟩ := p1 j h1
    obtain ⟨t', et'⟩ := p2 j h2
    rw [et, et']
    exact Ob.RcOp.ge_int _ _ _ _)
  rw [k1, k2] at key
  exact key X.prog X.w X.xe (EP X pins σ Q) ⟨.bl _, H, I, rfl, q⟩
/-- (a, b) >= (c, d) -/
def gePair (a b c d : Int) : Bool := if a = c then decide (d ≤ b) else decide (c ≤ a)
section
variable {g : Gv} {I : CI} {A : AH} {a b c d : Int}
theorem c_gePair : CmpD g I A .GtE (.d (.tuple [.int a, .int b])) (.d (.tuple [.int c, .int d])) (gePair a b c d) := ⟨⟨_, fun X c => op_geTup (by have := c.room.un; omega), fun X cx A1 ex S H v u f r1 r2 Q q => by
  obtain ⟨ea, rfl⟩ := cx.eq
  obtain ⟨l1, w1, rfl, e1, q1⟩ := Rp.tup_of r1
  obtain ⟨l2, w2, rfl, e2, q2⟩ := Rp.tup_of r2
  obtain rfl := (show RpAll S w1 ([a, b].map PyData.int) from q1).ints
  obtain rfl := (show RpAll S w2 ([c, d].map PyData.int) from q2).ints
  refine ⟨l1, l2, [a, b], [c, d], rfl, rfl, .of (f.same _ _ e1), .of (f.same _ _ e2), ?_⟩
  have e : Ob.lexAt (fun j => decide ([a, b].getD j 0 = [c, d].getD j 0)) (fun j => decide ([c, d].getD j 0 ≤ [a, b].getD j 0)) (decide ([c, d].length ≤ [a, b].length)) 0 (min [a, b].length [c, d].length) = gePair a b c d := by
    show (if decide (a = c) = true then (if decide (b = d) = true then true else decide (d ≤ b)) else decide (c ≤ a)) = _
    unfold gePair
    by_cases h : a = c
    · rw [if_pos (decide_eq_true h), if_pos h]
      by_cases h2 : b = d
      · rw [if_pos (decide_eq_true h2)]; exact (decide_eq_true (by omega)).symm
      · rw [if_neg (by simp [h2])]
    · rw [if_neg (by simp [h]), if_neg h]
  rw [e]; exact q⟩, nm_of (by decide) (by decide)⟩
end
end LB

/-! Plain facts 2: weights. -/
namespace LB
open PySem PySem.Spec PyProof.Rows L2
theorem lookCounts_er {β : Type} {c : List Int} {f : Unit → β} {e : Err} (h : (lookCounts c).map f = .error e) : e = .counts ∧ lookCounts c = .error .counts := by
  unfold lookCounts at h ⊢
  split at h
  · cases h
  · rename_i q
    cases h
    exact ⟨rfl, by rw [if_neg q]⟩
theorem lookCounts_ok {β : Type} {c : List Int} {f : Unit → β} {r : β} (h : (lookCounts c).map f = .ok r) : goodC c = true ∧ lookCounts c = .ok () := by
  unfold lookCounts at h ⊢
  split at h
  · rename_i q
    exact ⟨q, by rw [if_pos q]⟩
  · cases h
theorem lookQs_er {β : Type} {c : Int} {f : Unit → β} {e : Err} (h : (lookQs c).map f = .error e) : e = .counts ∧ lookQs c = .error .counts := by
  unfold lookQs at h ⊢
  split at h
  · cases h
  · rename_i q
    cases h
    exact ⟨rfl, by rw [if_neg q]⟩
theorem lookQs_ok {β : Type} {c : Int} {f : Unit → β} {r : β} (h : (lookQs c).map f = .ok r) : goodQ c = true ∧ lookQs c = .ok () := by
  unfold lookQs at h ⊢
  split at h
  · rename_i q
    exact ⟨q, by rw [if_pos q]⟩
  · cases h
theorem goodC_len {c : List Int} (h : goodC c = true) : 1 ≤ (c.length : Int) ∧ (c.length : Int) ≤ 5 := by
  simp [goodC] at h; omega
theorem goodC_mem {c : List Int} (h : goodC c = true) : ∀ x ∈ c, 0 ≤ x ∧ x ≤ 64 := by
  simp [goodC] at h; exact fun x hx => ⟨(h.2 x hx).1, (h.2 x hx).2⟩
theorem goodC_nth {c : List Int} (h : goodC c = true) {k : Int} (h0 : 0 ≤ k) (h1 : k < c.length) : 0 ≤ nth c k ∧ nth c k ≤ 64 := goodC_mem h _ (nth_mem h0 h1)
theorem look_ok {c : List Int} (h : goodC c = true) : lookCounts c = .ok () := by unfold lookCounts; rw [if_pos h]
theorem look_er {c : List Int} (h : goodC c = false) : lookCounts c = .error .counts := by unfold lookCounts; rw [if_neg (by rw [h]; decide)]
theorem weightM_ok {c : List Int} {m : Int} (h : goodC c = true) (h0 : 0 ≤ m) (h1 : m ≤ 60) : weightM c m = .ok (weightV c m) := by
  have l2 : lookQs m = .ok () := by unfold lookQs goodQ; rw [if_pos (by simp [h0, h1])]
  unfold weightM; rw [look_ok h, l2]; rfl

/-! ### binomials -/
def ch : Nat → Nat → Int
  | _, 0 => 1
  | 0, _ + 1 => 0
  | m + 1, k + 1 => ch m k + ch m (k + 1)
theorem ch_zero (m : Nat) : ch m 0 = 1 := by cases m <;> rfl
theorem ch_gt : ∀ {m k : Nat}, m < k → ch m k = 0
  | 0, k + 1, _ => rfl
  | m + 1, k + 1, h => by
    show ch m k + ch m (k + 1) = 0
    rw [ch_gt (by omega : m < k), ch_gt (by omega : m < k + 1)]; rfl
theorem ch_nonneg : ∀ (m k : Nat), 0 ≤ ch m k
  | m, 0 => by rw [ch_zero]; decide
  | 0, k + 1 => by show (0 : Int) ≤ 0; decide
  | m + 1, k + 1 => Int.add_nonneg (ch_nonneg m k) (ch_nonneg m (k + 1))
theorem ch_step : ∀ (m k : Nat), ch m (k + 1) * ((k : Int) + 1) = ch m k * ((m : Int) - k)
  | 0, 0 => by show (0 : Int) * _ = 1 * _; rw [Int.zero_mul]; rfl
  | 0, k + 1 => by show (0 : Int) * _ = 0 * _; rw [Int.zero_mul, Int.zero_mul]
  | m + 1, 0 => by
    have q := ch_step m 0
    rw [ch_zero] at q ⊢
    show (ch m 0 + ch m 1) * _ = _
    rw [ch_zero]
    simp at q ⊢
    omega
  | m + 1, k + 1 => by
    have q1 := ch_step m k
    have q2 := ch_step m (k + 1)
    show (ch m (k + 1) + ch m (k + 2)) * _ = (ch m k + ch m (k + 1)) * _
    simp only [Int.natCast_add, Int.natCast_one] at q2 ⊢
    grind
def Bs (m : Nat) : Nat → Int
  | 0 => 0
  | i + 1 => Bs m i + ch m i
theorem Bs_pascal (m : Nat) : ∀ i, Bs (m + 1) (i + 1) = Bs m (i + 1) + Bs m i
  | 0 => by show (0 : Int) + ch (m + 1) 0 = 0 + ch m 0 + 0; rw [ch_zero, ch_zero]; rfl
  | i + 1 => by
    have q := Bs_pascal m i
    show Bs (m + 1) (i + 1) + ch (m + 1) (i + 1) = Bs m (i + 1) + ch m (i + 1) + (Bs m i + ch m i)
    rw [q]
    show _ + (ch m i + ch m (i + 1)) = _
    omega
theorem Bs_stop (m : Nat) : ∀ d, Bs m (m + 1 + d) = Bs m (m + 1)
  | 0 => rfl
  | d + 1 => by
    show Bs m (m + 1 + d) + ch m (m + 1 + d) = _
    rw [ch_gt (by omega), Bs_stop m d]; exact Int.add_zero _
theorem Bs_nonneg (m : Nat) : ∀ i, 0 ≤ Bs m i
  | 0 => Int.le_refl _
  | i + 1 => Int.add_nonneg (Bs_nonneg m i) (ch_nonneg m i)
theorem choicesV_eq (m t : Nat) : choicesV m t = Bs m (t + 1) := by
  unfold choicesV
  have key : ∀ n : Nat, (rng 0 n).foldl (chStep m) (0, 1) = (Bs m n, ch m n) := fun n =>
    foldl_rng (fun i => (Bs m i, ch m i)) (by show ((0 : Int), ch m 0) = _; rw [ch_zero]) n fun i hi => by
      show (Bs m i + ch m i, ch m i * ((m : Int) - i) / ((i : Int) + 1)) = _
      rw [← ch_step m i, Int.mul_ediv_cancel _ (by omega)]; rfl
  rw [key]
  show Bs m _ = _
  split
  · rename_i h
    rw [show (((t : Int) + 1).toNat) = t + 1 from by omega]
  · rename_i h
    rw [show (((m : Int) + 1).toNat) = m + 1 from by omega, show t + 1 = m + 1 + (t - m) from by omega, Bs_stop]
def rowStep (t : Int) (r : List Int) : List Int := (rng 0 (t + 1).toNat).map fun j => nth r j + (if 0 < j then nth r (j - 1) else 0)
def rowI (t : Int) : Nat → List Int
  | 0 => 1 :: List.replicate t.toNat 0
  | m + 1 => rowStep t (rowI t m)
def waysV (m t : Int) : Int := (rowI t m.toNat).sum
theorem nth_rng {β : Type} [Inhabited β] {f : Int → β} {n : Nat} {k : Int} (h0 : 0 ≤ k) (h1 : k < n) : nth ((rng 0 n).map f) k = f k := by
  unfold nth
  rw [List.getD_eq_getElem?_getD, List.getElem?_map, rng_get (by omega : k.toNat < n), Option.map_some, Option.getD_some]
  congr 1; omega
theorem rowI_eq (t : Nat) : ∀ m : Nat, rowI t m = (rng 0 (t + 1)).map fun j => ch m j.toNat
  | 0 => by
    show (1 : Int) :: List.replicate (t : Int).toNat 0 = _
    rw [Int.toNat_natCast]
    refine List.ext_getElem? fun i => ?_
    rw [List.getElem?_map]
    cases i with
    | zero => rw [rng_get (by omega)]; rfl
    | succ i =>
      rw [List.getElem?_cons_succ, List.getElem?_replicate]
      by_cases h : i < t
      · rw [if_pos h, rng_get (by omega), Option.map_some]
        rw [ch_gt (by omega)]
      · rw [if_neg h, List.getElem?_eq_none (by rw [rng_length]; omega)]; rfl
  | m + 1 => by
    show rowStep t (rowI t m) = _
    rw [rowI_eq t m]
    unfold rowStep
    rw [show ((t : Int) + 1).toNat = t + 1 from by omega]
    refine List.map_congr_left fun j hj => ?_
    have q := mem_rng.mp hj
    rw [nth_rng q.1 (by omega)]
    by_cases h : 0 < j
    · rw [if_pos h, nth_rng (by omega) (by omega)]
      obtain ⟨i, hi⟩ : ∃ i : Nat, j = i + 1 := ⟨j.toNat - 1, by omega⟩
      subst hi
      rw [show ((i : Int) + 1 - 1).toNat = i from by omega, show ((i : Int) + 1).toNat = i + 1 from by omega]
      show _ = ch m i + ch m (i + 1)
      omega
    · rw [if_neg h, show j = 0 from by omega]
      show ch m 0 + 0 = ch (m + 1) 0
      rw [ch_zero, ch_zero]; rfl
theorem sum_chs (m : Nat) : ∀ n : Nat, ((rng 0 n).map fun j => ch m j.toNat).sum = Bs m n
  | 0 => rfl
  | n + 1 => by
    rw [rng_succ, List.map_append, List.sum_append, sum_chs m n]
    show Bs m n + (ch m (0 + (n : Int)).toNat + 0) = Bs m n + ch m n
    rw [show (0 + (n : Int)).toNat = n from by omega]; omega
theorem waysV_eq (m t : Nat) : waysV m t = Bs m (t + 1) := by
  unfold waysV
  rw [rowI_eq, sum_chs]; rfl
theorem choices_ways {m t : Int} (h0 : 0 ≤ m) (h1 : 0 ≤ t) : choicesV m t = waysV m t := by
  obtain ⟨a, rfl⟩ : ∃ a : Nat, m = a := ⟨m.toNat, by omega⟩
  obtain ⟨b, rfl⟩ : ∃ b : Nat, t = b := ⟨t.toNat, by omega⟩
  rw [choicesV_eq, waysV_eq]
theorem sum_foldl {f : Int → Int} : ∀ (xs : List Int) (s : Int), xs.foldl (fun s k => s + f k) s = s + (xs.map f).sum
  | [], s => by simp
  | x :: xs, s => by rw [List.foldl_cons, sum_foldl xs, List.map_cons, List.sum_cons]; omega
def lawWeight (c : List Int) (m : Int) : Int := ((rng 0 c.length).map fun k => nth c k * waysV m (c.length - 1 - k)).sum
theorem weight_law {c : List Int} {m : Int} (h0 : 0 ≤ m) : weightV c m = lawWeight c m := by
  unfold weightV lawWeight
  rw [sum_foldl, Int.zero_add]
  congr 1
  refine List.map_congr_left fun k hk => ?_
  have q := mem_rng.mp hk
  rw [choices_ways h0 (by omega)]
def lawTwo (m : Int) : Int := (rng 0 m.toNat).foldl (fun s _ => s + s) 1
theorem two_law (m : Int) : twoTo m = lawTwo m := by
  unfold twoTo lawTwo
  exact foldl_congr fun s x _ => by omega
theorem sum_le {f : Int → Int} {M : Int} : ∀ (xs : List Int), (∀ x ∈ xs, f x ≤ M) → (xs.map f).sum ≤ xs.length * M
  | [], _ => by simp
  | x :: xs, h => by
    have q1 := h x List.mem_cons_self
    have q2 := sum_le xs fun y hy => h y (List.mem_cons_of_mem _ hy)
    rw [List.map_cons, List.sum_cons, List.length_cons]
    rw [Int.natCast_add, Int.add_mul]
    simp
    omega
theorem Bs_60 : ∀ t : Nat, t ≤ 4 → Bs 60 (t + 1) ≤ 1000000 := by
  intro t ht
  have h : t = 0 ∨ t = 1 ∨ t = 2 ∨ t = 3 ∨ t = 4 := by omega
  have key : ∀ t : Nat, choicesV ((60 : Nat) : Int) (t : Nat) = Bs 60 (t + 1) := choicesV_eq 60
  rcases h with rfl | rfl | rfl | rfl | rfl <;> rw [← key] <;> decide +kernel
theorem boundT_60 {c : List Int} (h : goodC c = true) : boundT c 60 = false := by
  have hl := goodC_len h
  have e : weightV c 60 ≤ twoTo 60 := by
    have e2 : twoTo 60 = 1152921504606846976 := by decide +kernel
    rw [e2]
    unfold weightV
    rw [sum_foldl, Int.zero_add]
    refine Int.le_trans (sum_le (M := 64000000) _ fun k hk => ?_) ?_
    · have q := mem_rng.mp hk
      obtain ⟨n0, n1⟩ := goodC_nth h q.1 (by omega)
      obtain ⟨b, hb⟩ : ∃ b : Nat, (c.length : Int) - 1 - k = b := ⟨((c.length : Int) - 1 - k).toNat, by omega⟩
      have e3 := choicesV_eq 60 b
      rw [hb, show (60 : Int) = ((60 : Nat) : Int) from rfl, e3]
      have e4 := Bs_60 b (by omega)
      have e5 := Bs_nonneg 60 (b + 1)
      calc nth c k * Bs 60 (b + 1) ≤ 64 * Bs 60 (b + 1) := Int.mul_le_mul_of_nonneg_right n1 e5
        _ ≤ _ := by omega
    · rw [rng_length]; omega
  unfold boundT
  simp; omega
theorem boundV_eq {c : List Int} {s : Nat} (h0 : s ≤ 60) (h1 : ∀ j : Nat, j < s → boundT c j = true) (h2 : boundT c s = false) : boundV c = s := by
  unfold boundV
  have q : (List.range 61).find? (fun (m : Nat) => !boundT c (m : Int)) = some s := by
    rw [List.find?_range_eq_some]
    refine ⟨by rw [h2]; rfl, by simp; omega, fun j hj => by rw [h1 j hj]; rfl⟩
  rw [q]; rfl
theorem bound_spec {c : List Int} (h : goodC c = true) : ∃ s : Nat, boundV c = s ∧ s ≤ 60 ∧ (∀ j : Nat, j < s → boundT c j = true) ∧ boundT c s = false := by
  have key : ∀ n : Nat, (∃ s : Nat, s < n ∧ (∀ j : Nat, j < s → boundT c j = true) ∧ boundT c s = false) ∨ ∀ j : Nat, j < n → boundT c j = true := by
    intro n
    induction n with
    | zero => exact .inr fun j hj => absurd hj (Nat.not_lt_zero j)
    | succ n ih =>
      rcases ih with ⟨s, a, b, d⟩ | ih
      · exact .inl ⟨s, by omega, b, d⟩
      · cases q : boundT c n with
        | false => exact .inl ⟨n, by omega, ih, q⟩
        | true =>
          refine .inr fun j hj => ?_
          rcases Nat.lt_or_ge j n with z | z
          · exact ih j z
          · rw [show j = n from by omega]
            exact q
  rcases key 61 with ⟨s, a, b, d⟩ | k
  · exact ⟨s, boundV_eq (by omega) b d, by omega, b, d⟩
  · have := k 60 (by omega)
    rw [show ((60 : Nat) : Int) = 60 from rfl, boundT_60 h] at this
    cases this

/-! ### what is behind a question -/
def bhStep (c p : List Int) (s : List Int × List Int) (k : Int) : List Int × List Int :=
  let y := s.1.set k.toNat (nth s.1 k + nth p k)
  let n := s.2.set k.toNat (nth s.2 k + nth c k - nth p k)
  if k + 1 < c.length then (y.set (k + 1).toNat (nth y (k + 1) + nth c k - nth p k), n.set (k + 1).toNat (nth n (k + 1) + nth p k)) else (y, n)
def lawBehind (c p : List Int) : List Int × List Int := (rng 0 c.length).foldl (bhStep c p) (List.replicate c.length 0, List.replicate c.length 0)
theorem five {c : List Int} (h : 1 ≤ (c.length : Int) ∧ (c.length : Int) ≤ 5) : (∃ a, c = [a]) ∨ (∃ a b, c = [a, b]) ∨ (∃ a b d, c = [a, b, d]) ∨ (∃ a b d e, c = [a, b, d, e]) ∨ ∃ a b d e f, c = [a, b, d, e, f] := by
  match c, h with
  | [a], _ => exact .inl ⟨a, rfl⟩
  | [a, b], _ => exact .inr (.inl ⟨a, b, rfl⟩)
  | [a, b, d], _ => exact .inr (.inr (.inl ⟨a, b, d, rfl⟩))
  | [a, b, d, e], _ => exact .inr (.inr (.inr (.inl ⟨a, b, d, e, rfl⟩)))
  | [a, b, d, e, f], _ => exact .inr (.inr (.inr (.inr ⟨a, b, d, e, f, rfl⟩)))
  | [], h => simp at h
  | _ :: _ :: _ :: _ :: _ :: _ :: r, h => simp at h; omega
theorem behind_law {c p : List Int} (h : 1 ≤ (c.length : Int) ∧ (c.length : Int) ≤ 5) (hp : p.length = c.length) : lawBehind c p = (behindY c p, behindN c p) := by
  have hp' : 1 ≤ (p.length : Int) ∧ (p.length : Int) ≤ 5 := by omega
  rcases five h with ⟨a, rfl⟩ | ⟨a, b, rfl⟩ | ⟨a, b, d, rfl⟩ | ⟨a, b, d, e, rfl⟩ | ⟨a, b, d, e, f, rfl⟩ <;>
  rcases five hp' with ⟨a', rfl⟩ | ⟨a', b', rfl⟩ | ⟨a', b', d', rfl⟩ | ⟨a', b', d', e', rfl⟩ | ⟨a', b', d', e', f', rfl⟩ <;>
  first
  | (simp at hp; done)
  | (simp [lawBehind, behindY, behindN, restV, bhStep, nth, rng, List.range, List.range.loop]; try omega)
theorem weight_split {c p : List Int} {m : Int} (h : 1 ≤ (c.length : Int) ∧ (c.length : Int) ≤ 5) (hp : p.length = c.length) (h0 : 0 ≤ m) : weightV (behindY c p) m + weightV (behindN c p) m = weightV c (m + 1) := by
  have hp' : 1 ≤ (p.length : Int) ∧ (p.length : Int) ≤ 5 := by omega
  obtain ⟨a, rfl⟩ : ∃ a : Nat, m = a := ⟨m.toNat, by omega⟩
  have e0 : choicesV a 0 = 1 := by rw [show (0 : Int) = ((0 : Nat) : Int) from rfl, choicesV_eq]; show 0 + ch a 0 = 1; rw [ch_zero]; rfl
  have e0' : choicesV (a + 1) 0 = 1 := by rw [show (0 : Int) = ((0 : Nat) : Int) from rfl, show (a : Int) + 1 = ((a + 1 : Nat) : Int) from rfl, choicesV_eq]; show 0 + ch (a + 1) 0 = 1; rw [ch_zero]; rfl
  have es : ∀ t : Nat, choicesV ((a : Int) + 1) ((t + 1 : Nat) : Int) = choicesV a ((t + 1 : Nat) : Int) + choicesV a (t : Int) := fun t => by
    rw [show (a : Int) + 1 = ((a + 1 : Nat) : Int) from rfl, choicesV_eq, choicesV_eq, choicesV_eq, Bs_pascal]
  have e1 := es 0
  have e2 := es 1
  have e3 := es 2
  have e4 := es 3
  simp at e1 e2 e3 e4
  rcases five h with ⟨a, rfl⟩ | ⟨a, b, rfl⟩ | ⟨a, b, d, rfl⟩ | ⟨a, b, d, e, rfl⟩ | ⟨a, b, d, e, f, rfl⟩ <;>
  rcases five hp' with ⟨a', rfl⟩ | ⟨a', b', rfl⟩ | ⟨a', b', d', rfl⟩ | ⟨a', b', d', e', rfl⟩ | ⟨a', b', d', e', f', rfl⟩ <;>
  first
  | (simp at hp; done)
  | (simp [weightV, behindY, behindN, restV, nth, rng, List.range, List.range.loop, e0, e0', e1, e2, e3, e4]; try grind)
theorem behindY_len {c p : List Int} : (behindY c p).length = c.length := by unfold behindY; rw [List.length_map, rng_length]
theorem behindN_len {c p : List Int} : (behindN c p).length = c.length := by unfold behindN; rw [List.length_map, rng_length]
def sp_lbehind (ea : Err → Addr) : ASp := pSp ea fun ds o => ∃ c p : List Int, ds = [.d (tI c), .d (tI p)] ∧ p.length = c.length ∧ c.length ≤ 1000 ∧ o = .ok (dPair (lawBehind c p))
def sp_lways (ea : Err → Addr) : ASp := pSp ea fun ds o => ∃ m t : Int, ds = [.d (.int m), .d (.int t)] ∧ 0 ≤ m ∧ m ≤ 1000 ∧ 0 ≤ t ∧ t ≤ 1000 ∧ o = .ok (.int (waysV m t))
def sp_lweight (ea : Err → Addr) : ASp := pSp ea fun ds o => ∃ (c : List Int) (m : Int), ds = [.d (tI c), .d (.int m)] ∧ (c.length : Int) ≤ 1000 ∧ (∀ x ∈ c, 0 ≤ x ∧ x ≤ 1000) ∧ 0 ≤ m ∧ m ≤ 1000 ∧ o = .ok (.int (lawWeight c m))
def sp_ltwo (ea : Err → Addr) : ASp := pSp ea fun ds o => ∃ m : Int, ds = [.d (.int m)] ∧ 0 ≤ m ∧ m ≤ 1000 ∧ o = .ok (.int (lawTwo m))
/-- the rows of ways, one by one -/
def rowsStep (t : Int) (s : List (List Int)) (k : Int) : List (List Int) := s ++ [rowStep t (nth s k)]
theorem rows_spec (t : Int) : ∀ n : Nat, ((rng 0 n).foldl (rowsStep t) [rowI t 0]).length = n + 1 ∧ ∀ i : Nat, i ≤ n → ((rng 0 n).foldl (rowsStep t) [rowI t 0])[i]? = some (rowI t i) := by
  intro n
  induction n with
  | zero => exact ⟨rfl, fun i hi => by rw [show i = 0 from by omega]; rfl⟩
  | succ n ih =>
    rw [rng_succ, List.foldl_append]
    generalize (rng 0 n).foldl (rowsStep t) [rowI t 0] = s at ih
    obtain ⟨h1, h2⟩ := ih
    show (rowsStep t s (0 + (n : Int))).length = _ ∧ ∀ i : Nat, i ≤ n + 1 → (rowsStep t s (0 + (n : Int)))[i]? = _
    unfold rowsStep
    refine ⟨by rw [List.length_append, h1]; rfl, fun i hi => ?_⟩
    rcases Nat.lt_or_ge i (n + 1) with q | q
    · rw [List.getElem?_append_left (by omega), h2 i (by omega)]
    · rw [show i = n + 1 from by omega, List.getElem?_append_right (by omega), h1, Nat.sub_self]
      show some _ = some _
      have e : nth s (0 + (n : Int)) = rowI t n := by
        have := nth_get (xs := s) (k := 0 + (n : Int)) (by omega) (by omega)
        rw [show (0 + (n : Int)).toNat = n from by omega, h2 n (by omega)] at this
        exact (Option.some.inj this).symm
      rw [e]; rfl
theorem rowI_len (t : Int) (h : 0 ≤ t) : ∀ m : Nat, ((rowI t m).length : Int) = t + 1
  | 0 => by show (((1 : Int) :: List.replicate t.toNat 0).length : Int) = _; rw [List.length_cons, List.length_replicate]; omega
  | m + 1 => by show ((rowStep t (rowI t m)).length : Int) = _; unfold rowStep; rw [List.length_map, rng_length]; omega
/-! errors of one kind -/
def CE {α : Type} (x : Except Err α) : Prop := ∀ e, x = .error e → e = .counts
theorem CE.ok {α : Type} (a : α) : CE (Except.ok a : Except Err α) := fun e h => by cases h
theorem CE.bind {α β : Type} {x : Except Err α} {f : α → Except Err β} (h : CE x) (k : ∀ a, CE (f a)) : CE (x >>= f) := fun e q => by
  cases x with
  | ok a => exact k a e q
  | error e' => cases q; exact h _ rfl
theorem CE.map {α β : Type} {x : Except Err α} {f : α → β} (h : CE x) : CE (x.map f) := fun e q => by
  cases x with
  | ok a => cases q
  | error e' => cases q; exact h _ rfl
theorem ce_look (c : List Int) : CE (lookCounts c) := fun e h => by
  unfold lookCounts at h
  split at h <;> cases h
  rfl
theorem ce_qs (m : Int) : CE (lookQs m) := fun e h => by
  unfold lookQs at h
  split at h <;> cases h
  rfl
theorem ce_weight (c : List Int) (m : Int) : CE (weightM c m) := .bind (ce_look c) fun _ => .bind (ce_qs m) fun _ => .ok _
theorem ce_behind (c p : List Int) : CE (behindM c p) := .bind (ce_look c) fun _ => by
  split
  · exact .ok _
  · intro e h; cases h; rfl
theorem ce_heavier (c p : List Int) (m : Int) : CE (heavierM c p m) := .bind (ce_behind c p) fun q => .bind (ce_weight q.1 m) fun _ => .bind (ce_weight q.2 m) fun _ => .ok _
theorem ce_bound (c : List Int) : CE (boundM c) := .bind (ce_look c) fun _ => .ok _
def toldM10 (w : Int) (c p : List Int) (m : Int) : Except Err PyData :=
  if w = 0 then (weightM c m).map .int else if w = 1 then (behindM c p).map dPair else if w = 2 then (heavierM c p m).map .bool else (boundM c).map .int
def toldD (x : Except Err PyData) (s : Str) : PyData := match x with
  | .ok d => d
  | .error _ => .str s
def sp_told10 (ea : Err → Addr) : ASp := pSp ea fun ds o => ∃ (w : Int) (c p : List Int) (m : Int), ds = [.d (.int w), .d (tI c), .d (tI p), .d (.int m)] ∧ o = .ok (toldD (toldM10 w c p m) "counts")
/-! what the law asks of weights -/
theorem goodC_of {c : List Int} (h1 : 1 ≤ (c.length : Int)) (h5 : (c.length : Int) ≤ 5) (h : ∀ x ∈ c, 0 ≤ x ∧ x ≤ 64) : goodC c = true := by
  unfold goodC
  rw [decide_eq_true h1, decide_eq_true h5]
  simp
  exact fun x hx => h x hx
theorem partOk_of {c p : List Int} (hl : p.length = c.length) (h : ∀ k : Int, 0 ≤ k → k < c.length → 0 ≤ nth p k ∧ nth p k ≤ nth c k) : partOk c p = true := by
  unfold partOk
  rw [decide_eq_true hl]
  simp
  exact fun k hk => h k (mem_rng.mp hk).1 (by have := (mem_rng.mp hk).2; omega)
theorem partOk_nth {c p : List Int} (h : partOk c p = true) {k : Int} (h0 : 0 ≤ k) (h1 : k < c.length) : 0 ≤ nth p k ∧ nth p k ≤ nth c k := by
  unfold partOk at h
  simp at h
  exact h.2 k (mem_rng.mpr ⟨h0, by omega⟩)
theorem partOk_len {c p : List Int} (h : partOk c p = true) : p.length = c.length := by
  unfold partOk at h
  simp at h
  exact h.1
/-- what is behind a part of counts that are few together is counts again -/
theorem behind_good {c p : List Int} (h : 1 ≤ (c.length : Int) ∧ (c.length : Int) ≤ 5) (h0 : ∀ x ∈ c, 0 ≤ x) (hs : c.sum ≤ 64) (hp : partOk c p = true) : goodC (behindY c p) = true ∧ goodC (behindN c p) = true := by
  have hl := partOk_len hp
  have hp' : 1 ≤ (p.length : Int) ∧ (p.length : Int) ≤ 5 := by omega
  rcases five h with ⟨a, rfl⟩ | ⟨a, b, rfl⟩ | ⟨a, b, d, rfl⟩ | ⟨a, b, d, e, rfl⟩ | ⟨a, b, d, e, f, rfl⟩ <;>
  rcases five hp' with ⟨a', rfl⟩ | ⟨a', b', rfl⟩ | ⟨a', b', d', rfl⟩ | ⟨a', b', d', e', rfl⟩ | ⟨a', b', d', e', f', rfl⟩ <;>
  first
  | (simp at hl; done)
  | (simp [goodC, behindY, behindN, restV, nth, rng, List.range, List.range.loop, partOk] at hp hs h0 ⊢; omega)
def lI0b (b : Nat) : PyData := .list ((List.replicate b false).map .bool ++ [.bool true])
end LB

/-! Mirrors 4: games, questions told at once. -/
namespace LB
open PySem PySem.Spec PyProof.Rows L2
def goodG (n m : Int) : Bool := (decide (1 ≤ n) && decide (n ≤ 64)) && (decide (0 ≤ m) && decide (m ≤ 4))
def lookGame (n m : Int) : Except Err Unit := if goodG n m = true then .ok () else .error .game
def lastI (q : List Int) : Int := nth q ((q.length : Int) - 1)
def goodQu (n : Int) (q : List Int) : Bool := decide (q = sortU q) && (q.isEmpty || (decide (0 ≤ nth q 0) && (decide (nth q 0 ≤ lastI q) && decide (lastI q < n))))
def lookQu (n : Int) (q : List Int) : Except Err Unit := if goodQu n q = true then .ok () else .error .question
def lookAll (n m : Int) (qs : List (List Int)) : Except Err Unit := do
  lookGame n m
  if decide (40 < (qs.length : Int)) = true then .error .question else if qs.all (goodQu n) = true then pure () else .error .question
def lL (qs : List (List Int)) : PyData := .list (qs.map lI)
def lB (bs : List Bool) : PyData := .list (bs.map .bool)
def sp_look_game (ea : Err → Addr) : ASp := pSp ea fun ds o => ∃ n m : Int, ds = [.d (.int n), .d (.int m)] ∧ o = (lookGame n m).map fun _ => .none
def sp_look_question (ea : Err → Addr) : ASp := pSpA ea fun A ds o => ∃ (n : Int) (q : List Int) (dv : DV), ds = [.d (.int n), dv] ∧ IsL A dv (q.map .int) ∧ q.length < 64 ∧ o = (lookQu n q).map fun _ => .none
def sp_look_all (ea : Err → Addr) : ASp := pSp ea fun ds o => ∃ (n m : Int) (qs : List (List Int)), ds = [.d (.int n), .d (.int m), .d (lL qs)] ∧ (∀ q ∈ qs, q.length < 64) ∧ qs.length ≤ 1000 ∧ o = (lookAll n m qs).map fun _ => .none
/-! what parts two things -/
def parts2 (a b : Int) (q : List Int) : Bool := !decide (decide (a ∈ q) = decide (b ∈ q))
def farV (a b : Int) (qs : List (List Int)) : Int := (qs.filter (parts2 a b)).length
def sp_far (ea : Err → Addr) : ASp := pSp ea fun ds o => ∃ (a b : Int) (qs : List (List Int)), ds = [.d (.int a), .d (.int b), .d (lL qs)] ∧ qs.length ≤ 1000 ∧ o = .ok (.int (farV a b qs))
def d3 (t : Int × Int × Int) : PyData := tI [t.1, t.2.1, t.2.2]
def dO3 : Option (Int × Int × Int) → PyData
  | none => .none
  | some t => d3 t
def lt3 (s t : Int × Int × Int) : Bool := lexLt [s.1, s.2.1, s.2.2] [t.1, t.2.1, t.2.2]
def nearStep (qs : List (List Int)) (b : Int) (s : Option (Int × Int × Int)) (a : Int) : Option (Int × Int × Int) :=
  match s with
  | none => some (farV a b qs, a, b)
  | some t => if lt3 (farV a b qs, a, b) t = true then some (farV a b qs, a, b) else some t
def nearestV (n : Int) (qs : List (List Int)) : Option (Int × Int × Int) := (rng 0 n.toNat).foldl (fun s b => (rng 0 b.toNat).foldl (nearStep qs b) s) none
def sp_nearest (ea : Err → Addr) : ASp := pSp ea fun ds o => ∃ (n : Int) (qs : List (List Int)), ds = [.d (.int n), .d (lL qs)] ∧ 0 ≤ n ∧ n ≤ 1000 ∧ qs.length ≤ 1000 ∧ o = .ok (dO3 (nearestV n qs))
def worksV (n m : Int) (qs : List (List Int)) : Bool := match nearestV n qs with
  | none => true
  | some t => decide (2 * m < t.1)
def sp_works (ea : Err → Addr) : ASp := pSp ea fun ds o => ∃ (n m : Int) (qs : List (List Int)), ds = [.d (.int n), .d (.int m), .d (lL qs)] ∧ (∀ q ∈ qs, q.length < 64) ∧ qs.length ≤ 1000 ∧ o = (lookAll n m qs).map fun _ => .bool (worksV n m qs)
def foolStep (a b h : Int) (s : List Bool × Int) (q : List Int) : List Bool × Int :=
  if (parts2 a b q && decide (s.2 < h)) = true then (s.1 ++ [!decide (a ∈ q)], s.2 + 1) else (s.1 ++ [decide (a ∈ q)], s.2)
def foolV (a b h : Int) (qs : List (List Int)) : List Bool := (qs.foldl (foolStep a b h) ([], 0)).1
def fooledV (n m : Int) (qs : List (List Int)) : Option (Int × Int × List Bool) := match nearestV n qs with
  | none => none
  | some t => if decide (2 * m < t.1) = true then none else some (t.2.1, t.2.2, foolV t.2.1 t.2.2 ((t.1 + 1) / 2) qs)
def dF : Option (Int × Int × List Bool) → PyData
  | none => .none
  | some t => .tuple [.int t.1, .int t.2.1, lB t.2.2]
def sp_fooled (ea : Err → Addr) : ASp := pSp ea fun ds o => ∃ (n m : Int) (qs : List (List Int)), ds = [.d (.int n), .d (.int m), .d (lL qs)] ∧ (∀ q ∈ qs, q.length < 64) ∧ qs.length ≤ 1000 ∧ o = (lookAll n m qs).map fun _ => dF (fooledV n m qs)
/-- at which places a thing's answers are lies -/
def liedAt (qs : List (List Int)) (bs : List Bool) (t k : Int) : Bool := !decide (decide (t ∈ nth qs k) = nth bs k)
def liedV (qs : List (List Int)) (bs : List Bool) (t : Int) : Int := ((rng 0 bs.length).filter (liedAt qs bs t)).length
def decodedV (n m : Int) (qs : List (List Int)) (bs : List Bool) : List Int := (rng 0 n.toNat).filter fun t => decide (liedV qs bs t ≤ m)
def decodedM (n m : Int) (qs : List (List Int)) (bs : List Bool) : Except Err PyData := do
  lookAll n m qs
  if (!decide ((bs.length : Int) = qs.length)) = true then .error .question else pure (lI (decodedV n m qs bs))
def sp_decoded (ea : Err → Addr) : ASp := pSp ea fun ds o => ∃ (n m : Int) (qs : List (List Int)) (bs : List Bool), ds = [.d (.int n), .d (.int m), .d (lL qs), .d (lB bs)] ∧ (∀ q ∈ qs, q.length < 64) ∧ qs.length ≤ 1000 ∧ bs.length ≤ 1000 ∧ o = decodedM n m qs bs
/-! small facts -/
theorem lookGame_er {n m : Int} {β : Type} {f : Unit → β} {e : Err} (h : (lookGame n m).map f = .error e) : e = .game ∧ lookGame n m = .error .game := by
  unfold lookGame at h ⊢
  split at h
  · cases h
  · rename_i q; cases h; exact ⟨rfl, by rw [if_neg q]⟩
theorem lookGame_ok {n m : Int} {β : Type} {f : Unit → β} {r : β} (h : (lookGame n m).map f = .ok r) : goodG n m = true ∧ lookGame n m = .ok () := by
  unfold lookGame at h ⊢
  split at h
  · rename_i q; exact ⟨q, by rw [if_pos q]⟩
  · cases h
theorem lookAll_cases (n m : Int) (qs : List (List Int)) : lookAll n m qs = .error .game ∨ lookAll n m qs = .error .question ∨ (lookAll n m qs = .ok () ∧ goodG n m = true ∧ qs.length ≤ 40 ∧ qs.all (goodQu n) = true) := by
  unfold lookAll lookGame
  by_cases h1 : goodG n m = true
  · rw [if_pos h1]
    by_cases h2 : 40 < (qs.length : Int)
    · right; left; show (if _ then _ else _) = _; rw [if_pos (decide_eq_true h2)]
    · by_cases h3 : qs.all (goodQu n) = true
      · right; right; refine ⟨?_, h1, by omega, h3⟩; show (if _ then _ else _) = _; rw [if_neg (by simpa using h2), if_pos h3]; rfl
      · right; left; show (if _ then _ else _) = _; rw [if_neg (by simpa using h2), if_neg h3]
  · left; rw [if_neg h1]; rfl
theorem lookAll_ok {n m : Int} {qs : List (List Int)} {β : Type} {f : Unit → β} {r : β} (h : (lookAll n m qs).map f = .ok r) : lookAll n m qs = .ok () ∧ goodG n m = true ∧ qs.length ≤ 40 ∧ qs.all (goodQu n) = true := by
  rcases lookAll_cases n m qs with q | q | q
  · rw [q] at h; cases h
  · rw [q] at h; cases h
  · exact q
theorem goodG_bd {n m : Int} (h : goodG n m = true) : 1 ≤ n ∧ n ≤ 64 ∧ 0 ≤ m ∧ m ≤ 4 := by
  unfold goodG at h; simp at h; omega
theorem rng_nil_of {n : Nat} (h : n = 0) : rng 0 n = [] := by subst h; rfl
/-- filtering by a fold -/
theorem foldl_filter {α : Type} {pr : α → Bool} : ∀ (xs : List α) (s : List α), xs.foldl (fun s x => if pr x = true then s ++ [x] else s) s = s ++ xs.filter pr
  | [], s => by simp
  | x :: xs, s => by
    rw [List.foldl_cons, foldl_filter xs, List.filter_cons]
    split <;> simp
end LB

/-! Plain facts 5: questions that are drawn; what parts, what is lied. -/
namespace LB
open PySem PySem.Spec PyProof.Rows L2
def qPick (ns : List Int) (k : Int) (t : Int) : Bool :=
  (decide (mixV ns k % 5 = 0) && decide (mixV ns (k + 1 + t) % 8 = 0)) || (decide (0 < mixV ns k % 5) && decide (mixV ns (k + 1 + t) / 8 % 2 = 0))
def questionV (ns : List Int) (k n : Int) : List Int := (rng 0 n.toNat).filter (qPick ns k)
/-- a new list, owned by who asked for it -/
def sp_question (g : Gv) : ASp := fun ds A Q _ => ∃ (ns : List Int) (k n : Int), ds = [.f g.K ns, .d (.int k), .d (.int n)] ∧ 0 ≤ n ∧ n ≤ 64 ∧ ∀ l, A l = none → Q (.r l) (updA A l (oL ((questionV ns k n).map .int)))
theorem rng_rising : ∀ (lo : Int) (n : Nat), (rng lo n).Pairwise (· < ·)
  | lo, 0 => .nil
  | lo, n + 1 => by
    rw [rng_succ, List.pairwise_append]
    refine ⟨rng_rising lo n, List.pairwise_singleton _ _, fun a ha b hb => ?_⟩
    rw [List.mem_singleton.mp hb]
    exact (mem_rng.mp ha).2
theorem filter_rising {p : Int → Bool} (lo : Int) (n : Nat) : ((rng lo n).filter p).Pairwise (· < ·) := (rng_rising lo n).filter p
theorem rise_head : ∀ {q : List Int}, q.Pairwise (· < ·) → ∀ x ∈ q, nth q 0 ≤ x ∧ x ≤ lastI q
  | [], _, x, hx => (List.not_mem_nil hx).elim
  | a :: r, h, x, hx => by
    have p := List.pairwise_cons.mp h
    have hl : lastI (a :: r) ∈ a :: r := nth_mem (by simp <;> omega) (by simp <;> omega)
    have lmax : ∀ y ∈ a :: r, y ≤ lastI (a :: r) := by
      intro y hy
      obtain ⟨i, hi, rfl⟩ := List.mem_iff_getElem.mp hy
      have e : lastI (a :: r) = (a :: r)[(a :: r).length - 1]'(by simp) := by
        unfold lastI
        have := nth_get (xs := a :: r) (k := ((a :: r).length : Int) - 1) (by simp <;> omega) (by simp <;> omega)
        rw [show (((a :: r).length : Int) - 1).toNat = (a :: r).length - 1 from by simp] at this
        rw [List.getElem?_eq_getElem (by simp)] at this
        exact (Option.some.inj this).symm
      rw [e]
      rcases Nat.lt_or_ge i ((a :: r).length - 1) with q | q
      · have := List.pairwise_iff_getElem.mp h i ((a :: r).length - 1) hi (by simp) q
        omega
      · have : i = (a :: r).length - 1 := by omega
        subst this; exact Int.le_refl _
    refine ⟨?_, lmax x hx⟩
    show a ≤ x
    rcases List.mem_cons.mp hx with rfl | q
    · exact Int.le_refl _
    · have := p.1 x q; omega
theorem goodQu_iff {n : Int} {q : List Int} : goodQu n q = true ↔ q.Pairwise (· < ·) ∧ ∀ x ∈ q, 0 ≤ x ∧ x < n := by
  have r : q = sortU q ↔ q.Pairwise (· < ·) := sortU_fix.trans rising_pw
  unfold goodQu
  rw [Bool.and_eq_true, decide_eq_true_eq, r]
  constructor
  · rintro ⟨h, k⟩
    refine ⟨h, fun x hx => ?_⟩
    have hh := rise_head h x hx
    cases q with
    | nil => exact (List.not_mem_nil hx).elim
    | cons a q => simp at k; omega
  · rintro ⟨h, k⟩
    refine ⟨h, ?_⟩
    cases q with
    | nil => rfl
    | cons a q =>
      have h1 := k (nth (a :: q) 0) (nth_mem (by decide) (by simp <;> omega))
      have h2 := k (lastI (a :: q)) (nth_mem (by simp <;> omega) (by simp <;> omega))
      have h3 := rise_head h (nth (a :: q) 0) (nth_mem (by decide) (by simp <;> omega))
      simp; omega
theorem goodQu_filter {n : Int} {p : Int → Bool} : goodQu n ((rng 0 n.toNat).filter p) = true :=
  goodQu_iff.mpr ⟨filter_rising _ _, fun x hx => by have := mem_rng.mp (List.mem_filter.mp hx).1; omega⟩
/-! counting along a stretch -/
def cnt (p : Int → Bool) (n : Nat) : Int := ((rng 0 n).filter p).length
theorem cnt_succ (p : Int → Bool) (n : Nat) : cnt p (n + 1) = cnt p n + (if p n = true then 1 else 0) := by
  unfold cnt
  rw [rng_succ, List.filter_append, List.length_append, Int.zero_add]
  by_cases h : p (n : Int) = true
  · rw [if_pos h]; simp [h]
  · rw [if_neg h]; simp [h]
theorem cnt_congr {p q : Int → Bool} {n : Nat} (h : ∀ k : Int, 0 ≤ k → k < n → p k = q k) : cnt p n = cnt q n := by
  unfold cnt
  rw [List.filter_congr fun k hk => h k (mem_rng.mp hk).1 (by have := (mem_rng.mp hk).2; omega)]
theorem cnt_le_or {p q r : Int → Bool} : ∀ {n : Nat}, (∀ k : Int, 0 ≤ k → k < n → p k = true → q k = true ∨ r k = true) → cnt p n ≤ cnt q n + cnt r n
  | 0, _ => by show (0 : Int) ≤ 0 + 0; decide
  | n + 1, h => by
    have ih := cnt_le_or (n := n) (p := p) (q := q) (r := r) fun k k0 k1 => h k k0 (by omega)
    have hn := h n (by omega) (by omega)
    rw [cnt_succ, cnt_succ, cnt_succ]
    by_cases hp : p (n : Int) = true
    · rw [if_pos hp]
      rcases hn hp with z | z
      · rw [if_pos z]; split <;> omega
      · rw [if_pos z]; split <;> omega
    · rw [if_neg hp]
      split <;> split <;> omega
theorem cnt_one {p q : Int → Bool} {j : Int} : ∀ {n : Nat}, (∀ k : Int, k ≠ j → p k = q k) → cnt p n ≤ cnt q n + (if j < n then 1 else 0)
  | 0, _ => by show (0 : Int) ≤ 0 + _; split <;> omega
  | n + 1, h => by
    have ih := cnt_one (n := n) (p := p) (q := q) (j := j) h
    rw [cnt_succ, cnt_succ]
    by_cases e : (n : Int) = j
    · have e1 : ¬ j < (n : Int) := by omega
      have e2 : j < ((n + 1 : Nat) : Int) := by omega
      rw [if_neg e1] at ih
      rw [if_pos e2]
      split <;> split <;> omega
    · rw [h n e]
      generalize (if q (n : Int) = true then (1 : Int) else 0) = z
      by_cases e1 : j < (n : Int)
      · have e2 : j < ((n + 1 : Nat) : Int) := by omega
        rw [if_pos e1] at ih
        rw [if_pos e2]
        omega
      · have e2 : ¬ j < ((n + 1 : Nat) : Int) := by omega
        rw [if_neg e1] at ih
        rw [if_neg e2]
        omega
theorem cnt_zero {p : Int → Bool} {n : Nat} (h : ∀ k : Int, 0 ≤ k → k < n → p k = false) : cnt p n = 0 := by
  unfold cnt
  rw [List.filter_eq_nil_iff.mpr fun k hk => by rw [h k (mem_rng.mp hk).1 (by have := (mem_rng.mp hk).2; omega)]; decide]; rfl
theorem cnt_nonneg (p : Int → Bool) (n : Nat) : 0 ≤ cnt p n := by unfold cnt; omega
theorem nth_take {α : Type} [Inhabited α] {xs : List α} {i : Nat} {k : Int} (h0 : 0 ≤ k) (h1 : k < i) : nth (xs.take i) k = nth xs k := by
  unfold nth
  rw [List.getD_eq_getElem?_getD, List.getD_eq_getElem?_getD, List.getElem?_take, if_pos (by omega)]
theorem cnt_list {α : Type} [Inhabited α] {p : α → Bool} : ∀ (xs : List α) (i : Nat), i ≤ xs.length → (((xs.take i).filter p).length : Int) = cnt (fun k => p (nth xs k)) i
  | xs, 0, _ => rfl
  | xs, i + 1, h => by
    rw [cnt_succ, ← cnt_list xs i (by omega), List.take_add_one]
    have e : xs[i]? = some (nth xs i) := by
      have := nth_get (xs := xs) (k := (i : Int)) (by omega) (by omega)
      rwa [Int.toNat_natCast] at this
    rw [e, List.filter_append, List.length_append]
    rw [show (some (nth xs (i : Int))).toList = [nth xs (i : Int)] from rfl, Int.natCast_add]
    by_cases hp : p (nth xs (i : Int)) = true
    · rw [if_pos hp]; simp [hp]
    · rw [if_neg hp]; simp [hp]
theorem farV_cnt (a b : Int) (qs : List (List Int)) : farV a b qs = cnt (fun k => parts2 a b (nth qs k)) qs.length := by
  unfold farV
  rw [← cnt_list qs qs.length (Nat.le_refl _), List.take_length]
theorem liedV_cnt (qs : List (List Int)) (bs : List Bool) (t : Int) : liedV qs bs t = cnt (liedAt qs bs t) bs.length := rfl
theorem parts2_comm (a b : Int) (q : List Int) : parts2 a b q = parts2 b a q := by
  unfold parts2
  cases decide (a ∈ q) <;> cases decide (b ∈ q) <;> rfl
theorem farV_comm (a b : Int) (qs : List (List Int)) : farV a b qs = farV b a qs := by
  unfold farV
  rw [show parts2 a b = parts2 b a from funext (parts2_comm a b)]
/-- the lies of two things come to what parts them, or more -/
theorem far_le (a b : Int) {qs : List (List Int)} {bs : List Bool} (h : bs.length = qs.length) : farV a b qs ≤ liedV qs bs a + liedV qs bs b := by
  rw [farV_cnt, liedV_cnt, liedV_cnt, h]
  refine cnt_le_or fun k k0 k1 hp => ?_
  unfold parts2 at hp
  unfold liedAt
  revert hp
  cases decide (a ∈ nth qs k) <;> cases decide (b ∈ nth qs k) <;> cases nth bs k <;> simp
/-! the nearest two -/
def pairsOf (n : Nat) : List (Int × Int) := (rng 0 n).flatMap fun b => (rng 0 b.toNat).map fun a => (a, b)
theorem mem_pairs {n : Nat} {p : Int × Int} : p ∈ pairsOf n ↔ 0 ≤ p.1 ∧ p.1 < p.2 ∧ p.2 < n := by
  unfold pairsOf
  rw [List.mem_flatMap]
  constructor
  · rintro ⟨b, hb, h⟩
    obtain ⟨a, ha, rfl⟩ := List.mem_map.mp h
    have := mem_rng.mp hb
    have := mem_rng.mp ha
    refine ⟨?_, ?_, ?_⟩ <;> dsimp only <;> omega
  · rintro ⟨h0, h1, h2⟩
    exact ⟨p.2, mem_rng.mpr ⟨by omega, by omega⟩, List.mem_map.mpr ⟨p.1, mem_rng.mpr ⟨h0, by omega⟩, rfl⟩⟩
theorem foldl_pairs {β : Type} (f : Int → β → Int → β) : ∀ (bs : List Int) (s : β), bs.foldl (fun s b => (rng 0 b.toNat).foldl (f b) s) s = (bs.flatMap fun b => (rng 0 b.toNat).map fun a => (a, b)).foldl (fun s p => f p.2 s p.1) s
  | [], s => rfl
  | b :: bs, s => by
    rw [List.foldl_cons, List.flatMap_cons, List.foldl_append, foldl_pairs f bs, List.foldl_map]
theorem lt3_of {s t : Int × Int × Int} (h : lt3 s t = true) : s.1 ≤ t.1 := by
  unfold lt3 lexLt at h
  by_cases e : s.1 = t.1
  · omega
  · rw [if_neg e] at h
    have := of_decide_eq_true h
    omega
theorem lt3_not {s t : Int × Int × Int} (h : lt3 s t = false) : t.1 ≤ s.1 := by
  unfold lt3 lexLt at h
  by_cases e : s.1 = t.1
  · omega
  · rw [if_neg e] at h
    have := of_decide_eq_false h
    omega
theorem near_fold (qs : List (List Int)) : ∀ (ps : List (Int × Int)) (s : Option (Int × Int × Int)), (∀ t, s = some t → t.1 = farV t.2.1 t.2.2 qs) →
    match ps.foldl (fun s p => nearStep qs p.2 s p.1) s with
    | none => s = none ∧ ps = []
    | some t => t.1 = farV t.2.1 t.2.2 qs ∧ (s = some t ∨ t.2 ∈ ps) ∧ (∀ u, s = some u → t.1 ≤ u.1) ∧ ∀ p ∈ ps, t.1 ≤ farV p.1 p.2 qs
  | [], none, _ => ⟨rfl, rfl⟩
  | [], some t, h => ⟨h t rfl, .inl rfl, fun u e => by cases e; exact Int.le_refl _, fun p hp => (List.not_mem_nil hp).elim⟩
  | p :: ps, s, h => by
    rw [List.foldl_cons]
    have h' : ∀ t, nearStep qs p.2 s p.1 = some t → t.1 = farV t.2.1 t.2.2 qs := fun t e => by
      unfold nearStep at e
      split at e
      · cases e; rfl
      · split at e
        · cases e; rfl
        · cases e; exact h _ rfl
    have ih := near_fold qs ps (nearStep qs p.2 s p.1) h'
    have hst : ∃ u, nearStep qs p.2 s p.1 = some u ∧ u.1 ≤ farV p.1 p.2 qs ∧ (s = some u ∨ u.2 = p) ∧ ∀ w, s = some w → u.1 ≤ w.1 := by
      unfold nearStep
      cases s with
      | none => exact ⟨_, rfl, Int.le_refl _, .inr rfl, fun w e => by cases e⟩
      | some w =>
        cases q : lt3 (farV p.1 p.2 qs, p.1, p.2) w with
        | true => exact ⟨(farV p.1 p.2 qs, p.1, p.2), by show (if lt3 (farV p.1 p.2 qs, p.1, p.2) w = true then _ else _) = _; rw [if_pos q], Int.le_refl _, .inr rfl, fun w' e => by cases e; exact lt3_of q⟩
        | false => exact ⟨w, by show (if lt3 (farV p.1 p.2 qs, p.1, p.2) w = true then _ else _) = _; rw [if_neg (by rw [q]; decide)], lt3_not q, .inl rfl, fun w' e => by cases e; exact Int.le_refl _⟩
    obtain ⟨u, e1, e2, e3, e4⟩ := hst
    split at ih
    · rename_i r
      rw [e1] at ih
      exact absurd ih.1 (by simp)
    · rename_i t r
      obtain ⟨i1, i2, i3, i4⟩ := ih
      have tu := i3 u e1
      refine ⟨i1, ?_, fun w e => Int.le_trans tu (e4 w e), fun p' hp' => ?_⟩
      · rcases i2 with z | z
        · rw [e1] at z
          cases z
          rcases e3 with z | z
          · exact .inl z
          · exact .inr (by rw [z]; exact List.mem_cons_self)
        · exact .inr (List.mem_cons_of_mem _ z)
      · rcases List.mem_cons.mp hp' with rfl | z
        · omega
        · exact i4 p' z
theorem nearest_spec (n : Int) (qs : List (List Int)) : match nearestV n qs with
    | none => ∀ a b : Int, 0 ≤ a → a < b → b < n → False
    | some t => t.1 = farV t.2.1 t.2.2 qs ∧ 0 ≤ t.2.1 ∧ t.2.1 < t.2.2 ∧ t.2.2 < n ∧ ∀ a b : Int, 0 ≤ a → a < b → b < n → t.1 ≤ farV a b qs := by
  have e : nearestV n qs = (pairsOf n.toNat).foldl (fun s p => nearStep qs p.2 s p.1) none := foldl_pairs (nearStep qs) _ _
  have h := near_fold qs (pairsOf n.toNat) none fun t e => by cases e
  rw [← e] at h
  split at h
  · rename_i r
    intro a b h0 h1 h2
    have := mem_pairs (n := n.toNat) (p := (a, b)) |>.mpr ⟨h0, h1, by show b < _; omega⟩
    rw [h.2] at this
    exact List.not_mem_nil this
  · rename_i t r
    obtain ⟨i1, i2, i3, i4⟩ := h
    have m := mem_pairs.mp (i2.resolve_left (by simp))
    exact ⟨i1, m.1, m.2.1, by omega, fun a b h0 h1 h2 => i4 (a, b) (mem_pairs.mpr ⟨h0, h1, by show b < _; omega⟩)⟩
def lawWorks (n m : Int) (qs : List (List Int)) : Bool := (rng 0 n.toNat).all fun b => (rng 0 b.toNat).all fun a => decide (2 * m < farV a b qs)
theorem lawWorks_iff {n m : Int} {qs : List (List Int)} : lawWorks n m qs = true ↔ ∀ a b : Int, 0 ≤ a → a < b → b < n → 2 * m < farV a b qs := by
  unfold lawWorks
  rw [List.all_eq_true]
  constructor
  · intro h a b h0 h1 h2
    have := List.all_eq_true.mp (h b (mem_rng.mpr ⟨by omega, by omega⟩)) a (mem_rng.mpr ⟨h0, by omega⟩)
    exact of_decide_eq_true this
  · intro h b hb
    rw [List.all_eq_true]
    intro a ha
    have := mem_rng.mp hb
    have := mem_rng.mp ha
    exact decide_eq_true (h a b (by omega) (by omega) (by omega))
theorem works_law (n m : Int) (qs : List (List Int)) : worksV n m qs = lawWorks n m qs := by
  have h := nearest_spec n qs
  unfold worksV
  rw [Bool.eq_iff_iff, lawWorks_iff]
  split at h
  · rename_i r
    try rw [r]
    exact ⟨fun _ a b h0 h1 h2 => (h a b h0 h1 h2).elim, fun _ => rfl⟩
  · rename_i t r
    try rw [r]
    show decide _ = true ↔ _
    rw [decide_eq_true_eq]
    obtain ⟨h1, h2, h3, h4, h5⟩ := h
    refine ⟨fun k a b a0 a1 a2 => Int.lt_of_lt_of_le k (h5 a b a0 a1 a2), fun k => ?_⟩
    rw [h1]
    exact k _ _ h2 h3 h4
/-! two that are fooled -/
theorem nth_snoc {α : Type} [Inhabited α] {xs : List α} {x : α} {k : Int} (h0 : 0 ≤ k) (h1 : k < xs.length) : nth (xs ++ [x]) k = nth xs k := by
  unfold nth
  rw [List.getD_eq_getElem?_getD, List.getD_eq_getElem?_getD, List.getElem?_append_left (by omega)]
theorem nth_last {α : Type} [Inhabited α] {xs : List α} {x : α} : nth (xs ++ [x]) (xs.length : Int) = x := by
  unfold nth
  rw [List.getD_eq_getElem?_getD, Int.toNat_natCast, List.getElem?_append_right (Nat.le_refl _), Nat.sub_self]; rfl
theorem lied_snoc {qs : List (List Int)} {bs : List Bool} {q : List Int} {b : Bool} (t : Int) (h : bs.length = qs.length) : liedV (qs ++ [q]) (bs ++ [b]) t = liedV qs bs t + (if decide (t ∈ q) = b then 0 else 1) := by
  rw [liedV_cnt, liedV_cnt, List.length_append, List.length_singleton, cnt_succ]
  rw [cnt_congr (q := liedAt qs bs t) fun k k0 k1 => by unfold liedAt; rw [nth_snoc k0 (by omega), nth_snoc k0 k1]]
  congr 1
  unfold liedAt
  rw [nth_last, h, nth_last]
  by_cases e : decide (t ∈ q) = b
  · rw [if_pos e]; simp [e]
  · rw [if_neg e]; simp [e]
theorem far_snoc (a b : Int) (qs : List (List Int)) (q : List Int) : farV a b (qs ++ [q]) = farV a b qs + (if parts2 a b q = true then 1 else 0) := by
  unfold farV
  rw [List.filter_append, List.length_append]
  by_cases h : parts2 a b q = true
  · rw [if_pos h]; simp [h]
  · rw [if_neg h]; simp [h]
theorem farV_nonneg (a b : Int) (qs : List (List Int)) : 0 ≤ farV a b qs := by unfold farV; omega
theorem fool_spec (a b h : Int) (hh : 0 ≤ h) (qs : List (List Int)) : ∀ i : Nat, i ≤ qs.length →
    let s := (qs.take i).foldl (foolStep a b h) ([], 0)
    s.1.length = i ∧ s.2 = min h (farV a b (qs.take i)) ∧ liedV (qs.take i) s.1 a = s.2 ∧ liedV (qs.take i) s.1 b = farV a b (qs.take i) - s.2 := by
  intro i
  induction i with
  | zero =>
    intro _
    refine ⟨rfl, ?_, rfl, rfl⟩
    show (0 : Int) = min h 0
    omega
  | succ i ih =>
    intro hi
    have hs := ih (by omega)
    obtain ⟨q, hq⟩ : ∃ q, qs[i]? = some q := ⟨_, List.getElem?_eq_getElem (by omega)⟩
    rw [List.take_add_one, hq, List.foldl_append]
    show (foolStep a b h ((qs.take i).foldl (foolStep a b h) ([], 0)) q).1.length = _ ∧ (foolStep a b h ((qs.take i).foldl (foolStep a b h) ([], 0)) q).2 = min h (farV a b (qs.take i ++ [q])) ∧ liedV (qs.take i ++ [q]) (foolStep a b h ((qs.take i).foldl (foolStep a b h) ([], 0)) q).1 a = (foolStep a b h ((qs.take i).foldl (foolStep a b h) ([], 0)) q).2 ∧ liedV (qs.take i ++ [q]) (foolStep a b h ((qs.take i).foldl (foolStep a b h) ([], 0)) q).1 b = farV a b (qs.take i ++ [q]) - (foolStep a b h ((qs.take i).foldl (foolStep a b h) ([], 0)) q).2
    generalize (qs.take i).foldl (foolStep a b h) ([], 0) = s at hs
    obtain ⟨h1, h2, h3, h4⟩ := hs
    have hl : s.1.length = (qs.take i).length := by rw [h1, List.length_take]; omega
    have fn := farV_nonneg a b (qs.take i)
    unfold foolStep
    by_cases hp : parts2 a b q = true
    · have hab : decide (b ∈ q) = !decide (a ∈ q) := by
        unfold parts2 at hp
        revert hp
        cases decide (a ∈ q) <;> cases decide (b ∈ q) <;> simp
      by_cases hc : s.2 < h
      · rw [if_pos (by rw [hp, decide_eq_true hc]; rfl)]
        refine ⟨by rw [List.length_append, h1]; rfl, ?_, ?_, ?_⟩
        · show s.2 + 1 = _
          rw [far_snoc, if_pos hp]; omega
        · show liedV _ (s.1 ++ [!decide (a ∈ q)]) a = s.2 + 1
          rw [lied_snoc a hl, if_neg (by cases decide (a ∈ q) <;> decide), h3]
        · show liedV _ (s.1 ++ [!decide (a ∈ q)]) b = _ - (s.2 + 1)
          rw [lied_snoc b hl, if_pos hab, h4, far_snoc, if_pos hp]; omega
      · rw [if_neg (by rw [hp, decide_eq_false hc]; decide)]
        refine ⟨by rw [List.length_append, h1]; rfl, ?_, ?_, ?_⟩
        · show s.2 = _
          rw [far_snoc, if_pos hp]; omega
        · show liedV _ (s.1 ++ [decide (a ∈ q)]) a = s.2
          rw [lied_snoc a hl, if_pos rfl, h3]; omega
        · show liedV _ (s.1 ++ [decide (a ∈ q)]) b = _ - s.2
          rw [lied_snoc b hl, if_neg (by rw [hab]; cases decide (a ∈ q) <;> decide), h4, far_snoc, if_pos hp]; omega
    · have hab : decide (b ∈ q) = decide (a ∈ q) := by
        unfold parts2 at hp
        revert hp
        cases decide (a ∈ q) <;> cases decide (b ∈ q) <;> simp
      have hp' : parts2 a b q = false := by cases z : parts2 a b q with | true => exact absurd z hp | false => rfl
      rw [if_neg (by rw [hp']; simp)]
      refine ⟨by rw [List.length_append, h1]; rfl, ?_, ?_, ?_⟩
      · show s.2 = _
        rw [far_snoc, if_neg hp]; omega
      · show liedV _ (s.1 ++ [decide (a ∈ q)]) a = s.2
        rw [lied_snoc a hl, if_pos rfl, h3]; omega
      · show liedV _ (s.1 ++ [decide (a ∈ q)]) b = _ - s.2
        rw [lied_snoc b hl, if_pos hab, h4, far_snoc, if_neg hp]; omega
theorem fooled_spec {n m : Int} {qs : List (List Int)} {t : Int × Int × List Bool} (h : fooledV n m qs = some t) : 0 ≤ t.1 ∧ t.1 < t.2.1 ∧ t.2.1 < n ∧ t.2.2.length = qs.length ∧ liedV qs t.2.2 t.1 ≤ m ∧ liedV qs t.2.2 t.2.1 ≤ m := by
  have hs := nearest_spec n qs
  unfold fooledV at h
  split at hs
  · rename_i r
    try rw [r] at h
    cases h
  · rename_i u r
    try rw [r] at h
    dsimp only at h
    split at h
    · cases h
    · rename_i hk
      cases h
      obtain ⟨h1, h2, h3, h4, h5⟩ := hs
      have fn := farV_nonneg u.2.1 u.2.2 qs
      have hk' : ¬ 2 * m < u.1 := fun z => hk (decide_eq_true z)
      have f := fool_spec u.2.1 u.2.2 ((u.1 + 1) / 2) (by omega) qs qs.length (Nat.le_refl _)
      rw [List.take_length] at f
      obtain ⟨f1, f2, f3, f4⟩ := f
      refine ⟨h2, h3, h4, f1, ?_, ?_⟩
      · show liedV qs (qs.foldl (foolStep u.2.1 u.2.2 ((u.1 + 1) / 2)) ([], 0)).1 u.2.1 ≤ m
        rw [f3, f2, ← h1]; omega
      · show liedV qs (qs.foldl (foolStep u.2.1 u.2.2 ((u.1 + 1) / 2)) ([], 0)).1 u.2.2 ≤ m
        rw [f4, f2, ← h1]; omega
theorem fooled_none {n m : Int} {qs : List (List Int)} : (fooledV n m qs = none) ↔ worksV n m qs = true := by
  unfold fooledV worksV
  cases nearestV n qs with
  | none => exact ⟨fun _ => rfl, fun _ => rfl⟩
  | some t =>
    dsimp only
    by_cases h : decide (2 * m < t.1) = true
    · rw [if_pos h]; exact ⟨fun _ => h, fun _ => rfl⟩
    · rw [if_neg h]; exact ⟨fun z => (by cases z), fun z => absurd z h⟩
/-! a hidden thing -/
def flipStep (ns : List Int) (k0 : Int) (bs : List Bool) (k : Int) : List Bool := bs.set (mixV ns (k0 + k) % bs.length).toNat (!nth bs (mixV ns (k0 + k) % bs.length))
theorem lied_truth (qs : List (List Int)) (t : Int) : liedV qs (qs.map fun q => decide (t ∈ q)) t = 0 := by
  rw [liedV_cnt, List.length_map]
  refine cnt_zero fun k k0 k1 => ?_
  unfold liedAt
  have : nth (qs.map fun q => decide (t ∈ q)) k = decide (t ∈ nth qs k) := by
    have h1 := nth_get (xs := qs) k0 k1
    have h2 := nth_get (xs := qs.map fun q => decide (t ∈ q)) k0 (by rw [List.length_map]; exact k1)
    rw [List.getElem?_map, h1] at h2
    exact (Option.some.inj h2).symm
  rw [this]; simp
theorem nth_set_ne {α : Type} [Inhabited α] {xs : List α} {x : α} {j : Nat} {k : Int} (h0 : 0 ≤ k) (h : k ≠ j) : nth (xs.set j x) k = nth xs k := by
  unfold nth
  rw [List.getD_eq_getElem?_getD, List.getD_eq_getElem?_getD, List.getElem?_set_ne (by omega)]
theorem lied_flip {qs : List (List Int)} {bs : List Bool} {t : Int} {j : Nat} {x : Bool} : liedV qs (bs.set j x) t ≤ liedV qs bs t + 1 := by
  rw [liedV_cnt, liedV_cnt, List.length_set]
  have h := cnt_le_or (n := bs.length) (p := liedAt qs (bs.set j x) t) (q := liedAt qs bs t) (r := fun k => decide (k = j)) fun k k0 k1 hp => by
    by_cases e : k = j
    · exact .inr (decide_eq_true e)
    · refine .inl ?_
      unfold liedAt at hp ⊢
      rwa [nth_set_ne k0 e] at hp
  have h2 : ∀ n : Nat, cnt (fun k => decide (k = (j : Int))) n ≤ 1 := fun n => by
    have := cnt_one (n := n) (p := fun k => decide (k = (j : Int))) (q := fun _ => false) (j := (j : Int)) fun k hk => decide_eq_false hk
    rw [cnt_zero (p := fun _ => false) fun _ _ _ => rfl] at this
    split at this <;> omega
  have := h2 bs.length
  omega
theorem flips_spec (ns : List Int) (k0 : Int) (qs : List (List Int)) (t : Int) (bs : List Bool) : ∀ n : Nat, let r := (rng 0 n).foldl (flipStep ns k0) bs
    r.length = bs.length ∧ liedV qs r t ≤ liedV qs bs t + n := by
  intro n
  induction n with
  | zero => exact ⟨rfl, by show liedV qs bs t ≤ _ + 0; omega⟩
  | succ n ih =>
    rw [rng_succ, List.foldl_append]
    obtain ⟨h1, h2⟩ := ih
    refine ⟨by show (List.set _ _ _).length = _; rw [List.length_set]; exact h1, ?_⟩
    show liedV qs (List.set _ _ _) t ≤ _
    have := lied_flip (qs := qs) (bs := (rng 0 n).foldl (flipStep ns k0) bs) (t := t) (j := (mixV ns (k0 + (0 + (n : Int))) % ((rng 0 n).foldl (flipStep ns k0) bs).length).toNat) (x := !nth ((rng 0 n).foldl (flipStep ns k0) bs) (mixV ns (k0 + (0 + (n : Int))) % ((rng 0 n).foldl (flipStep ns k0) bs).length))
    omega
theorem decoded_one {n m t : Int} {qs : List (List Int)} {bs : List Bool} (hw : lawWorks n m qs = true) (h0 : 0 ≤ t) (h1 : t < n) (hl : bs.length = qs.length) (hb : liedV qs bs t ≤ m) : decodedV n m qs bs = [t] := by
  have hw := lawWorks_iff.mp hw
  refine rising_uniq (filter_rising _ _) (List.pairwise_singleton _ _) fun k => ?_
  unfold decodedV
  rw [List.mem_filter, List.mem_singleton, decide_eq_true_eq]
  constructor
  · rintro ⟨hk, kb⟩
    have hk := mem_rng.mp hk
    have f1 := far_le k t hl
    rcases Int.lt_trichotomy k t with z | z | z
    · have := hw k t (by omega) z h1; omega
    · exact z
    · have := hw t k h0 z (by omega)
      rw [farV_comm] at f1
      omega
  · rintro rfl
    exact ⟨mem_rng.mpr ⟨h0, by omega⟩, hb⟩
/-! what is drawn of questions -/
def qsStep (ns : List Int) (n : Int) (s : List (List Int)) (k : Int) : List (List Int) :=
  s ++ [if ((!s.isEmpty) && decide (mixV ns (3 + k) % 3 = 0)) = true then (rng 0 n.toNat).filter fun t => !decide (t ∈ nth s ((s.length : Int) - 1)) else questionV ns (10 + 8 * k) n]
def questionsV (ns : List Int) (n : Int) : List (List Int) := (rng 0 (mixV ns 2 % 10).toNat).foldl (qsStep ns n) []
theorem qs_spec (ns : List Int) (n : Int) : ∀ i : Nat, ((rng 0 i).foldl (qsStep ns n) []).length = i ∧ ∀ q ∈ (rng 0 i).foldl (qsStep ns n) [], goodQu n q = true := by
  intro i
  induction i with
  | zero => exact ⟨rfl, fun q hq => (List.not_mem_nil hq).elim⟩
  | succ i ih =>
    rw [rng_succ, List.foldl_append]
    obtain ⟨h1, h2⟩ := ih
    refine ⟨by show (_ ++ [_]).length = _; rw [List.length_append, h1]; rfl, fun q hq => ?_⟩
    rcases List.mem_append.mp hq with z | z
    · exact h2 q z
    · rw [List.mem_singleton.mp z]
      split
      · exact goodQu_filter
      · exact goodQu_filter
theorem goodQu_len {n : Int} {q : List Int} (h : goodQu n q = true) (h0 : 0 ≤ n) : (q.length : Int) ≤ n := by
  have ⟨h1, h2⟩ := goodQu_iff.mp h
  have e : q = (rng 0 n.toNat).filter fun k => decide (k ∈ q) := rising_uniq h1 (filter_rising _ _) fun k => by
    rw [List.mem_filter, decide_eq_true_eq]
    exact ⟨fun hk => ⟨mem_rng.mpr ⟨(h2 k hk).1, by have := (h2 k hk).2; omega⟩, hk⟩, fun hk => hk.2⟩
  have := List.length_filter_le (fun k => decide (k ∈ q)) (rng 0 n.toNat)
  rw [← e, rng_length] at this
  omega
def toldM40 (w n m : Int) (qs : List (List Int)) (bs : List Bool) : Except Err PyData :=
  if w = 0 then (lookAll n m qs).map fun _ => .bool (worksV n m qs) else if w = 1 then (lookAll n m qs).map fun _ => dF (fooledV n m qs) else decodedM n m qs bs
def toldS (x : Except Err PyData) : PyData := match x with
  | .ok d => d
  | .error e => .str ((nm5 e).getD "")
def sp_llied (ea : Err → Addr) : ASp := pSp ea fun ds o => ∃ (qs : List (List Int)) (bs : List Bool) (t : Int), ds = [.d (lL qs), .d (lB bs), .d (.int t)] ∧ bs.length = qs.length ∧ bs.length ≤ 1000 ∧ o = .ok (.int (liedV qs bs t))
def sp_told40 (ea : Err → Addr) : ASp := pSp ea fun ds o => ∃ (w n m : Int) (qs : List (List Int)) (bs : List Bool), ds = [.d (.int w), .d (.int n), .d (.int m), .d (lL qs), .d (lB bs)] ∧ (∀ q ∈ qs, q.length < 64) ∧ qs.length ≤ 1000 ∧ bs.length ≤ 1000 ∧ o = .ok (toldS (toldM40 w n m qs bs))
def sp_lquestions (g : Gv) : ASp := pSp g.ea fun ds o => ∃ (ns : List Int) (n : Int), ds = [.f g.K ns, .d (.int n)] ∧ 0 ≤ n ∧ n ≤ 64 ∧ o = .ok (lL (questionsV ns n))
def sp_lworks (ea : Err → Addr) : ASp := pSp ea fun ds o => ∃ (n m : Int) (qs : List (List Int)), ds = [.d (.int n), .d (.int m), .d (lL qs)] ∧ 0 ≤ n ∧ n ≤ 64 ∧ qs.length ≤ 1000 ∧ o = .ok (.bool (lawWorks n m qs))
def isFooled (n m : Int) (qs : List (List Int)) (t : Int × Int × List Bool) : Bool :=
  if (!(decide (0 ≤ t.1) && (decide (t.1 < t.2.1) && decide (t.2.1 < n))) || !decide ((t.2.2.length : Int) = qs.length)) = true then false else decide (max (liedV qs t.2.2 t.1) (liedV qs t.2.2 t.2.1) ≤ m)
def sp_isfooled (ea : Err → Addr) : ASp := pSp ea fun ds o => ∃ (n m : Int) (qs : List (List Int)) (t : Int × Int × List Bool), ds = [.d (.int n), .d (.int m), .d (lL qs), .d (dF (some t))] ∧ t.2.2.length ≤ 1000 ∧ o = .ok (.bool (isFooled n m qs t))
end LB

/-! Mirrors 9: things in a row, halved. -/
namespace LB
open PySem PySem.Spec PyProof.Rows L2
abbrev TO := List (Option Int)
def oD : Option Int → PyData
  | none => .none
  | some k => .int k
def tO (t : TO) : PyData := .tuple (t.map oD)
def stepO (m p : Int) (b : Bool) (i : Int) (x : Option Int) : Option Int := match x with
  | none => none
  | some k => if (decide (i < p) != b) = true then (if k < m then some (k + 1) else none) else some k
def atO (m : Int) (t : TO) (p : Int) (b : Bool) : TO := (rng 0 t.length).map fun i => stepO m p b i (nth t i)
def leftO (t : TO) : Nat := (t.filter (·.isSome)).length
structure OkO (m : Int) (n : Nat) (t : TO) : Prop where
  len : t.length = n
  ok : ∀ k, some k ∈ t → 0 ≤ k ∧ k ≤ m
theorem nthO_mem {t : TO} {i k : Int} (h : nth t i = some k) : some k ∈ t := by
  unfold nth at h
  rw [List.getD_eq_getElem?_getD] at h
  cases e : t[i.toNat]? with
  | none => rw [e] at h; cases h
  | some x => rw [e] at h; rw [← show x = some k from h]; exact List.mem_of_getElem? e
theorem self_rng (t : TO) : (rng 0 t.length).map (nth t) = t := by
  refine List.ext_getElem? fun j => ?_
  by_cases h : j < t.length
  · rw [List.getElem?_map, rng_get h, Option.map_some, Int.zero_add]
    have := nth_get (xs := t) (k := (j : Int)) (by omega) (by omega)
    rw [Int.toNat_natCast] at this
    exact this.symm
  · rw [List.getElem?_eq_none (by rw [List.length_map, rng_length]; omega), List.getElem?_eq_none (by omega)]
theorem atO_len (m : Int) (t : TO) (p : Int) (b : Bool) : (atO m t p b).length = t.length := by unfold atO; rw [List.length_map, rng_length]
theorem atO_ok {m : Int} {n : Nat} {t : TO} (h : OkO m n t) (p : Int) (b : Bool) : OkO m n (atO m t p b) := by
  refine ⟨by rw [atO_len]; exact h.len, fun k hk => ?_⟩
  unfold atO at hk
  obtain ⟨i, _, e⟩ := List.mem_map.mp hk
  cases x : nth t i with
  | none => rw [x] at e; cases e
  | some j =>
    have hj := h.ok j (nthO_mem x)
    rw [x] at e
    unfold stepO at e
    dsimp only at e
    by_cases c : (decide (i < p) != b) = true
    · rw [if_pos c] at e
      by_cases c2 : j < m
      · rw [if_pos c2] at e; cases e; omega
      · rw [if_neg c2] at e; cases e
    · rw [if_neg c] at e; cases e; exact hj
def wO (m : Int) : Option Int → Nat
  | none => 0
  | some k => (m + 1 - k).toNat
def potO (m : Int) (t : TO) : Nat := (t.map (wO m)).sum
theorem nsum_le {α : Type} {f g : α → Nat} : ∀ {l : List α}, (∀ x ∈ l, f x ≤ g x) → (l.map f).sum ≤ (l.map g).sum
  | [], _ => Nat.le_refl _
  | x :: l, h => by
    have := nsum_le (l := l) fun y hy => h y (List.mem_cons_of_mem _ hy)
    have := h x List.mem_cons_self
    simp only [List.map_cons, List.sum_cons]; omega
theorem nsum_lt {α : Type} {f g : α → Nat} : ∀ {l : List α}, (∀ x ∈ l, f x ≤ g x) → (∃ x ∈ l, f x < g x) → (l.map f).sum < (l.map g).sum
  | [], _, ⟨x, h, _⟩ => (List.not_mem_nil h).elim
  | x :: l, h, ⟨y, hy, q⟩ => by
    have h1 := h x List.mem_cons_self
    simp only [List.map_cons, List.sum_cons]
    rcases List.mem_cons.mp hy with e | hy
    · subst e
      have := nsum_le (l := l) fun z hz => h z (List.mem_cons_of_mem _ hz)
      omega
    · have := nsum_lt (l := l) (fun z hz => h z (List.mem_cons_of_mem _ hz)) ⟨y, hy, q⟩
      omega
theorem wO_step {m : Int} (p : Int) (b : Bool) (i : Int) {x : Option Int} (h : ∀ k, x = some k → 0 ≤ k ∧ k ≤ m) : wO m (stepO m p b i x) ≤ wO m x ∧ (stepO m p b i x ≠ x → wO m (stepO m p b i x) < wO m x) := by
  cases x with
  | none => exact ⟨Nat.le_refl _, fun e => absurd rfl e⟩
  | some k =>
    have hk := h k rfl
    unfold stepO
    dsimp only
    by_cases c : (decide (i < p) != b) = true
    · rw [if_pos c]
      by_cases c2 : k < m
      · rw [if_pos c2]; unfold wO; dsimp only; exact ⟨by omega, fun _ => by omega⟩
      · rw [if_neg c2]; unfold wO; dsimp only; exact ⟨by omega, fun _ => by omega⟩
    · rw [if_neg c]; exact ⟨Nat.le_refl _, fun e => absurd rfl e⟩
theorem pot_at {m : Int} {n : Nat} {t : TO} (h : OkO m n t) (p : Int) (b : Bool) (hne : atO m t p b ≠ t) : potO m (atO m t p b) < potO m t := by
  have ex : ∃ i ∈ rng 0 t.length, stepO m p b i (nth t i) ≠ nth t i := by
    refine Classical.byContradiction fun q => hne ?_
    have : ∀ i ∈ rng 0 t.length, stepO m p b i (nth t i) = nth t i := fun i hi => Classical.byContradiction fun z => q ⟨i, hi, z⟩
    have e := List.map_congr_left this
    unfold atO
    rw [e]; exact self_rng t
  have e2 : potO m t = ((rng 0 t.length).map fun i => wO m (nth t i)).sum := by
    unfold potO
    conv => lhs; rw [← self_rng t]
    rw [List.map_map]; rfl
  rw [e2]
  unfold potO atO
  rw [List.map_map]
  have key : ∀ i, wO m (stepO m p b i (nth t i)) ≤ wO m (nth t i) ∧ (stepO m p b i (nth t i) ≠ nth t i → wO m (stepO m p b i (nth t i)) < wO m (nth t i)) := fun i => wO_step p b i fun k hk => h.ok k (nthO_mem hk)
  obtain ⟨i, hi, hz⟩ := ex
  exact nsum_lt (fun i _ => (key i).1) ⟨i, hi, (key i).2 hz⟩
theorem left_cons (x : Option Int) (t : TO) : leftO (x :: t) = (if x.isSome = true then 1 else 0) + leftO t := by
  unfold leftO
  by_cases h : x.isSome = true
  · rw [if_pos h]; simp [h]; omega
  · rw [if_neg h]; simp [h]
theorem left_pot {m : Int} : ∀ {t : TO}, (∀ k, some k ∈ t → 0 ≤ k ∧ k ≤ m) → leftO t ≤ potO m t
  | [], _ => Nat.le_refl _
  | x :: t, h => by
    have ih := left_pot (m := m) (t := t) fun k hk => h k (List.mem_cons_of_mem _ hk)
    have e : potO m (x :: t) = wO m x + potO m t := by unfold potO; simp
    rw [left_cons, e]
    cases x with
    | none => simp [wO]; exact ih
    | some k =>
      have := h k List.mem_cons_self
      simp [wO]; omega
theorem left_one : ∀ {t : TO}, 1 ≤ leftO t → ∃ (i : Nat) (a : Int), t[i]? = some (some a)
  | [], h => by simp [leftO] at h
  | some a :: t, _ => ⟨0, a, rfl⟩
  | none :: t, h => by
    rw [left_cons] at h
    obtain ⟨i, a, e⟩ := left_one (t := t) (by simpa using h)
    exact ⟨i + 1, a, by simpa using e⟩
theorem left_two : ∀ {t : TO}, 2 ≤ leftO t → ∃ (i j : Nat) (a b : Int), i < j ∧ t[i]? = some (some a) ∧ t[j]? = some (some b)
  | [], h => by simp [leftO] at h
  | some a :: t, h => by
    rw [left_cons] at h
    obtain ⟨j, b, e⟩ := left_one (t := t) (by simp at h; omega)
    exact ⟨0, j + 1, a, b, by omega, rfl, by simpa using e⟩
  | none :: t, h => by
    rw [left_cons] at h
    obtain ⟨i, j, a, b, h1, h2, h3⟩ := left_two (t := t) (by simpa using h)
    exact ⟨i + 1, j + 1, a, b, by omega, by simpa using h2, by simpa using h3⟩
theorem step_ne {m p i k : Int} {b : Bool} (h : (decide (i < p) != b) = true) : stepO m p b i (some k) ≠ some k := by
  unfold stepO
  dsimp only
  rw [if_pos h]
  by_cases c : k < m
  · rw [if_pos c]; intro e; have := Option.some.inj e; omega
  · rw [if_neg c]; exact fun e => nomatch e
theorem at_ne {m p : Int} {t : TO} {b : Bool} {i : Nat} {k : Int} (hi : t[i]? = some (some k)) (h : (decide ((i : Int) < p) != b) = true) : atO m t p b ≠ t := by
  intro e
  have hlt : i < t.length := (List.getElem?_eq_some_iff.mp hi).1
  have e2 : (atO m t p b)[i]? = some (some k) := by rw [e]; exact hi
  unfold atO at e2
  rw [List.getElem?_map, rng_get hlt, Option.map_some, Int.zero_add] at e2
  have e3 : nth t (i : Int) = some k := by unfold nth; rw [List.getD_eq_getElem?_getD, Int.toNat_natCast, hi]; rfl
  rw [e3] at e2
  exact step_ne h (Option.some.inj e2)
theorem good_place {m : Int} {t : TO} (h : 2 ≤ leftO t) : ∃ p ∈ rng 1 (t.length - 1), atO m t p true ≠ t ∧ atO m t p false ≠ t := by
  obtain ⟨i, j, a, b, h1, h2, h3⟩ := left_two h
  have hj : j < t.length := (List.getElem?_eq_some_iff.mp h3).1
  refine ⟨(i : Int) + 1, mem_rng.mpr ⟨by omega, by omega⟩, at_ne h3 ?_, at_ne h2 ?_⟩
  · rw [decide_eq_false (by omega)]; rfl
  · rw [decide_eq_true (by omega)]; rfl
/-- the first place by which k questions do -/
def canH (m : Int) : Nat → TO → Option Int
  | 0, t => if leftO t ≤ 1 then some (-1) else none
  | k + 1, t => if leftO t ≤ 1 then some (-1) else (rng 1 (t.length - 1)).find? fun p => (canH m k (atO m t p true)).isSome && (canH m k (atO m t p false)).isSome
def stepB (v : Int → Option Int) (s : Option (Int × Int)) (p : Int) : Option (Int × Int) := match v p with
  | none => s
  | some x => match s with
    | none => some (x, p)
    | some (y, q) => if x < y then some (x, p) else some (y, q)
def bestF (v : Int → Option Int) (ps : List Int) : Option (Int × Int) := ps.foldl (stepB v) none
theorem best_snoc (v : Int → Option Int) (ps : List Int) (p : Int) : bestF v (ps ++ [p]) = stepB v (bestF v ps) p := by unfold bestF; rw [List.foldl_append]; rfl
theorem best_spec (v : Int → Option Int) : ∀ n : Nat, match bestF v (rng 1 n) with
    | none => ∀ p ∈ rng 1 n, v p = none
    | some (y, q) => (∀ p ∈ rng 1 n, ∀ x, v p = some x → y ≤ x) ∧ v q = some y ∧ q ∈ rng 1 n ∧ ∀ p ∈ rng 1 n, v p = some y → q ≤ p := by
  intro n
  induction n with
  | zero => exact fun p hp => by have := mem_rng.mp hp; omega
  | succ n ih =>
    rw [rng_succ, best_snoc]
    unfold stepB
    have mem : ∀ p, p ∈ rng 1 n ++ [1 + (n : Int)] ↔ p ∈ rng 1 n ∨ p = 1 + (n : Int) := fun p => by rw [List.mem_append, List.mem_singleton]
    cases hb : bestF v (rng 1 n) with
    | none =>
      rw [hb] at ih
      cases hv : v (1 + (n : Int)) with
      | none =>
        dsimp only
        intro p hp
        rcases (mem p).mp hp with h | h
        · exact ih p h
        · rw [h]; exact hv
      | some x =>
        dsimp only
        refine ⟨fun p hp z hz => ?_, hv, (mem _).mpr (.inr rfl), fun p hp hz => ?_⟩
        · rcases (mem p).mp hp with h | h
          · have e : v p = none := ih p h
            rw [e] at hz; cases hz
          · rw [h, hv] at hz; cases hz; omega
        · rcases (mem p).mp hp with h | h
          · have e : v p = none := ih p h
            rw [e] at hz; cases hz
          · omega
    | some yq =>
      obtain ⟨y, q⟩ := yq
      rw [hb] at ih
      obtain ⟨i1, i2, i3, i4⟩ := ih
      cases hv : v (1 + (n : Int)) with
      | none =>
        dsimp only
        refine ⟨fun p hp z hz => ?_, i2, (mem _).mpr (.inl i3), fun p hp hz => ?_⟩
        · rcases (mem p).mp hp with h | h
          · exact i1 p h z hz
          · rw [h, hv] at hz; cases hz
        · rcases (mem p).mp hp with h | h
          · exact i4 p h hz
          · rw [h, hv] at hz; cases hz
      | some x =>
        dsimp only
        have q0 := mem_rng.mp i3
        by_cases c : x < y
        · rw [if_pos c]
          refine ⟨fun p hp z hz => ?_, hv, (mem _).mpr (.inr rfl), fun p hp hz => ?_⟩
          · rcases (mem p).mp hp with h | h
            · have := i1 p h z hz; omega
            · rw [h, hv] at hz; cases hz; omega
          · rcases (mem p).mp hp with h | h
            · have := i1 p h x hz; omega
            · omega
        · rw [if_neg c]
          refine ⟨fun p hp z hz => ?_, i2, (mem _).mpr (.inl i3), fun p hp hz => ?_⟩
          · rcases (mem p).mp hp with h | h
            · exact i1 p h z hz
            · rw [h, hv] at hz; cases hz; omega
          · rcases (mem p).mp hp with h | h
            · exact i4 p h hz
            · omega
theorem best_some {v : Int → Option Int} {n : Nat} {r : Int × Int} (h : bestF v (rng 1 n) = some r) : (∀ p ∈ rng 1 n, ∀ x, v p = some x → r.1 ≤ x) ∧ v r.2 = some r.1 ∧ r.2 ∈ rng 1 n ∧ ∀ p ∈ rng 1 n, v p = some r.1 → r.2 ≤ p := by
  have hs := best_spec v n
  rw [h] at hs
  obtain ⟨y, q⟩ := r
  exact hs
theorem best_congr {v w : Int → Option Int} {ps : List Int} (h : ∀ p ∈ ps, v p = w p) : bestF v ps = bestF w ps := by
  unfold bestF
  have key : ∀ (ps : List Int) s, (∀ p ∈ ps, v p = w p) → ps.foldl (stepB v) s = ps.foldl (stepB w) s := fun ps => by
    induction ps with
    | nil => intro _ _; rfl
    | cons p ps ih =>
      intro s h
      rw [List.foldl_cons, List.foldl_cons]
      have e : stepB v s p = stepB w s p := by unfold stepB; rw [h p List.mem_cons_self]
      rw [e]; exact ih _ fun q hq => h q (List.mem_cons_of_mem _ hq)
  exact key ps none h
theorem find_rng {P : Int → Bool} {n i : Nat} (hi : i < n) (h : ∀ q ∈ rng 1 i, P q = false) (hp : P (1 + (i : Int)) = true) : (rng 1 n).find? P = some (1 + (i : Int)) := by
  have key : ∀ j : Nat, i < j → (rng 1 j).find? P = some (1 + (i : Int)) := fun j => by
    induction j with
    | zero => intro h; omega
    | succ j ih =>
      intro hj
      rw [rng_succ, List.find?_append]
      by_cases c : i < j
      · rw [ih c]; rfl
      · have e : j = i := by omega
        subst e
        have e2 : (rng 1 j).find? P = none := List.find?_eq_none.mpr fun q hq => by rw [h q hq]; decide
        rw [e2]
        show List.find? P [1 + (j : Int)] = _
        rw [List.find?_cons, hp]
  exact key n hi
/-- the fewest questions, and the first place -/
def fewF (m : Int) : Nat → TO → Int × Int
  | 0, _ => (0, -1)
  | f + 1, t => if leftO t < 2 then (0, -1) else (bestF (fun p => if atO m t p true = t ∨ atO m t p false = t then none else some (1 + max (fewF m f (atO m t p true)).1 (fewF m f (atO m t p false)).1)) (rng 1 (t.length - 1))).getD (0, -1)
def fewV (m : Int) (t : TO) : Int × Int := fewF m (potO m t) t
theorem few_eq {m : Int} {n : Nat} : ∀ (f f' : Nat) {t : TO}, OkO m n t → potO m t ≤ f → potO m t ≤ f' → fewF m f t = fewF m f' t
  | 0, 0, _, _, _, _ => rfl
  | 0, f' + 1, t, h, h1, _ => by
    have := left_pot h.ok
    show _ = if _ then _ else _
    rw [if_pos (by omega)]; rfl
  | f + 1, 0, t, h, _, h2 => by
    have := left_pot h.ok
    show (if _ then _ else _) = _
    rw [if_pos (by omega)]; rfl
  | f + 1, f' + 1, t, h, h1, h2 => by
    show (if _ then _ else _) = if _ then _ else _
    by_cases c : leftO t < 2
    · rw [if_pos c, if_pos c]
    · rw [if_neg c, if_neg c]
      congr 1
      refine best_congr fun p _ => ?_
      by_cases c2 : atO m t p true = t ∨ atO m t p false = t
      · rw [if_pos c2, if_pos c2]
      · rw [if_neg c2, if_neg c2]
        have n1 := pot_at h p true fun e => c2 (.inl e)
        have n2 := pot_at h p false fun e => c2 (.inr e)
        rw [few_eq f f' (atO_ok h p true) (by omega) (by omega), few_eq f f' (atO_ok h p false) (by omega) (by omega)]
def valV (m : Int) (t : TO) (p : Int) : Option Int := if atO m t p true = t ∨ atO m t p false = t then none else some (1 + max (fewV m (atO m t p true)).1 (fewV m (atO m t p false)).1)
theorem few_lo {m : Int} {t : TO} (h : leftO t < 2) : fewV m t = (0, -1) := by
  unfold fewV
  cases potO m t with
  | zero => rfl
  | succ f => show (if _ then _ else _) = _; rw [if_pos h]
theorem few_hi {m : Int} {n : Nat} {t : TO} (ok : OkO m n t) (h : 2 ≤ leftO t) : bestF (valV m t) (rng 1 (t.length - 1)) = some (fewV m t) := by
  have hp := left_pot ok.ok
  obtain ⟨f, hf⟩ : ∃ f, potO m t = f + 1 := ⟨potO m t - 1, by omega⟩
  have e : fewV m t = (bestF (valV m t) (rng 1 (t.length - 1))).getD (0, -1) := by
    unfold fewV
    rw [hf]
    show (if _ then _ else _) = _
    rw [if_neg (by omega)]
    congr 1
    refine best_congr fun p _ => ?_
    unfold valV
    by_cases c2 : atO m t p true = t ∨ atO m t p false = t
    · rw [if_pos c2, if_pos c2]
    · rw [if_neg c2, if_neg c2]
      have n1 := pot_at ok p true fun e => c2 (.inl e)
      have n2 := pot_at ok p false fun e => c2 (.inr e)
      unfold fewV
      rw [few_eq f (potO m (atO m t p true)) (atO_ok ok p true) (by omega) (Nat.le_refl _), few_eq f (potO m (atO m t p false)) (atO_ok ok p false) (by omega) (Nat.le_refl _)]
  have hs := best_spec (valV m t) (t.length - 1)
  cases hb : bestF (valV m t) (rng 1 (t.length - 1)) with
  | none =>
    rw [hb] at hs
    obtain ⟨p, hp, h1, h2⟩ := good_place (m := m) h
    have hs := hs p hp
    unfold valV at hs
    rw [if_neg (fun z => z.elim h1 h2)] at hs
    cases hs
  | some x => rw [e, hb]; rfl
theorem few_0 (m : Int) : ∀ (f : Nat) (t : TO), 0 ≤ (fewF m f t).1
  | 0, _ => by show (0 : Int) ≤ 0; omega
  | f + 1, t => by
    show 0 ≤ (if _ then _ else _ : Int × Int).1
    by_cases c : leftO t < 2
    · rw [if_pos c]; show (0 : Int) ≤ 0; omega
    · rw [if_neg c]
      have hs := best_spec (fun p => if atO m t p true = t ∨ atO m t p false = t then none else some (1 + max (fewF m f (atO m t p true)).1 (fewF m f (atO m t p false)).1)) (t.length - 1)
      revert hs
      generalize bestF _ _ = o
      intro hs
      cases o with
      | none => show (0 : Int) ≤ 0; omega
      | some x =>
        obtain ⟨y, q⟩ := x
        have h2 := hs.2.1
        show 0 ≤ y
        try dsimp only at h2
        by_cases c2 : atO m t q true = t ∨ atO m t q false = t
        · rw [if_pos c2] at h2; cases h2
        · rw [if_neg c2] at h2
          have := few_0 m f (atO m t q true)
          have h3 := Option.some.inj h2
          omega
theorem few_pos (m : Int) (t : TO) : 0 ≤ (fewV m t).1 := few_0 m _ t
theorem few_pot {m : Int} {n : Nat} : ∀ (f : Nat) {t : TO}, OkO m n t → potO m t ≤ f → (fewV m t).1 ≤ potO m t
  | 0, t, ok, h => by
    have := left_pot ok.ok
    rw [few_lo (by omega)]; show (0 : Int) ≤ _; omega
  | f + 1, t, ok, h => by
    by_cases c : leftO t < 2
    · rw [few_lo c]; show (0 : Int) ≤ _; omega
    · have hb := few_hi ok (by omega)
      have hs := best_some hb
      obtain ⟨p, hp, h1, h2⟩ := good_place (m := m) (t := t) (by omega)
      have n1 := pot_at ok p true h1
      have n2 := pot_at ok p false h2
      have i1 := few_pot f (atO_ok ok p true) (by omega)
      have i2 := few_pot f (atO_ok ok p false) (by omega)
      have := hs.1 p hp _ (by unfold valV; rw [if_neg (fun z => z.elim h1 h2)])
      show (fewV m t).1 ≤ _
      omega
theorem can_iff {m : Int} {n : Nat} : ∀ (k : Nat) {t : TO}, OkO m n t → ((canH m k t).isSome = true ↔ (fewV m t).1 ≤ k) ∧ ((fewV m t).1 = k → canH m k t = some (fewV m t).2)
  | 0, t, ok => by
    show ((if _ then _ else _ : Option Int).isSome = true ↔ _) ∧ (_ → (if _ then _ else _ : Option Int) = _)
    by_cases c : leftO t ≤ 1
    · rw [if_pos c, few_lo (by omega)]
      exact ⟨⟨fun _ => by show (0 : Int) ≤ _; omega, fun _ => rfl⟩, fun _ => rfl⟩
    · rw [if_neg c]
      have hb := few_hi ok (by omega)
      have hs := best_some hb
      have h2 := hs.2.1
      unfold valV at h2
      have h1 : 1 ≤ (fewV m t).1 := by
        by_cases c2 : atO m t (fewV m t).2 true = t ∨ atO m t (fewV m t).2 false = t
        · rw [if_pos c2] at h2; cases h2
        · rw [if_neg c2] at h2
          have h3 := Option.some.inj h2
          have := few_pos m (atO m t (fewV m t).2 true)
          omega
      exact ⟨⟨(fun z => nomatch z), fun z => by omega⟩, fun z => by omega⟩
  | k + 1, t, ok => by
    show ((if _ then _ else _ : Option Int).isSome = true ↔ _) ∧ (_ → (if _ then _ else _ : Option Int) = _)
    by_cases c : leftO t ≤ 1
    · rw [if_pos c, few_lo (by omega)]
      exact ⟨⟨fun _ => by show (0 : Int) ≤ _; omega, fun _ => rfl⟩, fun _ => rfl⟩
    · rw [if_neg c]
      have hb := few_hi ok (by omega)
      have hs := best_some hb
      obtain ⟨s1, s2, s3, s4⟩ := hs
      have gd : ∀ p, ((canH m k (atO m t p true)).isSome && (canH m k (atO m t p false)).isSome) = true ↔ (fewV m (atO m t p true)).1 ≤ k ∧ (fewV m (atO m t p false)).1 ≤ k := fun p => by
        rw [Bool.and_eq_true, (can_iff k (atO_ok ok p true)).1, (can_iff k (atO_ok ok p false)).1]
      have vp : ∀ p ∈ rng 1 (t.length - 1), (fewV m (atO m t p true)).1 ≤ k → (fewV m (atO m t p false)).1 ≤ k → (fewV m t).1 ≤ k ∨ ∃ x, valV m t p = some x ∧ (fewV m t).1 ≤ x ∧ x ≤ k + 1 := fun p hp h1 h2 => by
        by_cases c2 : atO m t p true = t ∨ atO m t p false = t
        · rcases c2 with e | e
          · left; rwa [e] at h1
          · left; rwa [e] at h2
        · right
          have ev : valV m t p = some (1 + max (fewV m (atO m t p true)).1 (fewV m (atO m t p false)).1) := by unfold valV; rw [if_neg c2]
          exact ⟨_, ev, s1 p hp _ ev, by omega⟩
      have v2 : ¬ (atO m t (fewV m t).2 true = t ∨ atO m t (fewV m t).2 false = t) ∧ 1 + max (fewV m (atO m t (fewV m t).2 true)).1 (fewV m (atO m t (fewV m t).2 false)).1 = (fewV m t).1 := by
        unfold valV at s2
        by_cases c2 : atO m t (fewV m t).2 true = t ∨ atO m t (fewV m t).2 false = t
        · rw [if_pos c2] at s2; cases s2
        · rw [if_neg c2] at s2; exact ⟨c2, Option.some.inj s2⟩
      constructor
      · rw [List.find?_isSome]
        constructor
        · rintro ⟨p, hp, hq⟩
          obtain ⟨h1, h2⟩ := (gd p).mp hq
          rcases vp p hp h1 h2 with h | ⟨x, _, h, h'⟩
          · show _ ≤ ((k + 1 : Nat) : Int); omega
          · show _ ≤ ((k + 1 : Nat) : Int); omega
        · intro hle
          have hle : (fewV m t).1 ≤ (k : Int) + 1 := by simpa using hle
          exact ⟨_, s3, (gd _).mpr ⟨by omega, by omega⟩⟩
      · intro he
        have he : (fewV m t).1 = (k : Int) + 1 := by simpa using he
        have q0 := mem_rng.mp s3
        have e1 : (fewV m t).2 = 1 + (((fewV m t).2 - 1).toNat : Int) := by omega
        rw [e1]
        refine find_rng (by omega) (fun q hq => ?_) ((gd _).mpr ⟨?_, ?_⟩)
        · cases z : ((canH m k (atO m t q true)).isSome && (canH m k (atO m t q false)).isSome) with
          | false => rfl
          | true =>
            exfalso
            obtain ⟨h1, h2⟩ := (gd q).mp z
            have hq2 := mem_rng.mp hq
            have hqm : q ∈ rng 1 (t.length - 1) := mem_rng.mpr ⟨by omega, by omega⟩
            rcases vp q hqm h1 h2 with h | ⟨x, h3, h, h'⟩
            · omega
            · have ex : x = (fewV m t).1 := by omega
              have := s4 q hqm (by rw [← ex]; exact h3)
              omega
        · rw [← e1]; omega
        · rw [← e1]; omega
theorem can_isSome {m : Int} {n k : Nat} {t : TO} (ok : OkO m n t) : (canH m k t).isSome = decide ((fewV m t).1 ≤ k) := by
  rw [Bool.eq_iff_iff, decide_eq_true_eq]; exact (can_iff k ok).1
/-! keys -/
def kO : Option Int → NestedKey
  | none => .none
  | some k => .num k
def lkey (t : TO) : NestedKey := .tup (t.map kO)
def hkey (t : TO) (k : Nat) : NestedKey := .tup [lkey t, .num k]
theorem kO_data (x : Option Int) : (kO x).data = oD x := by cases x <;> rfl
theorem kO_datas : ∀ t : TO, NestedKey.datas (t.map kO) = t.map oD
  | [] => rfl
  | x :: t => by
    show (kO x).data :: NestedKey.datas (t.map kO) = oD x :: t.map oD
    rw [kO_data, kO_datas t]
theorem lkey_data (t : TO) : (lkey t).data = tO t := by
  show PyData.tuple (NestedKey.datas (t.map kO)) = _
  rw [kO_datas]; rfl
theorem hkey_data (t : TO) (k : Nat) : (hkey t k).data = .tuple [tO t, .int k] := by
  show PyData.tuple [(lkey t).data, .int k] = _
  rw [lkey_data]
theorem kO_depth : ∀ t : TO, NestedKey.depthAll (t.map kO) ≤ 1
  | [] => Nat.zero_le _
  | x :: t => by
    have h := kO_depth t
    have hx : (kO x).depth ≤ 1 := by cases x <;> simp [kO, NestedKey.depth]
    simp only [List.map_cons, NestedKey.depthAll]; omega
theorem lkey_depth (t : TO) : (lkey t).depth ≤ 8 := by
  have := kO_depth t
  unfold lkey; simp only [NestedKey.depth]; omega
theorem hkey_depth (t : TO) (k : Nat) : (hkey t k).depth ≤ 8 := by
  have := kO_depth t
  unfold hkey lkey; simp only [NestedKey.depth, NestedKey.depthAll]; omega
theorem kO_inj {x y : Option Int} (h : kO x = kO y) : x = y := by
  cases x <;> cases y <;> first | rfl | cases h
  rfl
theorem kOs_inj : ∀ {s t : TO}, s.map kO = t.map kO → s = t
  | [], [], _ => rfl
  | [], _ :: _, h => by cases h
  | _ :: _, [], h => by cases h
  | x :: s, y :: t, h => by
    rw [List.map_cons, List.map_cons] at h
    have h1 := List.cons.inj h
    rw [kO_inj h1.1, kOs_inj h1.2]
theorem lkey_inj {s t : TO} (h : lkey s = lkey t) : s = t := kOs_inj (NestedKey.tup.inj h)
theorem hkey_inj {s t : TO} {j k : Nat} (h : hkey s j = hkey t k) : s = t ∧ j = k := by
  have h1 := NestedKey.tup.inj h
  have h2 := List.cons.inj h1
  have h3 := List.cons.inj h2.2
  exact ⟨lkey_inj h2.1, Int.ofNat.inj (NestedKey.num.inj h3.1)⟩
def allTO (m : Int) : Nat → List TO
  | 0 => [[]]
  | n + 1 => (allTO m n).flatMap fun t => (none :: (rng 0 (m + 1).toNat).map some).map (· :: t)
theorem flat_len {α β : Type} {f : α → List β} {c : Nat} : ∀ {l : List α}, (∀ x ∈ l, (f x).length = c) → (l.flatMap f).length = l.length * c
  | [], _ => by simp
  | x :: l, h => by
    rw [List.flatMap_cons, List.length_append, flat_len fun y hy => h y (List.mem_cons_of_mem _ hy), h x List.mem_cons_self, List.length_cons, Nat.add_mul]; omega
theorem allTO_len (m : Int) : ∀ n, (allTO m n).length = ((m + 1).toNat + 1) ^ n
  | 0 => rfl
  | n + 1 => by
    show ((allTO m n).flatMap _).length = _
    rw [flat_len (c := (m + 1).toNat + 1) fun t _ => by rw [List.length_map, List.length_cons, List.length_map, rng_length], allTO_len m n, Nat.pow_succ]
theorem mem_allTO {m : Int} : ∀ {n : Nat} {t : TO}, OkO m n t → t ∈ allTO m n
  | 0, [], _ => List.mem_singleton.mpr rfl
  | 0, _ :: _, h => by have := h.len; cases this
  | _ + 1, [], h => by have := h.len; cases this
  | n + 1, x :: t, h => by
    have ih := mem_allTO (m := m) (n := n) (t := t) ⟨by simpa using h.len, fun k hk => h.ok k (List.mem_cons_of_mem _ hk)⟩
    refine List.mem_flatMap.mpr ⟨t, ih, List.mem_map.mpr ⟨x, ?_, rfl⟩⟩
    cases x with
    | none => exact List.mem_cons_self
    | some k =>
      have := h.ok k List.mem_cons_self
      exact List.mem_cons_of_mem _ (List.mem_map.mpr ⟨k, mem_rng.mpr ⟨by omega, by omega⟩, rfl⟩)
def uL (m : Int) (n : Nat) : List NestedKey := (allTO m n).map lkey
def uH (m : Int) (n : Nat) : List NestedKey := (allTO m n).flatMap fun t => (List.range 22).map fun k => hkey t k
theorem all_few {m : Int} {n : Nat} (m2 : m ≤ 2) (n7 : n ≤ 7) : (allTO m n).length ≤ 16384 := by
  rw [allTO_len]
  have h1 : (m + 1).toNat + 1 ≤ 4 := by omega
  calc ((m + 1).toNat + 1) ^ n ≤ 4 ^ n := Nat.pow_le_pow_left h1 n
    _ ≤ 4 ^ 7 := Nat.pow_le_pow_right (by decide) n7
    _ = 16384 := rfl
theorem uL_len {m : Int} {n : Nat} (m2 : m ≤ 2) (n7 : n ≤ 7) : (uL m n).length ≤ 1000000 := by
  have := all_few m2 n7
  unfold uL; rw [List.length_map]; omega
theorem uH_len {m : Int} {n : Nat} (m2 : m ≤ 2) (n7 : n ≤ 7) : (uH m n).length ≤ 1000000 := by
  have := all_few m2 n7
  unfold uH; rw [flat_len (c := 22) fun t _ => by rw [List.length_map, List.length_range]]; omega
theorem mem_uL {m : Int} {n : Nat} {t : TO} (h : OkO m n t) : lkey t ∈ uL m n := List.mem_map.mpr ⟨t, mem_allTO h, rfl⟩
theorem mem_uH {m : Int} {n k : Nat} {t : TO} (h : OkO m n t) (hk : k ≤ 21) : hkey t k ∈ uH m n := List.mem_flatMap.mpr ⟨t, mem_allTO h, List.mem_map.mpr ⟨k, List.mem_range.mpr (by omega), rfl⟩⟩
/-! what the dicts hold -/
def JH (m : Int) (n : Nat) (kvs : List (NestedKey × DV)) : Prop := KeysIn (uH m n) kvs ∧ ∀ t k d, valK kvs (hkey t k) = some d → d = .d (oD (canH m k t))
theorem JH_nil (m : Int) (n : Nat) : JH m n [] := ⟨.nil, fun _ _ _ h => nomatch h⟩
theorem JH.put {m : Int} {n : Nat} {kvs : List (NestedKey × DV)} (h : JH m n kvs) {t : TO} {k : Nat} (ok : OkO m n t) (hk : k ≤ 21) : JH m n (putKD kvs (hkey t k) (.d (oD (canH m k t)))) := by
  refine ⟨h.1.put (mem_uH ok hk), fun s j d hd => ?_⟩
  rw [valK_put] at hd
  by_cases e : hkey s j = hkey t k
  · rw [if_pos e] at hd
    obtain ⟨rfl, rfl⟩ := hkey_inj e
    exact (Option.some.inj hd).symm
  · rw [if_neg e] at hd; exact h.2 s j d hd
theorem JH.len {m : Int} {n : Nat} {kvs : List (NestedKey × DV)} (h : JH m n kvs) (m2 : m ≤ 2) (n7 : n ≤ 7) : kvs.length ≤ 1000000 := Nat.le_trans h.1.len (uH_len m2 n7)
def dFew (x : Int × Int) : PyData := .tuple [.int x.1, .int x.2]
def JL (m : Int) (n : Nat) (X : List TO) (kvs : List (NestedKey × DV)) : Prop := KeysIn (uL m n) kvs ∧ ∀ t d, valK kvs (lkey t) = some d → t ∉ X → d = .d (dFew (fewV m t))
theorem JL_nil (m : Int) (n : Nat) (X : List TO) : JL m n X [] := ⟨.nil, fun _ _ h => nomatch h⟩
theorem JL.none {m : Int} {n : Nat} {X : List TO} {kvs : List (NestedKey × DV)} (h : JL m n X kvs) {t : TO} {d : DV} (ok : OkO m n t) : JL m n (t :: X) (putKD kvs (lkey t) d) := by
  refine ⟨h.1.put (mem_uL ok), fun s d' hd hs => ?_⟩
  rw [valK_put] at hd
  by_cases e : lkey s = lkey t
  · exact absurd (List.mem_cons.mpr (.inl (lkey_inj e))) hs
  · rw [if_neg e] at hd; exact h.2 s d' hd fun z => hs (List.mem_cons_of_mem _ z)
theorem JL.put {m : Int} {n : Nat} {X : List TO} {kvs : List (NestedKey × DV)} {t : TO} (h : JL m n (t :: X) kvs) (ok : OkO m n t) : JL m n X (putKD kvs (lkey t) (.d (dFew (fewV m t)))) := by
  refine ⟨h.1.put (mem_uL ok), fun s d' hd hs => ?_⟩
  rw [valK_put] at hd
  by_cases e : lkey s = lkey t
  · rw [if_pos e] at hd
    have := lkey_inj e
    subst this
    exact (Option.some.inj hd).symm
  · rw [if_neg e] at hd
    exact h.2 s d' hd fun z => (List.mem_cons.mp z).elim (fun q => e (by rw [q])) hs
theorem JL.len {m : Int} {n : Nat} {X : List TO} {kvs : List (NestedKey × DV)} (h : JL m n X kvs) (m2 : m ≤ 2) (n7 : n ≤ 7) : kvs.length ≤ 1000000 := Nat.le_trans h.1.len (uL_len m2 n7)
/-! what the defs promise -/
theorem fold_map {α β : Type} (f : α → β) : ∀ (l : List α) (s : List β), l.foldl (fun s x => s ++ [f x]) s = s ++ l.map f
  | [], s => by simp
  | x :: l, s => by rw [List.foldl_cons, fold_map f l, List.map_cons, List.append_assoc]; rfl
def okx (m : Int) : Option Int → Bool
  | none => true
  | some k => decide (0 ≤ k) && decide (k ≤ m)
def goodO (t : TO) (m : Int) : Bool := ((decide (1 ≤ (t.length : Int)) && decide ((t.length : Int) ≤ 7)) && decide (m ≤ 2)) && t.all (okx m)
def lookTold (t : TO) (m : Int) : Except Err Unit := if goodG (max 1 (t.length : Int)) m = true then (if goodO t m = true then .ok () else .error .counts) else .error .game
theorem lookTold_ok {t : TO} {m : Int} {u : Unit} (h : lookTold t m = .ok u) : OkO m t.length t ∧ 1 ≤ t.length ∧ t.length ≤ 7 ∧ 0 ≤ m ∧ m ≤ 2 := by
  unfold lookTold at h
  by_cases g1 : goodG (max 1 (t.length : Int)) m = true
  · rw [if_pos g1] at h
    by_cases g2 : goodO t m = true
    · have b := goodG_bd g1
      unfold goodO at g2
      rw [Bool.and_eq_true, Bool.and_eq_true, Bool.and_eq_true, decide_eq_true_eq, decide_eq_true_eq, decide_eq_true_eq] at g2
      refine ⟨⟨rfl, fun k hk => ?_⟩, by omega, by omega, by omega, by omega⟩
      have := List.all_eq_true.mp g2.2 _ hk
      unfold okx at this
      rw [Bool.and_eq_true, decide_eq_true_eq, decide_eq_true_eq] at this
      exact this
    · rw [if_neg g2] at h; cases h
  · rw [if_neg g1] at h; cases h
theorem lookTold_good {t : TO} {m : Int} {n : Nat} (h : OkO m n t) (n1 : 1 ≤ n) (n7 : n ≤ 7) (m0 : 0 ≤ m) (m2 : m ≤ 2) : lookTold t m = .ok () := by
  have hl := h.len
  have g1 : goodG (max 1 (t.length : Int)) m = true := by unfold goodG; simp; omega
  have g2 : goodO t m = true := by
    unfold goodO
    rw [Bool.and_eq_true, Bool.and_eq_true, Bool.and_eq_true, decide_eq_true_eq, decide_eq_true_eq, decide_eq_true_eq]
    refine ⟨⟨⟨by omega, by omega⟩, by omega⟩, List.all_eq_true.mpr fun x hx => ?_⟩
    cases x with
    | none => rfl
    | some k => have := h.ok k hx; unfold okx; simp; omega
  unfold lookTold
  rw [if_pos g1, if_pos g2]
def sp_look_told (ea : Err → Addr) : ASp := pSp ea fun ds o => ∃ (t : TO) (m : Int), ds = [.d (tO t), .d (.int m)] ∧ t.length ≤ 1000 ∧ o = (lookTold t m).map fun _ => .none
def sp_asked_at (ea : Err → Addr) : ASp := pSp ea fun ds o => ∃ (t : TO) (m p : Int) (b : Bool), ds = [.d (tO t), .d (.int m), .d (.int p), .d (.bool b)] ∧ t.length ≤ 1000 ∧ o = .ok (tO (atO m t p b))
def behindP (t : TO) (m p : Int) (b : Bool) : Except Err TO := (lookTold t m).bind fun _ => if (decide (0 ≤ p) && decide (p ≤ (t.length : Int))) = true then .ok (atO m t p b) else .error .question
def sp_behind_place (ea : Err → Addr) : ASp := pSp ea fun ds o => ∃ (t : TO) (m p : Int) (b : Bool), ds = [.d (tO t), .d (.int m), .d (.int p), .d (.bool b)] ∧ t.length ≤ 1000 ∧ o = (behindP t m p b).map tO
abbrev cHalv (g : Gv) : Addr := cAt g "Halver"
def fsH (m : Int) (ld : Addr) : List (Str × FV) := [("most", .v (.d (.int m))), ("known", .v (.r ld))]
structure HalvIn (g : Gv) (A : AH) (l : Addr) (m : Int) (n : Nat) : Prop where
  ex : ∃ ld, A l = some (aoI (cHalv g) (fsH m ld)) ∧ A ld = some (aoKI g.P g.w (JH m n)) ∧ l ≠ ld
theorem HalvIn.ext {g : Gv} {A A1 : AH} {l : Addr} {m : Int} {n : Nat} (h : HalvIn g A l m n) (x : ExtA A A1) : HalvIn g A1 l m n := by
  obtain ⟨ld, h1, h2, h3⟩ := h.ex
  exact ⟨ld, x _ _ h1, x _ _ h2, h3⟩
def sp_hleft (g : Gv) : ASp := pSp g.ea fun ds o => ∃ (l : Addr) (t : TO), ds = [.r l, .d (tO t)] ∧ t.length ≤ 1000 ∧ o = .ok (.int (leftO t))
def sp_hcan (K : Nat) (g : Gv) : ASp := pSpA g.ea fun A ds o => ∃ (l : Addr) (m : Int) (n : Nat) (t : TO) (k : Nat), ds = [.r l, .d (tO t), .d (.int k)] ∧ HalvIn g A l m n ∧ OkO m n t ∧ k ≤ K ∧ k ≤ 21 ∧ m ≤ 2 ∧ n ≤ 7 ∧ o = .ok (oD (canH m k t))
def sp_hfound (K : Nat) (g : Gv) : ASp := pSpA g.ea fun A ds o => ∃ (l : Addr) (m : Int) (n : Nat) (t : TO) (k : Nat), ds = [.r l, .d (tO t), .d (.int ((k + 1 : Nat) : Int))] ∧ HalvIn g A l m n ∧ OkO m n t ∧ k + 1 ≤ K ∧ k + 1 ≤ 21 ∧ m ≤ 2 ∧ n ≤ 7 ∧ ¬ leftO t ≤ 1 ∧ o = .ok (oD (canH m (k + 1) t))
def sp_hinit (g : Gv) : ASp := fun ds A Q _ => ∃ (l : Addr) (m : Int), ds = [.r l, .d (.int m)] ∧ A l = some (aoI (cHalv g) []) ∧ ∀ ld, A ld = none → Q (.d .none) (updA (updA A ld (aoK g.P g.w [])) l (aoI (cHalv g) (fsH m ld)))
def sp_least (K : Int) (ea : Err → Addr) : ASp := pSp ea fun ds o => ∃ (t : TO) (m : Int), ds = [.d (tO t), .d (.int m)] ∧ t.length ≤ 1000 ∧ (lookTold t m = .ok () → (fewV m t).1 ≤ K) ∧ o = (lookTold t m).map fun _ => dFew (fewV m t)
/-! the law's own -/
def tol51 (w : Int) (t : TO) (m p : Int) (b : Bool) : PyData := match (if w = 0 then (lookTold t m).map fun _ => dFew (fewV m t) else (behindP t m p b).map tO) with
  | .ok d => d
  | .error e => .str ((nmE e).getD "")
def sp_told51 (ea : Err → Addr) : ASp := pSp ea fun ds o => ∃ (w : Int) (t : TO) (m p : Int) (b : Bool), ds = [.d (.int w), .d (tO t), .d (.int m), .d (.int p), .d (.bool b)] ∧ t.length ≤ 1000 ∧ (w = 0 → lookTold t m = .ok () → (fewV m t).1 ≤ 12) ∧ o = .ok (tol51 w t m p b)
theorem lookTold_nm {t : TO} {m : Int} {e : Err} (h : lookTold t m = .error e) : ∃ s, nmE e = some s := by
  unfold lookTold at h
  split at h
  · split at h
    · cases h
    · cases h; exact ⟨_, rfl⟩
  · cases h; exact ⟨_, rfl⟩
theorem behindP_nm {t : TO} {m p : Int} {b : Bool} {e : Err} (h : behindP t m p b = .error e) : ∃ s, nmE e = some s := by
  unfold behindP at h
  cases z : lookTold t m with
  | error e' => rw [z] at h; cases h; exact lookTold_nm z
  | ok u =>
    rw [z] at h
    change (if _ then _ else _) = _ at h
    split at h
    · cases h
    · cases h; exact ⟨_, rfl⟩
def sp_lbehindO (ea : Err → Addr) : ASp := pSp ea fun ds o => ∃ (t : TO) (m p : Int) (b : Bool) (n : Nat), ds = [.d (tO t), .d (.int m), .d (.int p), .d (.bool b)] ∧ OkO m n t ∧ n ≤ 1000 ∧ o = .ok (tO (atO m t p b))
def sp_lfew (d : Nat) (g : Gv) : ASp := pSpA g.ea fun A ds o => ∃ (t : TO) (m : Int) (n : Nat) (ld : Addr) (X : List TO), ds = [.d (tO t), .d (.int m), .r ld] ∧ A ld = some (aoKI g.P g.w (JL m n X)) ∧ OkO m n t ∧ (∀ x ∈ X, potO m t < potO m x) ∧ m ≤ 2 ∧ n ≤ 7 ∧ potO m t ≤ d ∧ o = .ok (dFew (fewV m t))
def dB (s : Option (Int × Int)) : PyData := match s with
  | none => .none
  | some x => dFew x
theorem eqE_oD : EqE oD := fun a b => by
  cases a with
  | none => cases b with
    | none => rfl
    | some k => rfl
  | some j => cases b with
    | none => rfl
    | some k =>
      show PyData.eqv (.int j) (.int k) = _
      rw [EqE.int, Bool.eq_iff_iff, decide_eq_true_eq, decide_eq_true_eq]
      exact ⟨fun e => by rw [e], fun e => Option.some.inj e⟩
theorem eqE_tO : EqE tO := EqE.tuple eqE_oD
theorem sh_oD (x : Option Int) : Sh 1 (oD x) := by cases x with
  | none => exact .none
  | some k => exact .int
theorem sh_tO (t : TO) : Sh 2 (tO t) := .tuple (.map sh_oD)
theorem sh_few (x : Int × Int) : Sh 2 (dFew x) := .tuple (.cons .int (.cons .int .nil))
theorem pot_cap {m : Int} (m0 : 0 ≤ m) : ∀ {t : TO}, (∀ k, some k ∈ t → 0 ≤ k ∧ k ≤ m) → (potO m t : Int) ≤ t.length * (m + 1)
  | [], _ => by show ((0 : Nat) : Int) ≤ ((0 : Nat) : Int) * (m + 1); omega
  | x :: t, h => by
    have ih := pot_cap m0 (t := t) fun k hk => h k (List.mem_cons_of_mem _ hk)
    have e : potO m (x :: t) = wO m x + potO m t := by unfold potO; simp
    have hw : (wO m x : Int) ≤ m + 1 := by
      cases x with
      | none => show ((0 : Nat) : Int) ≤ _; omega
      | some k => have := h k List.mem_cons_self; show (((m + 1 - k).toNat : Nat) : Int) ≤ _; omega
    rw [e, List.length_cons, Int.natCast_add, Int.natCast_add, Int.add_mul]
    omega
def drawO (ns : List Int) (m k : Int) : Option Int := nth ([some 0, none, some (mixV ns (2 + k) / 8 % (m + 1)), some 0] : TO) (mixV ns (2 + k) % 4)
def drawT (ns : List Int) (m : Int) (n : Nat) : TO := (rng 0 n).map (drawO ns m)
theorem draw_ok {ns : List Int} {m : Int} {n : Nat} (m0 : 0 ≤ m) : OkO m n (drawT ns m n) := by
  refine ⟨by unfold drawT; rw [List.length_map, rng_length], fun k hk => ?_⟩
  unfold drawT at hk
  obtain ⟨i, _, e⟩ := List.mem_map.mp hk
  unfold drawO at e
  have h1 := Int.emod_nonneg (mixV ns (2 + i)) (b := 4) (by omega)
  have h2 := Int.emod_lt_of_pos (mixV ns (2 + i)) (b := 4) (by omega)
  have q := nth_mem (xs := ([some 0, none, some (mixV ns (2 + i) / 8 % (m + 1)), some 0] : TO)) h1 (by show _ < ((4 : Nat) : Int); omega)
  rw [e] at q
  have m1 := Int.emod_nonneg (mixV ns (2 + i) / 8) (b := m + 1) (by omega)
  have m2 := Int.emod_lt_of_pos (mixV ns (2 + i) / 8) (b := m + 1) (by omega)
  simp at q
  omega
end LB

/-! Mirrors 11: which counts can be done. -/
namespace LB
open PySem PySem.Spec PyProof.Rows L2
structure GC (S : Int) (n : Nat) (c : List Int) : Prop where
  len : c.length = n
  nn : ∀ x ∈ c, 0 ≤ x
  sum : c.sum ≤ S
  n1 : 1 ≤ n
  n3 : n ≤ 3
  s64 : S ≤ 12
theorem le_sum : ∀ {c : List Int}, (∀ x ∈ c, 0 ≤ x) → ∀ x ∈ c, x ≤ c.sum
  | [], _, x, h => (List.not_mem_nil h).elim
  | y :: c, h, x, hx => by
    have h2 := fun z hz => h z (List.mem_cons_of_mem y hz)
    have hs : 0 ≤ c.sum := by
      clear hx
      have : ∀ c : List Int, (∀ x ∈ c, 0 ≤ x) → 0 ≤ c.sum := fun c => by
        induction c with
        | nil => intro _; exact Int.le_refl _
        | cons y c ih => intro h; rw [List.sum_cons]; exact Int.add_nonneg (h y List.mem_cons_self) (ih fun z hz => h z (List.mem_cons_of_mem _ hz))
      exact this c h2
    have := h y List.mem_cons_self
    rw [List.sum_cons]
    rcases List.mem_cons.mp hx with rfl | hx
    · omega
    · have := le_sum h2 x hx; omega
theorem GC.good {S : Int} {n : Nat} {c : List Int} (h : GC S n c) : goodC c = true := by
  have := h.len; have := h.n1; have := h.n3; have := h.s64; have := h.sum
  exact goodC_of (by omega) (by omega) fun x hx => ⟨h.nn x hx, by have := le_sum h.nn x hx; omega⟩
theorem GC.le {S : Int} {n : Nat} {c : List Int} (h : GC S n c) {x : Int} (hx : x ∈ c) : 0 ≤ x ∧ x ≤ 12 := ⟨h.nn x hx, by have := le_sum h.nn x hx; have := h.sum; have := h.s64; omega⟩
theorem three {c : List Int} (h : 1 ≤ c.length ∧ c.length ≤ 3) : (∃ a, c = [a]) ∨ (∃ a b, c = [a, b]) ∨ ∃ a b d, c = [a, b, d] := by
  match c, h with
  | [a], _ => exact .inl ⟨a, rfl⟩
  | [a, b], _ => exact .inr (.inl ⟨a, b, rfl⟩)
  | [a, b, d], _ => exact .inr (.inr ⟨a, b, d, rfl⟩)
  | [], h => simp at h
  | _ :: _ :: _ :: _ :: r, h => simp at h
theorem GC.behind {S : Int} {n : Nat} {c p : List Int} (h : GC S n c) (hp : partOk c p = true) : GC S n (behindY c p) ∧ GC S n (behindN c p) := by
  have hl := partOk_len hp
  have h1 := h.len; have h2 := h.n1; have h3 := h.n3; have h4 := h.sum; have h5 := h.nn
  suffices (∀ x ∈ behindY c p, 0 ≤ x) ∧ (behindY c p).sum ≤ S ∧ (∀ x ∈ behindN c p, 0 ≤ x) ∧ (behindN c p).sum ≤ S from
    ⟨⟨by rw [behindY_len]; exact h1, this.1, this.2.1, h2, h3, h.s64⟩, ⟨by rw [behindN_len]; exact h1, this.2.2.1, this.2.2.2, h2, h3, h.s64⟩⟩
  rcases three (c := c) (by omega) with ⟨a, rfl⟩ | ⟨a, b, rfl⟩ | ⟨a, b, d, rfl⟩ <;>
  rcases three (c := p) (by omega) with ⟨a', rfl⟩ | ⟨a', b', rfl⟩ | ⟨a', b', d', rfl⟩ <;>
  first
  | (simp at hl; done)
  | (simp [behindY, behindN, restV, nth, rng, List.range, List.range.loop, partOk] at hp h4 h5 ⊢; omega)
/-! all questions -/
def growP (found : List (List Int)) (many : Int) : List (List Int) := found.flatMap fun p => (rng 0 (many + 1).toNat).map fun k => p ++ [k]
def allP (c : List Int) : List (List Int) := c.foldl growP [[]]
theorem snoc_ind2 {α : Type} {P : List α → Prop} (h0 : P []) (hs : ∀ l a, P l → P (l ++ [a])) : ∀ l, P l := fun l => by
  have : ∀ n (l : List α), l.length = n → P l := fun n => by
    induction n with
    | zero => intro l hl; rw [List.eq_nil_of_length_eq_zero hl]; exact h0
    | succ n ih =>
      intro l hl
      have hne : l ≠ [] := fun e => by rw [e] at hl; cases hl
      rw [← List.dropLast_concat_getLast hne]
      exact hs _ _ (ih _ (by rw [List.length_dropLast]; omega))
  exact this _ l rfl
inductive PartP : List Int → List Int → Prop
  | nil : PartP [] []
  | cons {c p : List Int} {x k : Int} : 0 ≤ k → k ≤ x → PartP c p → PartP (x :: c) (k :: p)
theorem PartP.snoc {c p : List Int} {x k : Int} (h0 : 0 ≤ k) (h1 : k ≤ x) : ∀ {c p : List Int}, PartP c p → PartP (c ++ [x]) (p ++ [k])
  | _, _, .nil => .cons h0 h1 .nil
  | _, _, .cons q1 q2 r => .cons q1 q2 (PartP.snoc (c := c) (p := p) h0 h1 r)
theorem PartP.unsnoc {x : Int} : ∀ {c p : List Int}, PartP (c ++ [x]) p → ∃ q k, p = q ++ [k] ∧ 0 ≤ k ∧ k ≤ x ∧ PartP c q
  | [], _, .cons (k := k) h0 h1 .nil => ⟨[], k, rfl, h0, h1, .nil⟩
  | y :: c, _, .cons (k := j) h0 h1 r => by
    obtain ⟨q, k, rfl, a, b, d⟩ := PartP.unsnoc r
    exact ⟨j :: q, k, rfl, a, b, .cons h0 h1 d⟩
theorem mem_allP : ∀ c p : List Int, p ∈ allP c ↔ PartP c p := fun c => by
  refine snoc_ind2 (P := fun c => ∀ p, p ∈ allP c ↔ PartP c p) ?_ (fun c x ih p => ?_) c
  · intro p
    show p ∈ [[]] ↔ _
    rw [List.mem_singleton]
    exact ⟨fun h => by rw [h]; exact .nil, fun h => by cases h; rfl⟩
  · unfold allP
    rw [List.foldl_append]
    show p ∈ growP (allP c) x ↔ _
    unfold growP
    rw [List.mem_flatMap]
    constructor
    · rintro ⟨q, hq, hp⟩
      obtain ⟨k, hk, rfl⟩ := List.mem_map.mp hp
      have := mem_rng.mp hk
      exact ((ih q).mp hq).snoc (c := c) (p := q) (by omega) (by omega)
    · intro h
      obtain ⟨q, k, rfl, h0, h1, r⟩ := h.unsnoc
      exact ⟨q, (ih q).mpr r, List.mem_map.mpr ⟨k, mem_rng.mpr ⟨by omega, by omega⟩, rfl⟩⟩
theorem partP_ok : ∀ {c p : List Int}, PartP c p ↔ partOk c p = true := fun {c p} => by
  constructor
  · intro h
    have key : ∀ {c p : List Int}, PartP c p → p.length = c.length ∧ ∀ i : Nat, i < c.length → 0 ≤ p.getD i 0 ∧ p.getD i 0 ≤ c.getD i 0 := fun {c p} h => by
      induction h with
      | nil => exact ⟨rfl, fun i hi => absurd hi (Nat.not_lt_zero _)⟩
      | cons h0 h1 r ih =>
        refine ⟨by rw [List.length_cons, List.length_cons, ih.1], fun i hi => ?_⟩
        cases i with
        | zero => exact ⟨h0, h1⟩
        | succ i => exact ih.2 i (by simpa using hi)
    obtain ⟨h1, h2⟩ := key h
    exact partOk_of h1 fun k h0 hk => h2 k.toNat (by omega)
  · intro h
    have hl := partOk_len h
    have hn : ∀ i : Nat, i < c.length → 0 ≤ p.getD i 0 ∧ p.getD i 0 ≤ c.getD i 0 := fun i hi => by
      have := partOk_nth h (k := (i : Int)) (by omega) (by omega)
      unfold nth at this
      rw [Int.toNat_natCast] at this
      exact this
    have key : ∀ (c p : List Int), p.length = c.length → (∀ i : Nat, i < c.length → 0 ≤ p.getD i 0 ∧ p.getD i 0 ≤ c.getD i 0) → PartP c p := fun c => by
      induction c with
      | nil => intro p hl _; cases p with
        | nil => exact .nil
        | cons _ _ => cases hl
      | cons x c ih =>
        intro p hl hn
        cases p with
        | nil => cases hl
        | cons k p =>
          have h0 := hn 0 (by simp)
          exact .cons h0.1 h0.2 (ih p (by simpa using hl) fun i hi => by have := hn (i + 1) (by simpa using hi); simpa using this)
    exact key c p hl hn
def unev (c p : List Int) : Int := ((rng 0 c.length).map fun k => (if nth c k - 2 * nth p k < 0 then -(nth c k - 2 * nth p k) else nth c k - 2 * nth p k) * ((c.length : Int) - k)).sum
def someP (c : List Int) : List (List Int) := (allP c).filter fun p => lexLe p (restV c p)
def partsV (c : List Int) : List (List Int) := (sortPT ((someP c).map fun p => (unev c p, p))).map (·.2)
theorem mem_partsV {c p : List Int} : p ∈ partsV c ↔ partOk c p = true ∧ lexLe p (restV c p) = true := by
  unfold partsV
  rw [((sortPT_perm _).map _).mem_iff, List.map_map, List.mem_map]
  unfold someP
  constructor
  · rintro ⟨q, hq, rfl⟩
    rw [List.mem_filter] at hq
    exact ⟨partP_ok.mp ((mem_allP c q).mp hq.1), hq.2⟩
  · rintro ⟨h1, h2⟩
    exact ⟨p, List.mem_filter.mpr ⟨(mem_allP c p).mpr (partP_ok.mpr h1), h2⟩, rfl⟩
theorem lexLe_tot : ∀ a b : List Int, lexLe a b = true ∨ lexLe b a = true
  | [], _ => .inl rfl
  | _ :: _, [] => .inr rfl
  | x :: a, y :: b => by
    unfold lexLe
    by_cases e : x = y
    · rw [if_pos e, if_pos e.symm]; exact lexLe_tot a b
    · rw [if_neg e, if_neg (Ne.symm e)]
      by_cases h : x ≤ y
      · exact .inl (decide_eq_true h)
      · exact .inr (decide_eq_true (by omega))
theorem rest_facts {S : Int} {n : Nat} {c p : List Int} (h : GC S n c) (hp : partOk c p = true) : partOk c (restV c p) = true ∧ restV c (restV c p) = p ∧ behindY c (restV c p) = behindN c p ∧ behindN c (restV c p) = behindY c p := by
  have hl := partOk_len hp
  have h1 := h.len; have h2 := h.n1; have h3 := h.n3
  rcases three (c := c) (by omega) with ⟨a, rfl⟩ | ⟨a, b, rfl⟩ | ⟨a, b, d, rfl⟩ <;>
  rcases three (c := p) (by omega) with ⟨a', rfl⟩ | ⟨a', b', rfl⟩ | ⟨a', b', d', rfl⟩ <;>
  first
  | (simp at hl; done)
  | (simp [behindY, behindN, restV, nth, rng, List.range, List.range.loop, partOk] at hp ⊢; omega)
/-! can -/
def canW : Nat → List Int → Option (List Int)
  | 0, c => if c.sum ≤ 1 then some [] else none
  | k + 1, c => if c.sum ≤ 1 then some [] else if ((k + 1 : Nat) : Int) < boundV c then none else (partsV c).find? fun p => (canW k (behindY c p)).isSome && (canW k (behindN c p)).isSome
def lawC : Nat → List Int → Bool
  | 0, c => decide (c.sum ≤ 1)
  | k + 1, c => decide (c.sum ≤ 1) || (allP c).any fun p => lawC k (behindY c p) && lawC k (behindN c p)
theorem two_succ (k : Nat) : twoTo ((k + 1 : Nat) : Int) = 2 * twoTo (k : Int) := by
  unfold twoTo
  rw [Int.toNat_natCast, Int.toNat_natCast, rng_succ, List.foldl_append]; rfl
theorem two_pos : ∀ k : Nat, 1 ≤ twoTo (k : Int)
  | 0 => by show (1 : Int) ≤ 1; omega
  | k + 1 => by rw [two_succ]; have := two_pos k; omega
theorem Bs_two : ∀ m i : Nat, Bs m i ≤ twoTo (m : Int)
  | m, 0 => by have := two_pos m; show (0 : Int) ≤ _; omega
  | 0, i + 1 => by
    have : ∀ i, Bs 0 (i + 1) = 1 := fun i => by
      have := Bs_stop 0 i
      rw [show 0 + 1 + i = i + 1 by omega] at this
      rw [this]
      show (0 : Int) + ch 0 0 = 1
      rw [ch_zero]; rfl
    rw [this]; exact two_pos 0
  | m + 1, i + 1 => by
    rw [Bs_pascal, two_succ]
    have := Bs_two m (i + 1)
    have := Bs_two m i
    omega
theorem weight_lo {S : Int} {n k : Nat} {c : List Int} (h : GC S n c) (hs : c.sum ≤ 1) : weightV c k ≤ twoTo (k : Int) := by
  have e : ∀ t : Nat, 0 ≤ choicesV (k : Int) (t : Int) ∧ choicesV (k : Int) (t : Int) ≤ twoTo (k : Int) := fun t => by rw [choicesV_eq]; exact ⟨Bs_nonneg _ _, Bs_two _ _⟩
  have e0 := e 0
  have e1 := e 1
  have e2 := e 2
  have h1 := h.len; have h2 := h.n1; have h3 := h.n3; have h5 := h.nn
  have tp := two_pos k
  have mul1 : ∀ {a x : Int}, 0 ≤ a → a ≤ 1 → 0 ≤ x → a * x = if a = 1 then x else 0 := fun {a x} q0 q1 _ => by
    have : a = 0 ∨ a = 1 := by omega
    rcases this with rfl | rfl
    · simp
    · simp
  rcases three (c := c) (by omega) with ⟨a, rfl⟩ | ⟨a, b, rfl⟩ | ⟨a, b, d, rfl⟩
  · simp [weightV, nth, rng, List.range, List.range.loop] at hs h5 e0 ⊢
    rw [mul1 h5 hs e0.1]; split <;> omega
  · simp [weightV, nth, rng, List.range, List.range.loop] at hs h5 e0 e1 ⊢
    rw [mul1 h5.1 (by omega) e1.1, mul1 h5.2 (by omega) e0.1]; split <;> split <;> omega
  · simp [weightV, nth, rng, List.range, List.range.loop] at hs h5 e0 e1 e2 ⊢
    rw [mul1 h5.1 (by omega) e2.1, mul1 h5.2.1 (by omega) e1.1, mul1 h5.2.2 (by omega) e0.1]; split <;> split <;> split <;> omega
theorem weight_0 {S : Int} {n : Nat} {c : List Int} (h : GC S n c) : weightV c 0 = c.sum := by
  have e : ∀ t : Nat, choicesV ((0 : Nat) : Int) (t : Int) = 1 := fun t => by
    rw [choicesV_eq]
    have := Bs_stop 0 t
    rw [show 0 + 1 + t = t + 1 by omega] at this
    rw [this]
    show (0 : Int) + ch 0 0 = 1
    rw [ch_zero]; rfl
  have e0 := e 0
  have e1 := e 1
  have e2 := e 2
  have h1 := h.len; have h2 := h.n1; have h3 := h.n3
  rcases three (c := c) (by omega) with ⟨a, rfl⟩ | ⟨a, b, rfl⟩ | ⟨a, b, d, rfl⟩
  · simp [weightV, nth, rng, List.range, List.range.loop] at e0 ⊢; rw [e0]; omega
  · simp [weightV, nth, rng, List.range, List.range.loop] at e0 e1 ⊢; rw [e0, e1]; omega
  · simp [weightV, nth, rng, List.range, List.range.loop] at e0 e1 e2 ⊢; rw [e0, e1, e2]; omega
theorem weight_law2 {S : Int} {n : Nat} : ∀ (k : Nat) {c : List Int}, GC S n c → lawC k c = true → weightV c k ≤ twoTo (k : Int)
  | 0, c, h, hl => weight_lo h (of_decide_eq_true hl)
  | k + 1, c, h, hl => by
    by_cases hs : c.sum ≤ 1
    · exact weight_lo h hs
    · unfold lawC at hl
      rw [decide_eq_false hs, Bool.false_or, List.any_eq_true] at hl
      obtain ⟨p, hp, hq⟩ := hl
      rw [Bool.and_eq_true] at hq
      have pok := partP_ok.mp ((mem_allP c p).mp hp)
      obtain ⟨g1, g2⟩ := h.behind pok
      have w1 := weight_law2 k g1 hq.1
      have w2 := weight_law2 k g2 hq.2
      have h1 := h.len; have h2 := h.n1; have h3 := h.n3
      have := weight_split (c := c) (p := p) (m := (k : Int)) (by omega) (partOk_len pok) (by omega)
      rw [two_succ, Int.natCast_add]
      show weightV c ((k : Int) + 1) ≤ _
      omega
theorem bound_law {S : Int} {n k : Nat} {c : List Int} (h : GC S n c) (hl : lawC k c = true) : boundV c ≤ k := by
  obtain ⟨s, e, _, h1, _⟩ := bound_spec h.good
  rw [e]
  refine Classical.byContradiction fun z => ?_
  have := h1 k (by omega)
  unfold boundT at this
  rw [Bool.and_eq_true, decide_eq_true_eq, decide_eq_true_eq] at this
  have := weight_law2 k h hl
  omega
theorem bound_pos {S : Int} {n : Nat} {c : List Int} (h : GC S n c) (hs : 1 < c.sum) : 1 ≤ boundV c := by
  obtain ⟨s, e, _, _, h2⟩ := bound_spec h.good
  rw [e]
  cases s with
  | zero =>
    exfalso
    unfold boundT at h2
    have e1 : weightV c ((0 : Nat) : Int) = c.sum := weight_0 h
    have e2 : twoTo ((0 : Nat) : Int) = 1 := rfl
    rw [decide_eq_true hs, Bool.true_and, e1, e2] at h2
    have := of_decide_eq_false h2
    omega
  | succ s => omega
theorem can_law {S : Int} {n : Nat} : ∀ (k : Nat) {c : List Int}, GC S n c → (canW k c).isSome = lawC k c
  | 0, c, h => by
    show (if _ then _ else _ : Option (List Int)).isSome = decide _
    by_cases hs : c.sum ≤ 1
    · rw [if_pos hs, decide_eq_true hs]; rfl
    · rw [if_neg hs, decide_eq_false hs]; rfl
  | k + 1, c, h => by
    show (if _ then _ else _ : Option (List Int)).isSome = _
    by_cases hs : c.sum ≤ 1
    · rw [if_pos hs]; unfold lawC; rw [decide_eq_true hs]; rfl
    · rw [if_neg hs]
      by_cases hb : ((k + 1 : Nat) : Int) < boundV c
      · rw [if_pos hb]
        cases z : lawC (k + 1) c with
        | false => rfl
        | true => have := bound_law h z; omega
      · rw [if_neg hb]
        unfold lawC
        rw [decide_eq_false hs, Bool.false_or, Bool.eq_iff_iff, List.find?_isSome, List.any_eq_true]
        constructor
        · rintro ⟨p, hp, hq⟩
          obtain ⟨p1, p2⟩ := mem_partsV.mp hp
          obtain ⟨g1, g2⟩ := h.behind p1
          exact ⟨p, (mem_allP c p).mpr (partP_ok.mpr p1), by rw [← can_law k g1, ← can_law k g2]; exact hq⟩
        · rintro ⟨p, hp, hq⟩
          have p1 := partP_ok.mp ((mem_allP c p).mp hp)
          obtain ⟨g1, g2⟩ := h.behind p1
          rw [← can_law k g1, ← can_law k g2] at hq
          obtain ⟨r1, r2, r3, r4⟩ := rest_facts h p1
          rcases lexLe_tot p (restV c p) with t | t
          · exact ⟨p, mem_partsV.mpr ⟨p1, t⟩, hq⟩
          · refine ⟨restV c p, mem_partsV.mpr ⟨r1, by rw [r2]; exact t⟩, ?_⟩
            rw [r3, r4, Bool.and_comm]; exact hq
theorem law_mono {S : Int} {n : Nat} : ∀ (k : Nat) {c : List Int}, GC S n c → lawC k c = true → lawC (k + 1) c = true
  | 0, c, h, hl => by unfold lawC; rw [show decide (c.sum ≤ 1) = true from hl]; rfl
  | k + 1, c, h, hl => by
    unfold lawC at hl ⊢
    rw [Bool.or_eq_true] at hl ⊢
    rcases hl with hl | hl
    · exact .inl hl
    · right
      rw [List.any_eq_true] at hl ⊢
      obtain ⟨p, hp, hq⟩ := hl
      rw [Bool.and_eq_true] at hq
      obtain ⟨g1, g2⟩ := h.behind (partP_ok.mp ((mem_allP c p).mp hp))
      exact ⟨p, hp, by rw [Bool.and_eq_true]; exact ⟨law_mono k g1 hq.1, law_mono k g2 hq.2⟩⟩
theorem law_le {S : Int} {n k : Nat} {c : List Int} (h : GC S n c) (hl : lawC k c = true) : ∀ d, lawC (k + d) c = true
  | 0 => hl
  | d + 1 => law_mono _ h (law_le h hl d)
/-! a thing at a time always does -/
def phi (c : List Int) : Int := ((rng 0 c.length).map fun k => nth c k * ((c.length : Int) - k)).sum
theorem phi_step {S : Int} {n : Nat} {c : List Int} (h : GC S n c) (hs : 2 ≤ c.sum) : ∃ p, PartP c p ∧ phi (behindY c p) + 1 ≤ phi c ∧ phi (behindN c p) + 1 ≤ phi c := by
  have h1 := h.len; have h2 := h.n1; have h3 := h.n3; have h5 := h.nn
  rcases three (c := c) (by omega) with ⟨a, rfl⟩ | ⟨a, b, rfl⟩ | ⟨a, b, d, rfl⟩
  · simp at hs h5
    refine ⟨[1], .cons (by omega) (by omega) .nil, ?_⟩
    simp [phi, behindY, behindN, restV, nth, rng, List.range, List.range.loop]; omega
  · simp at hs h5
    by_cases ha : 1 ≤ a
    · refine ⟨[1, 0], .cons (by omega) (by omega) (.cons (by omega) (by omega) .nil), ?_⟩
      simp [phi, behindY, behindN, restV, nth, rng, List.range, List.range.loop]; omega
    · refine ⟨[0, 1], .cons (by omega) (by omega) (.cons (by omega) (by omega) .nil), ?_⟩
      simp [phi, behindY, behindN, restV, nth, rng, List.range, List.range.loop]; omega
  · simp at hs h5
    by_cases ha : 1 ≤ a
    · refine ⟨[1, 0, 0], .cons (by omega) (by omega) (.cons (by omega) (by omega) (.cons (by omega) (by omega) .nil)), ?_⟩
      simp [phi, behindY, behindN, restV, nth, rng, List.range, List.range.loop]; omega
    · by_cases hb : 1 ≤ b
      · refine ⟨[0, 1, 0], .cons (by omega) (by omega) (.cons (by omega) (by omega) (.cons (by omega) (by omega) .nil)), ?_⟩
        simp [phi, behindY, behindN, restV, nth, rng, List.range, List.range.loop]; omega
      · refine ⟨[0, 0, 1], .cons (by omega) (by omega) (.cons (by omega) (by omega) (.cons (by omega) (by omega) .nil)), ?_⟩
        simp [phi, behindY, behindN, restV, nth, rng, List.range, List.range.loop]; omega
theorem phi_law {S : Int} {n : Nat} : ∀ (k : Nat) {c : List Int}, GC S n c → phi c ≤ k → lawC k c = true
  | 0, c, h, hp => by
    by_cases hs : c.sum ≤ 1
    · exact decide_eq_true hs
    · obtain ⟨p, p1, p2, p3⟩ := phi_step h (by omega)
      obtain ⟨g1, _⟩ := h.behind (partP_ok.mp p1)
      have q1 := g1.len; have q2 := g1.n1; have q3 := g1.n3; have q5 := g1.nn
      have : 0 ≤ phi (behindY c p) := by
        generalize behindY c p = y at q1 q5
        rcases three (c := y) (by omega) with ⟨a, rfl⟩ | ⟨a, b, rfl⟩ | ⟨a, b, d, rfl⟩ <;> (simp at q5; simp [phi, nth, rng, List.range, List.range.loop]; omega)
      omega
  | k + 1, c, h, hp => by
    unfold lawC
    by_cases hs : c.sum ≤ 1
    · rw [decide_eq_true hs]; rfl
    · rw [decide_eq_false hs, Bool.false_or, List.any_eq_true]
      obtain ⟨p, p1, p2, p3⟩ := phi_step h (by omega)
      obtain ⟨g1, g2⟩ := h.behind (partP_ok.mp p1)
      refine ⟨p, (mem_allP c p).mpr p1, ?_⟩
      rw [phi_law k g1 (by omega), phi_law k g2 (by omega)]; rfl
theorem phi_cap {S : Int} {n : Nat} {c : List Int} (h : GC S n c) : phi c ≤ n * c.sum := by
  have h1 := h.len; have h2 := h.n1; have h3 := h.n3; have h5 := h.nn
  rcases three (c := c) (by omega) with ⟨a, rfl⟩ | ⟨a, b, rfl⟩ | ⟨a, b, d, rfl⟩ <;> (simp at h1 h5; subst h1; simp [phi, nth, rng, List.range, List.range.loop]; try omega)
/-- the fewest questions -/
def leastC (c : List Int) : Nat := ((List.range 61).find? fun k => lawC k c).getD 0
theorem leastC_spec {S : Int} {n : Nat} {c : List Int} (h : GC S n c) : lawC (leastC c) c = true ∧ (∀ k, lawC k c = true ↔ leastC c ≤ k) ∧ boundV c ≤ leastC c ∧ (leastC c : Int) ≤ n * c.sum := by
  have hp := phi_cap h
  have hnn : 0 ≤ phi c := by
    have q1 := h.len; have q2 := h.n1; have q3 := h.n3; have q5 := h.nn
    rcases three (c := c) (by omega) with ⟨a, rfl⟩ | ⟨a, b, rfl⟩ | ⟨a, b, d, rfl⟩ <;> (simp at q5; simp [phi, nth, rng, List.range, List.range.loop]; omega)
  have h36 : (n : Int) * c.sum ≤ 36 := by
    have s0 := h.sum; have s1 := h.s64; have n0 := h.n1; have n3 := h.n3
    have hn : n = 1 ∨ n = 2 ∨ n = 3 := by omega
    rcases hn with rfl | rfl | rfl <;> omega
  have l1 := phi_law (phi c).toNat h (by omega)
  cases e : (List.range 61).find? fun k => lawC k c with
  | none =>
    have := List.find?_eq_none.mp e (phi c).toNat (List.mem_range.mpr (by omega))
    rw [l1] at this; exact absurd rfl this
  | some s =>
    have el : leastC c = s := by unfold leastC; rw [e]; rfl
    rw [List.find?_range_eq_some] at e
    obtain ⟨e1, _, e3⟩ := e
    have mn : ∀ k, lawC k c = true → s ≤ k := fun k hk => by
      refine Classical.byContradiction fun z => ?_
      have := e3 k (by omega)
      rw [hk] at this; cases this
    rw [el]
    refine ⟨e1, fun k => ⟨mn k, fun hk => ?_⟩, bound_law h e1, ?_⟩
    · have := law_le h e1 (k - s)
      rwa [show s + (k - s) = k by omega] at this
    · have := mn _ l1; omega
end LB

/-! Mirrors 12: the worker's keys and promises. -/
namespace LB
open PySem PySem.Spec PyProof.Rows L2
def ckey (c : List Int) : NestedKey := .tup (c.map .num)
def wkey (c : List Int) (k : Nat) : NestedKey := .tup [ckey c, .num k]
theorem num_datas : ∀ c : List Int, NestedKey.datas (c.map .num) = c.map PyData.int
  | [] => rfl
  | x :: c => by
    show PyData.int x :: NestedKey.datas (c.map .num) = .int x :: c.map .int
    rw [num_datas c]
theorem ckey_data (c : List Int) : (ckey c).data = tI c := by
  show PyData.tuple (NestedKey.datas (c.map .num)) = _
  rw [num_datas]
theorem wkey_data (c : List Int) (k : Nat) : (wkey c k).data = .tuple [tI c, .int k] := by
  show PyData.tuple [(ckey c).data, .int k] = _
  rw [ckey_data]
theorem wkey_depth (c : List Int) (k : Nat) : (wkey c k).depth ≤ 8 := by
  have := depth_ints c
  unfold wkey ckey
  simp only [NestedKey.depth, NestedKey.depthAll, this]
  omega
theorem wkey_inj {s t : List Int} {j k : Nat} (h : wkey s j = wkey t k) : s = t ∧ j = k := by
  have h1 := NestedKey.tup.inj h
  have h2 := List.cons.inj h1
  have h3 := List.cons.inj h2.2
  exact ⟨num_inj (NestedKey.tup.inj h2.1), Int.ofNat.inj (NestedKey.num.inj h3.1)⟩
def allC : Nat → List (List Int)
  | 0 => [[]]
  | n + 1 => (allC n).flatMap fun t => (rng 0 13).map (· :: t)
theorem allC_len : ∀ n, (allC n).length = 13 ^ n
  | 0 => rfl
  | n + 1 => by
    show ((allC n).flatMap _).length = _
    rw [flat_len (c := 13) fun t _ => by rw [List.length_map, rng_length], allC_len n, Nat.pow_succ]
theorem mem_allC : ∀ {n : Nat} {c : List Int}, c.length = n → (∀ x ∈ c, 0 ≤ x ∧ x ≤ 12) → c ∈ allC n
  | 0, [], _, _ => List.mem_singleton.mpr rfl
  | 0, _ :: _, h, _ => by cases h
  | _ + 1, [], h, _ => by cases h
  | n + 1, x :: c, h, k => by
    have ih := mem_allC (n := n) (c := c) (by simpa using h) fun y hy => k y (List.mem_cons_of_mem _ hy)
    have := k x List.mem_cons_self
    exact List.mem_flatMap.mpr ⟨c, ih, List.mem_map.mpr ⟨x, mem_rng.mpr ⟨by omega, by omega⟩, rfl⟩⟩
def uW (n : Nat) : List NestedKey := (allC n).flatMap fun t => (List.range 62).map fun k => wkey t k
theorem uW_len {n : Nat} (n3 : n ≤ 3) : (uW n).length ≤ 1000000 := by
  unfold uW
  rw [flat_len (c := 62) fun t _ => by rw [List.length_map, List.length_range], allC_len]
  have : 13 ^ n ≤ 13 ^ 3 := Nat.pow_le_pow_right (by decide) n3
  have e : (13 : Nat) ^ 3 = 2197 := rfl
  omega
theorem mem_uW {S : Int} {n k : Nat} {c : List Int} (h : GC S n c) (hk : k ≤ 61) : wkey c k ∈ uW n := List.mem_flatMap.mpr ⟨c, mem_allC h.len fun x hx => h.le hx, List.mem_map.mpr ⟨k, List.mem_range.mpr (by omega), rfl⟩⟩
def oDW (x : Option (List Int)) : PyData := match x with
  | none => .none
  | some p => tI p
def JW (n : Nat) (kvs : List (NestedKey × DV)) : Prop := KeysIn (uW n) kvs ∧ ∀ c k d, valK kvs (wkey c k) = some d → d = .d (oDW (canW k c))
theorem JW_nil (n : Nat) : JW n [] := ⟨.nil, fun _ _ _ h => nomatch h⟩
theorem JW.put {S : Int} {n : Nat} {kvs : List (NestedKey × DV)} (h : JW n kvs) {c : List Int} {k : Nat} (ok : GC S n c) (hk : k ≤ 61) : JW n (putKD kvs (wkey c k) (.d (oDW (canW k c)))) := by
  refine ⟨h.1.put (mem_uW ok hk), fun s j d hd => ?_⟩
  rw [valK_put] at hd
  by_cases e : wkey s j = wkey c k
  · rw [if_pos e] at hd
    obtain ⟨rfl, rfl⟩ := wkey_inj e
    exact (Option.some.inj hd).symm
  · rw [if_neg e] at hd; exact h.2 s j d hd
theorem JW.len {n : Nat} {kvs : List (NestedKey × DV)} (h : JW n kvs) (n3 : n ≤ 3) : kvs.length ≤ 1000000 := Nat.le_trans h.1.len (uW_len n3)
abbrev cWork (g : Gv) : Addr := cAt g "Worker"
def fsW (lk : Addr) : List (Str × FV) := [("known", .v (.r lk))]
structure WorkIn (g : Gv) (A : AH) (l : Addr) (n : Nat) : Prop where
  ex : ∃ lk, A l = some (aoI (cWork g) (fsW lk)) ∧ A lk = some (aoKI g.P g.w (JW n)) ∧ l ≠ lk
theorem WorkIn.ext {g : Gv} {A A1 : AH} {l : Addr} {n : Nat} (h : WorkIn g A l n) (x : ExtA A A1) : WorkIn g A1 l n := by
  obtain ⟨lk, h1, h2, h3⟩ := h.ex
  exact ⟨lk, x _ _ h1, x _ _ h2, h3⟩
def sp_winit (g : Gv) : ASp := fun ds A Q _ => ∃ l : Addr, ds = [.r l] ∧ A l = some (aoI (cWork g) []) ∧ ∀ lk, A lk = none → Q (.d .none) (updA (updA A lk (aoK g.P g.w [])) l (aoI (cWork g) (fsW lk)))
def sp_wcan (K : Nat) (g : Gv) : ASp := pSpA g.ea fun A ds o => ∃ (l : Addr) (S : Int) (n : Nat) (c : List Int) (k : Nat), ds = [.r l, .d (tI c), .d (.int k)] ∧ WorkIn g A l n ∧ GC S n c ∧ k ≤ K ∧ k ≤ 61 ∧ o = .ok (oDW (canW k c))
def sp_wfound (K : Nat) (g : Gv) : ASp := pSpA g.ea fun A ds o => ∃ (l : Addr) (S : Int) (n : Nat) (c : List Int) (k : Nat), ds = [.r l, .d (tI c), .d (.int ((k + 1 : Nat) : Int))] ∧ WorkIn g A l n ∧ GC S n c ∧ k + 1 ≤ K ∧ k + 1 ≤ 61 ∧ ¬ c.sum ≤ 1 ∧ ¬ ((k + 1 : Nat) : Int) < boundV c ∧ o = .ok (oDW (canW (k + 1) c))
def goodS (c : List Int) : Bool := goodC c && (!decide (c.sum > 12) && !decide ((c.length : Int) > 3))
def lookSmall (c : List Int) : Except Err Unit := if goodS c = true then .ok () else .error .counts
theorem lookSmall_ok {c : List Int} (h : goodS c = true) : GC 12 c.length c := by
  unfold goodS at h
  rw [Bool.and_eq_true, Bool.and_eq_true, Bool.not_eq_true', Bool.not_eq_true', decide_eq_false_iff_not, decide_eq_false_iff_not] at h
  have := goodC_len h.1
  exact ⟨rfl, fun x hx => (goodC_mem h.1 x hx).1, by omega, by omega, by omega, by omega⟩
theorem GC.small {S : Int} {n : Nat} {c : List Int} (h : GC S n c) : goodS c = true := by
  have := h.len; have := h.n3; have := h.s64; have := h.sum
  unfold goodS
  rw [h.good, decide_eq_false (by omega), decide_eq_false (by omega)]; rfl
def sp_look_small (ea : Err → Addr) : ASp := pSp ea fun ds o => ∃ c : List Int, ds = [.d (tI c)] ∧ c.length ≤ 1000 ∧ o = (lookSmall c).map fun _ => .none
def sp_uneven (ea : Err → Addr) : ASp := pSp ea fun ds o => ∃ c p : List Int, ds = [.d (tI c), .d (tI p)] ∧ p.length = c.length ∧ c.length ≤ 3 ∧ (∀ x ∈ c, 0 ≤ x ∧ x ≤ 12) ∧ (∀ x ∈ p, 0 ≤ x ∧ x ≤ 12) ∧ o = .ok (.int (unev c p))
def lLI (ps : List (List Int)) : PyData := .list (ps.map tI)
def sp_parts (ea : Err → Addr) : ASp := pSp ea fun ds o => ∃ (S : Int) (n : Nat) (c : List Int), ds = [.d (tI c)] ∧ GC S n c ∧ o = .ok (lLI (partsV c))
def sp_leastW (ea : Err → Addr) : ASp := pSp ea fun ds o => ∃ c : List Int, ds = [.d (tI c)] ∧ c.length ≤ 1000 ∧ o = (lookSmall c).map fun _ => .int (leastC c)
theorem fold_flat {α β : Type} (f : α → List β) : ∀ (l : List α) (s : List β), l.foldl (fun s x => s ++ f x) s = s ++ l.flatMap f
  | [], s => by simp
  | x :: l, s => by rw [List.foldl_cons, fold_flat f l, List.flatMap_cons, List.append_assoc]
theorem find_at {α : Type} {P : α → Bool} {zs : List α} {i : Nat} {z : α} (hz : zs[i]? = some z) (h : ∀ q ∈ zs.take i, P q = false) (hp : P z = true) : zs.find? P = some z := by
  have hi : i < zs.length := (List.getElem?_eq_some_iff.mp hz).1
  rw [← List.take_append_drop i zs, List.find?_append, List.find?_eq_none.mpr fun q hq => by rw [h q hq]; decide]
  have : zs.drop i = z :: zs.drop (i + 1) := by
    rw [List.drop_eq_getElem_cons hi]
    congr 1
    have := List.getElem?_eq_getElem hi
    rw [hz] at this
    exact (Option.some.inj this).symm
  rw [this]
  show (List.find? P (z :: _)) = _
  rw [List.find?_cons, hp]
theorem take_snoc {α : Type} {zs : List α} {i : Nat} {z : α} (hz : zs[i]? = some z) : zs.take (i + 1) = zs.take i ++ [z] := by
  rw [List.take_add_one, hz]; rfl
end LB

/-! Mirrors 15: plans and books. -/
namespace LB
open PySem PySem.Spec PyProof.Rows L2
theorem can_nil {S : Int} {n k : Nat} {c p : List Int} (h : GC S n c) (hc : canW k c = some p) : (p = [] ↔ c.sum ≤ 1) ∧ (¬ c.sum ≤ 1 → ∃ j, k = j + 1 ∧ partOk c p = true ∧ (canW j (behindY c p)).isSome = true ∧ (canW j (behindN c p)).isSome = true) := by
  cases k with
  | zero =>
    have hc : (if c.sum ≤ 1 then some [] else none) = some p := hc
    by_cases hs : c.sum ≤ 1
    · rw [if_pos hs] at hc; cases hc; exact ⟨⟨fun _ => hs, fun _ => rfl⟩, fun z => absurd hs z⟩
    · rw [if_neg hs] at hc; cases hc
  | succ j =>
    have hc : (if c.sum ≤ 1 then some [] else if ((j + 1 : Nat) : Int) < boundV c then none else (partsV c).find? fun p => (canW j (behindY c p)).isSome && (canW j (behindN c p)).isSome) = some p := hc
    by_cases hs : c.sum ≤ 1
    · rw [if_pos hs] at hc; cases hc; exact ⟨⟨fun _ => hs, fun _ => rfl⟩, fun z => absurd hs z⟩
    · rw [if_neg hs] at hc
      by_cases hb : ((j + 1 : Nat) : Int) < boundV c
      · rw [if_pos hb] at hc; cases hc
      · rw [if_neg hb] at hc
        have h1 := List.mem_of_find?_eq_some hc
        have h2 := List.find?_some hc
        obtain ⟨p1, p2⟩ := mem_partsV.mp h1
        rw [Bool.and_eq_true] at h2
        refine ⟨⟨fun e => ?_, fun z => absurd z hs⟩, fun _ => ⟨j, rfl, p1, h2.1, h2.2⟩⟩
        have := partOk_len p1
        have := h.len
        have := h.n1
        rw [e] at *
        simp at *
        omega
def planW : Nat → List Int → PyData
  | 0, _ => .tuple []
  | k + 1, c => match canW (k + 1) c with
    | none => .tuple []
    | some p => if p = [] then .tuple [] else .tuple [tI p, planW k (behindY c p), planW k (behindN c p)]
def sp_wplan (K : Nat) (g : Gv) : ASp := pSpA g.ea fun A ds o => ∃ (l : Addr) (S : Int) (n : Nat) (c : List Int) (k : Nat), ds = [.r l, .d (tI c), .d (.int k)] ∧ WorkIn g A l n ∧ GC S n c ∧ k ≤ K ∧ k ≤ 61 ∧ (canW k c).isSome = true ∧ o = .ok (planW k c)
end LB

/-! Mirrors 16: what a plan is, and what it does. -/
namespace LB
open PySem PySem.Spec PyProof.Rows L2
inductive Pl where
  | nil
  | node (p : List Int) (y n : Pl)
  | odd (xs : List PyData)
def plD : Pl → PyData
  | .nil => .tuple []
  | .node p y n => .tuple [tI p, plD y, plD n]
  | .odd xs => .tuple xs
/-- what is odd has neither no parts nor three -/
def Pl.Ok : Pl → Prop
  | .nil => True
  | .node _ y n => y.Ok ∧ n.Ok
  | .odd xs => xs.length ≠ 0 ∧ xs.length ≠ 3
def Pl.ht : Pl → Nat
  | .nil => 0
  | .node _ y n => 1 + max y.ht n.ht
  | .odd _ => 0
def lookPl : Nat → Pl → Bool
  | d, .nil => decide (d ≤ 60)
  | d, .node _ y n => decide (d ≤ 60) && (lookPl (d + 1) y && lookPl (d + 1) n)
  | _, .odd _ => false
def lookPlan (d : Nat) (pl : Pl) : Except Err Unit := if lookPl d pl = true then .ok () else .error .plan
def sp_look_plan (f : Nat) (ea : Err → Addr) : ASp := pSp ea fun ds o => ∃ (pl : Pl) (d : Nat), ds = [.d (plD pl), .d (.int d)] ∧ pl.Ok ∧ 61 ≤ d + f ∧ o = (lookPlan d pl).map fun _ => .none
def doesV : Pl → List Int → Int → Bool
  | .nil, c, _ => decide (c.sum ≤ 1)
  | .node p y n, c, m => !decide (m = 0) && (partOk c p && (doesV y (behindY c p) (m - 1) && doesV n (behindN c p) (m - 1)))
  | .odd _, _, _ => false
/-- no odd part within -/
def Pl.Good : Pl → Prop
  | .nil => True
  | .node _ y n => y.Good ∧ n.Good
  | .odd _ => False
def sp_does (f : Nat) (ea : Err → Addr) : ASp := pSp ea fun ds o => ∃ (S : Int) (n : Nat) (c : List Int) (pl : Pl) (m : Int), ds = [.d (tI c), .d (plD pl), .d (.int m)] ∧ GC S n c ∧ pl.Good ∧ pl.ht ≤ f ∧ pl.ht ≤ 61 ∧ o = .ok (.bool (doesV pl c m))
theorem sh_pl : ∀ {pl : Pl}, pl.Good → Sh (pl.ht + 2) (plD pl)
  | .nil, _ => .tuple .nil
  | .node p y n, h => by
    have h1 := sh_pl h.1
    have h2 := sh_pl h.2
    have up : ∀ {k j : Nat} {d : PyData}, Sh k d → k ≤ j → Sh j d := fun h q => ⟨h.1, Nat.le_trans h.2 q⟩
    show Sh (1 + max y.ht n.ht + 2) (.tuple [tI p, plD y, plD n])
    refine up (Sh.tuple (n := max y.ht n.ht + 2) (.cons (up (Sh.tuple (n := 1) (.map fun _ => .int)) (by omega)) (.cons (up h1 (by omega)) (.cons (up h2 (by omega)) .nil)))) (by omega)
theorem eqv_pl {pl : Pl} (h : pl.Good) : PyData.eqv (plD pl) (.tuple []) = match pl with
    | .nil => true
    | _ => false := by
  cases pl with
  | nil => rfl
  | node p y n => rfl
  | odd xs => exact h.elim
theorem c_ninTI {g : Gv} {I : CI} {A : AH} {k : Int} {ns : List Int} : CmpD g I A .NotIn (.d (.int k)) (.d (.tuple (ns.map .int))) (!decide (k ∈ ns)) := ⟨⟨_, fun _ _ => op_notIn_seq, fun X c A1 ex S H v u f r1 r2 Q q => by
  obtain ⟨l, vs, rfl, h1, q1⟩ := Rp.tup_of r2
  obtain rfl := q1.ints
  cases Rp.int_of r1
  exact ⟨l, _, rfl, .inr (.of (f.same _ _ h1)), rfl, flat_ints ns, by simpa [inV_ints] using q⟩⟩, fun _ => .inr (.inr rfl)⟩
theorem DW.eq {g : Gv} {I : CI} {Γ : Gam} {A : AH} {e : Expr} {k k' : Bool} (h : DW g I Γ A e k) (q : k = k') : DW g I Γ A e k' := q ▸ h
theorem look_good' : ∀ {pl : Pl} {d : Nat}, lookPl d pl = true → pl.Good ∧ d + pl.ht ≤ 61
  | .nil, d, h => ⟨trivial, by have := of_decide_eq_true h; show d + 0 ≤ 61; omega⟩
  | .odd _, _, h => by cases h
  | .node p y n, d, h => by
    have h : (decide (d ≤ 60) && (lookPl (d + 1) y && lookPl (d + 1) n)) = true := h
    rw [Bool.and_eq_true, Bool.and_eq_true, decide_eq_true_eq] at h
    obtain ⟨a1, a2⟩ := look_good' h.2.1
    obtain ⟨b1, b2⟩ := look_good' h.2.2
    refine ⟨⟨a1, b1⟩, ?_⟩
    show d + (1 + max y.ht n.ht) ≤ 61
    omega
theorem look_good {pl : Pl} (h : lookPl 0 pl = true) : pl.Good ∧ pl.ht ≤ 61 := by
  have := look_good' h
  exact ⟨this.1, by omega⟩
def showsM (c : List Int) (pl : Pl) (m : Int) : Except Err PyData := (lookCounts c).bind fun _ => (lookQs m).bind fun _ => (lookPlan 0 pl).map fun _ => .bool (doesV pl c m)
def sp_shows_plan (ea : Err → Addr) : ASp := pSp ea fun ds o => ∃ (c : List Int) (pl : Pl) (m : Int), ds = [.d (tI c), .d (plD pl), .d (.int m)] ∧ pl.Ok ∧ (goodC c = true → ∃ S n, GC S n c) ∧ o = showsM c pl m
def sp_toldP (ea : Err → Addr) : ASp := pSp ea fun ds o => ∃ (c : List Int) (k : Nat), ds = [.d (tI c), .d (.int k)] ∧ goodS c = true ∧ k ≤ 36 ∧ lawC k c = true ∧ o = .ok (.tuple [.str "plan", planW k c])
end LB

/-! Mirrors 17: plans shown (k21). -/
namespace LB
open PySem PySem.Spec PyProof.Rows L2
def planP : Nat → List Int → Pl
  | 0, _ => .nil
  | k + 1, c => match canW (k + 1) c with
    | none => .nil
    | some p => if p = [] then .nil else .node p (planP k (behindY c p)) (planP k (behindN c p))
theorem planP_D : ∀ (k : Nat) (c : List Int), plD (planP k c) = planW k c
  | 0, _ => rfl
  | k + 1, c => by
    show plD (match canW (k + 1) c with | none => Pl.nil | some p => if p = [] then Pl.nil else Pl.node p (planP k (behindY c p)) (planP k (behindN c p))) = match canW (k + 1) c with | none => PyData.tuple [] | some p => if p = [] then PyData.tuple [] else PyData.tuple [tI p, planW k (behindY c p), planW k (behindN c p)]
    cases canW (k + 1) c with
    | none => rfl
    | some p =>
      dsimp only
      by_cases e : p = []
      · rw [if_pos e, if_pos e]; rfl
      · rw [if_neg e, if_neg e]
        show PyData.tuple [tI p, plD (planP k _), plD (planP k _)] = _
        rw [planP_D k, planP_D k]
/-- all parts have so many numbers -/
def Pl.Wide (n : Nat) : Pl → Prop
  | .nil => True
  | .node p y z => p.length = n ∧ y.Wide n ∧ z.Wide n
  | .odd _ => False
/-- all parts have some -/
def Pl.Some : Pl → Prop
  | .nil => True
  | .node p y z => p ≠ [] ∧ y.Some ∧ z.Some
  | .odd _ => False
theorem planP_good {S : Int} {n : Nat} : ∀ (k : Nat) {c : List Int}, GC S n c → (canW k c).isSome = true → (planP k c).Wide n ∧ (planP k c).ht ≤ k ∧ ∀ m : Int, (k : Int) ≤ m → doesV (planP k c) c m = true
  | 0, c, h, hs => ⟨trivial, Nat.le_refl _, fun m _ => by
    obtain ⟨p, hp⟩ := Option.isSome_iff_exists.mp hs
    have := can_law 0 h
    rw [hs] at this
    exact this.symm⟩
  | k + 1, c, h, hs => by
    obtain ⟨p, hp⟩ := Option.isSome_iff_exists.mp hs
    obtain ⟨n1, n2⟩ := can_nil h hp
    have e : planP (k + 1) c = if p = [] then .nil else .node p (planP k (behindY c p)) (planP k (behindN c p)) := by
      show (match canW (k + 1) c with | none => Pl.nil | some p => _) = _
      rw [hp]
    rw [e]
    by_cases hn : p = []
    · rw [if_pos hn]
      exact ⟨trivial, Nat.zero_le _, fun m _ => decide_eq_true (n1.mp hn)⟩
    · rw [if_neg hn]
      obtain ⟨j, ej, pok, s1, s2⟩ := n2 fun z => hn (n1.mpr z)
      have ej : j = k := by omega
      subst ej
      obtain ⟨g1, g2⟩ := h.behind pok
      obtain ⟨a1, a2, a3⟩ := planP_good j g1 s1
      obtain ⟨b1, b2, b3⟩ := planP_good j g2 s2
      refine ⟨⟨by rw [partOk_len pok]; exact h.len, a1, b1⟩, ?_, fun m hm => ?_⟩
      · show 1 + max _ _ ≤ j + 1
        omega
      · show (!decide (m = 0) && (partOk c p && (doesV _ _ (m - 1) && doesV _ _ (m - 1)))) = true
        rw [decide_eq_false (by omega), pok, a3 (m - 1) (by omega), b3 (m - 1) (by omega)]; rfl
theorem Pl.Wide.some {n : Nat} (h1 : 1 ≤ n) : ∀ {pl : Pl}, pl.Wide n → pl.Some
  | .nil, _ => trivial
  | .node p y z, h => ⟨fun e => by have := h.1; rw [e] at this; simp at this; omega, h.2.1.some h1, h.2.2.some h1⟩
  | .odd _, h => h.elim
/-- a plan bent -/
def bentP : Pl → Int → Pl
  | .nil, x => [Pl.nil, .node [0] .nil .nil, .node [1, 0] .nil .nil].getD (x % 3).toNat .nil
  | .node p y z, x => if x % 4 > 1 then (if x / 4 % 2 = 0 then .node p (bentP y (x / 8)) z else .node p y (bentP z (x / 8)))
    else if x % 4 = 1 then [Pl.node p z y, .node p .nil z, y, .nil].getD (x / 4 % 4).toNat .nil
    else [Pl.node p.reverse y z, .node (p ++ [0]) y z, .node ((nth p 0 + 1) :: p.drop 1) y z, .node ((nth p 0 - 1) :: p.drop 1) y z].getD (x / 4 % 4).toNat .nil
  | .odd xs, _ => .odd xs
theorem Pl.Some.good : ∀ {pl : Pl}, pl.Some → pl.Good ∧ pl.Ok
  | .nil, _ => ⟨trivial, trivial⟩
  | .node p y z, h => ⟨⟨h.2.1.good.1, h.2.2.good.1⟩, h.2.1.good.2, h.2.2.good.2⟩
  | .odd _, h => h.elim
theorem bent_some : ∀ {pl : Pl} (x : Int), pl.Some → (bentP pl x).Some ∧ (bentP pl x).ht ≤ pl.ht + 1
  | .nil, x, _ => by
    have q : x % 3 = 0 ∨ x % 3 = 1 ∨ x % 3 = 2 := by omega
    unfold bentP
    rcases q with q | q | q <;> rw [q]
    · exact ⟨trivial, Nat.zero_le _⟩
    · exact ⟨⟨by simp, trivial, trivial⟩, Nat.le_refl _⟩
    · exact ⟨⟨by simp, trivial, trivial⟩, Nat.le_refl _⟩
  | .odd _, _, h => h.elim
  | .node p y z, x, h => by
    obtain ⟨h1, h2, h3⟩ := h
    obtain ⟨y1, y2⟩ := bent_some (x / 8) h2
    obtain ⟨z1, z2⟩ := bent_some (x / 8) h3
    have hh : (Pl.node p y z).ht = 1 + max y.ht z.ht := rfl
    unfold bentP
    by_cases c1 : x % 4 > 1
    · rw [if_pos c1]
      by_cases c2 : x / 4 % 2 = 0
      · rw [if_pos c2]
        exact ⟨⟨h1, y1, h3⟩, by show 1 + max _ _ ≤ 1 + max _ _ + 1; omega⟩
      · rw [if_neg c2]
        exact ⟨⟨h1, h2, z1⟩, by show 1 + max _ _ ≤ 1 + max _ _ + 1; omega⟩
    · rw [if_neg c1]
      have q : x / 4 % 4 = 0 ∨ x / 4 % 4 = 1 ∨ x / 4 % 4 = 2 ∨ x / 4 % 4 = 3 := by omega
      by_cases c2 : x % 4 = 1
      · rw [if_pos c2]
        rcases q with q | q | q | q <;> rw [q]
        · exact ⟨⟨h1, h3, h2⟩, by show 1 + max _ _ ≤ 1 + max _ _ + 1; omega⟩
        · exact ⟨⟨h1, trivial, h3⟩, by show 1 + max 0 _ ≤ 1 + max _ _ + 1; omega⟩
        · exact ⟨h2, by show y.ht ≤ 1 + max _ _ + 1; omega⟩
        · exact ⟨trivial, Nat.zero_le _⟩
      · rw [if_neg c2]
        rcases q with q | q | q | q <;> rw [q]
        · exact ⟨⟨by simpa using h1, h2, h3⟩, by show 1 + max _ _ ≤ 1 + max _ _ + 1; omega⟩
        · exact ⟨⟨by simp, h2, h3⟩, by show 1 + max _ _ ≤ 1 + max _ _ + 1; omega⟩
        · exact ⟨⟨by simp, h2, h3⟩, by show 1 + max _ _ ≤ 1 + max _ _ + 1; omega⟩
        · exact ⟨⟨by simp, h2, h3⟩, by show 1 + max _ _ ≤ 1 + max _ _ + 1; omega⟩
/-- deep plans -/
def deepP : Nat → Pl
  | 0 => .nil
  | k + 1 => .node [1, 0] .nil (deepP k)
def sp_ldeep (ea : Err → Addr) : ASp := pSp ea fun ds o => ∃ k : Nat, ds = [.d (.int k)] ∧ k ≤ 1000 ∧ o = .ok (plD (deepP k))
def tol21 (c : List Int) (pl : Pl) (m : Int) : PyData := match showsM c pl m with
  | .ok d => d
  | .error e => .str ((nm5 e).getD "")
theorem showsM_nm {c : List Int} {pl : Pl} {m : Int} {e : Err} (h : showsM c pl m = .error e) : ∃ s, nm5 e = some s := by
  unfold showsM lookCounts lookQs lookPlan at h
  by_cases h1 : goodC c = true
  · rw [if_pos h1] at h
    by_cases h2 : goodQ m = true
    · rw [if_pos h2] at h
      by_cases h3 : lookPl 0 pl = true
      · rw [if_pos h3] at h; cases h
      · rw [if_neg h3] at h; cases h; exact ⟨_, rfl⟩
    · rw [if_neg h2] at h; cases h; exact ⟨_, rfl⟩
  · rw [if_neg h1] at h; cases h; exact ⟨_, rfl⟩
def sp_told21 (ea : Err → Addr) : ASp := pSp ea fun ds o => ∃ (c : List Int) (pl : Pl) (m : Int), ds = [.d (tI c), .d (plD pl), .d (.int m)] ∧ pl.Ok ∧ (goodC c = true → ∃ S n, GC S n c) ∧ o = .ok (tol21 c pl m)
/-- how many are left behind drawn answers -/
def stepL (ns : List Int) (s : Int × List Int × Pl) : Int × List Int × Pl := match s.2.2 with
  | .node p y z => if mixV ns s.1 / 4 % 2 = 0 then (s.1 + 1, behindY s.2.1 p, y) else (s.1 + 1, behindN s.2.1 p, z)
  | _ => s
def leftP (ns : List Int) : Pl → Int → List Int → Int
  | .node p y z, k, c => if mixV ns k / 4 % 2 = 0 then leftP ns y (k + 1) (behindY c p) else leftP ns z (k + 1) (behindN c p)
  | _, _, c => c.sum
theorem left_le (ns : List Int) : ∀ (pl : Pl) (k : Int) (c : List Int) (m : Int), doesV pl c m = true → leftP ns pl k c ≤ 1
  | .nil, _, _, _, h => of_decide_eq_true h
  | .odd _, _, _, _, h => by cases h
  | .node p y z, k, c, m, h => by
    have h : (!decide (m = 0) && (partOk c p && (doesV y (behindY c p) (m - 1) && doesV z (behindN c p) (m - 1)))) = true := h
    rw [Bool.and_eq_true, Bool.and_eq_true, Bool.and_eq_true] at h
    show (if _ then _ else _) ≤ (1 : Int)
    by_cases e : mixV ns k / 4 % 2 = 0
    · rw [if_pos e]; exact left_le ns y _ _ _ h.2.2.1
    · rw [if_neg e]; exact left_le ns z _ _ _ h.2.2.2
def isNode : Pl → Bool
  | .nil => false
  | _ => true
def sp_lleft (g : Gv) : ASp := pSp g.ea fun ds o => ∃ (ns : List Int) (k : Int) (S : Int) (n : Nat) (c : List Int) (pl : Pl) (m : Int), ds = [.f g.K ns, .d (.int k), .d (tI c), .d (plD pl)] ∧ GC S n c ∧ pl.Good ∧ pl.ht ≤ 61 ∧ doesV pl c m = true ∧ o = .ok (.int (leftP ns pl k c))
end LB

/-! Mirrors 21: plans that are not too deep. -/
namespace LB
open PySem PySem.Spec PyProof.Rows L2
theorem lookPl_of : ∀ {pl : Pl} {d : Nat}, pl.Good → d + pl.ht ≤ 60 → lookPl d pl = true
  | .nil, d, _, h => by have h : d + 0 ≤ 60 := h; exact decide_eq_true (by omega)
  | .odd _, _, h, _ => h.elim
  | .node p y n, d, g, h => by
    have h : d + (1 + max y.ht n.ht) ≤ 60 := h
    show (decide (d ≤ 60) && (lookPl (d + 1) y && lookPl (d + 1) n)) = true
    rw [decide_eq_true (by omega : d ≤ 60), lookPl_of g.1 (by omega), lookPl_of g.2 (by omega)]
    rfl
theorem Pl.Good.ok : ∀ {pl : Pl}, pl.Good → pl.Ok
  | .nil, _ => trivial
  | .odd _, h => h.elim
  | .node p y z, h => ⟨h.1.ok, h.2.ok⟩
theorem none_pl {pl : Pl} : isNone (.d (plD pl)) = false := by cases pl <;> rfl
end LB

/-! Mirrors 27: plans as texts (k70): the writer and the program's reader. -/
namespace LB
open PySem PySem.Spec PyProof.Rows L2 TL
def isD (c : Nat) : Bool := decide (48 ≤ c ∧ c ≤ 57)
def FIG : List Nat := [48, 49, 50, 51, 52, 53, 54, 55, 56, 57]
theorem mem_FIG (c : Nat) : decide (c ∈ FIG) = isD c := by
  unfold isD FIG
  rw [Bool.eq_iff_iff, decide_eq_true_eq, decide_eq_true_eq]
  simp only [List.mem_cons, List.not_mem_nil, or_false]
  omega
def decI (n : Int) : List Nat := numL n.toNat
theorem decI_isD (n : Int) : ∀ c ∈ decI n, isD c = true := fun c hc => decide_eq_true (numL_digits n.toNat c hc)
theorem decI_ne (n : Int) : decI n ≠ [] := numL_ne _
theorem decI_val {n : Int} (h : 0 ≤ n) : ((NumText.digitsVal (decI n) : Nat) : Int) = n := by
  unfold decI; rw [numL_val]; omega
theorem decI_len {n : Int} (h : n ≤ 99) : (decI n).length ≤ 2 := numL_len (n := n.toNat) (by decide) (by show n.toNat < 100; omega)
def mtx : List Int → List Nat
  | [] => []
  | n :: ns => 44 :: (decI n ++ mtx ns)
theorem join_mtx (n : Int) (ns : List Int) : joinL [44] ((n :: ns).map decI) = decI n ++ mtx ns := by
  induction ns generalizing n with
  | nil => show decI n = decI n ++ []; rw [List.append_nil]
  | cons m ms ih =>
    show decI n ++ ([44] ++ joinL [44] ((m :: ms).map decI)) = decI n ++ (44 :: (decI m ++ mtx ms))
    rw [ih]; rfl
theorem mtx_len : ∀ ns : List Int, ns.length ≤ (mtx ns).length
  | [] => Nat.le_refl _
  | n :: ns => by
    have := mtx_len ns
    show ns.length + 1 ≤ (44 :: (decI n ++ mtx ns)).length
    rw [List.length_cons, List.length_append]; omega
def wtext : Pl → List Nat
  | .nil => [46]
  | .node p y z => 40 :: (joinL [44] (p.map decI) ++ 32 :: (wtext y ++ 32 :: (wtext z ++ [41])))
  | .odd _ => []
/-- what a text of a plan may hold: within a depth, no part empty, numbers of at most two figures -/
def PG : Nat → Pl → Prop
  | 0, _ => False
  | _ + 1, .nil => True
  | f + 1, .node p y z => p ≠ [] ∧ (∀ x ∈ p, 0 ≤ x ∧ x ≤ 99) ∧ PG f y ∧ PG f z
  | _ + 1, .odd _ => False
def okW (w : List Nat) : Bool := decide (1 ≤ w.length ∧ w.length ≤ 2) && !(decide (w.head? = some 48) && !decide (w = [48]))
def numR (l : List Nat) : Option (Int × List Nat) := if okW (l.takeWhile isD) = true then some (((NumText.digitsVal (l.takeWhile isD) : Nat) : Int), l.dropWhile isD) else none
def needR (c : Nat) (l : List Nat) : Option (List Nat) := if l.head? = some c then some l.tail else none
def moreR : Nat → List Nat → Option (List Int × List Nat)
  | 0, _ => none
  | f + 1, l => if l.head? = some 44 then (numR l.tail).bind fun q => (moreR f q.2).map fun r => (q.1 :: r.1, r.2) else some ([], l)
def planR : Nat → List Nat → Option (Pl × List Nat)
  | 0, _ => none
  | f + 1, l => if l.head? = some 46 then some (.nil, l.tail) else
    (needR 40 l).bind fun l1 => (numR l1).bind fun q => (moreR (q.2.length + 1) q.2).bind fun r => (needR 32 r.2).bind fun l4 => (planR f l4).bind fun y => (needR 32 y.2).bind fun l6 => (planR f l6).bind fun z => (needR 41 z.2).map fun l8 => (.node (q.1 :: r.1) y.1 z.1, l8)
theorem okW_num {w : List Nat} (hd : ∀ c ∈ w, isD c = true) (h : okW w = true) : numL (NumText.digitsVal w) = w ∧ NumText.digitsVal w ≤ 99 := by
  unfold okW at h
  rw [Bool.and_eq_true, decide_eq_true_eq, Bool.not_eq_true', Bool.and_eq_false_iff, Bool.not_eq_false', decide_eq_false_iff_not, decide_eq_true_eq] at h
  obtain ⟨⟨l1, l2⟩, h⟩ := h
  match w, l1, l2, hd, h with
  | [c], _, _, hd, _ =>
    have hc : 48 ≤ c ∧ c ≤ 57 := of_decide_eq_true (hd c List.mem_cons_self)
    have e : NumText.digitsVal [c] = c - 48 := by show 0 * 10 + (c - 48) = _; omega
    rw [e, numL_lt (by omega), show 48 + (c - 48) = c by omega]
    exact ⟨rfl, by omega⟩
  | [c, d], _, _, hd, h =>
    have hc : 48 ≤ c ∧ c ≤ 57 := of_decide_eq_true (hd c List.mem_cons_self)
    have hdd : 48 ≤ d ∧ d ≤ 57 := of_decide_eq_true (hd d (List.mem_cons_of_mem _ List.mem_cons_self))
    have e : NumText.digitsVal [c, d] = (c - 48) * 10 + (d - 48) := by show (0 * 10 + (c - 48)) * 10 + (d - 48) = _; omega
    have hne : c ≠ 48 := fun z => by
      subst z
      rcases h with h | h
      · exact h rfl
      · cases h
    rw [e, numL_step (by omega), show ((c - 48) * 10 + (d - 48)) / 10 = c - 48 by omega, show ((c - 48) * 10 + (d - 48)) % 10 = d - 48 by omega, numL_lt (by omega), show 48 + (c - 48) = c by omega, show 48 + (d - 48) = d by omega]
    exact ⟨rfl, by omega⟩
theorem okW_dec {n : Int} (h0 : 0 ≤ n) (h1 : n ≤ 99) : okW (decI n) = true := by
  have h : ∀ k < 100, okW (numL k) = true := by
    intro k hk
    by_cases h : k < 10
    · rw [numL_lt h]
      have : ∀ k < 10, okW [48 + k] = true := by decide
      exact this k h
    · rw [numL_step (by omega), numL_lt (by omega)]
      unfold okW
      have e : (48 + k / 10 : Nat) ≠ 48 := by omega
      simp [e]
      omega
  exact h n.toNat (by omega)
theorem takeWhile_all {l : List Nat} : ∀ c ∈ l.takeWhile isD, isD c = true := fun c hc => by
  have := List.all_takeWhile (p := isD) (l := l)
  exact List.all_eq_true.mp this c hc
theorem numR_sound {l r : List Nat} {n : Int} (h : numR l = some (n, r)) : l = decI n ++ r ∧ 0 ≤ n ∧ n ≤ 99 := by
  unfold numR at h
  by_cases hw : okW (l.takeWhile isD) = true
  · rw [if_pos hw] at h
    obtain ⟨e1, e2⟩ := okW_num takeWhile_all hw
    cases h
    refine ⟨?_, by omega, by omega⟩
    unfold decI
    rw [Int.toNat_natCast, e1]
    exact (List.takeWhile_append_dropWhile (p := isD) (l := l)).symm
  · rw [if_neg hw] at h; cases h
def nodig (r : List Nat) : Prop := ∀ c ∈ r.head?, isD c = false
theorem tw_app {w r : List Nat} (hw : ∀ c ∈ w, isD c = true) (hr : nodig r) : (w ++ r).takeWhile isD = w ∧ (w ++ r).dropWhile isD = r := by
  induction w with
  | nil =>
    cases r with
    | nil => exact ⟨rfl, rfl⟩
    | cons c r =>
      have hc : isD c = false := hr c rfl
      exact ⟨by show (c :: r).takeWhile isD = []; rw [List.takeWhile_cons, hc]; rfl, by show (c :: r).dropWhile isD = c :: r; rw [List.dropWhile_cons, hc]; rfl⟩
  | cons c w ih =>
    obtain ⟨a, b⟩ := ih fun d hd => hw d (List.mem_cons_of_mem _ hd)
    have hc := hw c List.mem_cons_self
    exact ⟨by rw [List.cons_append, List.takeWhile_cons, hc]; show c :: (w ++ r).takeWhile isD = _; rw [a], by rw [List.cons_append, List.dropWhile_cons, hc]; exact b⟩
theorem numR_dec {n : Int} {r : List Nat} (h0 : 0 ≤ n) (h1 : n ≤ 99) (hr : nodig r) : numR (decI n ++ r) = some (n, r) := by
  obtain ⟨a, b⟩ := tw_app (decI_isD n) hr
  unfold numR
  rw [a, b, if_pos (okW_dec h0 h1), decI_val h0]
theorem needR_sound {c : Nat} {l r : List Nat} (h : needR c l = some r) : l = c :: r := by
  unfold needR at h
  by_cases hc : l.head? = some c
  · rw [if_pos hc] at h
    cases h
    cases l with
    | nil => cases hc
    | cons a l => cases hc; rfl
  · rw [if_neg hc] at h; cases h
theorem needR_cons (c : Nat) (r : List Nat) : needR c (c :: r) = some r := by
  show (if (c :: r).head? = some c then some (c :: r).tail else none) = some r
  rw [if_pos (show (c :: r).head? = some c from rfl)]; rfl
theorem moreR_sound : ∀ (f : Nat) {l r : List Nat} {ns : List Int}, moreR f l = some (ns, r) → l = mtx ns ++ r ∧ (∀ x ∈ ns, 0 ≤ x ∧ x ≤ 99) ∧ r.head? ≠ some 44
  | 0, l, r, ns, h => by cases h
  | f + 1, l, r, ns, h => by
    have h : (if l.head? = some 44 then (numR l.tail).bind fun q => (moreR f q.2).map fun r => (q.1 :: r.1, r.2) else some ([], l)) = some (ns, r) := h
    by_cases hc : l.head? = some 44
    · rw [if_pos hc] at h
      cases e1 : numR l.tail with
      | none => rw [e1] at h; cases h
      | some q =>
        rw [e1] at h
        have h : (moreR f q.2).map (fun r => (q.1 :: r.1, r.2)) = some (ns, r) := h
        cases e2 : moreR f q.2 with
        | none => rw [e2] at h; cases h
        | some s =>
          rw [e2] at h
          cases h
          obtain ⟨a1, a2, a3⟩ := numR_sound (n := q.1) (r := q.2) e1
          obtain ⟨b1, b2, b3⟩ := moreR_sound f (ns := s.1) (r := s.2) e2
          refine ⟨?_, fun x hx => ?_, b3⟩
          · cases l with
            | nil => cases hc
            | cons a l =>
              cases hc
              show 44 :: l = 44 :: (decI q.1 ++ mtx s.1) ++ s.2
              rw [List.cons_append, List.append_assoc, ← b1]
              have a1 : l = decI q.1 ++ q.2 := a1
              rw [← a1]
          · rcases List.mem_cons.mp hx with rfl | hx
            · exact ⟨a2, a3⟩
            · exact b2 x hx
    · rw [if_neg hc] at h
      cases h
      exact ⟨rfl, fun x hx => (List.not_mem_nil hx).elim, hc⟩
theorem moreR_dec : ∀ (f : Nat) {ns : List Int} {r : List Nat}, ns.length < f → (∀ x ∈ ns, 0 ≤ x ∧ x ≤ 99) → nodig r → r.head? ≠ some 44 → moreR f (mtx ns ++ r) = some (ns, r)
  | 0, ns, r, h, _, _, _ => absurd h (Nat.not_lt_zero _)
  | f + 1, [], r, _, _, _, h44 => by
    show (if r.head? = some 44 then _ else some ([], r)) = some ([], r)
    rw [if_neg h44]
  | f + 1, n :: ns, r, hl, hn, hr, h44 => by
    have e : (44 :: (decI n ++ mtx ns)) ++ r = 44 :: (decI n ++ (mtx ns ++ r)) := by rw [List.cons_append, List.append_assoc]
    show (if ((44 :: (decI n ++ mtx ns)) ++ r).head? = some 44 then _ else _) = _
    rw [if_pos (show ((44 :: (decI n ++ mtx ns)) ++ r).head? = some 44 from rfl)]
    have nd : nodig (mtx ns ++ r) := by
      cases ns with
      | nil => exact hr
      | cons m ms =>
        intro c hc
        have hc : some 44 = some c := hc
        cases hc; decide
    show ((numR ((44 :: (decI n ++ mtx ns)) ++ r).tail).bind fun q => (moreR f q.2).map fun r => (q.1 :: r.1, r.2)) = _
    rw [e]
    show ((numR (decI n ++ (mtx ns ++ r))).bind fun q => (moreR f q.2).map fun r => (q.1 :: r.1, r.2)) = _
    rw [numR_dec (hn n List.mem_cons_self).1 (hn n List.mem_cons_self).2 nd]
    show (moreR f (mtx ns ++ r)).map (fun r => (n :: r.1, r.2)) = _
    rw [moreR_dec f (by simp at hl; omega) (fun x hx => hn x (List.mem_cons_of_mem _ hx)) hr h44]; rfl
theorem planR_sound : ∀ (f : Nat) {l r : List Nat} {p : Pl}, planR f l = some (p, r) → l = wtext p ++ r ∧ PG f p
  | 0, l, r, p, h => by cases h
  | f + 1, l, r, p, h => by
    unfold planR at h
    by_cases hc : l.head? = some 46
    · rw [if_pos hc] at h
      cases h
      cases l with
      | nil => cases hc
      | cons a l => cases hc; exact ⟨rfl, trivial⟩
    rw [if_neg hc] at h
    cases e1 : needR 40 l with
    | none => rw [e1] at h; cases h
    | some l1 =>
    rw [e1, Option.bind_some] at h
    cases e2 : numR l1 with
    | none => rw [e2] at h; cases h
    | some q =>
    rw [e2, Option.bind_some] at h
    cases e3 : moreR (q.2.length + 1) q.2 with
    | none => rw [e3] at h; cases h
    | some s =>
    rw [e3, Option.bind_some] at h
    cases e4 : needR 32 s.2 with
    | none => rw [e4] at h; cases h
    | some l4 =>
    rw [e4, Option.bind_some] at h
    cases e5 : planR f l4 with
    | none => rw [e5] at h; cases h
    | some y =>
    rw [e5, Option.bind_some] at h
    cases e6 : needR 32 y.2 with
    | none => rw [e6] at h; cases h
    | some l6 =>
    rw [e6, Option.bind_some] at h
    cases e7 : planR f l6 with
    | none => rw [e7] at h; cases h
    | some z =>
    rw [e7, Option.bind_some] at h
    cases e8 : needR 41 z.2 with
    | none => rw [e8] at h; cases h
    | some l8 =>
    rw [e8] at h
    cases h
    have d1 := needR_sound e1
    obtain ⟨d2, d3, d4⟩ := numR_sound (n := q.1) (r := q.2) e2
    obtain ⟨d5, d6, d7⟩ := moreR_sound _ (ns := s.1) (r := s.2) e3
    have d8 := needR_sound e4
    obtain ⟨d9, da⟩ := planR_sound f (p := y.1) (r := y.2) e5
    have db := needR_sound e6
    obtain ⟨dc, dd⟩ := planR_sound f (p := z.1) (r := z.2) e7
    have de := needR_sound e8
    refine ⟨?_, by simp, fun x hx => ?_, da, dd⟩
    · show l = 40 :: (joinL [44] ((q.1 :: s.1).map decI) ++ 32 :: (wtext y.1 ++ 32 :: (wtext z.1 ++ [41]))) ++ r
      rw [join_mtx, d1, d2, d5, d8, d9, db, dc, de]
      simp
    · rcases List.mem_cons.mp hx with rfl | hx
      · exact ⟨d3, d4⟩
      · exact d6 x hx
theorem planR_text : ∀ (f : Nat) {p : Pl} (r : List Nat), PG f p → planR f (wtext p ++ r) = some (p, r)
  | 0, p, r, h => h.elim
  | f + 1, .nil, r, _ => by
    unfold planR
    rw [if_pos (show (wtext .nil ++ r).head? = some 46 from rfl)]; rfl
  | f + 1, .odd _, r, h => h.elim
  | f + 1, .node [] y z, r, h => absurd rfl h.1
  | f + 1, .node (n :: ns) y z, r, h => by
    obtain ⟨_, hn, hy, hz⟩ := h
    have e : wtext (.node (n :: ns) y z) ++ r = 40 :: (decI n ++ (mtx ns ++ 32 :: (wtext y ++ 32 :: (wtext z ++ 41 :: r)))) := by
      show 40 :: (joinL [44] ((n :: ns).map decI) ++ 32 :: (wtext y ++ 32 :: (wtext z ++ [41]))) ++ r = _
      rw [join_mtx]; simp
    rw [e]
    have nd : ∀ x, nodig (32 :: x) := fun x c hc => by cases hc; decide
    have nd2 : nodig (mtx ns ++ 32 :: (wtext y ++ 32 :: (wtext z ++ 41 :: r))) := by
      cases ns with
      | nil => exact nd _
      | cons m ms => intro c hc; cases hc; decide
    unfold planR
    rw [if_neg (by intro z; cases z), needR_cons, Option.bind_some, numR_dec (hn n List.mem_cons_self).1 (hn n List.mem_cons_self).2 nd2, Option.bind_some]
    show ((moreR ((mtx ns ++ 32 :: (wtext y ++ 32 :: (wtext z ++ 41 :: r))).length + 1) (mtx ns ++ 32 :: (wtext y ++ 32 :: (wtext z ++ 41 :: r)))).bind _) = _
    have len := mtx_len ns
    rw [moreR_dec _ (by rw [List.length_append]; omega) (fun x hx => hn x (List.mem_cons_of_mem _ hx)) (nd _) (by intro z; cases z), Option.bind_some]
    show ((needR 32 (32 :: _)).bind _) = _
    rw [needR_cons, Option.bind_some, planR_text f _ hy, Option.bind_some]
    show ((needR 32 (32 :: _)).bind _) = _
    rw [needR_cons, Option.bind_some, planR_text f _ hz, Option.bind_some]
    show ((needR 41 (41 :: r)).map _) = _
    rw [needR_cons]; rfl
/-- what reading a text comes to -/
def readR (l : List Nat) : Option Pl := (planR 61 l).bind fun q => if q.2 = [] then some q.1 else none
theorem readR_text {p : Pl} (h : PG 61 p) : readR (wtext p) = some p := by
  have := planR_text 61 [] h
  rw [List.append_nil] at this
  unfold readR
  rw [this]; rfl
theorem readR_sound {l : List Nat} {p : Pl} (h : readR l = some p) : l = wtext p ∧ PG 61 p := by
  unfold readR at h
  cases e : planR 61 l with
  | none => rw [e] at h; cases h
  | some q =>
    rw [e] at h
    have h : (if q.2 = [] then some q.1 else none) = some p := h
    by_cases c : q.2 = []
    · rw [if_pos c] at h
      cases h
      obtain ⟨a, b⟩ := planR_sound 61 (p := q.1) (r := q.2) e
      rw [c, List.append_nil] at a
      exact ⟨a, b⟩
    · rw [if_neg c] at h; cases h
end LB

/-! Mirrors 28: the law's own reader of plans' texts (k70). -/
namespace LB
open PySem PySem.Spec PyProof.Rows L2 TL
def hdD (w : List Nat) : Bool := match w.head? with
  | some c => isD c
  | none => false
def lastD (acc : List (List Nat)) : Bool := match acc.getLast? with
  | some w => hdD w
  | none => false
def stepWd (acc : List (List Nat)) (c : Nat) : List (List Nat) := if (isD c && lastD acc) = true then acc.dropLast ++ [acc.getLast?.getD [] ++ [c]] else acc ++ [[c]]
def wordsL (l : List Nat) : List (List Nat) := l.foldl stepWd []
theorem step_nd {acc : List (List Nat)} {c : Nat} (h : isD c = false) : stepWd acc c = acc ++ [[c]] := by unfold stepWd; rw [h]; rfl
theorem step_new {acc : List (List Nat)} {c : Nat} (h : lastD acc = false) : stepWd acc c = acc ++ [[c]] := by unfold stepWd; rw [h, Bool.and_false]; rfl
theorem lastD_snoc (acc : List (List Nat)) (w : List Nat) : lastD (acc ++ [w]) = hdD w := by unfold lastD; rw [List.getLast?_append]; rfl
theorem step_more {pre : List (List Nat)} {w : List Nat} {c : Nat} (hw : hdD w = true) (hc : isD c = true) : stepWd (pre ++ [w]) c = pre ++ [w ++ [c]] := by
  unfold stepWd
  rw [lastD_snoc, hw, hc, if_pos (show (true && true) = true from rfl), List.dropLast_concat, List.getLast?_append]; rfl
theorem hdD_app {w : List Nat} (v : List Nat) (h : hdD w = true) : hdD (w ++ v) = true := by
  cases w with
  | nil => cases h
  | cons c w => exact h
theorem fold_more : ∀ (cs : List Nat) {pre : List (List Nat)} {w : List Nat}, hdD w = true → (∀ c ∈ cs, isD c = true) → cs.foldl stepWd (pre ++ [w]) = pre ++ [w ++ cs]
  | [], pre, w, _, _ => by rw [List.append_nil]; rfl
  | c :: cs, pre, w, hw, hc => by
    rw [List.foldl_cons, step_more hw (hc c List.mem_cons_self), fold_more cs (hdD_app _ hw) fun d hd => hc d (List.mem_cons_of_mem _ hd), List.append_assoc]; rfl
theorem fold_num' {acc : List (List Nat)} {w : List Nat} (hl : lastD acc = false) (hw : ∀ c ∈ w, isD c = true) (hne : w ≠ []) : w.foldl stepWd acc = acc ++ [w] := by
  cases w with
  | nil => exact absurd rfl hne
  | cons c cs =>
    rw [List.foldl_cons, step_new hl, fold_more cs (pre := acc) (w := [c]) (show hdD [c] = true from hw c List.mem_cons_self) fun d hd => hw d (List.mem_cons_of_mem _ hd)]; rfl
def mw : List Int → List (List Nat)
  | [] => []
  | n :: ns => [44] :: decI n :: mw ns
def nw : List Int → List (List Nat)
  | [] => []
  | n :: ns => decI n :: mw ns
def wp : Pl → List (List Nat)
  | .nil => [[46]]
  | .node p y z => [40] :: (nw p ++ [32] :: (wp y ++ [32] :: (wp z ++ [[41]])))
  | .odd _ => []
theorem words_mtx : ∀ (ns : List Int) (acc : List (List Nat)) (rest : List Nat), (mtx ns ++ rest).foldl stepWd acc = rest.foldl stepWd (acc ++ mw ns)
  | [], acc, rest => by show rest.foldl stepWd acc = _; rw [show mw [] = [] from rfl, List.append_nil]
  | n :: ns, acc, rest => by
    show (44 :: (decI n ++ mtx ns) ++ rest).foldl stepWd acc = _
    rw [List.cons_append, List.foldl_cons, step_nd (show isD 44 = false by decide), List.append_assoc, List.foldl_append, fold_num' (by rw [lastD_snoc]; rfl) (decI_isD n) (decI_ne n), words_mtx ns]
    rw [show mw (n :: ns) = [44] :: decI n :: mw ns from rfl]
    simp
theorem words_text : ∀ (f : Nat) {p : Pl} (acc : List (List Nat)) (rest : List Nat), PG f p → (wtext p ++ rest).foldl stepWd acc = rest.foldl stepWd (acc ++ wp p)
  | 0, p, acc, rest, h => h.elim
  | f + 1, .nil, acc, rest, _ => by
    show rest.foldl stepWd (stepWd acc 46) = _
    rw [step_nd (by decide)]; rfl
  | f + 1, .odd _, acc, rest, h => h.elim
  | f + 1, .node [] y z, acc, rest, h => absurd rfl h.1
  | f + 1, .node (n :: ns) y z, acc, rest, h => by
    obtain ⟨_, hn, hy, hz⟩ := h
    have e : wtext (.node (n :: ns) y z) ++ rest = 40 :: (decI n ++ (mtx ns ++ 32 :: (wtext y ++ 32 :: (wtext z ++ 41 :: rest)))) := by
      show 40 :: (joinL [44] ((n :: ns).map decI) ++ 32 :: (wtext y ++ 32 :: (wtext z ++ [41]))) ++ rest = _
      rw [join_mtx]; simp
    rw [e, List.foldl_cons, step_nd (show isD 40 = false by decide), List.foldl_append, fold_num' (by rw [lastD_snoc]; rfl) (decI_isD n) (decI_ne n), words_mtx, List.foldl_cons, step_nd (show isD 32 = false by decide), words_text f _ _ hy, List.foldl_cons, step_nd (show isD 32 = false by decide), words_text f _ _ hz, List.foldl_cons, step_nd (show isD 41 = false by decide)]
    rw [show wp (.node (n :: ns) y z) = [40] :: (decI n :: mw ns ++ [32] :: (wp y ++ [32] :: (wp z ++ [[41]]))) from rfl]
    congr 1
    simp
theorem words_wp {f : Nat} {p : Pl} (h : PG f p) : wordsL (wtext p) = wp p := by
  have := words_text f [] [] h
  rw [List.append_nil, List.nil_append] at this
  exact this
/-! the law's parser -/
def wd (ws : List (List Nat)) (i : Nat) : List Nat := (ws[i]?).getD []
def goN (ws : List (List Nat)) (i : Nat) : Bool := decide (i < ws.length) && (hdD (wd ws i) && decide (wd ws (i - 1) ∈ [[40], [44]]))
def numsL (ws : List (List Nat)) : Nat → Nat → List Int × Nat
  | 0, i => ([], i)
  | f + 1, i => if goN ws i = true then (((NumText.digitsVal (wd ws i) : Nat) : Int) :: (numsL ws f (i + 2)).1, (numsL ws f (i + 2)).2) else ([], i)
def parsedL (ws : List (List Nat)) : Nat → Nat → Option (Pl × Nat)
  | 0, _ => none
  | f + 1, i => if ws.length ≤ i then none else if wd ws i = [46] then some (.nil, i + 1) else
    (parsedL ws f (numsL ws (ws.length + 1) (i + 1)).2).bind fun y => (parsedL ws f (y.2 + 1)).bind fun z => if (numsL ws (ws.length + 1) (i + 1)).1 = [] then none else some (.node (numsL ws (ws.length + 1) (i + 1)).1 y.1 z.1, z.2 + 1)
def bigP : Pl → List Int
  | .nil => []
  | .node p y z => p ++ bigP y ++ bigP z
  | .odd _ => []
def PL : Nat → Pl → Prop
  | 0, _ => False
  | _ + 1, .nil => True
  | f + 1, .node p y z => p ≠ [] ∧ (∀ x ∈ p, 0 ≤ x) ∧ PL f y ∧ PL f z
  | _ + 1, .odd _ => False
theorem PL.pg : ∀ {f : Nat} {p : Pl}, PL f p → (∀ x ∈ bigP p, x ≤ 99) → PG f p
  | 0, p, h, _ => h
  | f + 1, .nil, h, _ => trivial
  | f + 1, .odd _, h, _ => h
  | f + 1, .node p y z, ⟨h1, h2, h3, h4⟩, hb => by
    have e : bigP (.node p y z) = p ++ bigP y ++ bigP z := rfl
    rw [e] at hb
    exact ⟨h1, fun x hx => ⟨h2 x hx, hb x (by simp [hx])⟩, h3.pg fun x hx => hb x (by simp [hx]), h4.pg fun x hx => hb x (by simp [hx])⟩
theorem PG.big : ∀ {f : Nat} {p : Pl}, PG f p → ∀ x ∈ bigP p, 0 ≤ x ∧ x ≤ 99
  | 0, p, h => h.elim
  | f + 1, .nil, h => fun x hx => (List.not_mem_nil hx).elim
  | f + 1, .odd _, h => h.elim
  | f + 1, .node p y z, ⟨h1, h2, h3, h4⟩ => fun x hx => by
    have e : bigP (.node p y z) = p ++ bigP y ++ bigP z := rfl
    rw [e, List.mem_append, List.mem_append] at hx
    rcases hx with (hx | hx) | hx
    · exact h2 x hx
    · exact h3.big x hx
    · exact h4.big x hx
theorem numsL_spec (ws : List (List Nat)) : ∀ (f i : Nat), (numsL ws f i).2 = i + 2 * (numsL ws f i).1.length ∧ ∀ x ∈ (numsL ws f i).1, 0 ≤ x
  | 0, i => ⟨rfl, fun x hx => (List.not_mem_nil hx).elim⟩
  | f + 1, i => by
    obtain ⟨a, b⟩ := numsL_spec ws f (i + 2)
    unfold numsL
    by_cases h : goN ws i = true
    · rw [if_pos h]
      refine ⟨?_, fun x hx => ?_⟩
      · show (numsL ws f (i + 2)).2 = i + 2 * ((numsL ws f (i + 2)).1.length + 1)
        omega
      · rcases List.mem_cons.mp hx with rfl | hx
        · omega
        · exact b x hx
    · rw [if_neg h]
      exact ⟨rfl, fun x hx => (List.not_mem_nil hx).elim⟩
theorem mtx_le : ∀ ns : List Int, (∀ x ∈ ns, x ≤ 99) → (mtx ns).length ≤ 3 * ns.length
  | [], _ => Nat.le_refl _
  | n :: ns, h => by
    have a := mtx_le ns fun x hx => h x (List.mem_cons_of_mem _ hx)
    have b := decI_len (h n List.mem_cons_self)
    show (44 :: (decI n ++ mtx ns)).length ≤ 3 * (ns.length + 1)
    rw [List.length_cons, List.length_append]; omega
theorem wtext_len {p : List Int} {y z : Pl} (h : ∀ x ∈ p, x ≤ 99) : (wtext (.node p y z)).length ≤ 3 * p.length + 4 + (wtext y).length + (wtext z).length := by
  show (40 :: (joinL [44] (p.map decI) ++ 32 :: (wtext y ++ 32 :: (wtext z ++ [41])))).length ≤ _
  have e : (joinL [44] (p.map decI)).length ≤ 3 * p.length := by
    cases p with
    | nil => exact Nat.le_refl _
    | cons n ns =>
      rw [join_mtx, List.length_append]
      have a := mtx_le ns fun x hx => h x (List.mem_cons_of_mem _ hx)
      have b := decI_len (h n List.mem_cons_self)
      show _ ≤ 3 * (ns.length + 1); omega
  simp only [List.length_cons, List.length_append, List.length_nil]
  omega
theorem parsedL_sound (ws : List (List Nat)) : ∀ (f i : Nat) {p : Pl} {e : Nat}, parsedL ws f i = some (p, e) → PL f p ∧ i < e ∧ e ≤ ws.length + f ∧ (bigP p).length ≤ e - i ∧ ((∀ x ∈ bigP p, x ≤ 99) → (wtext p).length ≤ 2 * (e - i))
  | 0, i, p, e, h => by cases h
  | f + 1, i, p, e, h => by
    unfold parsedL at h
    by_cases h1 : ws.length ≤ i
    · rw [if_pos h1] at h; cases h
    rw [if_neg h1] at h
    by_cases h2 : wd ws i = [46]
    · rw [if_pos h2] at h
      cases h
      exact ⟨trivial, by omega, by omega, Nat.zero_le _, fun _ => by show 1 ≤ _; omega⟩
    rw [if_neg h2] at h
    obtain ⟨n1, n2⟩ := numsL_spec ws (ws.length + 1) (i + 1)
    generalize numsL ws (ws.length + 1) (i + 1) = q at h n1 n2
    cases e1 : parsedL ws f q.2 with
    | none => rw [e1] at h; cases h
    | some y =>
    rw [e1, Option.bind_some] at h
    cases e2 : parsedL ws f (y.2 + 1) with
    | none => rw [e2] at h; cases h
    | some z =>
    rw [e2, Option.bind_some] at h
    by_cases h3 : q.1 = []
    · rw [if_pos h3] at h; cases h
    rw [if_neg h3] at h
    cases h
    obtain ⟨a1, a2, a3, a4, a5⟩ := parsedL_sound ws f _ (p := y.1) (e := y.2) e1
    obtain ⟨b1, b2, b3, b4, b5⟩ := parsedL_sound ws f _ (p := z.1) (e := z.2) e2
    have hq : 0 < q.1.length := List.length_pos_iff.mpr h3
    have eb : bigP (.node q.1 y.1 z.1) = q.1 ++ bigP y.1 ++ bigP z.1 := rfl
    refine ⟨⟨h3, n2, a1, b1⟩, by omega, by omega, ?_, fun hb => ?_⟩
    · rw [eb, List.length_append, List.length_append]; omega
    · rw [eb] at hb
      have c1 := a5 fun x hx => hb x (by simp [hx])
      have c2 := b5 fun x hx => hb x (by simp [hx])
      have c3 := wtext_len (p := q.1) (y := y.1) (z := z.1) fun x hx => hb x (by simp [hx])
      omega
theorem drop_wd {ws : List (List Nat)} {i : Nat} {w : List Nat} {r : List (List Nat)} (h : ws.drop i = w :: r) : wd ws i = w ∧ i < ws.length ∧ ws.drop (i + 1) = r := by
  have hl : i < ws.length := by
    rcases Nat.lt_or_ge i ws.length with z | z
    · exact z
    · rw [List.drop_eq_nil_of_le z] at h; cases h
  rw [List.drop_eq_getElem_cons hl] at h
  cases h
  exact ⟨by unfold wd; rw [List.getElem?_eq_getElem hl]; rfl, hl, rfl⟩
theorem drop_app {ws a b : List (List Nat)} {i : Nat} (h : ws.drop i = a ++ b) : ws.drop (i + a.length) = b := by
  rw [← List.drop_drop, h, List.drop_left]
theorem hdD_dec (n : Int) : hdD (decI n) = true := by
  have h1 := decI_isD n
  have h2 := decI_ne n
  cases e : decI n with
  | nil => exact absurd e h2
  | cons c w => rw [e] at h1; exact h1 c List.mem_cons_self
theorem numsL_stop {ws : List (List Nat)} {f i : Nat} (h : goN ws i = false) : numsL ws f i = ([], i) := by
  cases f with
  | zero => rfl
  | succ f => unfold numsL; rw [h]; rfl
theorem numsL_text (ws : List (List Nat)) : ∀ (ns : List Int) (F i : Nat) (prev : List Nat) (n : Int) (w0 : List Nat) (rest : List (List Nat)), prev ∈ [[40], [44]] → ws.drop i = prev :: decI n :: (mw ns ++ [32] :: w0 :: rest) → hdD w0 = false → (∀ x ∈ n :: ns, 0 ≤ x) → ns.length + 1 < F → numsL ws F (i + 1) = (n :: ns, i + 1 + 2 * (ns.length + 1))
  | ns, 0, i, prev, n, w0, rest, hp, hd, h0, hn, hF => absurd hF (Nat.not_lt_zero _)
  | [], F + 1, i, prev, n, w0, rest, hp, hd, h0, hn, hF => by
    obtain ⟨d1, d2, d3⟩ := drop_wd hd
    obtain ⟨d4, d5, d6⟩ := drop_wd d3
    obtain ⟨d7, d8, d9⟩ := drop_wd (r := w0 :: rest) d6
    obtain ⟨da, db, dc⟩ := drop_wd d9
    have g1 : goN ws (i + 1) = true := by
      unfold goN
      rw [d4, hdD_dec, decide_eq_true d5, Nat.add_sub_cancel, d1, decide_eq_true hp]; rfl
    have g2 : goN ws (i + 1 + 2) = false := by
      unfold goN
      rw [show i + 1 + 2 = i + 1 + 1 + 1 by omega, da, h0, Bool.false_and, Bool.and_false]
    show (if goN ws (i + 1) = true then _ else _) = _
    rw [if_pos g1, numsL_stop g2, d4, decI_val (hn n List.mem_cons_self)]; rfl
  | m :: ms, F + 1, i, prev, n, w0, rest, hp, hd, h0, hn, hF => by
    obtain ⟨d1, d2, d3⟩ := drop_wd hd
    obtain ⟨d4, d5, d6⟩ := drop_wd d3
    have g1 : goN ws (i + 1) = true := by
      unfold goN
      rw [d4, hdD_dec, decide_eq_true d5, Nat.add_sub_cancel, d1, decide_eq_true hp]; rfl
    have ih := numsL_text ws ms F (i + 1 + 1) [44] m w0 rest (by simp) d6 h0 (fun x hx => hn x (List.mem_cons_of_mem _ hx)) (by simp at hF; omega)
    show (if goN ws (i + 1) = true then (_ :: (numsL ws F (i + 1 + 2)).1, (numsL ws F (i + 1 + 2)).2) else _) = _
    rw [if_pos g1, show i + 1 + 2 = i + 1 + 1 + 1 by omega, ih, d4, decI_val (hn n List.mem_cons_self)]
    show (n :: m :: ms, _) = (n :: m :: ms, _)
    rw [List.length_cons]
    congr 1
    omega
theorem wp_head {f : Nat} {p : Pl} (h : PG f p) : ∃ w0 t, wp p = w0 :: t ∧ hdD w0 = false ∧ (w0 = [46] ∨ w0 = [40]) := by
  cases f with
  | zero => exact h.elim
  | succ f =>
    cases p with
    | nil => exact ⟨[46], [], rfl, by decide, .inl rfl⟩
    | node p y z => exact ⟨[40], _, rfl, by decide, .inr rfl⟩
    | odd xs => exact h.elim
theorem mw_len (ns : List Int) : (mw ns).length = 2 * ns.length := by
  induction ns with
  | nil => rfl
  | cons n ns ih => show (mw ns).length + 1 + 1 = 2 * (ns.length + 1); omega
theorem parsedL_text (ws : List (List Nat)) : ∀ (f : Nat) {p : Pl} (i : Nat) (rest : List (List Nat)), PG f p → ws.drop i = wp p ++ rest → parsedL ws f i = some (p, i + (wp p).length)
  | 0, p, i, rest, h, _ => h.elim
  | f + 1, .nil, i, rest, _, hd => by
    obtain ⟨d1, d2, d3⟩ := drop_wd (w := [46]) (r := rest) hd
    unfold parsedL
    rw [if_neg (by omega), if_pos d1]; rfl
  | f + 1, .odd _, i, rest, h, _ => h.elim
  | f + 1, .node [] y z, i, rest, h, _ => absurd rfl h.1
  | f + 1, .node (n :: ns) y z, i, rest, h, hd => by
    obtain ⟨_, hn, hy, hz⟩ := h
    obtain ⟨w0, t, ew, h0, _⟩ := wp_head hy
    have hd : ws.drop i = [40] :: decI n :: (mw ns ++ [32] :: (wp y ++ [32] :: (wp z ++ [41] :: rest))) := by
      rw [hd, show wp (.node (n :: ns) y z) = [40] :: (decI n :: mw ns ++ [32] :: (wp y ++ [32] :: (wp z ++ [[41]]))) from rfl]
      simp
    obtain ⟨d1, d2, d3⟩ := drop_wd hd
    have hlen : ns.length + 1 < ws.length + 1 := by
      have := congrArg List.length hd
      rw [List.length_drop] at this
      simp only [List.length_cons, List.length_append, mw_len] at this
      omega
    have q := numsL_text ws ns (ws.length + 1) i [40] n w0 (t ++ [32] :: (wp z ++ [41] :: rest)) (by simp) (by rw [hd, ew]; rfl) h0 (fun x hx => (hn x hx).1) hlen
    have dy : ws.drop (i + 1 + 2 * (ns.length + 1)) = wp y ++ ([32] :: (wp z ++ [41] :: rest)) := by
      have e : ws.drop i = ([40] :: decI n :: (mw ns ++ [[32]])) ++ (wp y ++ ([32] :: (wp z ++ [41] :: rest))) := by rw [hd]; simp
      have := drop_app e
      rw [show ([40] :: decI n :: (mw ns ++ [[32]])).length = 1 + 2 * (ns.length + 1) by simp only [List.length_cons, List.length_append, List.length_nil, mw_len]; omega] at this
      rw [show i + 1 + 2 * (ns.length + 1) = i + (1 + 2 * (ns.length + 1)) by omega]
      exact this
    have py := parsedL_text ws f _ _ hy dy
    have dz := drop_app dy
    obtain ⟨_, _, dz⟩ := drop_wd dz
    have pz := parsedL_text ws f _ _ hz dz
    unfold parsedL
    rw [if_neg (by omega), if_neg (by rw [d1]; decide), q]
    show ((parsedL ws f (i + 1 + 2 * (ns.length + 1))).bind _) = _
    rw [py, Option.bind_some]
    show ((parsedL ws f (i + 1 + 2 * (ns.length + 1) + (wp y).length + 1)).bind _) = _
    rw [pz, Option.bind_some, if_neg (by simp)]
    congr 2
    rw [show wp (.node (n :: ns) y z) = [40] :: (decI n :: mw ns ++ [32] :: (wp y ++ [32] :: (wp z ++ [[41]]))) from rfl]
    simp only [List.length_cons, List.length_append, List.length_nil, mw_len]
    omega
/-- what the law tries -/
def triedL (l : List Nat) : Option Pl := (parsedL (wordsL l) 61 0).bind fun q => if (∀ x ∈ bigP q.1, x ≤ 99) ∧ wtext q.1 = l then some q.1 else none
theorem tried_eq (l : List Nat) : triedL l = readR l := by
  cases e : readR l with
  | some p =>
    obtain ⟨rfl, hp⟩ := readR_sound e
    unfold triedL
    rw [words_wp hp]
    have := parsedL_text (wp p) 61 0 [] hp (by rw [List.append_nil]; rfl)
    rw [this, Option.bind_some, if_pos ⟨fun x hx => (hp.big x hx).2, rfl⟩]
  | none =>
    unfold triedL
    cases e2 : parsedL (wordsL l) 61 0 with
    | none => rfl
    | some q =>
      rw [Option.bind_some]
      by_cases h : (∀ x ∈ bigP q.1, x ≤ 99) ∧ wtext q.1 = l
      · have hp := (parsedL_sound _ _ _ (p := q.1) (e := q.2) e2).1.pg h.1
        have := readR_text hp
        rw [h.2, e] at this
        cases this
      · rw [if_neg h]
end LB

/-! Layer 34: [..] and .append with what has effects. -/
namespace LB
open PySem PySem.Spec PyProof.Rows L2 TL
section
variable {g : Gv} {I : CI} {R : Rz} {Γ : Gam} {A : AH} {pos apos : Pos} {e o : Expr}
theorem we_lstW {es : List Expr} {Q : DV → AH → Prop} (h : WA g I R Γ A es fun ds A' => ∃ xs : List PyData, ds = xs.map .d ∧ xs.length ≤ 1000 ∧ ∀ t, A' t = none → Q (.r t) (updA A' t (oL xs))) : WE g I R Γ A (.List es pos) Q := by
  intro X c S H σ tk he hf Qv z
  refine (pe_lst PA.s).to (h X c S H σ tk he hf _ fun vs ds S1 A1 H1 s1 f1 r1 ⟨xs, e1, hz, q⟩ => ⟨by rw [r1.length, sizeLine_eq, e1, List.length_map]; omega, fun t ht => ?_⟩)
  subst e1
  exact z _ (.r t) S1 _ _ s1 (f1.listNew ht r1) rfl (q t (f1.noneA ht))
theorem we_appendE {l : Addr} {Q : DV → AH → Prop} (ho : VE g I Γ A o (.r l)) (hl : ∃ xs, A l = some (oL xs)) (ha : WE g I R Γ A e fun d A1 => ∃ xs dd, d = .d dd ∧ A1 l = some (oL xs) ∧ xs.length < 16777216 ∧ Q (.d .none) (updA A1 l (oL (xs ++ [dd])))) (hs : nostar e = true := by rfl) (hb : ∀ env, attributeBase o "append" env (eval o env) = eval o env := by intro _; rfl) (hln : (apos.endLine == pos.line) = true := by rfl)
    (hfew : ∀ env, ((backTo pos (starEach [e] env)).all (fun x => !x.1) && (backToKw pos (keywordEach [] env)).all (fun x => x.1.isSome) && decide ([e].length + ([] : List Keyword).length + (if ([] : List Keyword).isEmpty then 0 else 1) < 30)) = true := by intro _; rfl) : WE g I R Γ A (.Call (.Attribute o "append" apos) [e] [] pos) Q := by
  intro X cx S H σ tk he hf Qv k
  obtain ⟨xs0, hA0⟩ := hl
  refine (pe_bm PySem.F.plainAttrs_list PySem.F.slot_list_append PySem.F.type_list_append mt_append PE.s PA.s (hb X.env) (hfew X.env) hln (star_cons hs [] X.env) (star_any pos X.env rfl)).to (ho X cx A (ExtA.refl A) S H σ he hf _ fun v S1 H1 s1 f1 r1 => ?_)
  obtain ⟨vs, e1, e2⟩ := f1.list hA0
  rw [show v = .ref l from r1]
  have hw : WA g I R Γ A [e] fun ds A1 => ∃ xs dd, ds = [.d dd] ∧ A1 l = some (oL xs) ∧ xs.length < 16777216 ∧ Q (.d .none) (updA A1 l (oL (xs ++ [dd]))) :=
    wa_cons (fun X c S H σ tk hv hf Qv k => ha X c S H σ tk hv hf Qv fun v d S1 A1 H1 s1 f1 r1 ⟨xs, dd, q1, q2, q3, q4⟩ => k v d S1 A1 H1 s1 f1 r1 (wa_nil ⟨xs, dd, by rw [q1], q2, q3, q4⟩)) hs
  refine ⟨.inl ⟨rfl, vs, .of e1⟩, hw X cx S1 H1 σ (tk.mono s1) (he.mono s1) f1 _ fun us ds S2 A2 H2 s2 f2 rr hq => ?_⟩
  obtain ⟨xs, dd, rfl, hA, hz, h⟩ := hq
  obtain ⟨u, rfl, r2⟩ := rr.one
  obtain ⟨ws, e3, e4⟩ := f2.list hA
  have e5 : RepVs S2 (ws ++ [u]) ((xs ++ [dd]).map .d) := by rw [List.map_append]; exact e4.append (.cons r2 .nil)
  exact ⟨l, ws, u, rfl, rfl, e3, by rw [e4.length, List.length_map, sizeLine_eq]; exact hz, k _ (.d .none) S2 _ _ (s1.trans s2) (f2.listSet hA e5) .non h⟩
end
end LB

/-! Mirrors 29: what the texts' functions promise (k70). -/
namespace LB
open PySem PySem.Spec PyProof.Rows L2 TL
abbrev BIG : Nat := 16777216
def NumOk (pl : Pl) : Prop := ∀ x ∈ bigP pl, 0 ≤ x ∧ x ≤ 99
theorem NumOk.y {p : List Int} {y z : Pl} (h : NumOk (.node p y z)) : (∀ x ∈ p, 0 ≤ x ∧ x ≤ 99) ∧ NumOk y ∧ NumOk z := by
  have e : bigP (.node p y z) = p ++ bigP y ++ bigP z := rfl
  unfold NumOk at *
  rw [e] at h
  exact ⟨fun x hx => h x (by simp [hx]), fun x hx => h x (by simp [hx]), fun x hx => h x (by simp [hx])⟩
theorem wtext_node (p : List Int) (y z : Pl) : wtext (.node p y z) = ((((([40] ++ joinL [44] (p.map decI)) ++ [32]) ++ wtext y) ++ [32]) ++ wtext z) ++ [41] := by
  show 40 :: (joinL [44] (p.map decI) ++ 32 :: (wtext y ++ 32 :: (wtext z ++ [41]))) = _
  simp
theorem wtext_parts {p : List Int} {y z : Pl} {n : Nat} (h : (wtext (.node p y z)).length ≤ n) : (joinL [44] (p.map decI)).length + (wtext y).length + (wtext z).length + 4 ≤ n := by
  rw [wtext_node] at h
  simp only [List.length_append, List.length_cons, List.length_nil] at h
  omega
theorem join_size (p : List Int) : ((p.map decI).map List.length).sum + (p.map decI).length ≤ (joinL [44] (p.map decI)).length + 1 := by
  cases p with
  | nil => exact Nat.zero_le _
  | cons n ns =>
    rw [join_mtx, List.length_append]
    have h : ∀ ms : List Int, ((ms.map decI).map List.length).sum + (ms.map decI).length = (mtx ms).length := by
      intro ms
      induction ms with
      | nil => rfl
      | cons m ms ih =>
        show ((decI m).length + ((ms.map decI).map List.length).sum) + ((ms.map decI).length + 1) = (44 :: (decI m ++ mtx ms)).length
        rw [List.length_cons, List.length_append]; omega
    have := h ns
    show ((decI n).length + ((ns.map decI).map List.length).sum) + ((ns.map decI).length + 1) ≤ _
    omega
def sp_ltext (f : Nat) (ea : Err → Addr) : ASp := pSp ea fun ds o => ∃ pl : Pl, ds = [.d (plD pl)] ∧ pl.Good ∧ NumOk pl ∧ pl.ht ≤ f ∧ pl.ht ≤ 61 ∧ (wtext pl).length ≤ BIG ∧ o = .ok (stD (wtext pl))
def writtenM (pl : Pl) : Except Err PyData := (lookPlan 0 pl).map fun _ => stD (wtext pl)
def sp_written (f : Nat) (ea : Err → Addr) : ASp := pSp ea fun ds o => ∃ pl : Pl, ds = [.d (plD pl)] ∧ pl.Ok ∧ pl.ht ≤ f ∧ pl.ht ≤ 61 ∧ (pl.Good → NumOk pl ∧ (wtext pl).length ≤ BIG) ∧ o = writtenM pl
def endsP : Pl → List Int
  | .nil => [0]
  | .node _ y z => (endsP y ++ endsP z).map fun x => x + 1
  | .odd _ => []
theorem ends_len (pl : Pl) : (endsP pl).length ≤ 2 ^ pl.ht := by
  induction pl with
  | nil => exact Nat.le_refl _
  | odd xs => exact Nat.zero_le _
  | node p y z iy iz =>
    show ((endsP y ++ endsP z).map fun x => x + 1).length ≤ 2 ^ (1 + max y.ht z.ht)
    rw [List.length_map, List.length_append, Nat.add_comm 1, Nat.pow_succ]
    have a : 2 ^ y.ht ≤ 2 ^ max y.ht z.ht := Nat.pow_le_pow_right (by decide) (by omega)
    have b : 2 ^ z.ht ≤ 2 ^ max y.ht z.ht := Nat.pow_le_pow_right (by decide) (by omega)
    omega
def lengthsM (pl : Pl) : Except Err PyData := (lookPlan 0 pl).map fun _ => lI (endsP pl)
def sp_lengths (f : Nat) (ea : Err → Addr) : ASp := pSp ea fun ds o => ∃ pl : Pl, ds = [.d (plD pl)] ∧ pl.Ok ∧ pl.ht ≤ f ∧ pl.ht ≤ 61 ∧ (endsP pl).length ≤ BIG ∧ o = lengthsM pl
def sp_lends (f : Nat) (ea : Err → Addr) : ASp := pSp ea fun ds o => ∃ pl : Pl, ds = [.d (plD pl)] ∧ pl.Good ∧ pl.ht ≤ f ∧ pl.ht ≤ 61 ∧ (endsP pl).length ≤ BIG ∧ o = .ok (lI (endsP pl))
def sp_lbig (f : Nat) (ea : Err → Addr) : ASp := pSp ea fun ds o => ∃ pl : Pl, ds = [.d (plD pl)] ∧ pl.Good ∧ pl.ht ≤ f ∧ pl.ht ≤ 61 ∧ (bigP pl).length ≤ BIG ∧ o = .ok (lI (bigP pl))
/-! signs -/
abbrev cSg (g : Gv) : Addr := cAt g "Signs"
def fsS (t : List Nat) (k : Nat) : List (Str × FV) := [("text", .v (.d (stD t))), ("spot", .v (.d (.int k)))]
def aoS (g : Gv) (t : List Nat) (k : Nat) : AO := aoI (cSg g) (fsS t k)
def sp_sinit (g : Gv) : ASp := fun ds A Q _ => ∃ (l : Addr) (t : List Nat), ds = [.r l, .d (stD t)] ∧ A l = some (aoI (cSg g) []) ∧ Q (.d .none) (updA A l (aoS g t 0))
def sp_snext (g : Gv) : ASp := pSpA g.ea fun A ds o => ∃ (l : Addr) (t : List Nat) (k c : Nat), ds = [.r l, .d (stD [c])] ∧ A l = some (aoS g t k) ∧ k ≤ t.length ∧ t.length ≤ BIG ∧ o = .ok (.bool (decide ((t.drop k).head? = some c)))
def sp_sneed (g : Gv) : ASp := fun ds A Q E => ∃ (l : Addr) (t : List Nat) (k c : Nat), ds = [.r l, .d (stD [c])] ∧ A l = some (aoS g t k) ∧ k ≤ t.length ∧ t.length ≤ BIG ∧ (∀ r, needR c (t.drop k) = some r → Q (.d .none) (updA A l (aoS g t (t.length - r.length)))) ∧ (needR c (t.drop k) = none → E (g.ea .text) A)
def sp_snum (g : Gv) : ASp := fun ds A Q E => ∃ (l : Addr) (t : List Nat) (k : Nat), ds = [.r l] ∧ A l = some (aoS g t k) ∧ k ≤ t.length ∧ t.length ≤ BIG ∧ (∀ n r, numR (t.drop k) = some (n, r) → Q (.d (.int n)) (updA A l (aoS g t (t.length - r.length)))) ∧ (numR (t.drop k) = none → ∀ k', E (g.ea .text) (updA A l (aoS g t k')))
def sp_splan (f : Nat) (g : Gv) : ASp := fun ds A Q E => ∃ (l : Addr) (t : List Nat) (k d : Nat), ds = [.r l, .d (.int d)] ∧ d + f = 61 ∧ A l = some (aoS g t k) ∧ k ≤ t.length ∧ t.length ≤ BIG ∧ (∀ p r, planR f (t.drop k) = some (p, r) → Q (.d (plD p)) (updA A l (aoS g t (t.length - r.length)))) ∧ (planR f (t.drop k) = none → ∀ k', E (g.ea .text) (updA A l (aoS g t k')))
theorem suf {t w r : List Nat} {k : Nat} (h : t.drop k = w ++ r) (hk : k ≤ t.length) : t.drop (t.length - r.length) = r ∧ t.length - r.length ≤ t.length ∧ k + w.length = t.length - r.length := by
  have hl := congrArg List.length h
  rw [List.length_drop, List.length_append] at hl
  refine ⟨?_, by omega, by omega⟩
  rw [show t.length - r.length = k + w.length by omega, ← List.drop_drop, h, List.drop_left]
theorem cut_one (t : List Nat) (k : Nat) : cutD t (some (k : Int)) (some ((k : Int) + 1)) = (t.drop k).take 1 := by
  unfold cutD HT.sIx
  simp
  rw [if_neg (by omega), if_neg (by omega)]
  by_cases h : k < t.length
  · rw [show min k t.length = k by omega, show min (k + 1) t.length - k = 1 by omega]
  · rw [show min k t.length = t.length by omega, List.drop_length, List.drop_eq_nil_of_le (by omega)]; simp
theorem take_one (l : List Nat) (c : Nat) : decide (l.take 1 = [c]) = decide (l.head? = some c) := by
  cases l with
  | nil => rfl
  | cons a l => rw [Bool.eq_iff_iff, decide_eq_true_eq, decide_eq_true_eq]; simp
theorem cut_mid (t : List Nat) {b k : Nat} (hb : b ≤ k) (hk : k ≤ t.length) : cutD t (some (b : Int)) (some (k : Int)) = (t.drop b).take (k - b) := by
  unfold cutD HT.sIx
  simp
  rw [if_neg (by omega), if_neg (by omega), show min b t.length = b by omega, show min k t.length = k by omega]
theorem hdD_tw : ∀ (l : List Nat) (s : Nat), s ≤ (l.takeWhile isD).length → hdD (l.drop s) = decide (s < (l.takeWhile isD).length)
  | [], s, h => by
    have : s = 0 := by have h : s ≤ 0 := h; omega
    subst this; rfl
  | c :: l, 0, h => by
    show isD c = _
    rw [List.takeWhile_cons]
    cases z : isD c with
    | true => rw [if_pos rfl]; exact (decide_eq_true (Nat.succ_pos _)).symm
    | false => rw [if_neg (by decide)]; rfl
  | c :: l, s + 1, h => by
    rw [List.takeWhile_cons] at h ⊢
    cases z : isD c with
    | true =>
      rw [z, if_pos rfl] at h
      rw [if_pos rfl]
      show hdD (l.drop s) = _
      rw [hdD_tw l s (by rw [List.length_cons] at h; omega), List.length_cons]
      rw [Bool.eq_iff_iff, decide_eq_true_eq, decide_eq_true_eq]; omega
    | false =>
      rw [z, if_neg (by decide)] at h
      exact absurd h (Nat.not_succ_le_zero _)
theorem okW_val (w : List Nat) : (!(decide ((1 : Int) ≤ (w.length : Int)) && decide ((w.length : Int) ≤ 2)) || (decide ([nth w 0] = [48]) && !decide (w = [48]))) = !okW w := by
  cases w with
  | nil => rfl
  | cons c l =>
    unfold okW
    have e1 : nth (c :: l) 0 = c := rfl
    have e2 : (decide (1 ≤ (c :: l).length ∧ (c :: l).length ≤ 2)) = (decide ((1 : Int) ≤ ((c :: l).length : Int)) && decide (((c :: l).length : Int) ≤ 2)) := by
      rw [Bool.eq_iff_iff, Bool.and_eq_true, decide_eq_true_eq, decide_eq_true_eq, decide_eq_true_eq]; omega
    have e3 : decide ((c :: l).head? = some 48) = decide ([c] = [48]) := by
      rw [Bool.eq_iff_iff, decide_eq_true_eq, decide_eq_true_eq]; simp
    rw [e1, e2, e3]
    generalize (decide ((1 : Int) ≤ ((c :: l).length : Int)) && decide (((c :: l).length : Int) ≤ 2)) = a
    generalize decide ([c] = [48]) = b
    generalize decide (c :: l = [48]) = d
    cases a <;> cases b <;> cases d <;> rfl
def readM (l : List Nat) : Except Err PyData := match readR l with
  | some p => .ok (plD p)
  | none => .error .text
def sp_read (ea : Err → Addr) : ASp := pSp ea fun ds o => ∃ l : List Nat, ds = [.d (stD l)] ∧ l.length ≤ BIG ∧ o = readM l
end LB

/-! Layer 27: a, b = x, y written out. -/
namespace LB
open PySem PySem.Spec PyProof.Rows L2
section
variable {g : Gv} {I : CI} {R : Rz} {Γ Γ₀ Γ' : Gam} {A : AH} {D : AEnds} {sts : List Stmt} {x y : Str} {a b : Expr} {px py pt pos pt2 : Pos} {kt k2 : Nat} {d1 d2 : PyData}
theorem s_par2 (i j : Nat) (hN : I.N[i]? = some x) (hN2 : I.N[j]? = some y) (hij : i ≠ j) (hx : I.sc.names.lookup x = some .local) (hy : I.sc.names.lookup y = some .local) (ha : DA g I Γ A [a, b] [d1, d2]) (hS : SetG Γ i (some (.d d1)) Γ₀) (hS2 : SetG Γ₀ j (some (.d d2)) Γ') (k : WSs g I R Γ' A sts D)
    (hw : ∀ env : Env, env.scope = I.sc → swappedStores [.Tuple [.Name x px, .Name y py] kt pt] (.Tuple [a, b] k2 pt2) env = pure (some [x, y]))
    (hs : ∀ env, swapsWithSole [.Tuple [.Name x px, .Name y py] kt pt] (.Tuple [a, b] k2 pt2) pos.line env = pure false := by intro _; rfl) :
    WSs g I R Γ A (.Assign [.Tuple [.Name x px, .Name y py] kt pt] (.Tuple [a, b] k2 pt2) pos :: sts) D := wss_cons fun X cx S H σ tk he hf => by
  refine (ps_par cx.calm (by rw [cx.N]; exact cx.ok.nd) (by rw [cx.N]; exact hN) (by rw [cx.N]; exact hN2) hij (by rw [cx.sc]; exact hx) (by rw [cx.sc]; exact hy) PA.s (hw X.env cx.sc) (hs X.env)).to (ha X cx A (ExtA.refl A) S H σ he hf _ fun vs S1 H1 s1 f1 r1 => ?_)
  cases r1 with
  | cons q1 r1 =>
    cases r1 with
    | cons q2 r1 =>
      cases r1
      refine ⟨_, _, rfl, S1, Γ', A, s1, ?_, f1, k⟩
      rw [← hS2.eq, ← hS.eq]
      exact ((he.mono s1).set (dv := .d d1) q1).set (dv := .d d2) q2
end
end LB

/-! Layer 28: a tuple from behind. -/
namespace L2
open PySem PySem.Spec PyProof.Rows
section
variable {prog : Program} {w : World} {A : Around} {E : Value → Shared → Prop} {s : Shared}
theorem applied_rev {sl : Addr} {vl vu vs : Value} {n : Nat} {Q : Int × Int × Nat → Shared → Prop} (hs : s.heap.IsSliceOf sl vl vu vs) (pl : IsPart vl none) (pu : IsPart vu none) (ps : IsPart vs (some (-1)))
    (h : Q ((n : Int) - 1, -1, n) s) : wpAny (model prog w) A (Builtin.Slice.sliceApplied (.ref sl) (pure (n : Int))) Q E s := by
  obtain ⟨os, hos, hcs, hds⟩ := id hs
  unfold Builtin.Slice.sliceApplied Builtin.Slice.sliceFields
  refine wpAny_bind (wpAny_bind (wpAny_field hos hds (x := vl) rfl (wpAny_bind (wpAny_field hos hds (x := vu) rfl (wpAny_bind (wpAny_field hos hds (x := vs) rfl (wpAny_pure ?_)))))))
  refine wpAny_bind (HT.slicePart_ ps ?_)
  show wpAny _ _ (if ((-1 : Int) == 0) = true then _ else _) _ _ s
  rw [if_neg (by decide)]
  refine wpAny_bind (HT.slicePart_ pl (wpAny_bind (HT.slicePart_ pu (wpAny_bind (wpAny_pure ?_)))))
  have e1 : Builtin.Slice.sliceAdjust none none (-1) (n : Int) = ((n : Int) - 1, -1) := rfl
  have e2 : Builtin.Slice.slicePlaces ((n : Int) - 1) (-1) (-1) = n := by
    unfold Builtin.Slice.slicePlaces
    have h1 : ¬ ((-1 : Int) > 0) := by omega
    rw [if_neg h1]
    by_cases h2 : (n : Int) - 1 > -1
    · rw [if_pos h2]
      show (((n : Int) - 1 - -1 - 1) / 1 + 1).toNat = n
      rw [Int.ediv_one]
      omega
    · rw [if_neg h2]
      omega
  show wpAny _ _ (match Builtin.Slice.sliceAdjust none none (-1) (n : Int) with | (lo, hi) => pure (lo, (-1 : Int), Builtin.Slice.slicePlaces lo hi (-1))) _ _ s
  rw [e1]
  show wpAny _ _ (pure ((n : Int) - 1, (-1 : Int), Builtin.Slice.slicePlaces ((n : Int) - 1) (-1) (-1))) _ _ s
  rw [e2]
  exact wpAny_pure h
theorem pick_rev (xs : Array Value) : ((List.range xs.size).filterMap fun (k : Nat) => xs[((xs.size : Int) - 1 + (k : Int) * (-1)).toNat]?).toArray = xs.toList.reverse.toArray := by
  have e : (fun (k : Nat) => xs[((xs.size : Int) - 1 + (k : Int) * (-1)).toNat]?) = (fun (j : Nat) => xs[j]?) ∘ fun k => xs.size - 1 - k := by
    funext k
    show xs[((xs.size : Int) - 1 + (k : Int) * (-1)).toNat]? = xs[xs.size - 1 - k]?
    have : ((xs.size : Int) - 1 + (k : Int) * (-1)).toNat = xs.size - 1 - k := by omega
    rw [this]
  rw [e, ← List.filterMap_map, PySem.W.krv_range, List.filterMap_reverse, PySem.W.krv_all]
theorem getItem_tuple_rev {t sl : Addr} {items : Array Value} {vl vu vs : Value} {Q : Value → Shared → Prop} (ht : IsTup s.heap t items) (hs : s.heap.IsSliceOf sl vl vu vs) (pl : IsPart vl none) (pu : IsPart vu none) (ps : IsPart vs (some (-1)))
    (h : Q (.ref s.heap.objs.size) { s with heap := s.heap.push { cls := .type "tuple", data := .seq items.toList.reverse.toArray } })
    (hsz : items.size ≤ sizeLine) : wpAny (model prog w) A (getItem (.ref t) (.ref sl)) Q E s := by
  have hrev : sizeOk (.seq items.toList.reverse.toArray) := by
    show items.toList.reverse.toArray.size ≤ sizeLine
    rw [List.size_toArray, List.length_reverse, Array.length_toList]
    exact hsz
  obtain ⟨os, hos, hcs, hds⟩ := id hs
  have hTs : s.TypeIs (.ref sl) "slice" := ⟨os, hos, hcs⟩
  unfold getItem
  try with_reducible refine wpAny_holding ?_
  first | refine wpAny_bind (wpAny_pure ?_) | skip
  refine wpAny_bind (wpAny_sequenceKey ht.typeIs (by decide) ?_)
  refine wpAny_bind (wpAny_callSpecial?_slot (name := Str.ofString "__getitem__") ht.typeIs PyProof.Rows.slot_tuple_getitem
    (wpAny_call_entry PyProof.Rows.slot_tuple_getitem ht.typeIs entry_tuple_getitem ?_ (args_tuple_getitem _ _)))
  show wpAny _ _ (Builtin.Tuple.tupleItemsOf (.ref t) >>= _) _ _ s
  refine wpAny_bind (tupleItemsOf_ ht ?_)
  refine wpAny_bind (wpAny_typeOf hTs ?_)
  rw [if_pos (by decide)]
  refine wpAny_bind (applied_rev hs pl pu ps ?_)
  have hno : ¬ ((((items.size : Int) - 1) == 0 && (-1 : Int) == 1 && items.size == items.size) = true) := by simp
  show wpAny _ _ (if (((items.size : Int) - 1) == 0 && (-1 : Int) == 1 && items.size == items.size) = true then _ else _) _ _ s
  rw [if_neg hno, pick_rev]
  first
    | exact wpAny_bind (m := Builtin.Tuple.tupleExact _) (wpAny_newObj_type (wpAny_pure ⟨_, rfl, wpAny_pure h⟩) hrev)
    | exact wpAny_bind (m := Builtin.Tuple.tupleExact _) (wpAny_newObj_type (wpAny_bind (wpAny_pure (wpAny_pure ⟨_, rfl, wpAny_pure h⟩))) hrev)
    | exact wpAny_bind (wpAny_bind (m := Builtin.Tuple.tupleExact _) (wpAny_newObj_type (wpAny_pure (wpAny_pure ⟨_, rfl, wpAny_pure h⟩)) hrev))
    | exact wpAny_bind (wpAny_bind (m := Builtin.Tuple.tupleExact _) (wpAny_newObj_type (wpAny_pure ⟨_, rfl, wpAny_pure h⟩) hrev))
end
section
variable {X : Cx}
def tRevT (K : PySem.W.Frag) (te : TE) : TE := fun σ H Q => te σ H fun x H1 => ∃ a xs, x = .ref a ∧ SqT K H1 a xs ∧ ∀ p, H1 p = none → Q (.ref p) (upd H1 p (.tup xs.reverse))
theorem pe_revT {e : Expr} {te : TE} {k : Nat} {p1 p2 p3 pos : Pos} (he : PE X e te) : PE X (.Subscript e (.Slice none none (some (.UnaryOp .USub (.Constant (.int 1) k p1) p2)) p3) pos) (tRevT X.K te) := by
  refine ⟨fun pins s σ H Q I h => ?_⟩
  refine Subscript_ (thn (he.run pins s σ H _ I h) fun v s1 ⟨x, H1, I1, r1, q1⟩ => ?_)
  obtain ⟨a, xs, ex, hx, q⟩ := q1
  subst ex
  cases r1
  have hst : PO X (some (.UnaryOp .USub (.Constant (.int 1) k p1) p2)) (tPart (tUn (rU fun i => .int (-i)) (tC (.int 1)))) := po_some (pe_un un_neg pe_int)
  refine wpAny_Slice (thn (po_none.run pins s1 σ H1 (fun o H2 => o = none ∧ H2 = H1) I1 ⟨rfl, rfl⟩) fun vl s2 ⟨l, H2, I2, pl, el, e2⟩ => ?_)
  subst el e2
  refine thn (po_none.run pins s2 σ H2 (fun o H3 => o = none ∧ H3 = H2) I2 ⟨rfl, rfl⟩) fun vu s3 ⟨u, H3, I3, pu, eu, e3⟩ => ?_
  subst eu e3
  refine thn (hst.run pins s3 σ H3 (fun o H4 => o = some (-1) ∧ H4 = H3) I3 ⟨1, rfl, -1, rfl, rfl, rfl⟩) fun vs s4 ⟨o, H4, I4, ps, eo, e4⟩ => ?_
  subst eo e4
  have I5 : Inv X pins σ H4 { s4 with heap := s4.heap.push { cls := .type "slice", data := .fields #[vl, vu, vs] } } := I4.kept (t' := s4.toks) fun b ob q => Heap.get?_push_of_some _ q
  obtain ⟨its, r, ht, hz⟩ := I5.tuple hx
  have hlen := r.length
  show wpAny (model X.prog X.w) X.A (subscriptTail e (.Slice none none (some (.UnaryOp .USub (.Constant (.int 1) k p1) p2)) p3) (.ref a) (.ref s4.heap.objs.size)) (EP X pins σ Q) X.xe { s4 with heap := s4.heap.push { cls := .type "slice", data := .fields #[vl, vu, vs] } }
  refine tail_any (ops := [.ref a, .ref s4.heap.objs.size]) ht.typeIs (PyProof.Rows.slot_tuple_getitem.lookup) ?_ (by with_unfolding_all rfl)
  refine getItem_tuple_rev ht (Heap.IsSliceOf.new _ vl vu vs) pl pu ps ?_ (by rw [List.size_toArray]; omega)
  exact ⟨.ref _, _, I5.laid (t' := s4.toks) (o := .tup xs.reverse) (fun b ob q => Heap.get?_push_of_some _ q) (Nat.le_refl _) ⟨by rw [List.length_reverse]; exact hz, _, r.reverse, IsTup.new _ _⟩, rfl, q _ (I5.hok.fresh (Nat.le_refl _))⟩
end
end L2
namespace LB
open PySem PySem.Spec PyProof.Rows L2
section
variable {g : Gv} {I : CI} {Γ : Gam} {A : AH} {pos : Pos} {a : Expr}
/-- t[::-1] -/
theorem de_revT {xs : List PyData} {kk : Nat} {p1 p2 p3 : Pos} (ha : DE g I Γ A a (.tuple xs)) : DE g I Γ A (.Subscript a (.Slice none none (some (.UnaryOp .USub (.Constant (.int 1) kk p1) p2)) p3) pos) (.tuple xs.reverse) := by
  intro X cx A1 ex S H σ he hf Q k
  refine (pe_revT PE.s).to (ha X cx A1 ex S H σ he hf _ fun v S1 H1 s1 f1 r1 => ?_)
  obtain ⟨l, vs, rfl, h1, h2⟩ := Rp.tup_of r1
  refine ⟨l, vs, rfl, .of (f1.same _ _ h1), fun t ht => ?_⟩
  obtain ⟨f', s'⟩ := f1.laidS ht (o := .tup vs.reverse)
  exact k _ _ _ (s1.trans s') f' (.tup upd_same (h2.mono s').reverse)
end
end LB

/-! Layer 29: sorted(xs) of whole numbers that differ. -/
namespace LB
open PySem PySem.Spec PyProof.Rows L2
theorem sortU_perm {ns zs : List Int} (p : zs.Perm ns) (h : zs.Pairwise (· ≤ ·)) (nd : ns.Nodup) : zs = sortU ns := by
  have nd2 : zs.Nodup := p.nodup_iff.mpr nd
  refine sortU_eq (List.Pairwise.imp₂ (fun a b h1 h2 => ?_) h nd2) fun j => p.mem_iff
  exact Int.lt_iff_le_and_ne.mpr ⟨h1, h2⟩
section
variable {g : Gv} {I : CI} {R : Rz} {Γ : Gam} {A : AH} {pos p : Pos} {e : Expr} {dv : DV} {ns : List Int}
/-- sorted(xs): a new owned list -/
theorem we_sortedI {Q : DV → AH → Prop} (h : VE g I Γ A e dv) (q : IsL A dv (ns.map .int)) (nd : ns.Nodup) (k : ∀ l, A l = none → Q (.r l) (updA A l (oL ((sortU ns).map .int)))) (hg : GlS I.sc "sorted") (hm : g.mg "sorted" = none) (hn : nostar e = true := by rfl) : WE g I R Γ A (.Call (.Name "sorted" p) [e] [] pos) Q := by
  intro X c S H σ _ he hf Qv z
  obtain ⟨ea, rfl⟩ := c.eq
  refine (pe_callB cr_sortedI (hg.gl c.sc) hm boot_sorted' PA.s (by decide) (by decide) (star_cons hn [] X.env) (star_any pos X.env rfl)).to (va_cons h va_nil hn X c A (ExtA.refl A) S H σ he hf _ fun vs S1 H1 s1 f1 r1 => ?_)
  obtain ⟨v, rfl, r⟩ := r1.one
  obtain ⟨l, ws, rfl, h1, h2⟩ := q.sq (ExtA.refl A) f1 r
  obtain rfl := h2.ints
  refine ⟨l, ns, rfl, .of h1, fun ns' t hp hs ht => ?_⟩
  obtain rfl := sortU_perm hp hs nd
  exact z _ (.r t) _ _ _ s1 (f1.listNew ht (RepVs.ofData (RpAll.ofInts _))) rfl (k t (f1.noneA ht))
variable {D : AEnds} {sts sts2 : List Stmt} {a : Expr} {T : Type} {l : Addr}
/-- for x in an owned row of whole numbers, which stays -/
theorem ws_forOI {tg : Expr} (P : Nat → Gam → AH → Prop) (ha : VE g I Γ A a (.r l)) (h0 : P 0 Γ A) (hl : ∀ i Γ1 A1, P i Γ1 A1 → A1 l = some (oL (ns.map .int)))
    (hs : ∀ (i : Nat) n Γ1 A1, ns[i]? = some n → P i Γ1 A1 → ∃ Γ2, TgD g I tg Γ1 (.int n) Γ2 ∧ WSs g I R Γ2 A1 sts { D with nx := P (i + 1), ct := P (i + 1), bk := D.nx }) (hd : ∀ Γ1 A1, P ns.length Γ1 A1 → D.nx Γ1 A1)
    (hf : ∀ env x, foldedSetIterable a env x = pure x := by intro _ _; rfl) : WS g I R Γ A (.For tg a sts [] pos) D := fun X cx S H σ tk he hfit => by
  have there : ∀ {S2 A2 H2} (f : Fit S2 A2 H2), A2 l = some (oL (ns.map .int)) → H2 l = some (.lst (ns.map V.int)) := fun {S2 A2 H2} f h => by
    obtain ⟨vs, e, r⟩ := f.list h
    obtain rfl := (RepVs.rp r).ints
    exact e
  have turn : ∀ {S1 : Hp}, Same S S1 → ∀ i x σ2 H2, (ns.map V.int)[i]? = some x → (∃ S' Γ' A', Same S1 S' ∧ EnvOk S' Γ' σ2 ∧ Fit S' A' H2 ∧ P i Γ' A') → sG X tg x σ2 H2 fun σ' H' => sSs X sts { endsOf S D with nx := fun σ' H' => (∃ S' Γ' A', Same S1 S' ∧ EnvOk S' Γ' σ' ∧ Fit S' A' H' ∧ P (i + 1) Γ' A'), ct := fun σ' H' => (∃ S' Γ' A', Same S1 S' ∧ EnvOk S' Γ' σ' ∧ Fit S' A' H' ∧ P (i + 1) Γ' A'), bk := (endsOf S D).nx } σ' H' := fun {S1} s01 i x σ2 H2 hx ⟨S2, Γ2, A2, s2, he2, f2, q2⟩ => by
    rw [List.getElem?_map] at hx
    cases hn : ns[i]? with
    | none => rw [hn] at hx; cases hx
    | some n =>
      rw [hn] at hx
      cases hx
      obtain ⟨Γ3, ht, hb⟩ := hs i n Γ2 A2 hn q2
      obtain ⟨t, pg, hq⟩ := ht X cx
      refine pg.to (hq S2 A2 H2 σ2 _ he2 f2 (.int n) _ fun σ3 he3 => ?_)
      exact (hb X cx S2 H2 σ3 (tk.mono (s01.trans s2)) he3 f2).imp (fun _ _ ⟨S', Γ', A', s, x, f, q⟩ => ⟨S', Γ', A', s2.trans s, x, f, q⟩) (fun _ _ ⟨S', dv, A', s, x, f, q⟩ => ⟨S', dv, A', s01.trans (s2.trans s), x, f, q⟩) (fun _ _ ⟨S', Γ', A', s, x, f, q⟩ => ⟨S', Γ', A', s01.trans (s2.trans s), x, f, q⟩) (fun _ _ ⟨S', Γ', A', s, x, f, q⟩ => ⟨S', Γ', A', s2.trans s, x, f, q⟩)
  refine (ps_for cx.po cx.calm (pi_list PE.s) PG.s PSs.s (hf X.env)).to (ha X cx A (ExtA.refl A) S H σ he hfit _ fun v S1 H1 s1 f1 r1 => ?_)
  obtain rfl : v = V.ref l := r1
  have h1 := there f1 (hl 0 Γ A h0)
  refine ⟨l, rfl, ⟨_, .of h1⟩, for_list (K := X.K) (a := l) (xs := ns.map V.int) (g := sG X tg) (tb := sSs X sts) (D := endsOf S D) (fun i σ' H' => ∃ S' Γ' A', Same S1 S' ∧ EnvOk S' Γ' σ' ∧ Fit S' A' H' ∧ P i Γ' A') ⟨S1, Γ, A, Same.refl S1, he.mono s1, f1, h0⟩ (fun i σ2 H2 _ ⟨S2, _, _, s2, _, f2, q2⟩ => .of (there f2 (hl _ _ _ q2))) (fun i x σ2 H2 hx w => turn s1 i x σ2 H2 hx w) fun σ2 H2 ⟨S2, Γ2, A2, s2, he2, f2, q2⟩ => ⟨S2, Γ2, A2, s1.trans s2, he2, f2, hd _ _ (by rw [List.length_map] at q2; exact q2)⟩⟩
theorem s_forOI {tg : Expr} (G : T → Gam) (AA : T → AH) (step : T → Int → T) (J : Nat → T → Prop) (s0 : T) (ha : VE g I Γ A a (.r l)) (hl : ∀ s, AA s l = some (oL (ns.map .int))) (h0 : LessG (G s0) Γ) (hA : A = AA s0) (J0 : J 0 s0)
    (hb : ∀ (i : Nat) z s, ns[i]? = some z → J i s → s = (ns.take i).foldl step s0 → J (i + 1) (step s z) ∧ ∃ Γ2, TgD g I tg (G s) (.int z) Γ2 ∧ WSs g I R Γ2 (AA s) sts { D with nx := fun Γ3 A3 => LessG (G (step s z)) Γ3 ∧ A3 = AA (step s z), ct := fun Γ3 A3 => LessG (G (step s z)) Γ3 ∧ A3 = AA (step s z), bk := fun Γ' A' => WSs g I R Γ' A' sts2 D })
    (k : J ns.length (ns.foldl step s0) → WSs g I R (G (ns.foldl step s0)) (AA (ns.foldl step s0)) sts2 D) (hf : ∀ env x, foldedSetIterable a env x = pure x := by intro _ _; rfl) : WSs g I R Γ A (.For tg a sts [] pos :: sts2) D := by
  refine wss_cons (ws_forOI (ns := ns) (fun i Γ1 A1 => LessG (G ((ns.take i).foldl step s0)) Γ1 ∧ A1 = AA ((ns.take i).foldl step s0) ∧ J i ((ns.take i).foldl step s0)) ha ⟨h0, hA, J0⟩ (fun i Γ1 A1 h => by rw [h.2.1]; exact hl _) (fun i z Γ1 A1 hz ⟨q1, q2, q3⟩ => ?_) (fun Γ1 A1 h => ?_) hf)
  · obtain ⟨j1, Γ2, ht, hw⟩ := hb i z _ hz q3 rfl
    have e : (ns.take (i + 1)).foldl step s0 = step ((ns.take i).foldl step s0) z := by rw [List.take_add_one, hz, List.foldl_append]; rfl
    refine ⟨Γ2, ht.less q1, ?_⟩
    rw [q2]
    refine hw.imp (fun Γ3 A3 h => ?_) (fun _ _ h => h) (fun _ _ h => h) (fun Γ3 A3 h => ?_)
    · rw [e]; exact ⟨h.1, h.2, j1⟩
    · rw [e]; exact ⟨h.1, h.2, j1⟩
  · rw [List.take_length] at h
    obtain ⟨q1, q2, q3⟩ := h
    rw [q2]
    exact s_less q1 (k q3)
end
end LB

/-! Layer 30: sorted(d), d a dict whose keys are pairs of a tuple of whole numbers and a whole number. -/
namespace LB
open PySem PySem.Spec PyProof.Rows L2
theorem lexLt_snoc : ∀ {ns ms : List Int} {x y : Int}, ns.length = ms.length → lexLt (ns ++ [x]) (ms ++ [y]) = if ns = ms then decide (x < y) else lexLt ns ms
  | [], [], x, y, _ => by
    show (if x = y then false else decide (x < y)) = _
    rw [if_pos rfl]
    by_cases h : x = y
    · rw [if_pos h, h, decide_eq_false (Int.lt_irrefl y)]
    · rw [if_neg h]
  | [], _ :: _, _, _, h => by cases h
  | _ :: _, [], _, _, h => by cases h
  | a :: ns, b :: ms, x, y, h => by
    have ih := lexLt_snoc (ns := ns) (ms := ms) (x := x) (y := y) (by simpa using h)
    show (if a = b then lexLt (ns ++ [x]) (ms ++ [y]) else decide (a < b)) = _
    by_cases e : a = b
    · subst e
      rw [if_pos rfl, ih]
      by_cases e2 : ns = ms
      · rw [if_pos e2, if_pos (by rw [e2])]
      · rw [if_neg e2, if_neg (fun z => e2 (List.cons.inj z).2)]
        show lexLt ns ms = if a = a then lexLt ns ms else _
        rw [if_pos rfl]
    · rw [if_neg e, if_neg (fun z => e (List.cons.inj z).1)]
      show decide (a < b) = if a = b then lexLt ns ms else decide (a < b)
      rw [if_neg e]
def IsTP (h : Heap) (v : Value) (l : List Int) : Prop := ∃ (ns : List Int) (x : Int) (a : Addr) (o : Obj) (t : Tok) (b : Addr) (n : Nat) (its : List Value), l = ns ++ [x] ∧ v = .ref a ∧ h.get? a = some o ∧ o.cls = .type "tuple" ∧ o.data = .seq #[.ref b, .int x t] n ∧ IsTup h b its.toArray ∧ IntsAre its ns
theorem IsTP.keeps {h h' : Heap} {v : Value} {l : List Int} (p : IsTP h v l) (k : ∀ b o, h.get? b = some o → o.cls = .type "tuple" → h'.get? b = some o) : IsTP h' v l := by
  obtain ⟨ns, x, a, o, t, b, n, its, e0, e, ho, hc, hd, ⟨o2, ho2, hc2, n2, hd2⟩, hi⟩ := p
  exact ⟨ns, x, a, o, t, b, n, its, e0, e, k _ _ ho hc, hc, hd, ⟨o2, k _ _ ho2 hc2, hc2, n2, hd2⟩, hi⟩
theorem tp_cmp {prog : Program} {w : World} {A : Around} {s : Shared} {vs : List Value} {k : Value → List Int} {N : Nat} (hu : A.units + 8 < cLine) (hp : ∀ v ∈ vs, IsTP s.heap v (k v) ∧ (k v).length = N) : SrtO.Cmp prog w A s (tuples' false) (fun p => p.1 ∈ vs) (SrtO.lt2 fun v u => lexLt (k v) (k u)) := by
  intro p q hm hm'
  obtain ⟨h1, l1⟩ := hp _ hm
  obtain ⟨h2, l2⟩ := hp _ hm'
  show wpAny (model prog w) A (keyLt' (tuples' false) p.1 q.1) (fun r s' => s' = s ∧ r = lexLt (k p.1) (k q.1)) (fun _ _ => False) s
  obtain ⟨ns, x, a, o, t, b, n, its, e0, e, ho, hc, hd, t1, i1⟩ := h1
  obtain ⟨ms, x', a', o', t', b', n', its', e0', e', ho', hc', hd', t2, i2⟩ := h2
  have hl : ns.length = ms.length := by
    rw [e0, List.length_append] at l1
    rw [e0', List.length_append] at l2
    simp at l1 l2
    omega
  rw [e0, e0', e, e', lexLt_snoc hl]
  refine PySem.W.kat_lt ho hd ho' hd' ?_
  show PySem.W.KatLex prog w A false (decide (2 < 2)) _ [(.ref b, .ref b'), (.int x t, .int x' t')] 0 s
  refine PySem.W.kat_cons (eq_tups hu t1 t2 i1 i2 prog w _ _ ?_)
  refine PySem.W.kat_go (fun e1 => ?_) (fun e1 => ?_)
  · have ex : ns = ms := of_decide_eq_true e1
    rw [if_pos ex]
    refine PySem.W.kat_yes (PySem.W.kat_cons (SeqAt.EqAt.int_int x t x' t' prog w _ _ ?_))
    refine PySem.W.kat_go (fun e2 => ?_) (fun e2 => ?_)
    · have ey : x = x' := by simpa using e2
      exact PySem.W.kat_yes (PySem.W.kat_nil ⟨rfl, by rw [ey, decide_eq_false (Int.lt_irrefl x')]; rfl⟩)
    · exact PySem.W.kat_no (PySem.W.kat_one _ _ (Ob.RcOp.lt_int _ _ _ _ prog w _ _ (show PySem.W.BoolBack _ _ _ from ⟨rfl, rfl⟩)))
  · have ex : ¬ ns = ms := of_decide_eq_false e1
    rw [if_neg ex]
    exact PySem.W.kat_no (PySem.W.kat_one _ _ (lt_tups hu t1 t2 i1 i2 prog w _ _ (show PySem.W.BoolBack _ _ _ from ⟨rfl, rfl⟩)))
theorem tp_firsts {h : Heap} : ∀ {vs : List Value}, (∀ v ∈ vs, ∃ l, IsTP h v l) → ∃ fs : List Value, PySem.W.KatTups h vs fs ∧ fs.length = vs.length ∧ ∀ f ∈ fs, ∃ b o, f = Value.ref b ∧ h.get? b = some o ∧ o.cls = .type "tuple"
  | [], _ => ⟨[], PySem.W.KatTups.nil, rfl, fun _ hm => by simp at hm⟩
  | v :: vs, hp => by
    obtain ⟨fs, h1, h2, h3⟩ := tp_firsts (vs := vs) fun v' hm => hp v' (List.mem_cons_of_mem _ hm)
    obtain ⟨l, ns, x, a, o, t, b, n, its, e0, e, ho, hc, hd, ⟨o2, ho2, hc2, _⟩, _⟩ := hp v (List.mem_cons_self ..)
    subst e
    refine ⟨.ref b :: fs, PySem.W.KatTups.cons ho hc hd rfl h1, by rw [List.length_cons, List.length_cons, h2], fun f hm => ?_⟩
    rcases List.mem_cons.mp hm with rfl | hm
    · exact ⟨b, o2, rfl, ho2, hc2⟩
    · exact h3 f hm
theorem tp_sortable {prog : Program} {w : World} {A : Around} {s : Shared} {a : Addr} {vs : List Value} {k : Value → List Int} {N : Nat} (hu : A.units + 8 < cLine) (h0 : 0 < vs.length) (hp : ∀ v ∈ vs, IsTP s.heap v (k v) ∧ (k v).length = N) (ha : ∀ o, s.heap.get? a = some o → o.cls ≠ .type "tuple") : SrtO.SortableO prog w A s a vs fun v u => lexLt (k v) (k u) := by
  intro h' keep
  have hp' : ∀ v ∈ vs, IsTP h' v (k v) ∧ (k v).length = N := fun v hm => ⟨(hp v hm).1.keeps fun b o e c => keep b o (fun z => by subst z; exact ha o e c) e, (hp v hm).2⟩
  obtain ⟨fs, h1, h2, h3⟩ := tp_firsts fun v hm => ⟨_, (hp' v hm).1⟩
  refine ⟨tuples' false, fun Q E hq => ?_, tp_cmp hu hp'⟩
  refine PySem.W.kat_kind (T := .type "tuple") h1 (by omega) (fun f hm => ?_) (by rfl) ?_
  · obtain ⟨b, o, rfl, ho, hc⟩ := h3 f hm
    have := show PySem.W.Looks (model prog w) h' (typeOf (.ref b)) o.cls from (PySem.W.Looks.ld ho).andThen .now
    rw [hc] at this
    exact this
  · have e : (Value.type "tuple" != Value.type "tuple") = false := by first | decide +kernel | rfl | decide
    rw [e]
    exact hq
theorem sorted_rawTP {prog : Program} {w : World} {A : Around} {E : Value → Shared → Prop} {s : Shared} {d : Addr} {es : Array DictEntry} {ep N : Nat} {k : Value → List Int} {Q : Value → Shared → Prop} (hh : A.handled = none) (hu : A.units + 64 < cLine) (lo : (d == sysModules) = false) (hm : s.heap.DictRaw d es ep) (hz : es.size ≤ sizeLine)
    (hp : ∀ v ∈ es.toList.map (·.key), IsTP s.heap v (k v) ∧ (k v).length = N)
    (h : ∀ (h1 h' : Heap) (tk : Nat) (D : Addr) (out : List Value), SrtO.Srtd (fun v u => lexLt (k v) (k u)) out → SrtO.Stb (fun v u => lexLt (k v) (k u)) out (es.toList.map (·.key)) → (∀ b o, s.heap.get? b = some o → h1.get? b = some o) → (∀ b o, h1.get? b = some o → h'.get? b = some o) → h1.objs.size ≤ D → (∃ n, h'.get? D = some (seqObj "list" out.toArray n)) → Q (.ref D) { s with heap := h', toks := tk }) :
    wpAny (model prog w) A (call (.builtin "sorted") [.ref d]) Q E s := by
  refine Calls.call_function_entry PyProof.Rows.kind_sorted PyProof.Rows.plain_sorted PyProof.Rows.entry_sorted (PyProof.Rows.args_sorted1 _) ?_
  unfold Builtin.«sorted»
  refine wpAny_bind (m := checkCount "sorted" 1 1 _) (wpAny_pure ?_)
  refine wpAny_bind (PySem.W.kdu_collect (A := A.in1) (KdlSrc.rawDict (es := es) (ep := ep) lo) hh hm hz fun h' tk acc hk hacc => ?_)
  have eacc : acc.toList = es.toList.map (·.key) := by
    refine List.ext_getElem? fun i => ?_
    by_cases hi : i < es.size
    · have hia : i < acc.size := by rw [hacc.1]; exact hi
      obtain ⟨hi2, e⟩ := hacc.2 i acc[i] (Array.getElem?_eq_getElem hia)
      rw [Array.getElem?_toList, Array.getElem?_eq_getElem hia, e, List.getElem?_map, Array.getElem?_toList, Array.getElem?_eq_getElem hi]
      rfl
    · rw [List.getElem?_eq_none (by rw [Array.length_toList, hacc.1]; omega), List.getElem?_eq_none (by rw [List.length_map, Array.length_toList]; omega)]
  rw [eacc]
  generalize hvs : es.toList.map (·.key) = vs at *
  have hl : vs.length ≤ sizeLine := by rw [← hvs, List.length_map, Array.length_toList]; exact hz
  refine wpAny_bind (wpAny_newList ?_ hl)
  have hoL : (h'.push (seqObj "list" vs.toArray 0)).get? h'.objs.size = some (seqObj "list" vs.toArray 0) := Heap.get?_push_size _ rfl
  show wpAny _ _ _ _ _ { s with heap := h'.push (seqObj "list" vs.toArray 0), toks := tk }
  refine wpAny_bind (wpAny_holding (wpAny_call_entry PyProof.Rows.slot_list_sort ⟨_, hoL, rfl⟩ PyProof.Rows.entry_list_sort
    (SrtO.list_sort_ord (s := { s with heap := h'.push (seqObj "list" vs.toArray 0), toks := tk }) (swo_lexLt k) hoL hl (fun h2 => ?_) fun out hs hb => ⟨_, rfl, ?_⟩)
    (PyProof.Rows.args_list_sort _)))
  · refine tp_sortable (by show A.units + 1 + 1 + 8 < cLine; omega) (by omega) (fun v hm => ⟨(hp v hm).1.keeps fun b o e _ => Heap.get?_push_of_some _ (hk b o e), (hp v hm).2⟩) fun o e => ?_
    have e' : some o = some (seqObj "list" vs.toArray 0) := e.symm.trans hoL
    cases e'
    intro c
    exact absurd (Value.type.inj c) (by decide)
  · obtain ⟨e', he'⟩ := PyProof.Rows.sortedHeap_at (vs := vs) (out := out.toArray) hoL
    refine wpAny_pure ⟨_, rfl, h h' _ tk h'.objs.size out hs hb hk (fun b u e => ?_) (Nat.le_refl _) ⟨e', he'⟩⟩
    have hb : b < h'.objs.size := Heap.lt_size e
    rw [PyProof.Rows.sortedHeap_old (Nat.ne_of_lt hb) (by rw [size_push']; exact Nat.lt_succ_of_lt hb)]
    exact Heap.get?_push_of_some _ e
/-! as data -/
def dTP (z : List Int × Int) : PyData := .tuple [tI z.1, .int z.2]
def kTP (z : List Int × Int) : List Int := z.1 ++ [z.2]
def keyTP (z : List Int × Int) : NestedKey := .tup [.tup (z.1.map .num), .num z.2]
def sortTP (zs : List (List Int × Int)) : List (List Int × Int) := zs.mergeSort fun a b => !lexLt (kTP b) (kTP a)
theorem kTP_inj {a b : List Int × Int} (h : kTP a = kTP b) : a = b := by
  obtain ⟨x, y⟩ := a
  obtain ⟨u, v⟩ := b
  have := List.append_inj' h rfl
  exact Prod.ext this.1 (List.cons.inj this.2).1
theorem sortTP_perm (zs : List (List Int × Int)) : (sortTP zs).Perm zs := List.mergeSort_perm _ _
theorem sortTP_srtd (zs : List (List Int × Int)) : SrtO.Srtd (fun a b => lexLt (kTP a) (kTP b)) (sortTP zs) := by
  have := List.pairwise_mergeSort (le := fun a b : List Int × Int => !lexLt (kTP b) (kTP a)) (fun a b c h1 h2 => by
    rw [Bool.not_eq_true'] at h1 h2 ⊢
    exact lexLt_tr h1 h2) (fun a b => by
    cases z : lexLt (kTP b) (kTP a) with
    | false => rfl
    | true => rw [lexLt_asym z]; rfl) zs
  exact this.imp fun h => by rwa [Bool.not_eq_true'] at h
theorem tp_uniq {l m : List (List Int × Int)} (h1 : SrtO.Srtd (fun a b => lexLt (kTP a) (kTP b)) l) (h2 : SrtO.Srtd (fun a b => lexLt (kTP a) (kTP b)) m) (p : l.Perm m) : l = m := by
  refine SrtO.stb_uniq (swo_lexLt kTP) h1 h2 ⟨p, fun x => ?_⟩
  have only : ∀ l : List (List Int × Int), ∀ y ∈ l.filter (SrtO.eqv (fun a b => lexLt (kTP a) (kTP b)) x), y = x := fun l y hy => by
    have := SrtO.eqv_iff.mp (List.mem_filter.mp hy).2
    exact (kTP_inj (lexLt_anti this.1 this.2)).symm
  rw [List.eq_replicate_iff.mpr ⟨rfl, only l⟩, List.eq_replicate_iff.mpr ⟨rfl, only m⟩, (p.filter _).length_eq]
theorem num_datas' : ∀ c : List Int, NestedKey.datas (c.map .num) = c.map PyData.int
  | [] => rfl
  | x :: c => by
    show PyData.int x :: NestedKey.datas (c.map .num) = _
    rw [num_datas' c]; rfl
theorem keyTP_data (z : List Int × Int) : (keyTP z).data = dTP z := by
  show PyData.tuple [PyData.tuple (NestedKey.datas (z.1.map .num)), .int z.2] = _
  rw [num_datas']; rfl
theorem rp_tp {S : Hp} {v : V} {z : List Int × Int} (h : Rp S v (dTP z)) : ∃ t b, v = .ref t ∧ S t = some (.tup [.ref b, .int z.2]) ∧ S b = some (.tup (z.1.map V.int)) := by
  obtain ⟨t, vs, rfl, h1, h2⟩ := Rp.tup_of h
  cases h2 with
  | cons r1 r2 =>
    cases r2 with
    | cons r2 r3 =>
      cases r3
      obtain ⟨b, ws, rfl, h3, h4⟩ := Rp.tup_of r1
      obtain rfl := h4.ints
      cases Rp.int_of r2
      exact ⟨t, b, rfl, h1, h3⟩
theorem rp_tp_inj {S : Hp} {v : V} {z z' : List Int × Int} (h : Rp S v (dTP z)) (h' : Rp S v (dTP z')) : z = z' := by
  obtain ⟨t, b, rfl, h1, h2⟩ := rp_tp h
  obtain ⟨t', b', e, h3, h4⟩ := rp_tp h'
  cases e
  rw [h1] at h3
  have e := Option.some.inj h3
  injection e with e
  have e1 := List.cons.inj e
  have e2 := List.cons.inj e1.2
  have eb := V.ref.inj e1.1
  subst eb
  rw [h2] at h4
  have e := Option.some.inj h4
  injection e with e
  exact Prod.ext (mapInt_inj e) (V.int.inj e2.1)
def rSortedTP (X : Cx) : List V → Hp → VK → Prop := fun vs H Q => ∃ (a : Addr) (xs : List (NestedKey × Addr × Value)) (k : V → List Int) (N : Nat), vs = [V.ref a] ∧ H a = some (.ext (rawD X.prog X.w a xs)) ∧ (a == sysModules) = false ∧ xs.length ≤ sizeLine ∧
  (∀ x ∈ xs, ∃ b i ns, k (.ref x.2.1) = ns ++ [i] ∧ ns.length + 1 = N ∧ H x.2.1 = some (.tup [.ref b, .int i]) ∧ H b = some (.tup (ns.map V.int))) ∧
  ∀ ys p, SrtO.Srtd (fun x y => lexLt (k x) (k y)) ys → SrtO.Stb (fun x y => lexLt (k x) (k y)) ys (xs.map fun x => V.ref x.2.1) → H p = none → Q (.ref p) (upd H p (.lst ys))
theorem cr_sortedTP {X : Cx} (hc : X.calm = true) (hu : X.A.units + 64 < cLine) : CallR X (.builtin "sorted") (rSortedTP X) := by
  intro pins s σ H vs us Q I r h
  obtain ⟨a, xs, k, N, rfl, ha, lo, hz, hx, q⟩ := h
  obtain ⟨u, rfl, ru⟩ := vals1 r
  obtain rfl : u = Value.ref a := ru
  obtain ⟨⟨o, es, ep, h1, h2, h3, h4, h5⟩, _⟩ := I.hok a _ ha
  have ek : es.toList.map (·.key) = xs.map fun x => Value.ref x.2.1 := by rw [h4, List.map_map]; rfl
  have eb : (xs.map fun x => V.ref x.2.1) = (es.toList.map (·.key)).map backV := by rw [ek, List.map_map]; rfl
  have hl : es.size = xs.length := by rw [← Array.length_toList, h4, List.length_map]
  refine sorted_rawTP (N := N) (k := fun u => k (backV u)) (I.ok.hd hc) hu lo ⟨o, h1, h2, h3⟩ (by rw [hl]; exact hz) (fun v hv => ?_) fun h1' h' tk d out s1 s2 kp1 kp hd hn => ?_
  · rw [ek] at hv
    obtain ⟨x, hm, rfl⟩ := List.mem_map.mp hv
    obtain ⟨b, i, ns, e0, e1, ht, hb⟩ := hx x hm
    obtain ⟨_, its2, r2, o2, ho, hc2, n, hd⟩ := I.hok _ _ ht
    obtain ⟨u1, u2, rfl, ri, rj⟩ := vals2 r2
    obtain rfl : u1 = Value.ref b := ri
    obtain ⟨t1, rfl⟩ := rj
    obtain ⟨_, its3, r3, tp⟩ := I.hok _ _ hb
    refine ⟨⟨ns, i, x.2.1, o2, t1, b, n, its3, e0, rfl, ho, hc2, hd, tp, Vals.ints r3⟩, ?_⟩
    show (k (V.ref x.2.1)).length = N
    rw [e0, List.length_append]
    exact e1
  · have h3 : ∀ u ∈ out, ∃ a, u = Value.ref a := fun u hu => by
      have := s2.perm.mem_iff.mp hu
      rw [ek] at this
      obtain ⟨x, _, e⟩ := List.mem_map.mp this
      exact ⟨_, e.symm⟩
    obtain ⟨n, hn⟩ := hn
    have hb : SrtO.Stb (fun x y => lexLt (k x) (k y)) (out.map backV) (xs.map fun x => V.ref x.2.1) := by
      rw [eb]
      exact SrtO.Stb.map (swo_lexLt k) backV s2
    have I1 : L2.Inv X pins σ H { s with heap := h1', toks := tk } := I.kept kp1
    refine ⟨.ref d, upd H d (.lst (out.map backV)), I1.laid (t' := tk) kp hd ⟨?_, out, n, vals_back h3, hn⟩, rfl, q _ d (SrtO.srtd_map s1) hb (I1.hok.fresh hd)⟩
    rw [hb.len, List.length_map]
    exact hz
theorem DRel.keysTP {S : Hp} : ∀ {kvs : List (NestedKey × DV)} {xs : List (NestedKey × Addr × Value)} {zs : List (List Int × Int)}, DRel S kvs xs → kvs.map (·.1) = zs.map keyTP → RpAll S (xs.map fun x => V.ref x.2.1) (zs.map dTP)
  | _, _, zs, .nil, h => by
    cases zs with
    | nil => exact .nil
    | cons z zs => cases h
  | _, _, zs, .cons d r1 r2 r3 r, h => by
    cases zs with
    | nil => cases h
    | cons z zs =>
      rw [List.map_cons, List.map_cons] at h
      have h1 := List.cons.inj h
      have e : _ = keyTP z := h1.1
      subst e
      rw [keyTP_data] at r1
      exact .cons r1 (DRel.keysTP r h1.2)
section
variable {g : Gv} {I : CI} {Γ : Gam} {A : AH} {pos p : Pos} {e : Expr} {l : Addr} {kvs : List (NestedKey × DV)} {zs : List (List Int × Int)} {N : Nat}
/-- sorted(d), d an owned dict -/
theorem de_sortedTP (h : VE g I Γ A e (.r l)) (hl : A l = some (aoK g.P g.w kvs)) (hk : kvs.map (·.1) = zs.map keyTP) (hN : ∀ z ∈ zs, z.1.length = N) (hz : zs.length ≤ 1000000) (hg : GlS I.sc "sorted") (hm : g.mg "sorted" = none) (hn : nostar e = true := by rfl) : DE g I Γ A (.Call (.Name "sorted" p) [e] [] pos) (.list ((sortTP zs).map dTP)) :=
  ve_callB (fun X c => cr_sortedTP c.calm c.room.units) (fun X cx A1 ex S1 H1 vs f1 rr Q z => by
  obtain ⟨v, rfl, r⟩ := rr.one
  obtain rfl : v = V.ref l := r
  obtain ⟨ea, rfl⟩ := cx.eq
  obtain ⟨xs, ha, lo, dr⟩ := f1.dict (ex _ _ hl)
  have h2 := dr.keysTP hk
  have hlen : xs.length = zs.length := by
    have := h2.length
    rw [List.length_map, List.length_map] at this
    exact this
  generalize hws : (xs.map fun x => V.ref x.2.1) = ws at h2
  have hex : ∀ x ∈ ws, ∃ z ∈ zs, Rp S1 x (dTP z) := by
    have : ∀ (ws : List V) (zs : List (List Int × Int)), RpAll S1 ws (zs.map dTP) → ∀ x ∈ ws, ∃ z ∈ zs, Rp S1 x (dTP z) := fun ws => by
      induction ws with
      | nil => intro _ _ x hx; exact (List.not_mem_nil hx).elim
      | cons w ws ih =>
        intro zs hr x hx
        cases zs with
        | nil => cases hr
        | cons y zs =>
          cases hr with
          | cons r1 r2 =>
            rcases List.mem_cons.mp hx with rfl | hx
            · exact ⟨y, List.mem_cons_self, r1⟩
            · obtain ⟨z, h1, h2⟩ := ih zs r2 x hx
              exact ⟨z, List.mem_cons_of_mem _ h1, h2⟩
    exact this ws zs h2
  classical
  obtain ⟨kz, hkz⟩ : ∃ kz : V → List Int × Int, ∀ x, (∃ z ∈ zs, Rp S1 x (dTP z)) → kz x ∈ zs ∧ Rp S1 x (dTP (kz x)) := ⟨fun x => if h : ∃ z ∈ zs, Rp S1 x (dTP z) then Classical.choose h else default, fun x hx => by show dite _ _ _ ∈ zs ∧ Rp S1 x (dTP (dite _ _ _)); rw [dif_pos hx]; exact Classical.choose_spec hx⟩
  have hk2 : ∀ x ∈ ws, kz x ∈ zs ∧ Rp S1 x (dTP (kz x)) := fun x hx => hkz x (hex x hx)
  have ezs : ws.map kz = zs := by
    have : ∀ (ws : List V) (zs : List (List Int × Int)), RpAll S1 ws (zs.map dTP) → (∀ x ∈ ws, Rp S1 x (dTP (kz x))) → ws.map kz = zs := fun ws => by
      induction ws with
      | nil => intro zs hr _; cases zs with
        | nil => rfl
        | cons _ _ => cases hr
      | cons w ws ih =>
        intro zs hr hh
        cases zs with
        | nil => cases hr
        | cons y zs =>
          cases hr with
          | cons r1 r2 => rw [List.map_cons, ih zs r2 fun x hx => hh x (List.mem_cons_of_mem _ hx), rp_tp_inj (hh w List.mem_cons_self) r1]
    exact this ws zs h2 fun x hx => (hk2 x hx).2
  refine ⟨l, xs, fun x => kTP (kz x), N + 1, rfl, ha, lo, by rw [hlen, sizeLine_eq]; omega, fun x hx => ?_, fun ys t hs hb ht => ?_⟩
  · have hm : V.ref x.2.1 ∈ ws := by rw [← hws]; exact List.mem_map.mpr ⟨x, hx, rfl⟩
    obtain ⟨m1, m2⟩ := hk2 _ hm
    obtain ⟨t, b, e, q1, q2⟩ := rp_tp m2
    cases e
    exact ⟨b, _, _, rfl, by rw [hN _ m1], f1.same _ _ q1, f1.same _ _ q2⟩
  · rw [hws] at hb
    have ey : ys.map kz = sortTP zs := by
      refine tp_uniq (SrtO.srtd_map (lt := fun a b => lexLt (kTP a) (kTP b)) (f := kz) hs) (sortTP_srtd zs) (((hb.perm.map kz).trans (by rw [ezs])).trans (sortTP_perm zs).symm)
    obtain ⟨f2, s2⟩ := f1.laidS ht (o := .lst ys)
    refine z _ _ _ s2 f2 (.lst upd_same ?_)
    rw [← ey]
    have hy : ∀ x ∈ ys, Rp S1 x (dTP (kz x)) := fun x hx => (hk2 x (hb.perm.mem_iff.mp hx)).2
    have : ∀ ys : List V, (∀ x ∈ ys, Rp S1 x (dTP (kz x))) → RpAll S1 ys ((ys.map kz).map dTP) := fun ys => by
      induction ys with
      | nil => intro _; exact .nil
      | cons y ys ih => intro hh; exact .cons (hh y List.mem_cons_self) (ih fun x hx => hh x (List.mem_cons_of_mem _ hx))
    exact (this ys hy).mono s2) hg hm boot_sorted' (va_cons h va_nil hn) hn rfl (by decide) (by decide)
end
end LB

/-! Mirrors 24: books (k20, k22). -/
namespace LB
open PySem PySem.Spec PyProof.Rows L2
abbrev Ent := List Int × Nat
def keyB (e : Ent) : NestedKey := wkey e.1 e.2
theorem keyB_inj {e f : Ent} (h : keyB e = keyB f) : e = f := by
  obtain ⟨a, b⟩ := wkey_inj h
  exact Prod.ext a b
def bkD (F : List Ent) : List (NestedKey × DV) := F.map fun e => (keyB e, .d (.bool true))
theorem bkD_keys (F : List Ent) : (bkD F).map (·.1) = F.map keyB := by unfold bkD; rw [List.map_map]; rfl
theorem bkD_val (F : List Ent) (c : List Int) (k : Nat) : (valK (bkD F) (wkey c k)).isSome = decide ((c, k) ∈ F) := by
  rw [Bool.eq_iff_iff, valK_mem, bkD_keys, List.mem_map, decide_eq_true_eq]
  constructor
  · rintro ⟨e, he, h⟩; rw [← keyB_inj (f := (c, k)) h]; exact he
  · intro h; exact ⟨_, h, rfl⟩
theorem bkD_put {F : List Ent} {c : List Int} {k : Nat} (h : (c, k) ∉ F) : putKD (bkD F) (wkey c k) (.d (.bool true)) = bkD (F ++ [(c, k)]) := by
  unfold putKD
  rw [bkD_val, decide_eq_false h, if_neg (by decide)]
  unfold bkD
  rw [List.map_append]; rfl
structure BkOk (n : Nat) (F : List Ent) : Prop where
  nd : F.Nodup
  ok : ∀ e ∈ F, (∃ S, GC S n e.1) ∧ e.2 ≤ 61
theorem BkOk.nil (n : Nat) : BkOk n [] := ⟨List.nodup_nil, fun e h => (List.not_mem_nil h).elim⟩
theorem BkOk.snoc {n : Nat} {F : List Ent} (h : BkOk n F) {S : Int} {c : List Int} {k : Nat} (hn : (c, k) ∉ F) (ok : GC S n c) (hk : k ≤ 61) : BkOk n (F ++ [(c, k)]) := by
  refine ⟨List.nodup_append.mpr ⟨h.nd, by simp, fun a ha b hb e => ?_⟩, fun e he => ?_⟩
  · rw [List.mem_singleton] at hb
    subst hb e
    exact hn ha
  · rcases List.mem_append.mp he with he | he
    · exact h.ok e he
    · rw [List.mem_singleton] at he; subst he; exact ⟨⟨S, ok⟩, hk⟩
theorem BkOk.len {n : Nat} {F : List Ent} (h : BkOk n F) (n3 : n ≤ 3) : F.length ≤ 200000 := by
  have h1 : (F.map keyB).Nodup := List.pairwise_map.mpr (h.nd.imp fun hne e => hne (keyB_inj e))
  have h2 := len_le_of_sub (U := uW n) h1 fun x hx => by
    obtain ⟨e, he, rfl⟩ := List.mem_map.mp hx
    obtain ⟨⟨S, g⟩, hk⟩ := h.ok e he
    exact mem_uW g hk
  rw [List.length_map] at h2
  have h3 : (uW n).length = 13 ^ n * 62 := by
    unfold uW
    rw [flat_len (c := 62) fun t _ => by rw [List.length_map, List.length_range], allC_len]
  have : 13 ^ n ≤ 13 ^ 3 := Nat.pow_le_pow_right (by decide) n3
  have e : (13 : Nat) ^ 3 = 2197 := rfl
  omega
def shutE (F : List Ent) (c : List Int) (k : Nat) : Bool := decide ((c, k) ∈ F) || decide (twoTo (k : Int) < weightV c k)
def bookStep (bk : List Int → List Ent → List Ent) (k : Nat) (c : List Int) (F : List Ent) (p : List Int) : List Ent := if (canW k (behindY c p)).isNone = true then bk (behindY c p) F else bk (behindN c p) F
def bookW : Nat → List Int → List Ent → List Ent
  | 0, c, F => if shutE F c 0 = true then F else F ++ [(c, 0)]
  | k + 1, c, F => if shutE F c (k + 1) = true then F else (partsV c).foldl (bookStep (bookW k) k c) (F ++ [(c, k + 1)])
/-- a child that is shut -/
def shutS (F : List Ent) (c : List Int) (k : Nat) : Bool := !decide (c.sum ≤ 1) && shutE F c k
def ClosedE (n : Nat) (F : List Ent) (e : Ent) : Prop := (∃ S, GC S n e.1) ∧ ¬ e.1.sum ≤ 1 ∧ e.2 ≤ 60 ∧ ∀ j, e.2 = j + 1 → ∀ p ∈ partsV e.1, shutS F (behindY e.1 p) j = true ∨ shutS F (behindN e.1 p) j = true
theorem shutE_mono {F F' : List Ent} (h : ∀ e ∈ F, e ∈ F') {c : List Int} {k : Nat} (hs : shutE F c k = true) : shutE F' c k = true := by
  unfold shutE at *
  rw [Bool.or_eq_true, decide_eq_true_eq] at *
  rcases hs with hs | hs
  · exact .inl (h _ hs)
  · exact .inr hs
theorem shutS_mono {F F' : List Ent} (h : ∀ e ∈ F, e ∈ F') {c : List Int} {k : Nat} (hs : shutS F c k = true) : shutS F' c k = true := by
  unfold shutS at *
  rw [Bool.and_eq_true] at *
  exact ⟨hs.1, shutE_mono h hs.2⟩
theorem ClosedE.mono {n : Nat} {F F' : List Ent} (h : ∀ e ∈ F, e ∈ F') {e : Ent} (c : ClosedE n F e) : ClosedE n F' e := by
  obtain ⟨a, b, d, f⟩ := c
  refine ⟨a, b, d, fun j ej p hp => ?_⟩
  rcases f j ej p hp with q | q
  · exact .inl (shutS_mono h q)
  · exact .inr (shutS_mono h q)
theorem can_none_sum {k : Nat} {c : List Int} (h : canW k c = none) : ¬ c.sum ≤ 1 := fun z => by
  cases k with
  | zero =>
    have h : (if c.sum ≤ 1 then some [] else none) = none := h
    rw [if_pos z] at h; cases h
  | succ k =>
    have h : (if c.sum ≤ 1 then some [] else if ((k + 1 : Nat) : Int) < boundV c then none else (partsV c).find? fun p => (canW k (behindY c p)).isSome && (canW k (behindN c p)).isSome) = none := h
    rw [if_pos z] at h; cases h
/-- counts that can't be done: behind each question one that can't -/
theorem can_none_part {S : Int} {n k : Nat} {c p : List Int} (g : GC S n c) (h : canW (k + 1) c = none) (hp : partOk c p = true) : canW k (behindY c p) = none ∨ canW k (behindN c p) = none := by
  obtain ⟨g1, g2⟩ := g.behind hp
  have hl : lawC (k + 1) c = false := by rw [← can_law _ g, h]; rfl
  have hl : (decide (c.sum ≤ 1) || (allP c).any fun p => lawC k (behindY c p) && lawC k (behindN c p)) = false := hl
  rw [Bool.or_eq_false_iff, List.any_eq_false] at hl
  have h2 := hl.2 p ((mem_allP c p).mpr (partP_ok.mpr hp))
  have c1 := can_law k g1
  have c2 := can_law k g2
  cases e1 : canW k (behindY c p) with
  | none => exact .inl rfl
  | some x =>
    cases e2 : canW k (behindN c p) with
    | none => exact .inr rfl
    | some y =>
      rw [e1] at c1; rw [e2] at c2
      rw [← c1, ← c2] at h2
      exact absurd rfl h2
theorem shut_0 {S : Int} {n : Nat} {c : List Int} (F : List Ent) (g : GC S n c) (h : canW 0 c = none) : shutE F c 0 = true := by
  have hs := can_none_sum h
  unfold shutE
  have w0 := weight_0 g
  have t0 : twoTo ((0 : Nat) : Int) = 1 := rfl
  rw [decide_eq_true (show twoTo ((0 : Nat) : Int) < weightV c ((0 : Nat) : Int) by rw [t0]; have : weightV c ((0 : Nat) : Int) = c.sum := w0; omega), Bool.or_true]
theorem book_spec {S : Int} {n : Nat} : ∀ (k : Nat) {c : List Int} {F : List Ent}, GC S n c → canW k c = none → k ≤ 60 → BkOk n F →
    BkOk n (bookW k c F) ∧ (∀ e ∈ F, e ∈ bookW k c F) ∧ shutE (bookW k c F) c k = true ∧ ∀ e ∈ bookW k c F, e ∈ F ∨ ClosedE n (bookW k c F) e
  | 0, c, F, g, h, hk, ok => by
    have e : bookW 0 c F = F := by
      show (if shutE F c 0 = true then F else F ++ [(c, 0)]) = F
      rw [if_pos (shut_0 F g h)]
    rw [e]
    exact ⟨ok, fun _ h => h, shut_0 F g h, fun _ h => .inl h⟩
  | k + 1, c, F, g, h, hk, ok => by
    by_cases hs : shutE F c (k + 1) = true
    · have e : bookW (k + 1) c F = F := by
        show (if shutE F c (k + 1) = true then F else _) = F
        rw [if_pos hs]
      rw [e]
      exact ⟨ok, fun _ h => h, hs, fun _ h => .inl h⟩
    have e : bookW (k + 1) c F = (partsV c).foldl (bookStep (bookW k) k c) (F ++ [(c, k + 1)]) := by
      show (if shutE F c (k + 1) = true then F else _) = _
      rw [if_neg hs]
    have hnm : (c, k + 1) ∉ F := fun z => hs (by unfold shutE; rw [decide_eq_true z]; rfl)
    have ok0 := ok.snoc hnm g (by omega)
    have key : ∀ (ps : List (List Int)) (F0 : List Ent), (∀ p ∈ ps, partOk c p = true) → BkOk n F0 → BkOk n (ps.foldl (bookStep (bookW k) k c) F0) ∧ (∀ e ∈ F0, e ∈ ps.foldl (bookStep (bookW k) k c) F0) ∧ (∀ p ∈ ps, shutS (ps.foldl (bookStep (bookW k) k c) F0) (behindY c p) k = true ∨ shutS (ps.foldl (bookStep (bookW k) k c) F0) (behindN c p) k = true) ∧ ∀ e ∈ ps.foldl (bookStep (bookW k) k c) F0, e ∈ F0 ∨ ClosedE n (ps.foldl (bookStep (bookW k) k c) F0) e := fun ps => by
      induction ps with
      | nil => intro F0 _ ok0; exact ⟨ok0, fun _ h => h, fun p hp => (List.not_mem_nil hp).elim, fun _ h => .inl h⟩
      | cons p ps ih =>
        intro F0 hps ok0
        have pok := hps p List.mem_cons_self
        obtain ⟨g1, g2⟩ := g.behind pok
        rw [List.foldl_cons]
        have one : BkOk n (bookStep (bookW k) k c F0 p) ∧ (∀ e ∈ F0, e ∈ bookStep (bookW k) k c F0 p) ∧ (shutS (bookStep (bookW k) k c F0 p) (behindY c p) k = true ∨ shutS (bookStep (bookW k) k c F0 p) (behindN c p) k = true) ∧ ∀ e ∈ bookStep (bookW k) k c F0 p, e ∈ F0 ∨ ClosedE n (bookStep (bookW k) k c F0 p) e := by
          unfold bookStep
          by_cases hc : (canW k (behindY c p)).isNone = true
          · have hc' : canW k (behindY c p) = none := by
              cases z : canW k (behindY c p) with
              | none => rfl
              | some x => rw [z] at hc; cases hc
            rw [if_pos hc]
            obtain ⟨a1, a2, a3, a4⟩ := book_spec k g1 hc' (by omega) ok0
            exact ⟨a1, a2, .inl (by unfold shutS; rw [decide_eq_false (can_none_sum hc'), a3]; rfl), a4⟩
          · rw [if_neg hc]
            have hc' : canW k (behindN c p) = none := by
              rcases can_none_part g h pok with z | z
              · rw [z] at hc; exact absurd rfl hc
              · exact z
            obtain ⟨a1, a2, a3, a4⟩ := book_spec k g2 hc' (by omega) ok0
            exact ⟨a1, a2, .inr (by unfold shutS; rw [decide_eq_false (can_none_sum hc'), a3]; rfl), a4⟩
        obtain ⟨o1, o2, o3, o4⟩ := one
        obtain ⟨i1, i2, i3, i4⟩ := ih _ (fun q hq => hps q (List.mem_cons_of_mem _ hq)) o1
        refine ⟨i1, fun e he => i2 e (o2 e he), fun q hq => ?_, fun e he => ?_⟩
        · rcases List.mem_cons.mp hq with rfl | hq
          · rcases o3 with z | z
            · exact .inl (shutS_mono i2 z)
            · exact .inr (shutS_mono i2 z)
          · exact i3 q hq
        · rcases i4 e he with z | z
          · rcases o4 e z with y | y
            · exact .inl y
            · exact .inr (y.mono i2)
          · exact .inr z
    obtain ⟨k1, k2, k3, k4⟩ := key (partsV c) (F ++ [(c, k + 1)]) (fun p hp => (mem_partsV.mp hp).1) ok0
    rw [e]
    have hme : (c, k + 1) ∈ (partsV c).foldl (bookStep (bookW k) k c) (F ++ [(c, k + 1)]) := k2 _ (List.mem_append_right _ List.mem_cons_self)
    refine ⟨k1, fun e he => k2 e (List.mem_append_left _ he), by unfold shutE; rw [decide_eq_true hme]; rfl, fun e he => ?_⟩
    rcases k4 e he with z | z
    · rcases List.mem_append.mp z with z | z
      · exact .inl z
      · rw [List.mem_singleton] at z
        subst z
        exact .inr ⟨⟨S, g⟩, can_none_sum h, by omega, fun j ej p hp => by
          have : j = k := by have : k + 1 = j + 1 := ej; omega
          subst this
          exact k3 p hp⟩
    · exact .inr z
theorem bookStep_ok {S : Int} {n k : Nat} {c p : List Int} {F : List Ent} (g : GC S n c) (h : canW (k + 1) c = none) (pok : partOk c p = true) (hk : k ≤ 60) (ok : BkOk n F) : BkOk n (bookStep (bookW k) k c F p) := by
  obtain ⟨g1, g2⟩ := g.behind pok
  unfold bookStep
  cases z : canW k (behindY c p) with
  | none => exact (book_spec k g1 z hk ok).1
  | some x =>
    rcases can_none_part g h pok with y | y
    · rw [z] at y; cases y
    · exact (book_spec k g2 y hk ok).1
/-! what a book shows -/
def shutB (B : List (List Int × Int)) (c : List Int) (m : Int) : Bool := !(decide (c.sum ≤ 1) || decide (m < 0)) && (decide (twoTo m < weightV c m) || decide ((c, m) ∈ B))
def entB (B : List (List Int × Int)) (e : List Int × Int) : Bool := !decide (e.1.sum ≤ 1) && (partsV e.1).all fun p => !(decide (e.2 > 0) && (!shutB B (behindY e.1 p) (e.2 - 1) && !shutB B (behindN e.1 p) (e.2 - 1)))
def showsB (c : List Int) (m : Int) (B : List (List Int × Int)) : Bool := shutB B c m && B.all (entB B)
def lookB (e : List Int × Int) : Bool := goodS e.1 && goodQ e.2
def showsBM (c : List Int) (m : Int) (B : List (List Int × Int)) : Except Err PyData := (lookSmall c).bind fun _ => (lookQs m).bind fun _ => if B.all lookB = true then .ok (.bool (showsB c m B)) else .error .counts
def sp_shows_book (ea : Err → Addr) : ASp := pSp ea fun ds o => ∃ (c : List Int) (m : Int) (B : List (List Int × Int)), ds = [.d (tI c), .d (.int m), .d (.list (B.map dTP))] ∧ c.length ≤ 1000 ∧ B.length ≤ 300000 ∧ (∀ e ∈ B, e.1.length ≤ 1000) ∧ o = showsBM c m B
def sp_is_shut (g : Gv) : ASp := pSpA g.ea fun A ds o => ∃ (c : List Int) (m : Int) (l : Addr) (kvs : List (NestedKey × DV)) (B : List (List Int × Int)), ds = [.d (dTP (c, m)), .r l] ∧ A l = some (aoK g.P g.w kvs) ∧ (∀ e : List Int × Int, (valK kvs (keyTP e)).isSome = decide (e ∈ B)) ∧ goodC c = true ∧ m ≤ 60 ∧ o = .ok (.bool (shutB B c m))
theorem keyTP_inj {e f : List Int × Int} (h : keyTP e = keyTP f) : e = f := by
  unfold keyTP at h
  have h1 := List.cons.inj (NestedKey.tup.inj h)
  have h2 := List.cons.inj h1.2
  exact Prod.ext (num_inj (NestedKey.tup.inj h1.1)) (NestedKey.num.inj h2.1)
/-- the book as it is told -/
def entI (e : Ent) : List Int × Int := (e.1, (e.2 : Int))
theorem entI_inj {e f : Ent} (h : entI e = entI f) : e = f := by
  have h1 : (entI e).1 = (entI f).1 := congrArg Prod.fst h
  have h2 : (entI e).2 = (entI f).2 := congrArg Prod.snd h
  have h1 : e.1 = f.1 := h1
  have h2 : (e.2 : Int) = f.2 := h2
  exact Prod.ext h1 (by omega)
def bookB (F : List Ent) : List (List Int × Int) := sortTP (F.map entI)
theorem mem_bookB {F : List Ent} {e : List Int × Int} : e ∈ bookB F ↔ ∃ f ∈ F, entI f = e := by
  unfold bookB
  rw [(sortTP_perm _).mem_iff, List.mem_map]
theorem mem_bookB' {F : List Ent} {c : List Int} {k : Nat} : (c, (k : Int)) ∈ bookB F ↔ (c, k) ∈ F := by
  rw [mem_bookB]
  constructor
  · rintro ⟨f, hf, e⟩; rw [← entI_inj (f := (c, k)) e]; exact hf
  · intro h; exact ⟨_, h, rfl⟩
theorem shutB_of {F : List Ent} {c : List Int} {k : Nat} (h : shutS F c k = true) : shutB (bookB F) c (k : Int) = true := by
  unfold shutS shutE at h
  rw [Bool.and_eq_true, Bool.not_eq_true', decide_eq_false_iff_not, Bool.or_eq_true, decide_eq_true_eq, decide_eq_true_eq] at h
  unfold shutB
  rw [decide_eq_false h.1, decide_eq_false (by omega : ¬ (k : Int) < 0)]
  rcases h.2 with z | z
  · rw [decide_eq_true (mem_bookB'.mpr z), Bool.or_true]; rfl
  · rw [decide_eq_true z]; rfl
/-- the book that is told shows what it is told for -/
theorem book_shows {S : Int} {n k : Nat} {c : List Int} (g : GC S n c) (h : canW k c = none) (hk : k ≤ 60) : showsBM c (k : Int) (bookB (bookW k c [])) = .ok (.bool true) ∧ (bookB (bookW k c [])).length ≤ 200000 ∧ ∀ e ∈ bookB (bookW k c []), e.1.length = n := by
  obtain ⟨b1, b2, b3, b4⟩ := book_spec k g h hk (BkOk.nil n)
  generalize bookW k c [] = F at b1 b2 b3 b4
  have cl : ∀ e ∈ F, ClosedE n F e := fun e he => (b4 e he).resolve_left fun z => List.not_mem_nil z
  have a1 : (bookB F).all lookB = true := by
    rw [List.all_eq_true]
    intro e he
    obtain ⟨f, hf, rfl⟩ := mem_bookB.mp he
    obtain ⟨⟨S', g'⟩, _, h60, _⟩ := cl f hf
    unfold lookB goodQ
    show (goodS f.1 && _) = true
    rw [g'.small]
    show (true && (decide (0 ≤ (f.2 : Int)) && decide ((f.2 : Int) ≤ 60))) = true
    rw [decide_eq_true (by omega : 0 ≤ (f.2 : Int)), decide_eq_true (by omega : (f.2 : Int) ≤ 60)]; rfl
  have a2 : showsB c (k : Int) (bookB F) = true := by
    unfold showsB
    rw [Bool.and_eq_true]
    refine ⟨shutB_of (by unfold shutS; rw [decide_eq_false (can_none_sum h), b3]; rfl), ?_⟩
    rw [List.all_eq_true]
    intro e he
    obtain ⟨f, hf, rfl⟩ := mem_bookB.mp he
    obtain ⟨_, hs, _, hcl⟩ := cl f hf
    unfold entB
    show (!decide (f.1.sum ≤ 1) && _) = true
    rw [decide_eq_false hs]
    show (true && _) = true
    rw [Bool.true_and, List.all_eq_true]
    intro p hp
    obtain ⟨f1, f2⟩ := f
    cases f2 with
    | zero => rfl
    | succ j =>
      have e1 : ((entI (f1, j + 1)).2 - 1) = (j : Int) := by show ((j + 1 : Nat) : Int) - 1 = j; omega
      rw [e1]
      rcases hcl j rfl p hp with z | z
      · have := shutB_of z
        show (!(decide _ && (!shutB (bookB F) (behindY f1 p) (j : Int) && !shutB (bookB F) (behindN f1 p) (j : Int)))) = true
        rw [this]; simp
      · have := shutB_of z
        show (!(decide _ && (!shutB (bookB F) (behindY f1 p) (j : Int) && !shutB (bookB F) (behindN f1 p) (j : Int)))) = true
        rw [this]; simp
  refine ⟨?_, ?_, fun e he => ?_⟩
  · unfold showsBM lookSmall lookQs
    rw [if_pos g.small, if_pos (by unfold goodQ; simp; omega : goodQ (k : Int) = true)]
    show (if (bookB F).all lookB = true then (.ok (.bool (showsB c (k : Int) (bookB F))) : Except Err PyData) else .error .counts) = _
    rw [if_pos a1, a2]
  · unfold bookB
    rw [(sortTP_perm _).length_eq, List.length_map]
    exact b1.len g.n3
  · obtain ⟨f, hf, rfl⟩ := mem_bookB.mp he
    obtain ⟨⟨S', g'⟩, _⟩ := b1.ok f hf
    exact g'.len
def toldM (c : List Int) (m : Int) : Except Err PyData := (lookSmall c).bind fun _ => (lookQs m).map fun _ => if (canW m.toNat c).isSome = true then .tuple [.str "plan", planW m.toNat c] else .tuple [.str "book", .list ((bookB (bookW m.toNat c [])).map dTP)]
def sp_told (ea : Err → Addr) : ASp := pSp ea fun ds o => ∃ (c : List Int) (m : Int), ds = [.d (tI c), .d (.int m)] ∧ c.length ≤ 1000 ∧ o = toldM c m
def sp_wbook (K : Nat) (g : Gv) : ASp := fun ds A Q _ => ∃ (l ld : Addr) (S : Int) (n : Nat) (c : List Int) (k : Nat) (F : List Ent), ds = [.r l, .d (tI c), .d (.int k), .r ld] ∧ (∀ o, WorkIn g (updA A ld o) l n) ∧ A ld = some (aoK g.P g.w (bkD F)) ∧ GC S n c ∧ k ≤ K ∧ k ≤ 60 ∧ canW k c = none ∧ BkOk n F ∧ Q (.d .none) (updA A ld (aoK g.P g.w (bkD (bookW k c F))))
end LB

/-! Mirrors 19: lies told one way only (k53, k54). -/
namespace LB
open PySem PySem.Spec PyProof.Rows L2
def deniedM (c p : List Int) : Except Err (List Int × List Int) := do
  lookCounts c
  if partOk c p = true then pure (p, behindN c p) else .error .counts
def sp_denied (ea : Err → Addr) : ASp := pSp ea fun ds o => ∃ c p : List Int, ds = [.d (tI c), .d (tI p)] ∧ o = (deniedM c p).map dPair
theorem deniedM_ok {S : Int} {n : Nat} {c p : List Int} (h : GC S n c) (hp : partOk c p = true) : deniedM c p = .ok (p, behindN c p) := by
  unfold deniedM
  rw [look_ok h.good]
  show (if _ then _ else _) = _
  rw [if_pos hp]; rfl
theorem GC.part {S : Int} {n : Nat} {c p : List Int} (h : GC S n c) (hp : partOk c p = true) : GC S n p := by
  have hl := partOk_len hp
  have h1 := h.len; have h2 := h.n1; have h3 := h.n3; have h4 := h.sum; have h5 := h.nn
  suffices (∀ x ∈ p, 0 ≤ x) ∧ p.sum ≤ S from ⟨by rw [hl]; exact h1, this.1, this.2, h2, h3, h.s64⟩
  rcases three (c := c) (by omega) with ⟨a, rfl⟩ | ⟨a, b, rfl⟩ | ⟨a, b, d, rfl⟩ <;>
  rcases three (c := p) (by omega) with ⟨a', rfl⟩ | ⟨a', b', rfl⟩ | ⟨a', b', d', rfl⟩ <;>
  first
  | (simp at hl; done)
  | (simp [nth, rng, List.range, List.range.loop, partOk] at hp h4 h5 ⊢; omega)
def canD : Nat → List Int → Option (List Int)
  | 0, c => if c.sum ≤ 1 then some [] else none
  | k + 1, c => if c.sum ≤ 1 then some [] else (allP c).find? fun p => (canD k p).isSome && (canD k (behindN c p)).isSome
def lawD : Nat → List Int → Bool
  | 0, c => decide (c.sum ≤ 1)
  | k + 1, c => decide (c.sum ≤ 1) || (allP c).any fun p => lawD k p && lawD k (behindN c p)
theorem canD_law : ∀ (k : Nat) (c : List Int), (canD k c).isSome = lawD k c
  | 0, c => by
    show (if c.sum ≤ 1 then some [] else none : Option (List Int)).isSome = decide (c.sum ≤ 1)
    by_cases h : c.sum ≤ 1
    · rw [if_pos h, decide_eq_true h]; rfl
    · rw [if_neg h, decide_eq_false h]; rfl
  | k + 1, c => by
    show (if c.sum ≤ 1 then some [] else (allP c).find? fun p => (canD k p).isSome && (canD k (behindN c p)).isSome : Option (List Int)).isSome = (decide (c.sum ≤ 1) || (allP c).any fun p => lawD k p && lawD k (behindN c p))
    by_cases h : c.sum ≤ 1
    · rw [if_pos h, decide_eq_true h]; rfl
    · rw [if_neg h, decide_eq_false h, Bool.false_or]
      have e : (fun p => (canD k p).isSome && (canD k (behindN c p)).isSome) = fun p => lawD k p && lawD k (behindN c p) := by
        funext p
        rw [canD_law k, canD_law k]
      rw [e, Bool.eq_iff_iff, List.find?_isSome, List.any_eq_true]
theorem lawD_succ {k : Nat} {c : List Int} (h : lawD (k + 1) c = true) : c.sum ≤ 1 ∨ ∃ p, partOk c p = true ∧ lawD k p = true ∧ lawD k (behindN c p) = true := by
  have h : (decide (c.sum ≤ 1) || (allP c).any fun p => lawD k p && lawD k (behindN c p)) = true := h
  rw [Bool.or_eq_true, decide_eq_true_eq, List.any_eq_true] at h
  rcases h with h | ⟨p, hp, h⟩
  · exact .inl h
  · rw [Bool.and_eq_true] at h
    exact .inr ⟨p, partP_ok.mp ((mem_allP c p).mp hp), h.1, h.2⟩
theorem lawD_lo {c : List Int} (h : c.sum ≤ 1) : ∀ k, lawD k c = true
  | 0 => decide_eq_true h
  | k + 1 => by
    show (decide (c.sum ≤ 1) || _) = true
    rw [decide_eq_true h]; rfl
theorem lawD_of {k : Nat} {c p : List Int} (hp : partOk c p = true) (h1 : lawD k p = true) (h2 : lawD k (behindN c p) = true) : lawD (k + 1) c = true := by
  show (decide (c.sum ≤ 1) || (allP c).any fun p => lawD k p && lawD k (behindN c p)) = true
  rw [Bool.or_eq_true, List.any_eq_true]
  exact .inr ⟨p, (mem_allP c p).mpr (partP_ok.mpr hp), by rw [h1, h2]; rfl⟩
theorem lawD_mono : ∀ (k : Nat) {c : List Int}, lawD k c = true → lawD (k + 1) c = true
  | 0, c, h => lawD_lo (of_decide_eq_true h) 1
  | k + 1, c, h => by
    rcases lawD_succ h with h1 | ⟨p, hp, a, b⟩
    · exact lawD_lo h1 _
    · exact lawD_of hp (lawD_mono k a) (lawD_mono k b)
theorem lawD_le {k : Nat} {c : List Int} (h : lawD k c = true) : ∀ d, lawD (k + d) c = true
  | 0 => h
  | d + 1 => lawD_mono _ (lawD_le h d)
/-- fewer things are done as well -/
theorem lawD_dom {S : Int} {n : Nat} : ∀ (k : Nat) {c d : List Int}, GC S n d → partOk d c = true → lawD k d = true → lawD k c = true
  | 0, c, d, h, hc, hd => by
    have hd : d.sum ≤ 1 := of_decide_eq_true hd
    refine decide_eq_true ?_
    have hl := partOk_len hc
    have h1 := h.len; have h2 := h.n1; have h3 := h.n3; have h5 := h.nn
    rcases three (c := d) (by omega) with ⟨a, rfl⟩ | ⟨a, b, rfl⟩ | ⟨a, b, e, rfl⟩ <;>
    rcases three (c := c) (by omega) with ⟨a', rfl⟩ | ⟨a', b', rfl⟩ | ⟨a', b', d', rfl⟩ <;>
    first
    | (simp at hl; done)
    | (simp [nth, rng, List.range, List.range.loop, partOk] at hc hd h5 ⊢; omega)
  | k + 1, c, d, h, hc, hd => by
    rcases lawD_succ hd with h1 | ⟨p, hp, a, b⟩
    · exact lawD_lo (of_decide_eq_true (lawD_dom 0 h hc (decide_eq_true h1))) _
    · obtain ⟨g1, g2⟩ := h.behind hp
      have gp := h.part hp
      have key : ∃ q, partOk c q = true ∧ partOk p q = true ∧ partOk (behindN d p) (behindN c q) = true := by
        have hl := partOk_len hc
        have hl2 := partOk_len hp
        have h1 := h.len; have h2 := h.n1; have h3 := h.n3; have h5 := h.nn
        rcases three (c := d) (by omega) with ⟨a, rfl⟩ | ⟨a, b, rfl⟩ | ⟨a, b, e, rfl⟩ <;>
        rcases three (c := c) (by omega) with ⟨a', rfl⟩ | ⟨a', b', rfl⟩ | ⟨a', b', d', rfl⟩ <;>
        first
        | (simp at hl; done)
        | (rcases three (c := p) (by omega) with ⟨x, rfl⟩ | ⟨x, y, rfl⟩ | ⟨x, y, z, rfl⟩ <;>
          first
          | (simp at hl2; done)
          | (refine ⟨[min x a'], ?_⟩; simp [behindN, restV, nth, rng, List.range, List.range.loop, partOk] at hc hp h5 ⊢; omega)
          | (refine ⟨[min x a', min y b'], ?_⟩; simp [behindN, restV, nth, rng, List.range, List.range.loop, partOk] at hc hp h5 ⊢; omega)
          | (refine ⟨[min x a', min y b', min z d'], ?_⟩; simp [behindN, restV, nth, rng, List.range, List.range.loop, partOk] at hc hp h5 ⊢; omega))
      obtain ⟨q, q1, q2, q3⟩ := key
      exact lawD_of q1 (lawD_dom k gp q2 a) (lawD_dom k g2 q3 b)
theorem part_Y {S : Int} {n : Nat} {c p : List Int} (h : GC S n c) (hp : partOk c p = true) : partOk (behindY c p) p = true := by
  have hl := partOk_len hp
  have h1 := h.len; have h2 := h.n1; have h3 := h.n3
  rcases three (c := c) (by omega) with ⟨a, rfl⟩ | ⟨a, b, rfl⟩ | ⟨a, b, d, rfl⟩ <;>
  rcases three (c := p) (by omega) with ⟨a', rfl⟩ | ⟨a', b', rfl⟩ | ⟨a', b', d', rfl⟩ <;>
  first
  | (simp at hl; done)
  | (simp [behindY, restV, nth, rng, List.range, List.range.loop, partOk] at hp ⊢; omega)
/-- what can be done where both can be lied to can be done where only yes can -/
theorem lawD_of_lawC {S : Int} {n : Nat} : ∀ (k : Nat) {c : List Int}, GC S n c → lawC k c = true → lawD k c = true
  | 0, c, h, hl => hl
  | k + 1, c, h, hl => by
    have hl : (decide (c.sum ≤ 1) || (allP c).any fun p => lawC k (behindY c p) && lawC k (behindN c p)) = true := hl
    rw [Bool.or_eq_true, decide_eq_true_eq, List.any_eq_true] at hl
    rcases hl with h1 | ⟨p, hp, hl⟩
    · exact lawD_lo h1 _
    · rw [Bool.and_eq_true] at hl
      have pok := partP_ok.mp ((mem_allP c p).mp hp)
      obtain ⟨g1, g2⟩ := h.behind pok
      exact lawD_of pok (lawD_dom k g1 (part_Y h pok) (lawD_of_lawC k g1 hl.1)) (lawD_of_lawC k g2 hl.2)
def leastD (c : List Int) : Nat := ((List.range 61).find? fun k => lawD k c).getD 0
theorem leastD_spec {S : Int} {n : Nat} {c : List Int} (h : GC S n c) : lawD (leastD c) c = true ∧ (∀ k, lawD k c = true ↔ leastD c ≤ k) ∧ leastD c ≤ leastC c ∧ leastC c ≤ 36 := by
  obtain ⟨s1, s2, s3, s4⟩ := leastC_spec h
  have l36 : leastC c ≤ 36 := by
    have a1 := h.sum; have n1 := h.n1; have n3 := h.n3; have s := h.s64
    have hn : n = 1 ∨ n = 2 ∨ n = 3 := by omega
    rcases hn with e | e | e <;> rw [e] at s4 <;> omega
  have hd := lawD_of_lawC _ h s1
  have ex : ((List.range 61).find? fun k => lawD k c).isSome = true := List.find?_isSome.mpr ⟨leastC c, List.mem_range.mpr (by omega), hd⟩
  obtain ⟨j, hj⟩ := Option.isSome_iff_exists.mp ex
  have ej : leastD c = j := by unfold leastD; rw [hj]; rfl
  have p1 : lawD j c = true := by
    have := List.find?_some (p := fun k => lawD k c) hj
    exact this
  obtain ⟨_, as, bs, e, hn⟩ := List.find?_eq_some_iff_append.mp hj
  have lo : ∀ k, lawD k c = true → j ≤ k := fun k hk => by
    by_cases hjk : j ≤ k
    · exact hjk
    exfalso
    have hk61 : k < 61 := by
      have := List.mem_range.mp (List.mem_of_find?_eq_some hj)
      omega
    have lj : j = as.length := by
      have h1 : (List.range 61)[as.length]? = some j := by rw [e]; simp
      have h2 : as.length < 61 := by have := congrArg List.length e; simp at this; omega
      rw [List.getElem?_range h2] at h1
      exact (Option.some.inj h1).symm
    have hmem : k ∈ as := by
      have h1 : (List.range 61)[k]? = some k := List.getElem?_range hk61
      rw [e, List.getElem?_append_left (by omega)] at h1
      exact List.mem_of_getElem? h1
    have := hn k hmem
    rw [hk] at this
    simp at this
  rw [ej]
  refine ⟨p1, fun k => ⟨lo k, fun hk => ?_⟩, lo _ hd, l36⟩
  have := lawD_le p1 (k - j)
  rw [show j + (k - j) = k by omega] at this
  exact this
theorem leastD_lo {c : List Int} (h : c.sum ≤ 1) : leastD c = 0 := by
  unfold leastD
  have e : ((List.range 61).find? fun k => lawD k c) = some 0 := by
    rw [show List.range 61 = 0 :: (List.range 61).tail from rfl, List.find?_cons, lawD_lo h 0]
  rw [e]; rfl
/-! ### the law's way: the fewest by going through all -/
theorem phiN {S : Int} {n : Nat} {c p : List Int} (h : GC S n c) (hp : partOk c p = true) : phi (behindN c p) + p.sum = phi c := by
  have hl := partOk_len hp
  have h1 := h.len; have h2 := h.n1; have h3 := h.n3
  rcases three (c := c) (by omega) with ⟨a, rfl⟩ | ⟨a, b, rfl⟩ | ⟨a, b, d, rfl⟩ <;>
  rcases three (c := p) (by omega) with ⟨a', rfl⟩ | ⟨a', b', rfl⟩ | ⟨a', b', d', rfl⟩ <;>
  first
  | (simp at hl; done)
  | (simp [phi, behindN, restV, nth, rng, List.range, List.range.loop]; done)
  | (simp [phi, behindN, restV, nth, rng, List.range, List.range.loop]; omega)
theorem part_eq {S : Int} {n : Nat} {c p : List Int} (h : GC S n c) (hp : partOk c p = true) : (p ≠ c → phi p + 1 ≤ phi c) ∧ (behindN c p ≠ c → phi (behindN c p) + 1 ≤ phi c) := by
  have hl := partOk_len hp
  have h1 := h.len; have h2 := h.n1; have h3 := h.n3; have h5 := h.nn
  rcases three (c := c) (by omega) with ⟨a, rfl⟩ | ⟨a, b, rfl⟩ | ⟨a, b, d, rfl⟩ <;>
  rcases three (c := p) (by omega) with ⟨a', rfl⟩ | ⟨a', b', rfl⟩ | ⟨a', b', d', rfl⟩ <;>
  first
  | (simp at hl; done)
  | (simp [phi, behindN, restV, nth, rng, List.range, List.range.loop, partOk] at hp h5 ⊢; omega)
def valD (c p : List Int) : Option Int := if p ≠ c ∧ behindN c p ≠ c then some (1 + max (leastD p : Int) (leastD (behindN c p))) else none
def stepM {α : Type} (f : α → Option Int) (s : Option Int) (x : α) : Option Int := match f x with
  | none => s
  | some v => match s with
    | none => some v
    | some b => if v < b then some v else some b
theorem stepM_spec {α : Type} (f : α → Option Int) : ∀ (l : List α) (s : Option Int), (∀ b, l.foldl (stepM f) s = some b → s = some b ∨ ∃ x ∈ l, f x = some b) ∧ ∀ v, (s = some v ∨ ∃ x ∈ l, f x = some v) → ∃ b, l.foldl (stepM f) s = some b ∧ b ≤ v
  | [], s => ⟨fun b h => .inl h, fun v h => by
    rcases h with h | ⟨x, hx, _⟩
    · exact ⟨v, h, Int.le_refl _⟩
    · exact (List.not_mem_nil hx).elim⟩
  | x :: l, s => by
    obtain ⟨i1, i2⟩ := stepM_spec f l (stepM f s x)
    refine ⟨fun b hb => ?_, fun v hv => ?_⟩
    · rcases i1 b hb with h | ⟨y, hy, h⟩
      · unfold stepM at h
        cases e : f x with
        | none => rw [e] at h; exact .inl h
        | some w =>
          rw [e] at h
          cases s with
          | none => exact .inr ⟨x, List.mem_cons_self, by rw [e]; exact h⟩
          | some z =>
            by_cases c : w < z
            · simp only [if_pos c] at h; exact .inr ⟨x, List.mem_cons_self, by rw [e]; exact h⟩
            · simp only [if_neg c] at h; exact .inl h
      · exact .inr ⟨y, List.mem_cons_of_mem _ hy, h⟩
    · have key : ∃ w, w ≤ v ∧ (stepM f s x = some w ∨ ∃ y ∈ l, f y = some w) := by
        rcases hv with rfl | ⟨y, hy, h⟩
        · unfold stepM
          cases e : f x with
          | none => exact ⟨v, Int.le_refl _, .inl rfl⟩
          | some w =>
            by_cases c : w < v
            · exact ⟨w, by omega, .inl (by simp only [if_pos c])⟩
            · exact ⟨v, Int.le_refl _, .inl (by simp only [if_neg c])⟩
        · rcases List.mem_cons.mp hy with rfl | hy
          · unfold stepM
            rw [h]
            cases s with
            | none => exact ⟨v, Int.le_refl _, .inl rfl⟩
            | some z =>
              by_cases c : v < z
              · exact ⟨v, Int.le_refl _, .inl (by simp only [if_pos c])⟩
              · exact ⟨z, by omega, .inl (by simp only [if_neg c])⟩
          · exact ⟨v, Int.le_refl _, .inr ⟨y, hy, h⟩⟩
      obtain ⟨w, hw, h⟩ := key
      obtain ⟨b, hb, hl⟩ := i2 w h
      exact ⟨b, hb, by omega⟩
theorem fewest_all {S : Int} {n : Nat} {c : List Int} (h : GC S n c) (hs : 2 ≤ c.sum) : (allP c).foldl (stepM (valD c)) none = some (leastD c : Int) := by
  obtain ⟨s1, s2, s3, s4⟩ := leastD_spec h
  obtain ⟨i1, i2⟩ := stepM_spec (valD c) (allP c) none
  have up : ∀ p ∈ allP c, ∀ v, valD c p = some v → (leastD c : Int) ≤ v := fun p hp v hv => by
    have pok := partP_ok.mp ((mem_allP c p).mp hp)
    unfold valD at hv
    by_cases hc : p ≠ c ∧ behindN c p ≠ c
    · rw [if_pos hc] at hv
      have hv := Option.some.inj hv
      obtain ⟨a1, a2, _⟩ := leastD_spec (h.part pok)
      obtain ⟨b1, b2, _⟩ := leastD_spec (h.behind pok).2
      have := (s2 (max (leastD p) (leastD (behindN c p)) + 1)).mp (lawD_of pok ((a2 _).mpr (Nat.le_max_left _ _)) ((b2 _).mpr (Nat.le_max_right _ _)))
      omega
    · rw [if_neg hc] at hv; cases hv
  have ex : ∃ p ∈ allP c, ∃ v, valD c p = some v ∧ v ≤ (leastD c : Int) := by
    obtain ⟨k, ek⟩ : ∃ k, leastD c = k + 1 := by
      cases e : leastD c with
      | zero =>
        rw [e] at s1
        have : c.sum ≤ 1 := of_decide_eq_true s1
        omega
      | succ k => exact ⟨k, rfl⟩
    rw [ek] at s1
    rcases lawD_succ s1 with h1 | ⟨p, hp, a, b⟩
    · omega
    · have no : ¬ lawD k c = true := fun z => by have := (s2 k).mp z; omega
      have n1 : p ≠ c := fun z => no (z ▸ a)
      have n2 : behindN c p ≠ c := fun z => no (by rw [z] at b; exact b)
      have a2 := (leastD_spec (h.part hp)).2.1
      have b2 := (leastD_spec (h.behind hp).2).2.1
      have e1 := (a2 k).mp a
      have e2 := (b2 k).mp b
      exact ⟨p, (mem_allP c p).mpr (partP_ok.mpr hp), _, by unfold valD; rw [if_pos ⟨n1, n2⟩], by rw [ek]; omega⟩
  obtain ⟨p, hp, v, hv, hle⟩ := ex
  obtain ⟨b, hb, hbv⟩ := i2 v (.inr ⟨p, hp, hv⟩)
  rw [hb]
  rcases i1 b hb with z | ⟨x, hx, hxb⟩
  · cases z
  · have := up x hx b hxb
    congr 1
    omega
/-! ### plans -/
theorem canD_nil {S : Int} {n k : Nat} {c p : List Int} (h : GC S n c) (hc : canD k c = some p) : (p = [] ↔ c.sum ≤ 1) ∧ (¬ c.sum ≤ 1 → ∃ j, k = j + 1 ∧ partOk c p = true ∧ (canD j p).isSome = true ∧ (canD j (behindN c p)).isSome = true) := by
  cases k with
  | zero =>
    have hc : (if c.sum ≤ 1 then some [] else none) = some p := hc
    by_cases hs : c.sum ≤ 1
    · rw [if_pos hs] at hc; cases hc; exact ⟨⟨fun _ => hs, fun _ => rfl⟩, fun z => absurd hs z⟩
    · rw [if_neg hs] at hc; cases hc
  | succ j =>
    have hc : (if c.sum ≤ 1 then some [] else (allP c).find? fun p => (canD j p).isSome && (canD j (behindN c p)).isSome) = some p := hc
    by_cases hs : c.sum ≤ 1
    · rw [if_pos hs] at hc; cases hc; exact ⟨⟨fun _ => hs, fun _ => rfl⟩, fun z => absurd hs z⟩
    · rw [if_neg hs] at hc
      have h1 := List.mem_of_find?_eq_some hc
      have h2 := List.find?_some hc
      have p1 := partP_ok.mp ((mem_allP c p).mp h1)
      rw [Bool.and_eq_true] at h2
      refine ⟨⟨fun e => ?_, fun z => absurd z hs⟩, fun _ => ⟨j, rfl, p1, h2.1, h2.2⟩⟩
      have := partOk_len p1
      have := h.len
      have := h.n1
      rw [e] at *
      simp at *
      omega
def planD : Nat → List Int → Pl
  | 0, _ => .nil
  | k + 1, c => match canD (k + 1) c with
    | none => .nil
    | some p => if p = [] then .nil else .node p (planD k p) (planD k (behindN c p))
/-- what a plan does where only yes can be lied to -/
def doesD : Pl → List Int → Int → Bool
  | .nil, c, _ => decide (c.sum ≤ 1)
  | .node p y n, c, m => !decide (m = 0) && (partOk c p && (doesD y p (m - 1) && doesD n (behindN c p) (m - 1)))
  | .odd _, _, _ => false
theorem planD_good {S : Int} {n : Nat} : ∀ (k : Nat) {c : List Int}, GC S n c → (canD k c).isSome = true → (planD k c).Wide n ∧ (planD k c).ht ≤ k ∧ ∀ m : Int, (k : Int) ≤ m → doesD (planD k c) c m = true
  | 0, c, h, hs => ⟨trivial, Nat.le_refl _, fun m _ => by
    rw [canD_law] at hs
    exact hs⟩
  | k + 1, c, h, hs => by
    obtain ⟨p, hp⟩ := Option.isSome_iff_exists.mp hs
    obtain ⟨n1, n2⟩ := canD_nil h hp
    have e : planD (k + 1) c = if p = [] then .nil else .node p (planD k p) (planD k (behindN c p)) := by
      show (match canD (k + 1) c with | none => Pl.nil | some p => _) = _
      rw [hp]
    rw [e]
    by_cases hn : p = []
    · rw [if_pos hn]
      exact ⟨trivial, Nat.zero_le _, fun m _ => decide_eq_true (n1.mp hn)⟩
    · rw [if_neg hn]
      obtain ⟨j, ej, pok, s1, s2⟩ := n2 fun z => hn (n1.mpr z)
      have ej : j = k := by omega
      subst ej
      have g1 := h.part pok
      have g2 := (h.behind pok).2
      obtain ⟨a1, a2, a3⟩ := planD_good j g1 s1
      obtain ⟨b1, b2, b3⟩ := planD_good j g2 s2
      refine ⟨⟨by rw [partOk_len pok]; exact h.len, a1, b1⟩, ?_, fun m hm => ?_⟩
      · show 1 + max _ _ ≤ j + 1
        omega
      · show (!decide (m = 0) && (partOk c p && (doesD _ _ (m - 1) && doesD _ _ (m - 1)))) = true
        rw [decide_eq_false (by omega), pok, a3 (m - 1) (by omega), b3 (m - 1) (by omega)]; rfl
/-! ### what the denier keeps -/
def JD (n : Nat) (kvs : List (NestedKey × DV)) : Prop := KeysIn (uW n) kvs ∧ ∀ c k d, valK kvs (wkey c k) = some d → d = .d (oDW (canD k c))
theorem JD_nil (n : Nat) : JD n [] := ⟨KeysIn.nil, fun c k d h => by cases h⟩
theorem JD.put {S : Int} {n : Nat} {kvs : List (NestedKey × DV)} (h : JD n kvs) {c : List Int} {k : Nat} (ok : GC S n c) (hk : k ≤ 61) : JD n (putKD kvs (wkey c k) (.d (oDW (canD k c)))) := by
  refine ⟨h.1.put (mem_uW ok hk), fun c' k' d hd => ?_⟩
  rw [valK_put] at hd
  by_cases e : wkey c' k' = wkey c k
  · rw [if_pos e] at hd
    obtain ⟨rfl, rfl⟩ := wkey_inj e
    exact (Option.some.inj hd).symm
  · rw [if_neg e] at hd
    exact h.2 c' k' d hd
theorem JD.len {n : Nat} {kvs : List (NestedKey × DV)} (h : JD n kvs) (n3 : n ≤ 3) : kvs.length ≤ 1000000 := Nat.le_trans h.1.len (uW_len n3)
abbrev cDen (g : Gv) : Addr := cAt g "Denier"
structure DenIn (g : Gv) (A : AH) (l : Addr) (n : Nat) : Prop where
  ex : ∃ lk, A l = some (aoI (cDen g) (fsW lk)) ∧ A lk = some (aoKI g.P g.w (JD n)) ∧ l ≠ lk
theorem DenIn.ext {g : Gv} {A A1 : AH} {l : Addr} {n : Nat} (h : DenIn g A l n) (x : ExtA A A1) : DenIn g A1 l n := by
  obtain ⟨lk, a, b, c⟩ := h.ex
  exact ⟨lk, x _ _ a, x _ _ b, c⟩
def sp_dinit (g : Gv) : ASp := fun ds A Q _ => ∃ l : Addr, ds = [.r l] ∧ A l = some (aoI (cDen g) []) ∧ ∀ lk, A lk = none → Q (.d .none) (updA (updA A lk (aoK g.P g.w [])) l (aoI (cDen g) (fsW lk)))
def sp_dcan (K : Nat) (g : Gv) : ASp := pSpA g.ea fun A ds o => ∃ (l : Addr) (S : Int) (n : Nat) (c : List Int) (k : Nat), ds = [.r l, .d (tI c), .d (.int k)] ∧ DenIn g A l n ∧ GC S n c ∧ k ≤ K ∧ k ≤ 61 ∧ o = .ok (oDW (canD k c))
def sp_dfound (K : Nat) (g : Gv) : ASp := pSpA g.ea fun A ds o => ∃ (l : Addr) (S : Int) (n : Nat) (c : List Int) (k : Nat), ds = [.r l, .d (tI c), .d (.int ((k + 1 : Nat) : Int))] ∧ DenIn g A l n ∧ GC S n c ∧ k + 1 ≤ K ∧ k + 1 ≤ 61 ∧ ¬ c.sum ≤ 1 ∧ o = .ok (oDW (canD (k + 1) c))
def sp_dplan (K : Nat) (g : Gv) : ASp := pSpA g.ea fun A ds o => ∃ (l : Addr) (S : Int) (n : Nat) (c : List Int) (k : Nat), ds = [.r l, .d (tI c), .d (.int k)] ∧ DenIn g A l n ∧ GC S n c ∧ k ≤ K ∧ k ≤ 61 ∧ (canD k c).isSome = true ∧ o = .ok (plD (planD k c))
def sp_allp (ea : Err → Addr) : ASp := pSp ea fun ds o => ∃ (S : Int) (n : Nat) (c : List Int), ds = [.d (tI c)] ∧ GC S n c ∧ o = .ok (lLI (allP c))
def sp_leastD (ea : Err → Addr) : ASp := pSp ea fun ds o => ∃ c : List Int, ds = [.d (tI c)] ∧ c.length ≤ 1000 ∧ o = (lookSmall c).map fun _ => .int (leastD c)
def planM (c : List Int) (m : Int) : Except Err PyData := (lookSmall c).bind fun _ => (lookQs m).map fun _ => if decide ((leastD c : Int) ≤ m) = true then plD (planD (leastD c) c) else .none
def sp_plan_denied (ea : Err → Addr) : ASp := pSp ea fun ds o => ∃ (c : List Int) (m : Int), ds = [.d (tI c), .d (.int m)] ∧ c.length ≤ 1000 ∧ o = planM c m
def showsD (c : List Int) (pl : Pl) (m : Int) : Except Err PyData := (lookCounts c).bind fun _ => (lookQs m).bind fun _ => (lookPlan 0 pl).map fun _ => .bool (doesD pl c m)
def sp_does_denied (f : Nat) (ea : Err → Addr) : ASp := pSp ea fun ds o => ∃ (S : Int) (n : Nat) (c : List Int) (pl : Pl) (m : Int), ds = [.d (tI c), .d (plD pl), .d (.int m)] ∧ GC S n c ∧ pl.Good ∧ pl.ht ≤ f ∧ pl.ht ≤ 61 ∧ o = .ok (.bool (doesD pl c m))
def sp_shows_denied (ea : Err → Addr) : ASp := pSp ea fun ds o => ∃ (c : List Int) (pl : Pl) (m : Int), ds = [.d (tI c), .d (plD pl), .d (.int m)] ∧ pl.Ok ∧ (goodC c = true → ∃ S n, GC S n c) ∧ o = showsD c pl m
end LB

/-! Mirrors 20: what the law of denied lies reckons (k53). -/
namespace LB
open PySem PySem.Spec PyProof.Rows L2
theorem ckey_inj {c d : List Int} (h : ckey c = ckey d) : c = d := by
  unfold ckey at h
  exact num_inj (NestedKey.tup.inj h)
theorem ckey_depth (c : List Int) : (ckey c).depth ≤ 8 := by
  have : (ckey c).depth = 1 + NestedKey.depthAll (c.map .num) := by
    unfold ckey NestedKey.depth
    first | rfl | omega
  rw [this, depth_ints]; omega
def uF (n : Nat) : List NestedKey := (allC n).map ckey
theorem uF_len {n : Nat} (n3 : n ≤ 3) : (uF n).length ≤ 1000000 := by
  unfold uF
  rw [List.length_map, allC_len]
  have : 13 ^ n ≤ 13 ^ 3 := Nat.pow_le_pow_right (by decide) n3
  have e : (13 : Nat) ^ 3 = 2197 := rfl
  omega
theorem mem_uF {S : Int} {n : Nat} {c : List Int} (h : GC S n c) : ckey c ∈ uF n := List.mem_map.mpr ⟨c, mem_allC h.len fun x hx => h.le hx, rfl⟩
def JF (n : Nat) (kvs : List (NestedKey × DV)) : Prop := KeysIn (uF n) kvs ∧ ∀ c d, valK kvs (ckey c) = some d → d = .d (.int (leastD c))
theorem JF_nil (n : Nat) : JF n [] := ⟨.nil, fun _ _ h => nomatch h⟩
theorem JF.put {S : Int} {n : Nat} {kvs : List (NestedKey × DV)} (h : JF n kvs) {c : List Int} (ok : GC S n c) : JF n (putKD kvs (ckey c) (.d (.int (leastD c)))) := by
  refine ⟨h.1.put (mem_uF ok), fun c' d hd => ?_⟩
  rw [valK_put] at hd
  by_cases e : ckey c' = ckey c
  · rw [if_pos e] at hd
    obtain rfl := ckey_inj e
    exact (Option.some.inj hd).symm
  · rw [if_neg e] at hd
    exact h.2 c' d hd
theorem JF.len {n : Nat} {kvs : List (NestedKey × DV)} (h : JF n kvs) (n3 : n ≤ 3) : kvs.length ≤ 1000000 := Nat.le_trans h.1.len (uF_len n3)
def sp_lfewD (d : Nat) (g : Gv) : ASp := pSpA g.ea fun A ds o => ∃ (S : Int) (n : Nat) (c : List Int) (ld : Addr), ds = [.d (tI c), .r ld] ∧ A ld = some (aoKI g.P g.w (JF n)) ∧ GC S n c ∧ phi c ≤ d ∧ o = .ok (.int (leastD c))
def lawDen (c p : List Int) : List Int := (rng 1 (c.length - 1)).foldl (fun s k => s.set k.toNat (nth s k + nth p (k - 1))) (restV c p)
theorem lawDen_eq {c p : List Int} (h : 1 ≤ c.length ∧ c.length ≤ 3) (hl : p.length = c.length) : lawDen c p = behindN c p := by
  rcases three (c := c) (by omega) with ⟨a, rfl⟩ | ⟨a, b, rfl⟩ | ⟨a, b, d, rfl⟩ <;>
  rcases three (c := p) (by omega) with ⟨a', rfl⟩ | ⟨a', b', rfl⟩ | ⟨a', b', d', rfl⟩ <;>
  first
  | (simp at hl; done)
  | (simp [lawDen, behindN, restV, nth, rng, List.range, List.range.loop]; done)
  | (simp [lawDen, behindN, restV, nth, rng, List.range, List.range.loop]; omega)
theorem restV_len (c p : List Int) : (restV c p).length = c.length := by unfold restV; rw [List.length_map, rng_length]
def sp_ldenied (ea : Err → Addr) : ASp := pSp ea fun ds o => ∃ c p : List Int, ds = [.d (tI c), .d (tI p)] ∧ p.length = c.length ∧ 1 ≤ c.length ∧ c.length ≤ 3 ∧ o = .ok (dPair (p, behindN c p))
/-- all parts fit -/
def Pl.Fits : Pl → List Int → Prop
  | .nil, _ => True
  | .node p y z, c => partOk c p = true ∧ y.Fits p ∧ z.Fits (behindN c p)
  | .odd _, _ => False
def doesL : Pl → List Int → Int → Bool
  | .nil, c, _ => decide (c.sum < 2)
  | .node p y z, c, m => decide (m > 0) && (doesL y p (m - 1) && doesL z (behindN c p) (m - 1))
  | .odd _, _, _ => false
theorem doesL_of : ∀ {pl : Pl} {c : List Int} {m : Int}, doesD pl c m = true → 0 ≤ m → pl.Fits c ∧ doesL pl c m = true
  | .nil, c, m, h, _ => ⟨trivial, decide_eq_true (by have : c.sum ≤ 1 := of_decide_eq_true h; omega)⟩
  | .odd _, _, _, h, _ => by cases h
  | .node p y z, c, m, h, h0 => by
    have h : (!decide (m = 0) && (partOk c p && (doesD y p (m - 1) && doesD z (behindN c p) (m - 1)))) = true := h
    rw [Bool.and_eq_true, Bool.and_eq_true, Bool.and_eq_true] at h
    have hm : m ≠ 0 := fun z => by rw [z] at h; simp at h
    obtain ⟨a1, a2⟩ := doesL_of h.2.2.1 (by omega)
    obtain ⟨b1, b2⟩ := doesL_of h.2.2.2 (by omega)
    refine ⟨⟨h.2.1, a1, b1⟩, ?_⟩
    show (decide (m > 0) && (doesL y p (m - 1) && doesL z (behindN c p) (m - 1))) = true
    rw [decide_eq_true (by omega : m > 0), a2, b2]; rfl
def sp_ldoes (f : Nat) (ea : Err → Addr) : ASp := pSp ea fun ds o => ∃ (S : Int) (n : Nat) (c : List Int) (pl : Pl) (m : Int), ds = [.d (tI c), .d (plD pl), .d (.int m)] ∧ GC S n c ∧ pl.Good ∧ pl.Fits c ∧ pl.ht ≤ f ∧ pl.ht ≤ 61 ∧ o = .ok (.bool (doesL pl c m))
/-- what is asked of the program -/
def Ask53 (ds : List DV) (o : Except Err PyData) : Prop := (∃ c p : List Int, ds = [.d (.int 0), .d (tI c), .d (tI p)] ∧ o = (deniedM c p).map dPair) ∨ (∃ (c : List Int) (x : PyData), ds = [.d (.int 1), .d (tI c), .d x] ∧ c.length ≤ 1000 ∧ o = (lookSmall c).map fun _ => .int (leastD c)) ∨ ∃ (c : List Int) (m : Int), ds = [.d (.int 2), .d (tI c), .d (.int m)] ∧ c.length ≤ 1000 ∧ o = planM c m
theorem ce_small (c : List Int) : CE (lookSmall c) := fun e h => by
  unfold lookSmall at h
  by_cases h1 : goodS c = true
  · rw [if_pos h1] at h; cases h
  · rw [if_neg h1] at h; cases h; rfl
theorem ask_ce {ds : List DV} {o : Except Err PyData} (h : Ask53 ds o) : CE o := by
  rcases h with ⟨c, p, _, rfl⟩ | ⟨c, x, _, _, rfl⟩ | ⟨c, m, _, _, rfl⟩
  · refine CE.map (CE.bind (ce_look c) fun _ => fun e h => ?_)
    by_cases h1 : partOk c p = true
    · rw [if_pos h1] at h; cases h
    · rw [if_neg h1] at h; cases h; rfl
  · exact CE.map (ce_small c)
  · exact CE.bind (ce_small c) fun _ => CE.map (ce_qs m)
def sp_told53 (ea : Err → Addr) : ASp := pSp ea fun ds o => ∃ o', Ask53 ds o' ∧ o = .ok (toldD o' "counts")
theorem planM_ok {S : Int} {n : Nat} {c : List Int} {m : Int} (h : GC S n c) (h0 : 0 ≤ m) (h1 : m ≤ 60) : planM c m = .ok (if decide ((leastD c : Int) ≤ m) = true then plD (planD (leastD c) c) else .none) := by
  have gq : goodQ m = true := by unfold goodQ; simp; omega
  have e : lookQs m = .ok () := by unfold lookQs; rw [if_pos gq]
  have e2 : lookSmall c = .ok () := by unfold lookSmall; rw [if_pos h.small]
  unfold planM
  rw [e, e2]; rfl
end LB

/-! Mirrors 8: games. -/
namespace LB
open PySem PySem.Spec PyProof.Rows L2
abbrev QA := List Int × Bool
def dQA (p : QA) : PyData := .tuple [lI p.1, .bool p.2]
def lQA (row : List QA) : PyData := .list (row.map dQA)
def lieP (t : Int) (p : QA) : Bool := !decide (decide (t ∈ p.1) = p.2)
def liedR (row : List QA) (t : Int) : Int := (row.filter (lieP t)).length
def toldV (n : Int) (row : List QA) : List Int := (rng 0 n.toNat).map (liedR row)
theorem toldV_len (n : Int) (row : List QA) : (toldV n row).length = n.toNat := by unfold toldV; rw [List.length_map, rng_length]
theorem liedR_0 (row : List QA) (t : Int) : 0 ≤ liedR row t := by unfold liedR; omega
theorem liedR_le (row : List QA) (t : Int) : liedR row t ≤ row.length := by unfold liedR; have := List.length_filter_le (lieP t) row; omega
theorem liedR_snoc (row : List QA) (p : QA) (t : Int) : liedR (row ++ [p]) t = liedR row t + if lieP t p = true then 1 else 0 := by
  unfold liedR
  rw [List.filter_append, List.length_append, Int.natCast_add]
  by_cases h : lieP t p = true
  · rw [if_pos h]; simp [h]
  · rw [if_neg h]; simp [h]
theorem nth_told {n : Int} {row : List QA} {t : Int} (h0 : 0 ≤ t) (h1 : t < n) : nth (toldV n row) t = liedR row t := by
  unfold toldV nth
  rw [List.getD_eq_getElem?_getD, List.getElem?_map, rng_get (by omega : t.toNat < n.toNat), Option.map_some, Option.getD_some]
  congr 1; omega
/-- some places of a row changed by a number -/
def bump (d : Int) (pr : Int → Bool) (s : List Int) (t : Int) : List Int := if pr t = true then s.set t.toNat (nth s t + d) else s
theorem bump_fold (d : Int) (pr : Int → Bool) (f : Int → Int) (N : Nat) : ∀ i : Nat, i ≤ N → (rng 0 i).foldl (bump d pr) ((rng 0 N).map f) = (rng 0 N).map fun t : Int => if t < (i : Int) ∧ pr t = true then f t + d else f t := by
  intro i
  induction i with
  | zero =>
    intro _
    show (rng 0 N).map f = _
    refine List.map_congr_left fun t ht => ?_
    have := mem_rng.mp ht
    rw [if_neg (by omega)]
  | succ i ih =>
    intro hi
    rw [rng_succ, List.foldl_append, ih (by omega), Int.zero_add]
    show bump d pr _ (i : Int) = _
    unfold bump
    refine List.ext_getElem? fun j => ?_
    have gi : ∀ j : Nat, j < N → (rng 0 N)[j]? = some (j : Int) := fun j hj => by rw [rng_get hj, Int.zero_add]
    by_cases hj : j < N
    · by_cases hp : pr (i : Int) = true
      · rw [if_pos hp, Int.toNat_natCast]
        by_cases e : j = i
        · subst e
          rw [List.getElem?_set_self (by rw [List.length_map, rng_length]; exact hj), List.getElem?_map, gi j hj, Option.map_some]
          have : nth ((rng 0 N).map fun t => if t < (j : Int) ∧ pr t = true then f t + d else f t) (j : Int) = f j := by
            unfold nth
            rw [List.getD_eq_getElem?_getD, Int.toNat_natCast, List.getElem?_map, gi j hj, Option.map_some, Option.getD_some, if_neg (by omega)]
          rw [this, if_pos (by exact ⟨by omega, hp⟩)]
        · rw [List.getElem?_set_ne (by omega), List.getElem?_map, List.getElem?_map, gi j hj, Option.map_some, Option.map_some]
          by_cases h1 : (j : Int) < i ∧ pr j = true
          · rw [if_pos h1, if_pos ⟨by omega, h1.2⟩]
          · rw [if_neg h1, if_neg fun z => h1 ⟨by omega, z.2⟩]
      · rw [if_neg hp, List.getElem?_map, List.getElem?_map, gi j hj, Option.map_some, Option.map_some]
        by_cases h1 : (j : Int) < i ∧ pr j = true
        · rw [if_pos h1, if_pos ⟨by omega, h1.2⟩]
        · rw [if_neg h1, if_neg fun z => h1 ⟨by
            have : (j : Int) ≠ i := fun e => by rw [e] at z; exact hp z.2
            omega, z.2⟩]
    · rw [List.getElem?_eq_none (by split <;> simp [rng_length] <;> omega), List.getElem?_eq_none (by simp [rng_length]; omega)]
theorem bump_told (n : Int) (row : List QA) (p : QA) : (rng 0 n.toNat).foldl (bump 1 fun t => lieP t p) (toldV n row) = toldV n (row ++ [p]) := by
  unfold toldV
  rw [bump_fold 1 _ _ n.toNat n.toNat (Nat.le_refl _)]
  refine List.map_congr_left fun t ht => ?_
  have := mem_rng.mp ht
  rw [liedR_snoc]
  by_cases h : lieP t p = true
  · rw [if_pos ⟨by omega, h⟩, if_pos h]
  · rw [if_neg (fun z => h z.2), if_neg h, Int.add_zero]
theorem bump_back (n : Int) (row : List QA) (p : QA) : (rng 0 n.toNat).foldl (bump (-1) fun t => lieP t p) (toldV n (row ++ [p])) = toldV n row := by
  unfold toldV
  rw [bump_fold (-1) _ _ n.toNat n.toNat (Nat.le_refl _)]
  refine List.map_congr_left fun t ht => ?_
  have := mem_rng.mp ht
  rw [liedR_snoc]
  by_cases h : lieP t p = true
  · rw [if_pos ⟨by omega, h⟩, if_pos h]; omega
  · rw [if_neg (fun z => h z.2), if_neg h, Int.add_zero]
theorem bump_len (d : Int) (pr : Int → Bool) (s : List Int) (t : Int) : (bump d pr s t).length = s.length := by
  unfold bump; split
  · rw [List.length_set]
  · rfl
/-- whether some thing has no more lies than may be -/
def someLeft (n m : Int) (row : List QA) : Bool := (rng 0 n.toNat).any fun t => decide (liedR row t ≤ m)
theorem min_left {n m : Int} (h : 1 ≤ n) (row : List QA) : decide (m < minL (toldV n row)) = !someLeft n m row := by
  have hne : toldV n row ≠ [] := fun e => by have := congrArg List.length e; rw [toldV_len] at this; simp at this; omega
  obtain ⟨m1, m2⟩ := minL_spec (toldV n row) hne
  rw [Bool.eq_iff_iff, decide_eq_true_eq, Bool.not_eq_true']
  unfold someLeft
  rw [List.any_eq_false]
  constructor
  · intro k t ht
    have := m2 (liedR row t) (List.mem_map.mpr ⟨t, ht, rfl⟩)
    simp; omega
  · intro k
    obtain ⟨t, ht, e⟩ := List.mem_map.mp m1
    have := k t ht
    simp at this
    omega
def liesL (n m : Int) (row : List QA) : List PyData := (toldV n row).map fun k => if k ≤ m then .int k else .none
def leftV (n m : Int) (row : List QA) : List Int := (rng 0 n.toNat).filter fun t => decide (liedR row t ≤ m)
def gCounts (n m : Int) (row : List QA) : List Int := (rng 0 (m + 1).toNat).map fun k => ((toldV n row).count k : Int)
/-! a game as it is owned -/
def aoG (C : Addr) (n m : Int) (row : List QA) : AO := aoI C [("things", .v (.d (.int n))), ("most", .v (.d (.int m))), ("told", .o (oL ((toldV n row).map .int))), ("row", .o (oL (row.map dQA)))]
def fsG (n m : Int) (lt lr : Addr) : List (Str × FV) := [("things", .v (.d (.int n))), ("most", .v (.d (.int m))), ("told", .v (.r lt)), ("row", .v (.r lr))]
def aoG' (C : Addr) (n m : Int) (lt lr : Addr) : AO := aoI C (fsG n m lt lr)
structure GOpen (A A1 : AH) (C l lt lr : Addr) (n m : Int) (row : List QA) : Prop where
  gl : A1 l = some (aoI C (fsG n m lt lr))
  gt : A1 lt = some (oL ((toldV n row).map .int))
  gr : A1 lr = some (oL (row.map dQA))
  n1 : lt ≠ l
  n2 : lr ≠ l
  n3 : lr ≠ lt
  rest : ∀ a o, a ≠ l → A a = some o → A1 a = some o ∧ a ≠ lt ∧ a ≠ lr
  fresh : ∀ a, A1 a = none → A a = none ∧ a ≠ l
theorem GOpen.view {A A1 : AH} {C l lt lr : Addr} {n m : Int} {row : List QA} (h : GOpen A A1 C l lt lr n m row) : View A1 (updA A l (aoG C n m row)) := by
  have v1 := View.fold (fs := fsG n m lt lr) (n := "told") (l := lt) h.gl h.gt h.n1 rfl
  have e2 : (updA (delA A1 lt) l (aoI C (put "told" (.o (oL ((toldV n row).map .int))) (fsG n m lt lr)))) lr = some (oL (row.map dQA)) := by
    rw [updA_ne h.n2, delA_ne h.n3]; exact h.gr
  have v2 := View.fold (A := updA (delA A1 lt) l (aoI C (put "told" (.o (oL ((toldV n row).map .int))) (fsG n m lt lr)))) (n := "row") (l := lr) updA_same e2 h.n2 rfl
  refine (v1.trans v2).trans (View.ext fun a o q => ?_)
  by_cases e : a = l
  · subst e
    rw [updA_same] at q ⊢
    exact q
  · rw [updA_ne e] at q
    obtain ⟨r1, r2, r3⟩ := h.rest a o e q
    rw [updA_ne e, delA_ne r3, updA_ne e, delA_ne r2]
    exact r1
/-- a new list beside an opened game: the game shut again -/
theorem GOpen.pure {A A1 : AH} {C l lt lr l' : Addr} {n m : Int} {row : List QA} {o : AO} (h : GOpen A A1 C l lt lr n m row) (hA : A l = some (aoG C n m row)) (f : A l' = none ∧ l' ≠ l) (hl' : A1 l' = none) : View (updA A1 l' o) (updA A l' o) := by
  have n1 : l' ≠ lt := fun e => by rw [e, h.gt] at hl'; cases hl'
  have n2 : l' ≠ lr := fun e => by rw [e, h.gr] at hl'; cases hl'
  have := GOpen.view (A := updA A l' o) (A1 := updA A1 l' o) (C := C) (l := l) (lt := lt) (lr := lr) (n := n) (m := m) (row := row) ⟨by rw [updA_ne f.2.symm]; exact h.gl, by rw [updA_ne n1.symm]; exact h.gt, by rw [updA_ne n2.symm]; exact h.gr, h.n1, h.n2, h.n3, fun a u e q => by
    by_cases c : a = l'
    · subst c; rw [updA_same] at q ⊢; exact ⟨q, n1, n2⟩
    · rw [updA_ne c] at q ⊢; exact h.rest a u e q, fun a q => by
    by_cases c : a = l'
    · subst c; rw [updA_same] at q; cases q
    · rw [updA_ne c] at q ⊢; exact h.fresh a q⟩
  rwa [updA_self (show (updA A l' o) l = some (aoG C n m row) by rw [updA_ne f.2.symm]; exact hA)] at this
section
variable {g : Gv} {I : CI} {R : Rz} {Γ : Gam} {A : AH} {D : AEnds} {sts : List Stmt} {C l : Addr} {n m : Int} {row : List QA}
theorem s_openG (ha : A l = some (aoG C n m row)) (k : ∀ lt lr A1, GOpen A A1 C l lt lr n m row → WSs g I R Γ A1 sts D) : WSs g I R Γ A sts D := by
  refine s_open (n := "told") ha rfl fun lt h1 n1 => ?_
  refine s_open (n := "row") (l := l) (C := C) (fs := put "told" (.v (.r lt)) [("things", .v (.d (.int n))), ("most", .v (.d (.int m))), ("told", .o (oL ((toldV n row).map .int))), ("row", .o (oL (row.map dQA)))]) (by rw [updA_ne n1.symm, updA_same]) rfl fun lr h2 n2 => ?_
  have n3 : lr ≠ lt := fun e => by rw [e, updA_same] at h2; cases h2
  have h2' : A lr = none := by rw [updA_ne n3, updA_ne n2] at h2; exact h2
  refine k lt lr _ ⟨?_, ?_, updA_same, n1, n2, n3, fun a o e q => ?_, fun a q => ?_⟩
  · rw [updA_ne n2.symm, updA_same]; rfl
  · rw [updA_ne n3.symm, updA_ne n1, updA_same]
  · have a1 : a ≠ lt := fun z => by rw [z, h1] at q; cases q
    have a2 : a ≠ lr := fun z => by rw [z, h2'] at q; cases q
    rw [updA_ne a2, updA_ne e, updA_ne a1, updA_ne e]
    exact ⟨q, a1, a2⟩
  · by_cases e : a = l
    · subst e; rw [updA_ne n2.symm, updA_same] at q; cases q
    · refine ⟨?_, e⟩
      by_cases e1 : a = lr
      · subst e1; exact h2'
      · by_cases e2 : a = lt
        · subst e2; exact h1
        · rw [updA_ne e1, updA_ne e, updA_ne e2, updA_ne e] at q; exact q
end
/-! what the methods promise -/
abbrev cGame (g : Gv) : Addr := cAt g "Game"
def sp_ginit (g : Gv) : ASp := fun ds A Q E => ∃ (l : Addr) (n m : Int), ds = [.r l, .d (.int n), .d (.int m)] ∧ A l = some (aoI (cGame g) []) ∧
  (goodG n m = true → Q (.d .none) (updA A l (aoG (cGame g) n m []))) ∧ (goodG n m = false → ∃ A0, ExtA A0 A ∧ E (g.ea .game) A0)
def sp_ask (g : Gv) : ASp := fun ds A Q E => ∃ (l : Addr) (n m : Int) (row : List QA) (q : List Int) (b : Bool) (dv : DV), ds = [.r l, dv, .d (.bool b)] ∧ A l = some (aoG (cGame g) n m row) ∧ IsL A dv (q.map .int) ∧ q.length < 64 ∧ 1 ≤ n ∧ n ≤ 64 ∧ row.length ≤ 1000 ∧
  (goodQu n q = false → E (g.ea .question) A) ∧ (goodQu n q = true → someLeft n m (row ++ [(q, b)]) = false → E (g.ea .liar) A) ∧
  (goodQu n q = true → someLeft n m (row ++ [(q, b)]) = true → Q (.d .none) (updA A l (aoG (cGame g) n m (row ++ [(q, b)]))))
structure GameIn (g : Gv) (A : AH) (ds : List DV) (n m : Int) (row : List QA) : Prop where
  ex : ∃ l, ds = [.r l] ∧ A l = some (aoG (cGame g) n m row)
  n1 : 1 ≤ n
  n2 : n ≤ 64
  m0 : 0 ≤ m
  m1 : m ≤ 4
  rl : row.length ≤ 1000
def sp_lies (g : Gv) : ASp := pSpL fun A ds xs => ∃ n m row, GameIn g A ds n m row ∧ xs = liesL n m row
def sp_left (g : Gv) : ASp := pSpL fun A ds xs => ∃ n m row, GameIn g A ds n m row ∧ xs = (leftV n m row).map .int
def sp_gcounts (g : Gv) : ASp := pSpA g.ea fun A ds o => ∃ n m row, GameIn g A ds n m row ∧ o = .ok (tI (gCounts n m row))
def sp_asked (g : Gv) : ASp := pSpL fun A ds xs => ∃ n m row, GameIn g A ds n m row ∧ xs = row.map dQA
def sp_back (g : Gv) : ASp := fun ds A Q _ => ∃ n m row l, GameIn g A ds n m row ∧ ds = [.r l] ∧ Q (.d (.bool (!row.isEmpty))) (updA A l (aoG (cGame g) n m row.dropLast))
end LB

/-! Mirrors 13: counts of a game. -/
namespace LB
open PySem PySem.Spec PyProof.Rows L2
theorem filt_add {α : Type} {a b c : α → Bool} : ∀ l : List α, (∀ x ∈ l, (if a x = true then 1 else 0) = (if b x = true then 1 else 0) + (if c x = true then 1 else 0)) → (l.filter a).length = (l.filter b).length + (l.filter c).length
  | [], _ => rfl
  | x :: l, h => by
    have ih := filt_add l fun y hy => h y (List.mem_cons_of_mem _ hy)
    have hx := h x List.mem_cons_self
    simp only [List.filter_cons]
    by_cases h1 : a x = true <;> by_cases h2 : b x = true <;> by_cases h3 : c x = true <;> simp [h1, h2, h3] at hx ⊢ <;> omega
def cntF (n : Int) (f : Int → Bool) : Int := (((rng 0 n.toNat).filter f).length : Int)
theorem cntF_0 (n : Int) (f : Int → Bool) : 0 ≤ cntF n f := by unfold cntF; omega
theorem cntF_add {n : Int} {a b c : Int → Bool} (h : ∀ x, 0 ≤ x → x < n → (if a x = true then 1 else 0) = (if b x = true then 1 else 0) + (if c x = true then 1 else 0)) : cntF n a = cntF n b + cntF n c := by
  unfold cntF
  rw [filt_add (b := b) (c := c) _ fun x hx => h x (by have := mem_rng.mp hx; omega) (by have := mem_rng.mp hx; omega)]
  omega
theorem cntF_congr {n : Int} {a b : Int → Bool} (h : ∀ x, 0 ≤ x → x < n → a x = b x) : cntF n a = cntF n b := by
  unfold cntF
  rw [List.filter_congr fun x hx => h x (by have := mem_rng.mp hx; omega) (by have := mem_rng.mp hx; omega)]
theorem cntF_none {n : Int} {a : Int → Bool} (h : ∀ x, 0 ≤ x → x < n → a x = false) : cntF n a = 0 := by
  unfold cntF
  rw [List.filter_eq_nil_iff.mpr fun x hx => by rw [h x (by have := mem_rng.mp hx; omega) (by have := mem_rng.mp hx; omega)]; decide]
  rfl
theorem gCounts_eq (n m : Int) (row : List QA) : gCounts n m row = (rng 0 (m + 1).toNat).map fun k => cntF n fun t => decide (liedR row t = k) := by
  unfold gCounts
  refine List.map_congr_left fun k _ => ?_
  unfold toldV cntF
  rw [List.count, List.countP_map, List.countP_eq_length_filter]
  congr 2
/-- how many of each a question has -/
def partG (n m : Int) (row : List QA) (q : List Int) : List Int := (rng 0 (m + 1).toNat).map fun k => cntF n fun t => decide (t ∈ q) && decide (liedR row t = k)
theorem gCounts_len {n m : Int} {row : List QA} : (gCounts n m row).length = (m + 1).toNat := by unfold gCounts; rw [List.length_map, rng_length]
theorem partG_len {n m : Int} {row : List QA} {q : List Int} : (partG n m row q).length = (m + 1).toNat := by unfold partG; rw [List.length_map, rng_length]
theorem nth_gC {n m k : Int} {row : List QA} (h0 : 0 ≤ k) (h1 : k ≤ m) : nth (gCounts n m row) k = cntF n fun t => decide (liedR row t = k) := by
  rw [gCounts_eq]; exact nth_rng h0 (by omega)
theorem nth_pG {n m k : Int} {row : List QA} {q : List Int} (h0 : 0 ≤ k) (h1 : k ≤ m) : nth (partG n m row q) k = cntF n fun t => decide (t ∈ q) && decide (liedR row t = k) := by
  unfold partG; exact nth_rng h0 (by omega)
theorem partG_ok {n m : Int} {row : List QA} {q : List Int} (m0 : 0 ≤ m) : partOk (gCounts n m row) (partG n m row q) = true := by
  refine partOk_of (by rw [gCounts_len, partG_len]) fun k h0 h1 => ?_
  rw [gCounts_len] at h1
  rw [nth_gC h0 (by omega), nth_pG h0 (by omega)]
  refine ⟨cntF_0 _ _, ?_⟩
  have := cntF_add (n := n) (a := fun t => decide (liedR row t = k)) (b := fun t => decide (t ∈ q) && decide (liedR row t = k)) (c := fun t => !decide (t ∈ q) && decide (liedR row t = k)) fun x _ _ => by
    by_cases h1 : x ∈ q <;> by_cases h2 : liedR row x = k <;> simp [h1, h2]
  have := cntF_0 n fun t => !decide (t ∈ q) && decide (liedR row t = k)
  omega
/-- what is told behind a question are the counts behind it -/
theorem gC_behind {n m : Int} {row : List QA} {q : List Int} (m0 : 0 ≤ m) : gCounts n m (row ++ [(q, true)]) = behindY (gCounts n m row) (partG n m row q) ∧ gCounts n m (row ++ [(q, false)]) = behindN (gCounts n m row) (partG n m row q) := by
  have rest : ∀ k : Int, 0 ≤ k → k ≤ m → nth (restV (gCounts n m row) (partG n m row q)) k = cntF n fun t => !decide (t ∈ q) && decide (liedR row t = k) := fun k h0 h1 => by
    unfold restV
    rw [gCounts_len, nth_rng h0 (by omega), nth_gC h0 h1, nth_pG h0 h1]
    have := cntF_add (n := n) (a := fun t => decide (liedR row t = k)) (b := fun t => decide (t ∈ q) && decide (liedR row t = k)) (c := fun t => !decide (t ∈ q) && decide (liedR row t = k)) fun x _ _ => by
      by_cases h1 : x ∈ q <;> by_cases h2 : liedR row x = k <;> simp [h1, h2]
    omega
  have snoc : ∀ (b : Bool) (t : Int), liedR (row ++ [(q, b)]) t = liedR row t + if (!decide (decide (t ∈ q) = b)) = true then 1 else 0 := fun b t => liedR_snoc row (q, b) t
  constructor
  · rw [gCounts_eq]
    unfold behindY
    rw [gCounts_len]
    refine List.map_congr_left fun k hk => ?_
    have h := mem_rng.mp hk
    rw [nth_pG h.1 (by omega)]
    by_cases k0 : 0 < k
    · rw [if_pos k0, rest (k - 1) (by omega) (by omega)]
      refine cntF_add fun x _ _ => ?_
      rw [snoc]
      by_cases h1 : x ∈ q <;> simp [h1]
      by_cases h2 : liedR row x = k - 1
      · rw [if_pos (by omega), if_pos h2]
      · rw [if_neg (by omega), if_neg h2]
    · rw [if_neg k0, Int.add_zero]
      refine cntF_congr fun x _ _ => ?_
      rw [snoc]
      have := liedR_0 row x
      by_cases h1 : x ∈ q <;> simp [h1]
      omega
  · rw [gCounts_eq]
    unfold behindN
    rw [gCounts_len]
    refine List.map_congr_left fun k hk => ?_
    have h := mem_rng.mp hk
    rw [rest k h.1 (by omega)]
    by_cases k0 : 0 < k
    · rw [if_pos k0, nth_pG (by omega) (by omega)]
      refine cntF_add fun x _ _ => ?_
      rw [snoc]
      by_cases h1 : x ∈ q <;> simp [h1]
      by_cases h2 : liedR row x = k - 1
      · rw [if_pos (by omega), if_pos h2]
      · rw [if_neg (by omega), if_neg h2]
    · rw [if_neg k0, Int.add_zero]
      refine cntF_congr fun x _ _ => ?_
      rw [snoc]
      have := liedR_0 row x
      by_cases h1 : x ∈ q <;> simp [h1]
      omega
theorem sum_cnt (n : Int) (f : Int → Int) (h0 : ∀ t, 0 ≤ f t) : ∀ K : Nat, ((rng 0 K).map fun k => cntF n fun t => decide (f t = k)).sum = cntF n fun t => decide (f t < (K : Int))
  | 0 => by
    rw [cntF_none fun x _ _ => decide_eq_false (by have := h0 x; omega)]; rfl
  | K + 1 => by
    rw [rng_succ, List.map_append, List.sum_append, sum_cnt n f h0 K, Int.zero_add]
    show _ + (_ + 0) = _
    rw [Int.add_zero]
    refine (cntF_add fun x _ _ => ?_).symm
    by_cases h1 : f x = (K : Int)
    · simp [h1]; omega
    · by_cases h2 : f x < (K : Int)
      · simp [h1, h2]; omega
      · simp [h1, h2]; omega
theorem gC_sum {n m : Int} (m0 : 0 ≤ m) (row : List QA) : (gCounts n m row).sum = cntF n fun t => decide (liedR row t ≤ m) := by
  rw [gCounts_eq, sum_cnt n (liedR row) (liedR_0 row)]
  refine cntF_congr fun x _ _ => ?_
  rw [show ((m + 1).toNat : Int) = m + 1 by omega]
  by_cases h : liedR row x ≤ m
  · rw [decide_eq_true h, decide_eq_true (by omega)]
  · rw [decide_eq_false h, decide_eq_false (by omega)]
theorem gC_le {n m : Int} (n0 : 0 ≤ n) (m0 : 0 ≤ m) (row : List QA) : (gCounts n m row).sum ≤ n := by
  rw [gC_sum m0]
  unfold cntF
  have := List.length_filter_le (fun t => decide (liedR row t ≤ m)) (rng 0 n.toNat)
  rw [rng_length] at this
  omega
theorem gC_GC {n m : Int} (n1 : 1 ≤ n) (n12 : n ≤ 12) (m0 : 0 ≤ m) (m2 : m ≤ 2) (row : List QA) : GC n (m + 1).toNat (gCounts n m row) :=
  ⟨gCounts_len, fun x hx => by
    rw [gCounts_eq] at hx
    obtain ⟨k, _, rfl⟩ := List.mem_map.mp hx
    exact cntF_0 _ _, gC_le (by omega) m0 row, by omega, by omega, n12⟩
theorem some_sum {n m : Int} (m0 : 0 ≤ m) (row : List QA) : someLeft n m row = decide (1 ≤ (gCounts n m row).sum) := by
  rw [gC_sum m0, Bool.eq_iff_iff, decide_eq_true_eq]
  unfold someLeft cntF
  rw [List.any_eq_true]
  constructor
  · rintro ⟨t, ht, h⟩
    have hm : t ∈ (rng 0 n.toNat).filter fun t => decide (liedR row t ≤ m) := List.mem_filter.mpr ⟨ht, h⟩
    have := List.length_pos_of_mem hm
    omega
  · intro h
    cases e : (rng 0 n.toNat).filter fun t => decide (liedR row t ≤ m) with
    | nil => rw [e] at h; simp at h
    | cons t r =>
      have ht : t ∈ (rng 0 n.toNat).filter fun t => decide (liedR row t ≤ m) := by rw [e]; exact List.mem_cons_self
      exact ⟨t, (List.mem_filter.mp ht).1, (List.mem_filter.mp ht).2⟩
/-! the answer that puts off the end -/
def dueG (n m : Int) (row : List QA) (q : List Int) : Bool :=
  gePair (leastC (behindY (gCounts n m row) (partG n m row q))) (behindY (gCounts n m row) (partG n m row q)).sum (leastC (behindN (gCounts n m row) (partG n m row q))) (behindN (gCounts n m row) (partG n m row q)).sum
theorem sum_yn {S : Int} {n : Nat} {c p : List Int} (h : GC S n c) (hp : partOk c p = true) : c.sum ≤ (behindY c p).sum + (behindN c p).sum := by
  have hl := partOk_len hp
  have h1 := h.len; have h2 := h.n1; have h3 := h.n3; have h5 := h.nn
  rcases three (c := c) (by omega) with ⟨a, rfl⟩ | ⟨a, b, rfl⟩ | ⟨a, b, d, rfl⟩ <;>
  rcases three (c := p) (by omega) with ⟨a', rfl⟩ | ⟨a', b', rfl⟩ | ⟨a', b', d', rfl⟩ <;>
  first
  | (simp at hl; done)
  | (simp [behindY, behindN, restV, nth, rng, List.range, List.range.loop, partOk] at hp h5 ⊢; omega)
theorem least_0 {S : Int} {n : Nat} {c : List Int} (h : GC S n c) (hs : c.sum ≤ 1) : leastC c = 0 := by
  have e : lawC 0 c = true := decide_eq_true hs
  have := ((leastC_spec h).2.1 0).mp e
  omega
/-- something is left, and what is needed comes down by one at most -/
theorem due_ok {n m : Int} {row : List QA} {q : List Int} (n1 : 1 ≤ n) (n12 : n ≤ 12) (m0 : 0 ≤ m) (m2 : m ≤ 2) (hs : someLeft n m row = true) : someLeft n m (row ++ [(q, dueG n m row q)]) = true ∧ leastC (gCounts n m row) ≤ leastC (gCounts n m (row ++ [(q, dueG n m row q)])) + 1 := by
  have G := gC_GC n1 n12 m0 m2 row
  have pok := partG_ok (n := n) (m := m) (row := row) (q := q) m0
  obtain ⟨b1, b2⟩ := gC_behind (n := n) (row := row) (q := q) m0
  obtain ⟨g1, g2⟩ := G.behind pok
  have hsum := sum_yn G pok
  rw [some_sum m0, decide_eq_true_eq] at hs
  have sp := leastC_spec G
  have sy := leastC_spec g1
  have sn := leastC_spec g2
  have ly := @least_0 _ _ _ g1
  have ln := @least_0 _ _ _ g2
  have step : leastC (gCounts n m row) ≤ max (leastC (behindY (gCounts n m row) (partG n m row q))) (leastC (behindN (gCounts n m row) (partG n m row q))) + 1 := by
    refine (sp.2.1 _).mp ?_
    unfold lawC
    rw [Bool.or_eq_true, List.any_eq_true]
    refine .inr ⟨partG n m row q, (mem_allP _ _).mpr (partP_ok.mpr pok), ?_⟩
    rw [Bool.and_eq_true]
    exact ⟨(sy.2.1 _).mpr (Nat.le_max_left _ _), (sn.2.1 _).mpr (Nat.le_max_right _ _)⟩
  cases hd : dueG n m row q with
  | true =>
    rw [some_sum m0, b1]
    unfold dueG gePair at hd
    by_cases e : ((leastC (behindY (gCounts n m row) (partG n m row q)) : Nat) : Int) = leastC (behindN (gCounts n m row) (partG n m row q))
    · rw [if_pos e, decide_eq_true_eq] at hd
      exact ⟨decide_eq_true (by omega), by omega⟩
    · rw [if_neg e, decide_eq_true_eq] at hd
      refine ⟨decide_eq_true ?_, by omega⟩
      refine Classical.byContradiction fun z => ?_
      have := ly (by omega)
      omega
  | false =>
    rw [some_sum m0, b2]
    unfold dueG gePair at hd
    by_cases e : ((leastC (behindY (gCounts n m row) (partG n m row q)) : Nat) : Int) = leastC (behindN (gCounts n m row) (partG n m row q))
    · rw [if_pos e, decide_eq_false_iff_not] at hd
      exact ⟨decide_eq_true (by omega), by omega⟩
    · rw [if_neg e, decide_eq_false_iff_not] at hd
      refine ⟨decide_eq_true ?_, by omega⟩
      refine Classical.byContradiction fun z => ?_
      have := ln (by omega)
      omega
/-! the parts as they are counted -/
def pStep (m : Int) (row : List QA) (q : List Int) (s : List Int) (t : Int) : List Int := if t ∈ q ∧ liedR row t ≤ m then s.set (liedR row t).toNat (nth s (liedR row t) + 1) else s
theorem pStep_fold (n m : Int) (row : List QA) (q : List Int) (m0 : 0 ≤ m) : ∀ N : Nat, (rng 0 N).foldl (pStep m row q) (List.replicate (m + 1).toNat 0) = (rng 0 (m + 1).toNat).map fun k => (((rng 0 N).filter fun t => decide (t ∈ q) && decide (liedR row t = k)).length : Int)
  | 0 => by
    show List.replicate _ 0 = (rng 0 _).map fun _ => ((0 : Nat) : Int)
    exact (by rw [map_const (f := fun _ : Int => ((0 : Nat) : Int)) (y := (0 : Int)) fun _ _ => rfl, rng_length])
  | N + 1 => by
    rw [rng_succ, List.foldl_append, pStep_fold n m row q m0 N, Int.zero_add]
    show pStep m row q _ (N : Int) = _
    unfold pStep
    have l0 := liedR_0 row (N : Int)
    refine List.ext_getElem? fun j => ?_
    have cs : ∀ k : Int, (((rng 0 N ++ [(N : Int)]).filter fun t => decide (t ∈ q) && decide (liedR row t = k)).length : Int) = (((rng 0 N).filter fun t => decide (t ∈ q) && decide (liedR row t = k)).length : Int) + if (N : Int) ∈ q ∧ liedR row N = k then 1 else 0 := fun k => by
      rw [List.filter_append, List.length_append, Int.natCast_add]
      by_cases h : (N : Int) ∈ q ∧ liedR row N = k
      · rw [if_pos h, List.filter_cons_of_pos (by simp [h.1, h.2])]; rfl
      · rw [if_neg h, List.filter_cons_of_neg (by simp; exact fun h1 h2 => h ⟨h1, h2⟩)]; rfl
    by_cases hj : j < (m + 1).toNat
    · rw [List.getElem?_map, rng_get hj, Option.map_some, Int.zero_add, cs]
      by_cases hc : (N : Int) ∈ q ∧ liedR row N ≤ m
      · rw [if_pos hc]
        by_cases e : j = (liedR row N).toNat
        · have ej : liedR row N = (j : Int) := by omega
          rw [e, List.getElem?_set_self (by rw [List.length_map, rng_length]; omega), ← e, ej, nth_rng (by omega) (by omega), if_pos ⟨hc.1, rfl⟩]
        · rw [List.getElem?_set_ne (Ne.symm e), List.getElem?_map, rng_get hj, Option.map_some, Int.zero_add, if_neg (fun z => e (by rw [z.2]; omega)), Int.add_zero]
      · rw [if_neg hc, List.getElem?_map, rng_get hj, Option.map_some, Int.zero_add, if_neg (fun z => hc ⟨z.1, by omega⟩), Int.add_zero]
    · rw [List.getElem?_eq_none (by split <;> simp [rng_length] <;> omega), List.getElem?_eq_none (by simp [rng_length]; omega)]
theorem partG_fold {n m : Int} {row : List QA} {q : List Int} (m0 : 0 ≤ m) : (rng 0 n.toNat).foldl (pStep m row q) (List.replicate (m + 1).toNat 0) = partG n m row q := pStep_fold n m row q m0 n.toNat
end LB

/-! Mirrors 14: foes. -/
namespace LB
open PySem PySem.Spec PyProof.Rows L2
abbrev cFoe (g : Gv) : Addr := cAt g "Foe"
def aoF (g : Gv) (n m : Int) (row : List QA) : AO := aoI (cFoe g) [("game", .o (aoG (cGame g) n m row))]
def fsF (lg : Addr) : List (Str × FV) := [("game", .v (.r lg))]
structure FOpen (g : Gv) (A A1 : AH) (l lg : Addr) (n m : Int) (row : List QA) : Prop where
  gl : A1 l = some (aoI (cFoe g) (fsF lg))
  gg : A1 lg = some (aoG (cGame g) n m row)
  n1 : lg ≠ l
  rest : ∀ a o, a ≠ l → A a = some o → A1 a = some o ∧ a ≠ lg
  fresh : ∀ a, A1 a = none → A a = none ∧ a ≠ l
theorem FOpen.view {g : Gv} {A A1 : AH} {l lg : Addr} {n m : Int} {row : List QA} (h : FOpen g A A1 l lg n m row) : View A1 (updA A l (aoF g n m row)) := by
  have v1 := View.fold (fs := fsF lg) (n := "game") (l := lg) h.gl h.gg h.n1 rfl
  refine v1.trans (View.ext fun a o q => ?_)
  by_cases e : a = l
  · subst e
    rw [updA_same] at q ⊢
    exact q
  · rw [updA_ne e] at q
    obtain ⟨r1, r2⟩ := h.rest a o e q
    rw [updA_ne e, delA_ne r2]
    exact r1
theorem FOpen.set {g : Gv} {A A1 : AH} {l lg : Addr} {n m : Int} {row : List QA} (h : FOpen g A A1 l lg n m row) (row' : List QA) : FOpen g A (updA A1 lg (aoG (cGame g) n m row')) l lg n m row' := by
  refine ⟨by rw [updA_ne h.n1.symm]; exact h.gl, updA_same, h.n1, fun a o e q => ?_, fun a q => ?_⟩
  · obtain ⟨r1, r2⟩ := h.rest a o e q
    exact ⟨by rw [updA_ne r2]; exact r1, r2⟩
  · by_cases e : a = lg
    · subst e; rw [updA_same] at q; cases q
    · rw [updA_ne e] at q; exact h.fresh a q
theorem FOpen.back {g : Gv} {A A1 : AH} {l lg : Addr} {n m : Int} {row : List QA} (h : FOpen g A A1 l lg n m row) (hA : A l = some (aoF g n m row)) : View A1 A := by have := h.view; rwa [updA_self hA] at this
/-- a new list beside an opened foe: the foe shut again -/
theorem FOpen.pure {g : Gv} {A A1 : AH} {l lg l' : Addr} {n m : Int} {row : List QA} {o : AO} (h : FOpen g A A1 l lg n m row) (hA : A l = some (aoF g n m row)) (hl' : A1 l' = none) : View (updA A1 l' o) (updA A l' o) := by
  have f := h.fresh l' hl'
  have n1 : l' ≠ lg := fun e => by rw [e, h.gg] at hl'; cases hl'
  have := FOpen.view (A := updA A l' o) (A1 := updA A1 l' o) (l := l) (lg := lg) (n := n) (m := m) (row := row) (g := g) ⟨by rw [updA_ne f.2.symm]; exact h.gl, by rw [updA_ne n1.symm]; exact h.gg, h.n1, fun a u e q => by
    by_cases c : a = l'
    · subst c; rw [updA_same] at q ⊢; exact ⟨q, n1⟩
    · rw [updA_ne c] at q ⊢; exact h.rest a u e q, fun a q => by
    by_cases c : a = l'
    · subst c; rw [updA_same] at q; cases q
    · rw [updA_ne c] at q ⊢; exact h.fresh a q⟩
  rwa [updA_self (show (updA A l' o) l = some (aoF g n m row) by rw [updA_ne f.2.symm]; exact hA)] at this
section
variable {g : Gv} {I : CI} {R : Rz} {Γ : Gam} {A : AH} {D : AEnds} {sts : List Stmt} {l : Addr} {n m : Int} {row : List QA}
theorem s_openF (ha : A l = some (aoF g n m row)) (k : ∀ lg A1, FOpen g A A1 l lg n m row → WSs g I R Γ A1 sts D) : WSs g I R Γ A sts D := by
  refine s_open (n := "game") ha rfl fun lg h1 n1 => ?_
  refine k lg _ ⟨by rw [updA_ne n1.symm, updA_same]; rfl, updA_same, n1, fun a o e q => ?_, fun a q => ?_⟩
  · have a1 : a ≠ lg := fun z => by rw [z, h1] at q; cases q
    rw [updA_ne a1, updA_ne e]
    exact ⟨q, a1⟩
  · by_cases e : a = l
    · subst e; rw [updA_ne n1.symm, updA_same] at q; cases q
    · refine ⟨?_, e⟩
      by_cases e1 : a = lg
      · subst e1; exact h1
      · rw [updA_ne e1, updA_ne e] at q; exact q
end
def foeM (n m : Int) : Except Err Unit := if goodG n m = true then lookSmall (gCounts n m []) else .error .game
def sp_finit (g : Gv) : ASp := fun ds A Q E => ∃ (l : Addr) (n m : Int), ds = [.r l, .d (.int n), .d (.int m)] ∧ A l = some (aoI (cFoe g) []) ∧ (foeM n m = .ok () → Q (.d .none) (updA A l (aoF g n m []))) ∧ (∀ e, foeM n m = .error e → ∃ A0, ExtA A0 A ∧ A0 l = none ∧ E (g.ea e) A0)
structure FoeIn (g : Gv) (A : AH) (l : Addr) (n m : Int) (row : List QA) : Prop where
  ex : A l = some (aoF g n m row)
  n1 : 1 ≤ n
  n2 : n ≤ 12
  m0 : 0 ≤ m
  m2 : m ≤ 2
  rl : row.length ≤ 900
def sp_fanswer (g : Gv) : ASp := fun ds A Q E => ∃ (l : Addr) (n m : Int) (row : List QA) (q : List Int) (dv : DV), ds = [.r l, dv] ∧ FoeIn g A l n m row ∧ IsL A dv (q.map .int) ∧ q.length < 64 ∧ someLeft n m row = true ∧
  (goodQu n q = false → E (g.ea .question) A) ∧ (goodQu n q = true → Q (.d (.bool (dueG n m row q))) (updA A l (aoF g n m (row ++ [(q, dueG n m row q)]))))
def sp_fleft (g : Gv) : ASp := pSpL fun A ds xs => ∃ l n m row, ds = [.r l] ∧ FoeIn g A l n m row ∧ xs = (leftV n m row).map .int
def sp_fasked (g : Gv) : ASp := pSpL fun A ds xs => ∃ l n m row, ds = [.r l] ∧ FoeIn g A l n m row ∧ xs = row.map dQA
def sp_fneeded (g : Gv) : ASp := pSpA g.ea fun A ds o => ∃ l n m row, ds = [.r l] ∧ FoeIn g A l n m row ∧ o = .ok (.int (leastC (gCounts n m row)))
def sp_weighed (ea : Err → Addr) : ASp := pSp ea fun ds o => ∃ (S : Int) (n : Nat) (c : List Int), ds = [.d (tI c)] ∧ GC S n c ∧ o = .ok (.tuple [.int (leastC c), .int c.sum])
theorem c_neXL {g : Gv} {I : CI} {A : AH} {dv : DV} {xs : List PyData} {y : PyData} (q : IsL A dv xs) (hx : SeqAt.shaped (.list xs) = true) (hy : SeqAt.shaped y = true) : CmpD g I A .NotEq (.d y) dv (!PyData.eqv y (.list xs)) :=
  ⟨⟨_, fun X c => op_neD c.room.units, fun X c A1 ex S H v u f r1 r2 Q z => by
    obtain ⟨l, vs, rfl, h1, h2⟩ := q.sq ex f r2
    exact ⟨y, .list xs, (Rp.mono f.same r1).dp, (Rp.lst h1 (h2.mono f.same)).dp, hy, hx, z⟩⟩, nm_of (by decide) (by decide)⟩
theorem c_neXLR {g : Gv} {I : CI} {A : AH} {dv : DV} {xs : List PyData} {n : Nat} {y : PyData} (q : IsL A dv xs) (e : y = .list xs) (h : Sh n y) (hn : n ≤ 64) : CmpD g I A .NotEq (.d y) dv false := by
  subst e
  have z := c_neXL (g := g) (I := I) q (h.ok hn) (h.ok hn)
  rwa [h.eqv] at z
def sp_lbehindL (ea : Err → Addr) : ASp := pSp ea fun ds o => ∃ c p : List Int, ds = [.d (tI c), .d (lI p)] ∧ p.length = c.length ∧ c.length ≤ 1000 ∧ o = .ok (dPair (lawBehind c p))
def madeF (n m : Int) : Str := match foeM n m with
  | .ok _ => "ok"
  | .error e => (nmE e).getD ""
theorem foeM_nm {n m : Int} {e : Err} (h : foeM n m = .error e) : ∃ s, nmE e = some s := by
  unfold foeM lookSmall at h
  split at h
  · split at h
    · cases h
    · cases h; exact ⟨_, rfl⟩
  · cases h; exact ⟨_, rfl⟩
def sp_fmade (ea : Err → Addr) : ASp := pSp ea fun ds o => ∃ n m : Int, ds = [.d (.int n), .d (.int m)] ∧ o = .ok (.str (madeF n m))
def sp_lanswer (g : Gv) : ASp := fun ds A Q _ => ∃ (l : Addr) (n m : Int) (row : List QA) (q : List Int), ds = [.r l, .d (lI q)] ∧ FoeIn g A l n m row ∧ q.length < 64 ∧ someLeft n m row = true ∧
  (goodQu n q = false → Q (.d (.str "question")) A) ∧ (goodQu n q = true → Q (.d (.bool (dueG n m row q))) (updA A l (aoF g n m (row ++ [(q, dueG n m row q)]))))
def sp_lpart (g : Gv) : ASp := pSpA g.ea fun A ds o => ∃ (l : Addr) (n m : Int) (row : List QA) (q : List Int), ds = [.r l, .d (lI q)] ∧ GameIn g A [.r l] n m row ∧ m ≤ 2 ∧ q.length < 64 ∧ o = .ok (lI (partG n m row q))
theorem part_left {n m : Int} {row : List QA} {q : List Int} (m0 : 0 ≤ m) : (leftV n m row).foldl (fun s t => if t ∈ q then s.set (liedR row t).toNat (nth s (liedR row t) + 1) else s) (List.replicate (m + 1).toNat 0) = partG n m row q := by
  rw [← partG_fold m0]
  have key : ∀ (l : List Int) (s : List Int), (l.filter fun t => decide (liedR row t ≤ m)).foldl (fun s t => if t ∈ q then s.set (liedR row t).toNat (nth s (liedR row t) + 1) else s) s = l.foldl (pStep m row q) s := fun l => by
    induction l with
    | nil => intro s; rfl
    | cons x l ih =>
      intro s
      rw [List.foldl_cons]
      by_cases h : liedR row x ≤ m
      · rw [List.filter_cons_of_pos (by simpa using h), List.foldl_cons, ih]
        congr 1
        unfold pStep
        by_cases h2 : x ∈ q
        · rw [if_pos h2, if_pos ⟨h2, h⟩]
        · rw [if_neg h2, if_neg fun z => h2 z.1]
      · rw [List.filter_cons_of_neg (by simpa using h), ih]
        congr 1
        unfold pStep
        rw [if_neg fun z => h z.2]
  exact key _ _
end LB

/-! Mirrors 22: one who asks (k30). -/
namespace LB
open PySem PySem.Spec PyProof.Rows L2
theorem rng_pw (lo : Int) (n : Nat) : (rng lo n).Pairwise (· < ·) := by
  unfold rng
  rw [List.pairwise_map]
  exact List.pairwise_lt_range.imp fun h => by omega
theorem rng_nd (lo : Int) (n : Nat) : (rng lo n).Nodup := (rng_pw lo n).imp fun h => by omega
theorem map_nth (p : List Int) : (rng 0 p.length).map (nth p) = p := by
  refine List.ext_getElem? fun i => ?_
  by_cases h : i < p.length
  · rw [List.getElem?_map, rng_get h]
    show some (nth p (0 + (i : Int))) = _
    have := nth_get (xs := p) (k := (i : Int)) (by omega) (by omega)
    rw [Int.zero_add, ← this, Int.toNat_natCast]
  · rw [List.getElem?_eq_none (by rw [List.length_map, rng_length]; omega), List.getElem?_eq_none (by omega)]
theorem len_same {l m : List Int} (h1 : l.Nodup) (h2 : m.Nodup) (h : ∀ x, x ∈ l ↔ x ∈ m) : l.length = m.length :=
  Nat.le_antisymm (len_le_of_sub h1 fun x hx => (h x).mp hx) (len_le_of_sub h2 fun x hx => (h x).mpr hx)
def ofL (n m : Int) (row : List QA) (k : Int) : List Int := (leftV n m row).filter fun t => decide (liedR row t = k)
def pickQ (n m : Int) (row : List QA) (p : List Int) : List Int := (rng 0 p.length).flatMap fun k => (ofL n m row k).take (nth p k).toNat
theorem left_nd (n m : Int) (row : List QA) : (leftV n m row).Nodup := (rng_nd 0 n.toNat).filter _
theorem mem_left {n m : Int} {row : List QA} {t : Int} (n0 : 0 ≤ n) : t ∈ leftV n m row ↔ (0 ≤ t ∧ t < n) ∧ liedR row t ≤ m := by
  unfold leftV
  rw [List.mem_filter, mem_rng, decide_eq_true_eq]
  constructor
  · rintro ⟨⟨h1, h2⟩, h3⟩; exact ⟨⟨h1, by omega⟩, h3⟩
  · rintro ⟨⟨h1, h2⟩, h3⟩; exact ⟨⟨h1, by omega⟩, h3⟩
theorem ofL_len {n m k : Int} {row : List QA} (h0 : 0 ≤ k) (h1 : k ≤ m) : ((ofL n m row k).length : Int) = nth (gCounts n m row) k := by
  rw [nth_gC h0 h1]
  unfold ofL leftV cntF
  rw [List.filter_filter]
  congr 2
  refine List.filter_congr fun t _ => ?_
  by_cases h : liedR row t = k
  · rw [decide_eq_true h, decide_eq_true (by omega : liedR row t ≤ m)]; rfl
  · rw [decide_eq_false h]; rfl
theorem ofL_mem {n m k : Int} {row : List QA} {t : Int} (h : t ∈ ofL n m row k) : t ∈ leftV n m row ∧ liedR row t = k := by
  obtain ⟨a, b⟩ := List.mem_filter.mp h
  exact ⟨a, of_decide_eq_true b⟩
theorem pick_mem {n m : Int} {row : List QA} {p : List Int} {t : Int} : t ∈ pickQ n m row p ↔ ∃ k, (0 ≤ k ∧ k < (p.length : Int)) ∧ t ∈ (ofL n m row k).take (nth p k).toNat := by
  unfold pickQ
  rw [List.mem_flatMap]
  constructor
  · rintro ⟨k, hk, h⟩; have := mem_rng.mp hk; exact ⟨k, by omega, h⟩
  · rintro ⟨k, hk, h⟩; exact ⟨k, mem_rng.mpr (by omega), h⟩
theorem pick_nd (n m : Int) (row : List QA) (p : List Int) : (pickQ n m row p).Nodup := by
  unfold pickQ List.Nodup
  rw [List.pairwise_flatMap]
  refine ⟨fun k _ => ((left_nd n m row).filter _).sublist (List.take_sublist _ _), (rng_nd 0 p.length).imp fun {k j} hkj x hx y hy e => hkj ?_⟩
  subst e
  rw [← (ofL_mem (List.mem_of_mem_take hx)).2, ← (ofL_mem (List.mem_of_mem_take hy)).2]
theorem pick_left {n m : Int} {row : List QA} {p : List Int} : ∀ t ∈ pickQ n m row p, t ∈ leftV n m row := fun t h => by
  obtain ⟨k, _, h⟩ := pick_mem.mp h
  exact (ofL_mem (List.mem_of_mem_take h)).1
/-- a question of so many of each has so many of each -/
theorem partG_pick {n m : Int} {row : List QA} {p : List Int} (n0 : 0 ≤ n) (m0 : 0 ≤ m) (hp : partOk (gCounts n m row) p = true) : partG n m row (sortU (pickQ n m row p)) = p := by
  have hl : p.length = (m + 1).toNat := by rw [partOk_len hp, gCounts_len]
  refine Eq.trans ?_ (map_nth p)
  unfold partG
  rw [hl]
  refine List.map_congr_left fun k hk => ?_
  have hk2 := mem_rng.mp hk
  have pk := partOk_nth hp (k := k) (by omega) (by rw [gCounts_len]; omega)
  have ol := ofL_len (n := n) (row := row) (k := k) (m := m) (by omega) (by omega)
  unfold cntF
  have e := len_same (l := (rng 0 n.toNat).filter fun t => decide (t ∈ sortU (pickQ n m row p)) && decide (liedR row t = k)) (m := (ofL n m row k).take (nth p k).toNat) ((rng_nd 0 n.toNat).filter _) (((left_nd n m row).filter _).sublist (List.take_sublist _ _)) fun t => by
    rw [List.mem_filter, Bool.and_eq_true, decide_eq_true_eq, decide_eq_true_eq, mem_sortU, pick_mem]
    constructor
    · rintro ⟨_, ⟨j, hj, h⟩, e⟩
      have := (ofL_mem (List.mem_of_mem_take h)).2
      have ej : j = k := by omega
      subst ej; exact h
    · intro h
      obtain ⟨a, b⟩ := ofL_mem (List.mem_of_mem_take h)
      have a2 := ((mem_left n0).mp a).1
      exact ⟨mem_rng.mpr ⟨a2.1, by omega⟩, ⟨k, by omega, h⟩, b⟩
  rw [e, List.length_take]
  omega
theorem leastD_spec36 {S : Int} {n : Nat} {c : List Int} (h : GC S n c) : leastC c ≤ 36 := by
  obtain ⟨s1, s2, s3, s4⟩ := leastC_spec h
  have a1 := h.sum; have n1 := h.n1; have n3 := h.n3; have s := h.s64
  have hn : n = 1 ∨ n = 2 ∨ n = 3 := by omega
  rcases hn with e | e | e <;> rw [e] at s4 <;> omega
/-! what is asked -/
def partA (n m : Int) (row : List QA) : List Int := (canW (leastC (gCounts n m row)) (gCounts n m row)).getD []
def askV (n m : Int) (row : List QA) : List Int := sortU (pickQ n m row (partA n m row))
theorem ask_part {n m : Int} {row : List QA} (n1 : 1 ≤ n) (n12 : n ≤ 12) (m0 : 0 ≤ m) (m2 : m ≤ 2) (hs : ¬ (gCounts n m row).sum ≤ 1) : canW (leastC (gCounts n m row)) (gCounts n m row) = some (partA n m row) ∧ partA n m row ≠ [] ∧ partOk (gCounts n m row) (partA n m row) = true ∧ leastC (behindY (gCounts n m row) (partA n m row)) + 1 ≤ leastC (gCounts n m row) ∧ leastC (behindN (gCounts n m row) (partA n m row)) + 1 ≤ leastC (gCounts n m row) := by
  have G := gC_GC n1 n12 m0 m2 row
  have ls := leastC_spec G
  have cs : (canW (leastC (gCounts n m row)) (gCounts n m row)).isSome = true := by rw [can_law _ G]; exact ls.1
  obtain ⟨p, hp⟩ := Option.isSome_iff_exists.mp cs
  have e : partA n m row = p := by unfold partA; rw [hp]; rfl
  rw [e]
  obtain ⟨a1, a2⟩ := can_nil G hp
  obtain ⟨j, ej, pok, s1, s2⟩ := a2 hs
  obtain ⟨g1, g2⟩ := G.behind pok
  rw [can_law _ g1] at s1
  rw [can_law _ g2] at s2
  refine ⟨hp, fun z => hs (a1.mp z), pok, ?_, ?_⟩
  · have := ((leastC_spec g1).2.1 j).mp s1; omega
  · have := ((leastC_spec g2).2.1 j).mp s2; omega
theorem ask_good {n m : Int} {row : List QA} (n0 : 0 ≤ n) : (askV n m row).Pairwise (· < ·) ∧ (∀ t ∈ askV n m row, t ∈ leftV n m row) ∧ goodQu n (askV n m row) = true ∧ (askV n m row).length ≤ n.toNat := by
  have h1 : (askV n m row).Pairwise (· < ·) := sortU_pw _
  have h2 : ∀ t ∈ askV n m row, t ∈ leftV n m row := fun t h => pick_left t (mem_sortU.mp h)
  refine ⟨h1, h2, goodQu_iff.mpr ⟨h1, fun x hx => ((mem_left n0).mp (h2 x hx)).1⟩, ?_⟩
  have := len_le_of_sub (U := rng 0 n.toNat) (h1.imp fun h => by omega : (askV n m row).Nodup) fun x hx => (List.mem_filter.mp (h2 x hx)).1
  rw [rng_length] at this
  exact this
theorem ask_step {n m : Int} {row : List QA} (n1 : 1 ≤ n) (n12 : n ≤ 12) (m0 : 0 ≤ m) (m2 : m ≤ 2) (hs : ¬ (gCounts n m row).sum ≤ 1) (b : Bool) : leastC (gCounts n m (row ++ [(askV n m row, b)])) + 1 ≤ leastC (gCounts n m row) := by
  obtain ⟨_, _, pok, a, c⟩ := ask_part n1 n12 m0 m2 hs
  have pg : partG n m row (askV n m row) = partA n m row := partG_pick (by omega) m0 pok
  cases b with
  | true => rw [(gC_behind m0).1, pg]; exact a
  | false => rw [(gC_behind m0).2, pg]; exact c
theorem left_sum {n m : Int} (m0 : 0 ≤ m) (row : List QA) : ((leftV n m row).length : Int) = (gCounts n m row).sum := by rw [gC_sum m0]; rfl
/-! the asker as it is owned -/
abbrev cAsk (g : Gv) : Addr := cAt g "Asker"
def aoW (g : Gv) (N : Nat) : AO := aoI (cWork g) [("known", .o (aoKI g.P g.w (JW N)))]
def aoAsk (g : Gv) (n m : Int) (row : List QA) : AO := aoI (cAsk g) [("game", .o (aoG (cGame g) n m row)), ("worker", .o (aoW g (m + 1).toNat))]
def fsAsk (lg lw : Addr) : List (Str × FV) := [("game", .v (.r lg)), ("worker", .v (.r lw))]
structure AOpen (g : Gv) (A A1 : AH) (l lg lw lk : Addr) (n m : Int) (row : List QA) : Prop where
  gl : A1 l = some (aoI (cAsk g) (fsAsk lg lw))
  gg : A1 lg = some (aoG (cGame g) n m row)
  gw : A1 lw = some (aoI (cWork g) (fsW lk))
  gk : A1 lk = some (aoKI g.P g.w (JW (m + 1).toNat))
  n1 : lg ≠ l
  n2 : lw ≠ l
  n3 : lk ≠ l
  n4 : lw ≠ lg
  n5 : lk ≠ lg
  n6 : lk ≠ lw
  rest : ∀ a o, a ≠ l → A a = some o → A1 a = some o ∧ a ≠ lg ∧ a ≠ lw ∧ a ≠ lk
  fresh : ∀ a, A1 a = none → A a = none ∧ a ≠ l
theorem AOpen.work {g : Gv} {A A1 : AH} {l lg lw lk : Addr} {n m : Int} {row : List QA} (h : AOpen g A A1 l lg lw lk n m row) : WorkIn g A1 lw (m + 1).toNat := ⟨lk, h.gw, h.gk, h.n6.symm⟩
theorem AOpen.view {g : Gv} {A A1 : AH} {l lg lw lk : Addr} {n m : Int} {row : List QA} (h : AOpen g A A1 l lg lw lk n m row) : View A1 (updA A l (aoAsk g n m row)) := by
  have v1 := View.fold (fs := fsW lk) (n := "known") (l := lk) h.gw h.gk h.n6 rfl
  obtain ⟨A2, e2⟩ : ∃ A2, A2 = updA (delA A1 lk) lw (aoW g (m + 1).toNat) := ⟨_, rfl⟩
  have v1 : View A1 A2 := by rw [e2]; exact v1
  have l2 : A2 l = some (aoI (cAsk g) (fsAsk lg lw)) := by rw [e2, updA_ne h.n2.symm, delA_ne h.n3.symm]; exact h.gl
  have w2 : A2 lw = some (aoW g (m + 1).toNat) := by rw [e2, updA_same]
  have g2 : A2 lg = some (aoG (cGame g) n m row) := by rw [e2, updA_ne h.n4.symm, delA_ne h.n5.symm]; exact h.gg
  have v2 := View.fold (fs := fsAsk lg lw) (n := "worker") (l := lw) l2 w2 h.n2 rfl
  obtain ⟨A3, e3⟩ : ∃ A3, A3 = updA (delA A2 lw) l (aoI (cAsk g) [("game", .v (.r lg)), ("worker", .o (aoW g (m + 1).toNat))]) := ⟨_, rfl⟩
  have v2 : View A2 A3 := by rw [e3]; exact v2
  have l3 : A3 l = some (aoI (cAsk g) [("game", .v (.r lg)), ("worker", .o (aoW g (m + 1).toNat))]) := by rw [e3, updA_same]
  have g3 : A3 lg = some (aoG (cGame g) n m row) := by rw [e3, updA_ne h.n1, delA_ne h.n4.symm]; exact g2
  have v3 := View.fold (n := "game") (l := lg) l3 g3 h.n1 rfl
  refine v1.trans (v2.trans (v3.trans (View.ext fun a o q => ?_)))
  by_cases e : a = l
  · subst e
    rw [updA_same] at q ⊢
    exact q
  · rw [updA_ne e] at q
    obtain ⟨r1, r2, r3, r4⟩ := h.rest a o e q
    rw [updA_ne e, delA_ne r2, e3, updA_ne e, delA_ne r3, e2, updA_ne r3, delA_ne r4]
    exact r1
theorem AOpen.set {g : Gv} {A A1 : AH} {l lg lw lk : Addr} {n m : Int} {row : List QA} (h : AOpen g A A1 l lg lw lk n m row) (row' : List QA) : AOpen g A (updA A1 lg (aoG (cGame g) n m row')) l lg lw lk n m row' := by
  refine ⟨by rw [updA_ne h.n1.symm]; exact h.gl, updA_same, by rw [updA_ne h.n4]; exact h.gw, by rw [updA_ne h.n5]; exact h.gk, h.n1, h.n2, h.n3, h.n4, h.n5, h.n6, fun a o e q => ?_, fun a q => ?_⟩
  · obtain ⟨r1, r2⟩ := h.rest a o e q
    exact ⟨by rw [updA_ne r2.1]; exact r1, r2⟩
  · by_cases e : a = lg
    · subst e; rw [updA_same] at q; cases q
    · rw [updA_ne e] at q; exact h.fresh a q
theorem AOpen.back {g : Gv} {A A1 : AH} {l lg lw lk : Addr} {n m : Int} {row : List QA} (h : AOpen g A A1 l lg lw lk n m row) (hA : A l = some (aoAsk g n m row)) : View A1 A := by have := h.view; rwa [updA_self hA] at this
theorem AOpen.pure {g : Gv} {A A1 : AH} {l lg lw lk l' : Addr} {n m : Int} {row : List QA} {o : AO} (h : AOpen g A A1 l lg lw lk n m row) (hA : A l = some (aoAsk g n m row)) (hl' : A1 l' = none) : View (updA A1 l' o) (updA A l' o) := by
  have f := h.fresh l' hl'
  have n1 : l' ≠ lg := fun e => by rw [e, h.gg] at hl'; cases hl'
  have n2 : l' ≠ lw := fun e => by rw [e, h.gw] at hl'; cases hl'
  have n3 : l' ≠ lk := fun e => by rw [e, h.gk] at hl'; cases hl'
  have := AOpen.view (A := updA A l' o) (A1 := updA A1 l' o) (l := l) (lg := lg) (lw := lw) (lk := lk) (n := n) (m := m) (row := row) (g := g) ⟨by rw [updA_ne f.2.symm]; exact h.gl, by rw [updA_ne n1.symm]; exact h.gg, by rw [updA_ne n2.symm]; exact h.gw, by rw [updA_ne n3.symm]; exact h.gk, h.n1, h.n2, h.n3, h.n4, h.n5, h.n6, fun a u e q => by
    by_cases c : a = l'
    · subst c; rw [updA_same] at q ⊢; exact ⟨q, n1, n2, n3⟩
    · rw [updA_ne c] at q ⊢; exact h.rest a u e q, fun a q => by
    by_cases c : a = l'
    · subst c; rw [updA_same] at q; cases q
    · rw [updA_ne c] at q ⊢; exact h.fresh a q⟩
  rwa [updA_self (show (updA A l' o) l = some (aoAsk g n m row) by rw [updA_ne f.2.symm]; exact hA)] at this
section
variable {g : Gv} {I : CI} {R : Rz} {Γ : Gam} {A : AH} {D : AEnds} {sts : List Stmt} {l : Addr} {n m : Int} {row : List QA}
theorem s_openA (ha : A l = some (aoAsk g n m row)) (k : ∀ lg lw lk A1, AOpen g A A1 l lg lw lk n m row → WSs g I R Γ A1 sts D) : WSs g I R Γ A sts D := by
  refine s_open (n := "game") ha rfl fun lg h1 n1 => ?_
  obtain ⟨A2, e2⟩ : ∃ A2, A2 = updA (updA A l (aoI (cAsk g) [("game", .v (.r lg)), ("worker", .o (aoW g (m + 1).toNat))])) lg (aoG (cGame g) n m row) := ⟨_, rfl⟩
  show WSs g I R Γ (updA (updA A l (aoI (cAsk g) [("game", .v (.r lg)), ("worker", .o (aoW g (m + 1).toNat))])) lg (aoG (cGame g) n m row)) sts D
  rw [← e2]
  have l2 : A2 l = some (aoI (cAsk g) [("game", .v (.r lg)), ("worker", .o (aoW g (m + 1).toNat))]) := by rw [e2, updA_ne n1.symm, updA_same]
  refine s_open (n := "worker") l2 rfl fun lw h2 n2 => ?_
  have n4 : lw ≠ lg := fun e => by rw [e, e2, updA_same] at h2; cases h2
  obtain ⟨A3, e3⟩ : ∃ A3, A3 = updA (updA A2 l (aoI (cAsk g) (fsAsk lg lw))) lw (aoW g (m + 1).toNat) := ⟨_, rfl⟩
  show WSs g I R Γ (updA (updA A2 l (aoI (cAsk g) (fsAsk lg lw))) lw (aoW g (m + 1).toNat)) sts D
  rw [← e3]
  have w3 : A3 lw = some (aoW g (m + 1).toNat) := by rw [e3, updA_same]
  refine s_open (n := "known") w3 rfl fun lk h3 n6 => ?_
  have n3 : lk ≠ l := fun e => by rw [e, e3, updA_ne n2.symm, updA_same] at h3; cases h3
  have n5 : lk ≠ lg := fun e => by rw [e, e3, updA_ne n4.symm, updA_ne n1, e2, updA_same] at h3; cases h3
  refine k lg lw lk _ ⟨?_, ?_, ?_, updA_same, n1, n2, n3, n4, n5, n6, fun a o e q => ?_, fun a q => ?_⟩
  · rw [updA_ne n3.symm, updA_ne n2.symm, e3, updA_ne n2.symm, updA_same]
  · rw [updA_ne n5.symm, updA_ne n4.symm, e3, updA_ne n4.symm, updA_ne n1, e2, updA_same]
  · rw [updA_ne n6.symm, updA_same]; rfl
  · have a1 : a ≠ lg := fun z => by rw [z, h1] at q; cases q
    have q2 : A2 a = some o := by rw [e2, updA_ne a1, updA_ne e]; exact q
    have a2 : a ≠ lw := fun z => by rw [z, h2] at q2; cases q2
    have q3 : A3 a = some o := by rw [e3, updA_ne a2, updA_ne e]; exact q2
    have a3 : a ≠ lk := fun z => by rw [z, h3] at q3; cases q3
    rw [updA_ne a3, updA_ne a2]
    exact ⟨q3, a1, a2, a3⟩
  · have a3 : a ≠ lk := fun z => by rw [z, updA_same] at q; cases q
    have a2 : a ≠ lw := fun z => by rw [z, updA_ne n6.symm, updA_same] at q; cases q
    have al : a ≠ l := fun z => by rw [z, updA_ne n3.symm, updA_ne n2.symm, e3, updA_ne n2.symm, updA_same] at q; cases q
    have ag : a ≠ lg := fun z => by rw [z, updA_ne n5.symm, updA_ne n4.symm, e3, updA_ne n4.symm, updA_ne n1, e2, updA_same] at q; cases q
    rw [updA_ne a3, updA_ne a2, e3, updA_ne a2, updA_ne al, e2, updA_ne ag, updA_ne al] at q
    exact ⟨q, al⟩
end
structure AskIn (g : Gv) (A : AH) (l : Addr) (n m : Int) (row : List QA) : Prop where
  ex : A l = some (aoAsk g n m row)
  n1 : 1 ≤ n
  n2 : n ≤ 12
  m0 : 0 ≤ m
  m2 : m ≤ 2
  rl : row.length ≤ 900
theorem AskIn.ext {g : Gv} {A A1 : AH} {l : Addr} {n m : Int} {row : List QA} (h : AskIn g A l n m row) (x : ExtA A A1) : AskIn g A1 l n m row := ⟨x _ _ h.ex, h.n1, h.n2, h.m0, h.m2, h.rl⟩
def sp_ainit (g : Gv) : ASp := fun ds A Q E => ∃ (l : Addr) (n m : Int), ds = [.r l, .d (.int n), .d (.int m)] ∧ A l = some (aoI (cAsk g) []) ∧ (foeM n m = .ok () → Q (.d .none) (updA A l (aoAsk g n m []))) ∧ (∀ e, foeM n m = .error e → ∃ A0, ExtA A0 A ∧ A0 l = none ∧ E (g.ea e) A0)
def sp_aquestion (g : Gv) : ASp := fun ds A Q _ => ∃ (l : Addr) (n m : Int) (row : List QA), ds = [.r l] ∧ AskIn g A l n m row ∧ ((gCounts n m row).sum ≤ 1 → Q (.d .none) A) ∧ (¬ (gCounts n m row).sum ≤ 1 → ∀ l', A l' = none → Q (.r l') (updA A l' (oL ((askV n m row).map .int))))
def sp_aanswer (g : Gv) : ASp := fun ds A Q E => ∃ (l : Addr) (n m : Int) (row : List QA) (b : Bool), ds = [.r l, .d (.bool b)] ∧ AskIn g A l n m row ∧ ((gCounts n m row).sum ≤ 1 → E (g.ea .counts) A) ∧ (¬ (gCounts n m row).sum ≤ 1 → someLeft n m (row ++ [(askV n m row, b)]) = true ∧ Q (.d .none) (updA A l (aoAsk g n m (row ++ [(askV n m row, b)]))))
def oneT (xs : List Int) : PyData := match xs with
  | [t] => .int t
  | _ => .none
def sp_athing (g : Gv) : ASp := pSpA g.ea fun A ds o => ∃ l n m row, ds = [.r l] ∧ AskIn g A l n m row ∧ o = .ok (oneT (leftV n m row))
def sp_aneeded (g : Gv) : ASp := pSpA g.ea fun A ds o => ∃ l n m row, ds = [.r l] ∧ AskIn g A l n m row ∧ o = .ok (.int (leastC (gCounts n m row)))
end LB

/-! Mirrors 25: what the laws of books reckon (k20, k22). -/
namespace LB
open PySem PySem.Spec PyProof.Rows L2
def JC (n : Nat) (kvs : List (NestedKey × DV)) : Prop := KeysIn (uW n) kvs ∧ ∀ c k d, valK kvs (wkey c k) = some d → d = .d (.bool (lawC k c))
theorem JC_nil (n : Nat) : JC n [] := ⟨.nil, fun _ _ _ h => nomatch h⟩
theorem JC.put {S : Int} {n : Nat} {kvs : List (NestedKey × DV)} (h : JC n kvs) {c : List Int} {k : Nat} (ok : GC S n c) (hk : k ≤ 61) : JC n (putKD kvs (wkey c k) (.d (.bool (lawC k c)))) := by
  refine ⟨h.1.put (mem_uW ok hk), fun s j d hd => ?_⟩
  rw [valK_put] at hd
  by_cases e : wkey s j = wkey c k
  · rw [if_pos e] at hd
    obtain ⟨rfl, rfl⟩ := wkey_inj e
    exact (Option.some.inj hd).symm
  · rw [if_neg e] at hd; exact h.2 s j d hd
theorem JC.len {n : Nat} {kvs : List (NestedKey × DV)} (h : JC n kvs) (n3 : n ≤ 3) : kvs.length ≤ 1000000 := Nat.le_trans h.1.len (uW_len n3)
def sp_lcan (f : Nat) (g : Gv) : ASp := pSpA g.ea fun A ds o => ∃ (S : Int) (n : Nat) (c : List Int) (k : Nat) (ld : Addr), ds = [.d (tI c), .d (.int k), .r ld] ∧ A ld = some (aoKI g.P g.w (JC n)) ∧ GC S n c ∧ k ≤ f ∧ k ≤ 61 ∧ o = .ok (.bool (lawC k c))
def stepC (k : Nat) (c : List Int) (b : Bool) (p : List Int) : Bool := if (!b && lawC k (behindY c p)) = true then lawC k (behindN c p) else b
theorem stepC_eq (k : Nat) (c : List Int) (b : Bool) (p : List Int) : stepC k c b p = (b || (lawC k (behindY c p) && lawC k (behindN c p))) := by
  unfold stepC
  cases b <;> cases lawC k (behindY c p) <;> cases lawC k (behindN c p) <;> rfl
theorem stepC_fold (k : Nat) (c : List Int) : ∀ (ps : List (List Int)) (b : Bool), ps.foldl (stepC k c) b = (b || ps.any fun p => lawC k (behindY c p) && lawC k (behindN c p))
  | [], b => by simp
  | p :: ps, b => by
    rw [List.foldl_cons, stepC_fold k c ps, stepC_eq, List.any_cons, Bool.or_assoc]
theorem lawC_succ {k : Nat} {c : List Int} (h : ¬ c.sum ≤ 1) : lawC (k + 1) c = (allP c).foldl (stepC k c) false := by
  show (decide (c.sum ≤ 1) || _) = _
  rw [stepC_fold, decide_eq_false h]
theorem lawC_lo {k : Nat} {c : List Int} (h : c.sum ≤ 1) : lawC k c = true := by
  cases k with
  | zero => exact decide_eq_true h
  | succ k => show (decide (c.sum ≤ 1) || _) = true; rw [decide_eq_true h]; rfl
def Ask20 (ds : List DV) (o : Except Err PyData) : Prop := (∃ (c : List Int) (x : Int), ds = [.d (.int 0), .d (tI c), .d (.int x)] ∧ c.length ≤ 1000 ∧ o = (lookSmall c).map fun _ => .int (leastC c)) ∨ ∃ (c : List Int) (m : Int), ds = [.d (.int 1), .d (tI c), .d (.int m)] ∧ c.length ≤ 1000 ∧ o = toldM c m
theorem ask20_ce {ds : List DV} {o : Except Err PyData} (h : Ask20 ds o) : CE o := by
  rcases h with ⟨c, x, _, _, rfl⟩ | ⟨c, m, _, _, rfl⟩
  · exact CE.map (ce_small c)
  · exact CE.bind (ce_small c) fun _ => CE.map (ce_qs m)
def sp_got20 (ea : Err → Addr) : ASp := pSp ea fun ds o => ∃ o', Ask20 ds o' ∧ o = .ok (toldD o' "counts")
theorem toldM_ok {S : Int} {n : Nat} {c : List Int} {m : Nat} (h : GC S n c) (h1 : m ≤ 60) : toldM c m = .ok (if (canW m c).isSome = true then .tuple [.str "plan", planW m c] else .tuple [.str "book", .list ((bookB (bookW m c [])).map dTP)]) := by
  have gq : goodQ (m : Int) = true := by unfold goodQ; simp; omega
  have e : lookQs (m : Int) = .ok () := by unfold lookQs; rw [if_pos gq]
  have e2 : lookSmall c = .ok () := by unfold lookSmall; rw [if_pos h.small]
  unfold toldM
  rw [e, e2]; rfl
end LB

/-! Mirrors 30: the law of plans' texts (k70): runs of figures, what is put in and taken out. -/
namespace LB
open PySem PySem.Spec PyProof.Rows L2 TL
def mr (M : Nat) : Nat → List Nat → Bool
  | _, [] => true
  | k, c :: l => if isD c = true then decide (k + 1 ≤ M) && mr M (k + 1) l else mr M 0 l
def pend : Nat → List Nat → Nat
  | k, [] => k
  | k, c :: l => if isD c = true then pend (k + 1) l else pend 0 l
theorem mr_d {M k c : Nat} {l : List Nat} (h : isD c = true) : mr M k (c :: l) = (decide (k + 1 ≤ M) && mr M (k + 1) l) := by rw [mr, if_pos h]
theorem mr_n {M k c : Nat} {l : List Nat} (h : isD c = false) : mr M k (c :: l) = mr M 0 l := by rw [mr, if_neg (by rw [h]; decide)]
theorem mr_le {M M' : Nat} (hM : M ≤ M') : ∀ (l : List Nat) {k k' : Nat}, k' ≤ k → mr M k l = true → mr M' k' l = true
  | [], _, _, _, _ => rfl
  | c :: l, k, k', hk, h => by
    cases z : isD c with
    | true =>
      rw [mr_d z, Bool.and_eq_true, decide_eq_true_eq] at h ⊢
      exact ⟨by omega, mr_le hM l (by omega) h.2⟩
    | false =>
      rw [mr_n z] at h ⊢
      exact mr_le hM l (Nat.le_refl _) h
theorem mr_shift {M : Nat} (j : Nat) : ∀ (l : List Nat) {k : Nat}, mr M k l = true → mr (M + j) (k + j) l = true
  | [], _, _ => rfl
  | c :: l, k, h => by
    cases z : isD c with
    | true =>
      rw [mr_d z, Bool.and_eq_true, decide_eq_true_eq] at h ⊢
      refine ⟨by omega, ?_⟩
      rw [show k + j + 1 = k + 1 + j by omega]
      exact mr_shift j l h.2
    | false =>
      rw [mr_n z] at h ⊢
      exact mr_le (by omega) l (Nat.le_refl _) h
theorem mr_app {M : Nat} : ∀ (u : List Nat) {k : Nat} {v : List Nat}, mr M k (u ++ v) = (mr M k u && mr M (pend k u) v)
  | [], k, v => by show mr M k v = (true && mr M k v); rw [Bool.true_and]
  | c :: u, k, v => by
    rw [List.cons_append]
    cases z : isD c with
    | true => rw [mr_d z, mr_d z, mr_app u, pend, if_pos z, Bool.and_assoc]
    | false => rw [mr_n z, mr_n z, mr_app u, pend, if_neg (by rw [z]; decide)]
theorem pend_le {M : Nat} : ∀ (u : List Nat) {k : Nat}, k ≤ M → mr M k u = true → pend k u ≤ M
  | [], k, hk, _ => hk
  | c :: u, k, hk, h => by
    cases z : isD c with
    | true =>
      rw [mr_d z, Bool.and_eq_true, decide_eq_true_eq] at h
      rw [pend, if_pos z]; exact pend_le u h.1 h.2
    | false =>
      rw [mr_n z] at h
      rw [pend, if_neg (by rw [z]; decide)]; exact pend_le u (Nat.zero_le _) h
theorem mr_edit {M : Nat} {u d v ins : List Nat} (h : mr M 0 (u ++ (d ++ v)) = true) (hi : ins.length ≤ 1) : mr (2 * M + 1) 0 (u ++ (ins ++ v)) = true := by
  rw [mr_app, mr_app, Bool.and_eq_true, Bool.and_eq_true] at h
  obtain ⟨h1, _, h3⟩ := h
  have hp := pend_le u (Nat.zero_le _) h1
  have hv : mr M 0 v = true := mr_le (Nat.le_refl _) v (Nat.zero_le _) h3
  have hv2 : ∀ k, k ≤ M + 1 → mr (2 * M + 1) k v = true := fun k hk => mr_le (by omega) v (by omega) (mr_shift (M + 1) v hv)
  rw [mr_app, Bool.and_eq_true]
  refine ⟨mr_le (by omega) u (Nat.le_refl _) h1, ?_⟩
  match ins, hi with
  | [], _ => exact hv2 _ (by omega)
  | [c], _ =>
    show mr (2 * M + 1) (pend 0 u) (c :: v) = true
    cases z : isD c with
    | true =>
      rw [mr_d z, Bool.and_eq_true, decide_eq_true_eq]
      exact ⟨by omega, hv2 _ (by omega)⟩
    | false => rw [mr_n z]; exact hv2 _ (by omega)
theorem mr_digits {M : Nat} {r : List Nat} : ∀ (w : List Nat) {k : Nat}, (∀ c ∈ w, isD c = true) → k + w.length ≤ M → mr M k (w ++ r) = mr M (k + w.length) r
  | [], k, _, _ => rfl
  | c :: w, k, hw, hl => by
    rw [List.length_cons] at hl
    rw [List.cons_append, mr_d (hw c List.mem_cons_self), decide_eq_true (by omega), Bool.true_and, mr_digits w (fun d hd => hw d (List.mem_cons_of_mem _ hd)) (by omega), List.length_cons]
    congr 1; omega
theorem mr_mtx {r : List Nat} {c : Nat} (hc : isD c = false) : ∀ (ns : List Int) {k : Nat}, (∀ x ∈ ns, x ≤ 99) → mr 2 k (mtx ns ++ c :: r) = mr 2 0 r
  | [], k, _ => by show mr 2 k (c :: r) = _; rw [mr_n hc]
  | n :: ns, k, h => by
    show mr 2 k (44 :: (decI n ++ mtx ns) ++ c :: r) = _
    rw [List.cons_append, mr_n (by decide), List.append_assoc, mr_digits _ (decI_isD n) (by have := decI_len (h n List.mem_cons_self); omega)]
    exact mr_mtx hc ns fun x hx => h x (List.mem_cons_of_mem _ hx)
theorem mr_text : ∀ (f : Nat) {p : Pl} {k : Nat} {r : List Nat}, PG f p → mr 2 k (wtext p ++ r) = mr 2 0 r
  | 0, p, k, r, h => h.elim
  | f + 1, .nil, k, r, _ => by show mr 2 k (46 :: r) = _; rw [mr_n (by decide)]
  | f + 1, .odd _, k, r, h => h.elim
  | f + 1, .node [] y z, k, r, h => absurd rfl h.1
  | f + 1, .node (n :: ns) y z, k, r, h => by
    obtain ⟨_, hn, hy, hz⟩ := h
    have e : wtext (.node (n :: ns) y z) ++ r = 40 :: (decI n ++ (mtx ns ++ 32 :: (wtext y ++ 32 :: (wtext z ++ 41 :: r)))) := by
      show 40 :: (joinL [44] ((n :: ns).map decI) ++ 32 :: (wtext y ++ 32 :: (wtext z ++ [41]))) ++ r = _
      rw [join_mtx]; simp
    rw [e, mr_n (by decide), mr_digits _ (decI_isD n) (by have := decI_len (hn n List.mem_cons_self).2; omega), mr_mtx (by decide) ns (fun x hx => (hn x (List.mem_cons_of_mem _ hx)).2), mr_text f hy, mr_n (by decide), mr_text f hz, mr_n (by decide)]
def WOk (M : Nat) (w : List Nat) : Prop := w ≠ [] ∧ (hdD w = true → NumText.AllDigits w ∧ w.length ≤ M)
theorem words_ok {M : Nat} : ∀ (l : List Nat) (acc : List (List Nat)) (k : Nat), mr M k l = true → (∀ pre w, acc = pre ++ [w] → hdD w = true → w.length ≤ k) → (∀ w ∈ acc, WOk M w) → (∀ w ∈ l.foldl stepWd acc, WOk M w) ∧ (l.foldl stepWd acc).length ≤ acc.length + l.length
  | [], acc, k, _, _, h => ⟨h, by show acc.length ≤ acc.length + 0; omega⟩
  | c :: l, acc, k, hm, hk, h => by
    rw [List.foldl_cons, List.length_cons]
    have one : ∀ (hc : isD c = true → 1 ≤ M) , WOk M [c] := fun hc => ⟨by simp, fun hh => ⟨fun d hd => by
      rw [List.mem_singleton] at hd; subst hd; exact of_decide_eq_true hh, hc hh⟩⟩
    cases z : isD c with
    | false =>
      rw [mr_n z] at hm
      rw [step_nd z]
      have := words_ok l (acc ++ [[c]]) 0 hm (fun pre w e hw => by
        have := List.append_inj' e rfl
        have e2 := List.cons.inj this.2
        rw [← e2.1] at hw
        have hw : isD c = true := hw
        rw [z] at hw; cases hw) (fun w hw => by
        rcases List.mem_append.mp hw with hw | hw
        · exact h w hw
        · rw [List.mem_singleton] at hw; subst hw; exact one fun q => by rw [z] at q; cases q)
      refine ⟨this.1, Nat.le_trans this.2 ?_⟩
      rw [List.length_append, List.length_singleton]; omega
    | true =>
      rw [mr_d z, Bool.and_eq_true, decide_eq_true_eq] at hm
      cases y : lastD acc with
      | false =>
        rw [step_new y]
        have := words_ok l (acc ++ [[c]]) (k + 1) hm.2 (fun pre w e hw => by
          have := List.append_inj' e rfl
          have e2 := List.cons.inj this.2
          rw [← e2.1]; show 1 ≤ k + 1; omega) (fun w hw => by
          rcases List.mem_append.mp hw with hw | hw
          · exact h w hw
          · rw [List.mem_singleton] at hw; subst hw; exact one fun _ => by omega)
        refine ⟨this.1, Nat.le_trans this.2 ?_⟩
        rw [List.length_append, List.length_singleton]; omega
      | true =>
        obtain ⟨pre, w, rfl⟩ : ∃ pre w, acc = pre ++ [w] := by
          rcases List.eq_nil_or_concat acc with e | ⟨pre, w, e⟩
          · rw [e] at y; cases y
          · exact ⟨pre, w, by rw [e, List.concat_eq_append]⟩
        rw [lastD_snoc] at y
        rw [step_more y z]
        have hw := h w (List.mem_append_right _ List.mem_cons_self)
        have hl := hk pre w rfl y
        have := words_ok l (pre ++ [w ++ [c]]) (k + 1) hm.2 (fun pre' w' e hw' => by
          have := List.append_inj' e rfl
          have e2 := List.cons.inj this.2
          rw [← e2.1, List.length_append, List.length_singleton]; omega) (fun w' hw' => by
          rcases List.mem_append.mp hw' with hw' | hw'
          · exact h w' (List.mem_append_left _ hw')
          · rw [List.mem_singleton] at hw'; subst hw'
            refine ⟨by simp, fun _ => ⟨fun d hd => ?_, by rw [List.length_append, List.length_singleton]; omega⟩⟩
            rcases List.mem_append.mp hd with hd | hd
            · exact (hw.2 y).1 d hd
            · rw [List.mem_singleton] at hd; subst hd; exact of_decide_eq_true z)
        refine ⟨this.1, Nat.le_trans this.2 ?_⟩
        rw [List.length_append, List.length_append, List.length_singleton, List.length_singleton]; omega
theorem wordsL_ok {M : Nat} {l : List Nat} (h : mr M 0 l = true) : (∀ w ∈ wordsL l, WOk M w) ∧ (wordsL l).length ≤ l.length := by
  have := words_ok l [] 0 h (fun pre w e => by simp at e) (fun w hw => (List.not_mem_nil hw).elim)
  exact ⟨this.1, by have h2 := this.2; rw [List.length_nil, Nat.zero_add] at h2; exact h2⟩
def oneS : List Nat := [40, 41, 44, 46, 32, 48, 49, 50, 57]
def atS (x : Int) (t : List Nat) : Nat := (x / 8 % ((t.length : Int) + 1)).toNat
def someS (x : Int) (t : List Nat) : List (List Nat) := [t.take (atS x t) ++ [nth oneS (x / 4096 % 9)] ++ t.drop (atS x t), t.take (atS x t) ++ [nth oneS (x / 4096 % 9)] ++ t.drop (atS x t + 1), t.take (atS x t) ++ t.drop (atS x t + 1)]
def mutS (x : Int) (t : List Nat) : List Nat := nth (someS x t) (x % 3)
theorem mut_ok {M : Nat} {t : List Nat} (x : Int) (h : mr M 0 t = true) : mr (2 * M + 1) 0 (mutS x t) = true ∧ (mutS x t).length ≤ t.length + 1 := by
  have q : x % 3 = 0 ∨ x % 3 = 1 ∨ x % 3 = 2 := by omega
  have e0 : t = t.take (atS x t) ++ ([] ++ t.drop (atS x t)) := by rw [List.nil_append, List.take_append_drop]
  have e1 : t = t.take (atS x t) ++ ((t.drop (atS x t)).take 1 ++ t.drop (atS x t + 1)) := by
    rw [← List.drop_drop, List.take_append_drop, List.take_append_drop]
  unfold mutS
  generalize hx : nth oneS (x / 4096 % 9) = c
  rcases q with q | q | q <;> rw [q]
  · have e : nth (someS x t) 0 = t.take (atS x t) ++ ([c] ++ t.drop (atS x t)) := by
      show t.take (atS x t) ++ [nth oneS (x / 4096 % 9)] ++ t.drop (atS x t) = _
      rw [hx, List.append_assoc]
    rw [e]
    exact ⟨mr_edit (d := []) (by rw [← e0]; exact h) (Nat.le_refl _), by simp only [List.length_append, List.length_take, List.length_drop, List.length_singleton]; omega⟩
  · have e : nth (someS x t) 1 = t.take (atS x t) ++ ([c] ++ t.drop (atS x t + 1)) := by
      show t.take (atS x t) ++ [nth oneS (x / 4096 % 9)] ++ t.drop (atS x t + 1) = _
      rw [hx, List.append_assoc]
    rw [e]
    exact ⟨mr_edit (d := (t.drop (atS x t)).take 1) (by rw [← e1]; exact h) (Nat.le_refl _), by simp only [List.length_append, List.length_take, List.length_drop, List.length_singleton]; omega⟩
  · have e : nth (someS x t) 2 = t.take (atS x t) ++ ([] ++ t.drop (atS x t + 1)) := rfl
    rw [e]
    exact ⟨mr_edit (d := (t.drop (atS x t)).take 1) (by rw [← e1]; exact h) (Nat.zero_le _), by simp only [List.length_append, List.length_take, List.length_drop, List.length_nil]; omega⟩
/-- a plan that does is one that can be written -/
theorem does_pg {S : Int} {n : Nat} : ∀ {pl : Pl} {c : List Int} {m : Int} {f : Nat}, GC S n c → pl.Good → doesV pl c m = true → pl.ht < f → PG f pl ∧ (wtext pl).length + 13 ≤ 14 * 2 ^ pl.ht
  | .nil, c, m, f + 1, g, _, h, hf => ⟨trivial, by show 1 + 13 ≤ 14 * 1; omega⟩
  | .odd _, c, m, f, g, gd, h, hf => gd.elim
  | .nil, c, m, 0, g, _, h, hf => absurd hf (Nat.not_lt_zero _)
  | .node p y z, c, m, 0, g, _, h, hf => absurd hf (Nat.not_lt_zero _)
  | .node p y z, c, m, f + 1, g, gd, h, hf => by
    have h : (!decide (m = 0) && (partOk c p && (doesV y (behindY c p) (m - 1) && doesV z (behindN c p) (m - 1)))) = true := h
    rw [Bool.and_eq_true, Bool.and_eq_true, Bool.and_eq_true] at h
    obtain ⟨_, pok, hy, hz⟩ := h
    obtain ⟨g1, g2⟩ := g.behind pok
    have hf : 1 + max y.ht z.ht < f + 1 := hf
    obtain ⟨a1, a2⟩ := does_pg (f := f) g1 gd.1 hy (by omega)
    obtain ⟨b1, b2⟩ := does_pg (f := f) g2 gd.2 hz (by omega)
    have pl := partOk_len pok
    have n1 := g.n1; have n3 := g.n3; have gl := g.len
    have hp : ∀ x ∈ p, 0 ≤ x ∧ x ≤ 99 := fun x hx => by
      obtain ⟨i, hi, e⟩ := List.getElem_of_mem hx
      have := partOk_nth pok (k := (i : Int)) (by omega) (by omega)
      have e2 : nth p (i : Int) = x := by
        have q := atI_nth (xs := p) (k := (i : Int)) (by omega) (by omega)
        rw [← e]
        unfold nth
        simp [hi]
      rw [e2] at this
      have b := g.le (nth_mem (xs := c) (k := (i : Int)) (by omega) (by omega))
      have := g.s64
      omega
    refine ⟨⟨fun z => by rw [z] at pl; simp at pl; omega, hp, a1, b1⟩, ?_⟩
    have w := wtext_len (p := p) (y := y) (z := z) fun x hx => (hp x hx).2
    show _ ≤ 14 * 2 ^ (1 + max y.ht z.ht)
    rw [Nat.add_comm 1, Nat.pow_succ]
    have a : 2 ^ y.ht ≤ 2 ^ max y.ht z.ht := Nat.pow_le_pow_right (by decide) (by omega)
    have b : 2 ^ z.ht ≤ 2 ^ max y.ht z.ht := Nat.pow_le_pow_right (by decide) (by omega)
    omega
theorem PG.good : ∀ {f : Nat} {p : Pl}, PG f p → p.Good ∧ p.Ok ∧ p.ht < f ∧ NumOk p
  | 0, p, h => h.elim
  | f + 1, .nil, _ => ⟨trivial, trivial, Nat.succ_pos _, fun x hx => (List.not_mem_nil hx).elim⟩
  | f + 1, .odd _, h => h.elim
  | f + 1, .node p y z, h => by
    have nk := h.big
    obtain ⟨_, _, hy, hz⟩ := h
    obtain ⟨a1, a2, a3, _⟩ := hy.good
    obtain ⟨b1, b2, b3, _⟩ := hz.good
    exact ⟨⟨a1, b1⟩, ⟨a2, b2⟩, by show 1 + max y.ht z.ht < f + 1; omega, nk⟩
def deepT : Nat → Pl
  | 0 => .nil
  | n + 1 => .node [1, 12] .nil (deepT n)
theorem deepT_pg : ∀ n f, n < f → PG f (deepT n) ∧ (wtext (deepT n)).length ≤ 20 * n + 1 ∧ (deepT n).ht = n
  | 0, f + 1, _ => ⟨trivial, Nat.le_refl _, rfl⟩
  | n + 1, f + 1, h => by
    obtain ⟨a, b, c⟩ := deepT_pg n f (by omega)
    refine ⟨⟨by simp, by decide, ?_, a⟩, ?_, by show 1 + max 0 (deepT n).ht = n + 1; omega⟩
    · cases f with
      | zero => omega
      | succ f => trivial
    · have w := wtext_len (p := [1, 12]) (y := .nil) (z := deepT n) (by decide)
      have e : (wtext Pl.nil).length = 1 := rfl
      have e2 : [(1 : Int), 12].length = 2 := rfl
      show (wtext (.node [1, 12] .nil (deepT n))).length ≤ _
      omega
def parD : Option (Pl × Nat) → PyData
  | none => .none
  | some q => .tuple [plD q.1, .int q.2]
def sp_lparsed (f : Nat) (ea : Err → Addr) : ASp := pSp ea fun ds o => ∃ (ws : List (List Nat)) (i d : Nat), ds = [.d (.list (ws.map stD)), .d (.int i), .d (.int d)] ∧ d + f = 61 ∧ (∀ w ∈ ws, WOk 640 w) ∧ ws.length ≤ 8000000 ∧ (∀ w ∈ ws, w.length ≤ BIG) ∧ o = .ok (parD (parsedL ws f i))
def sp_lwords (ea : Err → Addr) : ASp := pSp ea fun ds o => ∃ l : List Nat, ds = [.d (stD l)] ∧ l.length ≤ BIG ∧ o = .ok (.list ((wordsL l).map stD))
def triD : Option Pl → PyData
  | none => .none
  | some p => plD p
def sp_ltried (ea : Err → Addr) : ASp := pSp ea fun ds o => ∃ l : List Nat, ds = [.d (stD l)] ∧ l.length ≤ 4000000 ∧ mr 640 0 l = true ∧ o = .ok (triD (readR l))
def sp_ldeepT (ea : Err → Addr) : ASp := pSp ea fun ds o => ∃ n : Nat, ds = [.d (.int n)] ∧ n ≤ 1000 ∧ o = .ok (plD (deepT n))
/-- what is asked of the program -/
def Ask70 (ds : List DV) (o : Except Err PyData) : Prop := (∃ pl : Pl, ds = [.d (.int 0), .d (plD pl)] ∧ pl.Ok ∧ pl.ht ≤ 61 ∧ (pl.Good → NumOk pl ∧ (wtext pl).length ≤ BIG) ∧ o = writtenM pl) ∨ (∃ l : List Nat, ds = [.d (.int 1), .d (stD l)] ∧ l.length ≤ BIG ∧ o = readM l) ∨ ∃ pl : Pl, ds = [.d (.int 2), .d (plD pl)] ∧ pl.Ok ∧ pl.ht ≤ 61 ∧ (endsP pl).length ≤ BIG ∧ o = lengthsM pl
def tolE : Except Err PyData → PyData
  | .ok d => d
  | .error e => .str ((nmE e).getD "wrong")
def sp_told70 (ea : Err → Addr) : ASp := pSp ea fun ds o => ∃ o', Ask70 ds o' ∧ o = .ok (tolE o')
theorem ask70_nm {ds : List DV} {o : Except Err PyData} (h : Ask70 ds o) : ∀ e, o = .error e → ∃ s, nmE e = some s := by
  rcases h with ⟨pl, _, _, _, _, rfl⟩ | ⟨l, _, _, rfl⟩ | ⟨pl, _, _, _, _, rfl⟩
  · intro e h
    unfold writtenM lookPlan at h
    cases z : lookPl 0 pl with
    | true => rw [z] at h; cases h
    | false => rw [z] at h; cases h; exact ⟨_, rfl⟩
  · intro e h
    unfold readM at h
    cases z : readR l with
    | some p => rw [z] at h; cases h
    | none => rw [z] at h; cases h; exact ⟨_, rfl⟩
  · intro e h
    unfold lengthsM lookPlan at h
    cases z : lookPl 0 pl with
    | true => rw [z] at h; cases h
    | false => rw [z] at h; cases h; exact ⟨_, rfl⟩
theorem deep61 : readR (wtext (deepT 61)) = none := by
  have h : (readR (wtext (deepT 61))).isNone = true := by decide +kernel
  cases z : readR (wtext (deepT 61)) with
  | none => rfl
  | some p => rw [z] at h; cases h
end LB

namespace LB
open PySem PySem.Spec PyProof.Rows L2
local macro_rules | `(tactic| walk_at "bd") => `(tactic| first | omega | (simp only [List.length_map, List.length_cons, List.length_nil, rng_length, List.length_append, List.length_reverse, List.length_replicate] at *; omega))
local macro_rules | `(tactic| walk_at "len") => `(tactic| first | omega | (simp only [List.length_map, List.length_cons, List.length_nil, rng_length, List.length_append, List.length_reverse, List.length_replicate, sizeLine_eq] at *; omega))
local macro_rules | `(tactic| walk_at "div") => `(tactic| exact ⟨by omega, by omega⟩)
local macro_rules | `(tactic| walk_at "own") => `(tactic| first | exact updA_same | (refine Eq.trans (updA_ne (by assumption)) ?_; walk_at "own"))
local macro_rules | `(tactic| walk_at "less") => `(tactic| repeat (first | exact trivial | refine ⟨rfl, ?_⟩))
def top (i : Nat) : Stmt := PySem.Challenge.pw_liarbook_k70_whole_plan_texts.main.body.getD i (.Pass ⟨0, 0, 0, 0⟩)
abbrev s_look_counts : Stmt := top 11
theorem sc_look_counts : FnScope ["counts", "many"] ["counts"] (defScope s_look_counts) := ⟨rfl, rfl, rfl, by decide +kernel, rfl, by decide +kernel, by decide +kernel⟩
abbrev s_look_questions : Stmt := top 12
theorem sc_look_questions : FnScope ["many"] ["many"] (defScope s_look_questions) := ⟨rfl, rfl, rfl, by decide +kernel, rfl, by decide +kernel, by decide +kernel⟩
abbrev s_choices : Stmt := top 13
theorem sc_choices : FnScope ["many", "most", "found", "here", "k"] ["many", "most"] (defScope s_choices) := ⟨rfl, rfl, rfl, by decide +kernel, rfl, by decide +kernel, by decide +kernel⟩
abbrev s_weight : Stmt := top 14
theorem sc_weight : FnScope ["counts", "many", "found", "k"] ["counts", "many"] (defScope s_weight) := ⟨rfl, rfl, rfl, by decide +kernel, rfl, by decide +kernel, by decide +kernel⟩
abbrev s_two_to : Stmt := top 15
theorem sc_two_to : FnScope ["many", "found", "k"] ["many"] (defScope s_two_to) := ⟨rfl, rfl, rfl, by decide +kernel, rfl, by decide +kernel, by decide +kernel⟩
abbrev s_behind : Stmt := top 16
theorem sc_behind : FnScope ["counts", "part", "rest", "yes", "no", "k"] ["counts", "part"] (defScope s_behind) := ⟨rfl, rfl, rfl, by decide +kernel, rfl, by decide +kernel, by decide +kernel⟩
abbrev s_bound : Stmt := top 17
theorem sc_bound : FnScope ["counts", "many"] ["counts"] (defScope s_bound) := ⟨rfl, rfl, rfl, by decide +kernel, rfl, by decide +kernel, by decide +kernel⟩
abbrev s_look_small : Stmt := top 21
theorem sc_look_small : FnScope ["counts"] ["counts"] (defScope s_look_small) := ⟨rfl, rfl, rfl, by decide +kernel, rfl, by decide +kernel, by decide +kernel⟩
abbrev s_parts : Stmt := top 22
theorem sc_parts : FnScope ["counts", "found", "many", "longer", "part", "some", "far", "k"] ["counts"] (defScope s_parts) := ⟨rfl, rfl, rfl, by decide +kernel, rfl, by decide +kernel, by decide +kernel⟩
abbrev s_unevenness : Stmt := top 23
theorem sc_unevenness : FnScope ["counts", "part", "k"] ["counts", "part"] (defScope s_unevenness) := ⟨rfl, rfl, rfl, by decide +kernel, rfl, by decide +kernel, by decide +kernel⟩
abbrev s_Worker___init__ : Stmt := inClass (top 24) 0
theorem sc_Worker___init__ : FnScope ["self"] ["self"] (defScope s_Worker___init__) := ⟨rfl, rfl, rfl, by decide +kernel, rfl, by decide +kernel, by decide +kernel⟩
abbrev s_Worker_can : Stmt := inClass (top 24) 1
theorem sc_Worker_can : FnScope ["self", "counts", "many", "key"] ["self", "counts", "many"] (defScope s_Worker_can) := ⟨rfl, rfl, rfl, by decide +kernel, rfl, by decide +kernel, by decide +kernel⟩
abbrev s_Worker_found : Stmt := inClass (top 24) 2
theorem sc_Worker_found : FnScope ["self", "counts", "many", "part", "yes", "no"] ["self", "counts", "many"] (defScope s_Worker_found) := ⟨rfl, rfl, rfl, by decide +kernel, rfl, by decide +kernel, by decide +kernel⟩
abbrev s_Worker_plan : Stmt := inClass (top 24) 3
theorem sc_Worker_plan : FnScope ["self", "counts", "many", "part", "yes", "no"] ["self", "counts", "many"] (defScope s_Worker_plan) := ⟨rfl, rfl, rfl, by decide +kernel, rfl, by decide +kernel, by decide +kernel⟩
abbrev s_Worker_book : Stmt := inClass (top 24) 4
theorem sc_Worker_book : FnScope ["self", "counts", "many", "found", "part", "yes", "no"] ["self", "counts", "many", "found"] (defScope s_Worker_book) := ⟨rfl, rfl, rfl, by decide +kernel, rfl, by decide +kernel, by decide +kernel⟩
abbrev s_least : Stmt := top 25
theorem sc_least : FnScope ["counts", "worker", "many"] ["counts"] (defScope s_least) := ⟨rfl, rfl, rfl, by decide +kernel, rfl, by decide +kernel, by decide +kernel⟩
abbrev s_told : Stmt := top 26
theorem sc_told : FnScope ["counts", "many", "worker", "found"] ["counts", "many"] (defScope s_told) := ⟨rfl, rfl, rfl, by decide +kernel, rfl, by decide +kernel, by decide +kernel⟩
abbrev s_look_plan : Stmt := top 27
theorem sc_look_plan : FnScope ["plan", "deep", "other"] ["plan", "deep"] (defScope s_look_plan) := ⟨rfl, rfl, rfl, by decide +kernel, rfl, by decide +kernel, by decide +kernel⟩
abbrev s_written_plan : Stmt := top 30
theorem sc_written_plan : FnScope ["plan", "part", "number"] ["plan"] (defScope s_written_plan) := ⟨rfl, rfl, rfl, by decide +kernel, rfl, by decide +kernel, by decide +kernel⟩
abbrev s_Signs___init__ : Stmt := inClass (top 31) 0
theorem sc_Signs___init__ : FnScope ["self", "text"] ["self", "text"] (defScope s_Signs___init__) := ⟨rfl, rfl, rfl, by decide +kernel, rfl, by decide +kernel, by decide +kernel⟩
abbrev s_Signs_is_next : Stmt := inClass (top 31) 1
theorem sc_Signs_is_next : FnScope ["self", "sign"] ["self", "sign"] (defScope s_Signs_is_next) := ⟨rfl, rfl, rfl, by decide +kernel, rfl, by decide +kernel, by decide +kernel⟩
abbrev s_Signs_need : Stmt := inClass (top 31) 2
theorem sc_Signs_need : FnScope ["self", "sign"] ["self", "sign"] (defScope s_Signs_need) := ⟨rfl, rfl, rfl, by decide +kernel, rfl, by decide +kernel, by decide +kernel⟩
abbrev s_Signs_number : Stmt := inClass (top 31) 3
theorem sc_Signs_number : FnScope ["self", "begin", "word"] ["self"] (defScope s_Signs_number) := ⟨rfl, rfl, rfl, by decide +kernel, rfl, by decide +kernel, by decide +kernel⟩
abbrev s_Signs_plan : Stmt := inClass (top 31) 4
theorem sc_Signs_plan : FnScope ["self", "deep", "part", "yes", "no"] ["self", "deep"] (defScope s_Signs_plan) := ⟨rfl, rfl, rfl, by decide +kernel, rfl, by decide +kernel, by decide +kernel⟩
abbrev s_read_plan : Stmt := top 32
theorem sc_read_plan : FnScope ["text", "signs", "found"] ["text"] (defScope s_read_plan) := ⟨rfl, rfl, rfl, by decide +kernel, rfl, by decide +kernel, by decide +kernel⟩
abbrev s_lengths_of : Stmt := top 33
theorem sc_lengths_of : FnScope ["plan", "many"] ["plan"] (defScope s_lengths_of) := ⟨rfl, rfl, rfl, by decide +kernel, rfl, by decide +kernel, by decide +kernel⟩
abbrev s__law_cell : Stmt := top 35
theorem sc__law_cell : FnScope ["_law_script", "_law_k"] ["_law_script", "_law_k"] (defScope s__law_cell) := ⟨rfl, rfl, rfl, by decide +kernel, rfl, by decide +kernel, by decide +kernel⟩
abbrev s__law_mix : Stmt := top 36
theorem sc__law_mix : FnScope ["_law_script", "_law_k", "_law_number"] ["_law_script", "_law_k"] (defScope s__law_mix) := ⟨rfl, rfl, rfl, by decide +kernel, rfl, by decide +kernel, by decide +kernel⟩
abbrev s__law_counts : Stmt := top 37
theorem sc__law_counts : FnScope ["_law_script", "_law_k", "_law_most", "_law_sizes", "_law_size", "_law_left", "_law_found", "_law_j", "_law_many"] ["_law_script", "_law_k", "_law_most", "_law_sizes"] (defScope s__law_counts) := ⟨rfl, rfl, rfl, by decide +kernel, rfl, by decide +kernel, by decide +kernel⟩
abbrev s__law_refusal : Stmt := top 38
theorem sc__law_refusal : FnScope ["_law_kept", "_law_kinds"] ["_law_kept"] (defScope s__law_refusal) := ⟨rfl, rfl, rfl, by decide +kernel, rfl, by decide +kernel, by decide +kernel⟩
abbrev s__law_text : Stmt := top 39
theorem sc__law_text : FnScope ["_law_plan", "_law_one"] ["_law_plan"] (defScope s__law_text) := ⟨rfl, rfl, rfl, by decide +kernel, rfl, by decide +kernel, by decide +kernel⟩
abbrev s__law_ends : Stmt := top 40
theorem sc__law_ends : FnScope ["_law_plan", "_law_many"] ["_law_plan"] (defScope s__law_ends) := ⟨rfl, rfl, rfl, by decide +kernel, rfl, by decide +kernel, by decide +kernel⟩
abbrev s__law_words : Stmt := top 41
theorem sc__law_words : FnScope ["_law_text_here", "_law_found", "_law_sign"] ["_law_text_here"] (defScope s__law_words) := ⟨rfl, rfl, rfl, by decide +kernel, rfl, by decide +kernel, by decide +kernel⟩
abbrev s__law_parsed : Stmt := top 42
theorem sc__law_parsed : FnScope ["_law_words_here", "_law_at", "_law_deep_here", "_law_part", "_law_yes", "_law_no"] ["_law_words_here", "_law_at", "_law_deep_here"] (defScope s__law_parsed) := ⟨rfl, rfl, rfl, by decide +kernel, rfl, by decide +kernel, by decide +kernel⟩
abbrev s__law_tried : Stmt := top 43
theorem sc__law_tried : FnScope ["_law_text_here", "_law_found"] ["_law_text_here"] (defScope s__law_tried) := ⟨rfl, rfl, rfl, by decide +kernel, rfl, by decide +kernel, by decide +kernel⟩
abbrev s__law_biggest : Stmt := top 44
theorem sc__law_biggest : FnScope ["_law_plan"] ["_law_plan"] (defScope s__law_biggest) := ⟨rfl, rfl, rfl, by decide +kernel, rfl, by decide +kernel, by decide +kernel⟩
abbrev s__law_told : Stmt := top 45
theorem sc__law_told : FnScope ["_law_way", "_law_thing", "_law_kept", "_law_found", "e"] ["_law_way", "_law_thing"] (defScope s__law_told) := ⟨rfl, rfl, rfl, by decide +kernel, rfl, by decide +kernel, by decide +kernel⟩
abbrev s__law_deep : Stmt := top 46
theorem sc__law_deep : FnScope ["_law_many", "_law_found", "_law_k"] ["_law_many"] (defScope s__law_deep) := ⟨rfl, rfl, rfl, by decide +kernel, rfl, by decide +kernel, by decide +kernel⟩
abbrev s_law : Stmt := top 47
theorem sc_law : FnScope ["_law_script", "_law_counts_here", "_law_plan", "_law_text_here", "_law_k", "_law_number", "_law_at", "_law_one", "_law_some", "_law_due", "_law_deep_here", "_law_way"] ["_law_script"] (defScope s_law) := ⟨rfl, rfl, rfl, by decide +kernel, rfl, by decide +kernel, by decide +kernel⟩
structure Txt (g : Gv) (CL : Addr) : Prop where
  ValueError : g.mg "ValueError" = none
  abs : g.mg "abs" = none
  all : g.mg "all" = none
  int : g.mg "int" = none
  isinstance : g.mg "isinstance" = none
  len : g.mg "len" = none
  list : g.mg "list" = none
  max : g.mg "max" = none
  min : g.mg "min" = none
  range : g.mg "range" = none
  sorted : g.mg "sorted" = none
  str : g.mg "str" = none
  sum : g.mg "sum" = none
  tuple : g.mg "tuple" = none
  c_MOST_COUNT : ∃ t, g.mg "MOST_COUNT" = some (.int 64 t)
  c_MOST_QUESTIONS : ∃ t, g.mg "MOST_QUESTIONS" = some (.int 60 t)
  c_MOST_THINGS : ∃ t, g.mg "MOST_THINGS" = some (.int 12 t)
  c_MOST_DEEP : ∃ t, g.mg "MOST_DEEP" = some (.int 60 t)
  c_FIGURES : ∃ t, g.mg "FIGURES" = some (.str "0123456789" t)
  x_BadGame : ExcOk g "BadGame" (g.ea .game)
  e_BadGame : ExcC g.K (g.ea .game)
  x_BadCounts : ExcOk g "BadCounts" (g.ea .counts)
  e_BadCounts : ExcC g.K (g.ea .counts)
  x_BadQuestion : ExcOk g "BadQuestion" (g.ea .question)
  e_BadQuestion : ExcC g.K (g.ea .question)
  x_Liar : ExcOk g "Liar" (g.ea .liar)
  e_Liar : ExcC g.K (g.ea .liar)
  x_BadPlan : ExcOk g "BadPlan" (g.ea .plan)
  e_BadPlan : ExcC g.K (g.ea .plan)
  x_BadText : ExcOk g "BadText" (g.ea .text)
  e_BadText : ExcC g.K (g.ea .text)
  k_BadGame : g.mg "BadGame" = some (.ref (g.ea .game))
  kit_BadGame_BadGame : W.kitOne g.K (.ref (g.ea .game)) (.ref (g.ea .game)) = some true
  kit_BadGame_BadCounts : W.kitOne g.K (.ref (g.ea .game)) (.ref (g.ea .counts)) = some false
  kit_BadGame_BadQuestion : W.kitOne g.K (.ref (g.ea .game)) (.ref (g.ea .question)) = some false
  kit_BadGame_Liar : W.kitOne g.K (.ref (g.ea .game)) (.ref (g.ea .liar)) = some false
  kit_BadGame_BadPlan : W.kitOne g.K (.ref (g.ea .game)) (.ref (g.ea .plan)) = some false
  kit_BadGame_BadText : W.kitOne g.K (.ref (g.ea .game)) (.ref (g.ea .text)) = some false
  kit_BadGame_V : W.kitOne g.K (.ref (g.ea .game)) (.type "ValueError") = some true
  exm_BadGame : W.exmOne g.K (.ref (g.ea .game)) (.ref CL) = some true
  k_BadCounts : g.mg "BadCounts" = some (.ref (g.ea .counts))
  kit_BadCounts_BadGame : W.kitOne g.K (.ref (g.ea .counts)) (.ref (g.ea .game)) = some false
  kit_BadCounts_BadCounts : W.kitOne g.K (.ref (g.ea .counts)) (.ref (g.ea .counts)) = some true
  kit_BadCounts_BadQuestion : W.kitOne g.K (.ref (g.ea .counts)) (.ref (g.ea .question)) = some false
  kit_BadCounts_Liar : W.kitOne g.K (.ref (g.ea .counts)) (.ref (g.ea .liar)) = some false
  kit_BadCounts_BadPlan : W.kitOne g.K (.ref (g.ea .counts)) (.ref (g.ea .plan)) = some false
  kit_BadCounts_BadText : W.kitOne g.K (.ref (g.ea .counts)) (.ref (g.ea .text)) = some false
  kit_BadCounts_V : W.kitOne g.K (.ref (g.ea .counts)) (.type "ValueError") = some true
  exm_BadCounts : W.exmOne g.K (.ref (g.ea .counts)) (.ref CL) = some true
  k_BadQuestion : g.mg "BadQuestion" = some (.ref (g.ea .question))
  kit_BadQuestion_BadGame : W.kitOne g.K (.ref (g.ea .question)) (.ref (g.ea .game)) = some false
  kit_BadQuestion_BadCounts : W.kitOne g.K (.ref (g.ea .question)) (.ref (g.ea .counts)) = some false
  kit_BadQuestion_BadQuestion : W.kitOne g.K (.ref (g.ea .question)) (.ref (g.ea .question)) = some true
  kit_BadQuestion_Liar : W.kitOne g.K (.ref (g.ea .question)) (.ref (g.ea .liar)) = some false
  kit_BadQuestion_BadPlan : W.kitOne g.K (.ref (g.ea .question)) (.ref (g.ea .plan)) = some false
  kit_BadQuestion_BadText : W.kitOne g.K (.ref (g.ea .question)) (.ref (g.ea .text)) = some false
  kit_BadQuestion_V : W.kitOne g.K (.ref (g.ea .question)) (.type "ValueError") = some true
  exm_BadQuestion : W.exmOne g.K (.ref (g.ea .question)) (.ref CL) = some true
  k_Liar : g.mg "Liar" = some (.ref (g.ea .liar))
  kit_Liar_BadGame : W.kitOne g.K (.ref (g.ea .liar)) (.ref (g.ea .game)) = some false
  kit_Liar_BadCounts : W.kitOne g.K (.ref (g.ea .liar)) (.ref (g.ea .counts)) = some false
  kit_Liar_BadQuestion : W.kitOne g.K (.ref (g.ea .liar)) (.ref (g.ea .question)) = some false
  kit_Liar_Liar : W.kitOne g.K (.ref (g.ea .liar)) (.ref (g.ea .liar)) = some true
  kit_Liar_BadPlan : W.kitOne g.K (.ref (g.ea .liar)) (.ref (g.ea .plan)) = some false
  kit_Liar_BadText : W.kitOne g.K (.ref (g.ea .liar)) (.ref (g.ea .text)) = some false
  kit_Liar_V : W.kitOne g.K (.ref (g.ea .liar)) (.type "ValueError") = some true
  exm_Liar : W.exmOne g.K (.ref (g.ea .liar)) (.ref CL) = some true
  k_BadPlan : g.mg "BadPlan" = some (.ref (g.ea .plan))
  kit_BadPlan_BadGame : W.kitOne g.K (.ref (g.ea .plan)) (.ref (g.ea .game)) = some false
  kit_BadPlan_BadCounts : W.kitOne g.K (.ref (g.ea .plan)) (.ref (g.ea .counts)) = some false
  kit_BadPlan_BadQuestion : W.kitOne g.K (.ref (g.ea .plan)) (.ref (g.ea .question)) = some false
  kit_BadPlan_Liar : W.kitOne g.K (.ref (g.ea .plan)) (.ref (g.ea .liar)) = some false
  kit_BadPlan_BadPlan : W.kitOne g.K (.ref (g.ea .plan)) (.ref (g.ea .plan)) = some true
  kit_BadPlan_BadText : W.kitOne g.K (.ref (g.ea .plan)) (.ref (g.ea .text)) = some false
  kit_BadPlan_V : W.kitOne g.K (.ref (g.ea .plan)) (.type "ValueError") = some true
  exm_BadPlan : W.exmOne g.K (.ref (g.ea .plan)) (.ref CL) = some true
  k_BadText : g.mg "BadText" = some (.ref (g.ea .text))
  kit_BadText_BadGame : W.kitOne g.K (.ref (g.ea .text)) (.ref (g.ea .game)) = some false
  kit_BadText_BadCounts : W.kitOne g.K (.ref (g.ea .text)) (.ref (g.ea .counts)) = some false
  kit_BadText_BadQuestion : W.kitOne g.K (.ref (g.ea .text)) (.ref (g.ea .question)) = some false
  kit_BadText_Liar : W.kitOne g.K (.ref (g.ea .text)) (.ref (g.ea .liar)) = some false
  kit_BadText_BadPlan : W.kitOne g.K (.ref (g.ea .text)) (.ref (g.ea .plan)) = some false
  kit_BadText_BadText : W.kitOne g.K (.ref (g.ea .text)) (.ref (g.ea .text)) = some true
  kit_BadText_V : W.kitOne g.K (.ref (g.ea .text)) (.type "ValueError") = some true
  exm_BadText : W.exmOne g.K (.ref (g.ea .text)) (.ref CL) = some true
  k_LiarError : g.mg "LiarError" = some (.ref CL)
  m_Worker : g.mg "Worker" = some (.ref (cAt g "Worker"))
  cls_Worker : Cls g.K (cAt g "Worker")
  na_Worker_known : NoAttr g.K (cAt g "Worker") "known"
  m_Signs : g.mg "Signs" = some (.ref (cAt g "Signs"))
  cls_Signs : Cls g.K (cAt g "Signs")
  na_Signs_text : NoAttr g.K (cAt g "Signs") "text"
  na_Signs_spot : NoAttr g.K (cAt g "Signs") "spot"
section
variable {g : Gv} {CL : Addr}
/-! ### weights -/
theorem ok_look_counts (T : Txt g CL) (F : Df g "look_counts" ["counts"] s_look_counts) : Callee g "look_counts" ["counts"] 1 (sp_look_counts g.ea) := by
  refine callee_ok (vis := [true, false]) F sc_look_counts (ci_by (by decide +kernel)) fun ds A Q E hn h => ?_
  obtain ⟨o, ⟨c, rfl, rfl⟩, hok, her⟩ := h
  show WSs _ _ _ [some (.d (tI c)), none] _ _ _
  refine s_if1 (dt_or (dt_not (dt_chain c_le c_le de_int (de_len (ve_var 0 rfl rfl rfl) (.t _) rfl T.len) (fun _ => de_int))) (fun hc => (dw_or1 (dt_not (dt_val (de_all (d_lc PyData.bool [("many", 1)] [false, true] (blkOk_by (by decide +kernel)) (ci_by (by decide +kernel)) (it_tup (ve_var 0 rfl rfl rfl)) rfl (fun z hz => tb_nameG 1 (by decide) rfl (.inl rfl) (.s .z)) (fun z hz => (de_chain c_le c_le de_int (ve_var 1 rfl rfl rfl) (fun _ => (de_gintE rfl T.c_MOST_COUNT)))) ?_) (.d _) rfl T.all)))))) (fun hk => ?_) (fun hk => ?_)
  · simp at hc; omega
  · refine s_raise T.x_BadCounts rfl (her _ ?_)
    have e : goodC c = false := by
      simp only [goodC, List.length_map, List.all_map] at hk ⊢
      revert hk
      cases decide (1 ≤ (c.length : Int)) && decide ((c.length : Int) ≤ 5) <;> simp [Function.comp_def]
    simp [lookCounts, e, Except.map]
  · have e : goodC c = true := by
      simp only [goodC, List.length_map, List.all_map] at hk ⊢
      revert hk
      cases decide (1 ≤ (c.length : Int)) && decide ((c.length : Int) ≤ 5) <;> simp [Function.comp_def]
    exact s_nil (hok _ (by simp [lookCounts, e, Except.map]))
theorem ok_look_questions (T : Txt g CL) (F : Df g "look_questions" ["many"] s_look_questions) : Callee g "look_questions" ["many"] 1 (sp_look_questions g.ea) := by
  refine callee_ok (vis := [true]) F sc_look_questions (ci_by (by decide +kernel)) fun ds A Q E hn h => ?_
  obtain ⟨o, ⟨m, rfl, rfl⟩, hok, her⟩ := h
  show WSs _ _ _ [some (.d (.int m))] _ _ _
  refine s_if1 (dt_not (dt_chain c_le c_le de_int (ve_var 0 rfl rfl rfl) (fun _ => (de_gintE rfl T.c_MOST_QUESTIONS)))) (fun hk => ?_) (fun hk => ?_)
  · refine s_raise T.x_BadCounts rfl (her _ ?_)
    have e : goodQ m = false := by revert hk; unfold goodQ; cases decide (0 ≤ m) && decide (m ≤ 60) <;> simp
    simp [lookQs, e, Except.map]
  · have e : goodQ m = true := by revert hk; unfold goodQ; cases decide (0 ≤ m) && decide (m ≤ 60) <;> simp
    exact s_nil (hok _ (by simp [lookQs, e, Except.map]))
theorem ok_choices (T : Txt g CL) (F : Df g "choices" ["many", "most"] s_choices) : Callee g "choices" ["many", "most"] 1 (sp_choices g.ea) := by
  refine callee_ok (vis := [true, true, true, true, true]) F sc_choices (ci_by (by decide +kernel)) fun ds A Q E hn h => ?_
  obtain ⟨o, ⟨m, t, rfl, h0, h1, h2, h3, rfl⟩, hok, her⟩ := h
  show WSs _ _ _ [some (.d (.int m)), some (.d (.int t)), none, none, none] _ _ _
  refine s_set 2 rfl (.inl rfl) (.s (.s .z)) de_int ?_
  refine s_set 3 rfl (.inl rfl) (.s (.s (.s .z))) de_int ?_
  refine s_forR (fun s : Int × Int => [some (.d (.int m)), some (.d (.int t)), some (.d (.int s.1)), some (.d (.int s.2)), none]) (fun s => A) (chStep m) (fun i s => True) (0, 1) rfl T.range (de_add (de_min2 (ve_var 0 rfl rfl rfl) (ve_var 1 rfl rfl rfl) rfl T.min) de_int) (by split <;> omega) (by split <;> omega) ⟨rfl, rfl, rfl, rfl, trivial⟩ rfl trivial (fun i s hi hJ hs => ⟨trivial, _, td_name 4 rfl (.inl rfl) (.s (.s (.s (.s .z)))), ?_⟩) (fun hJ => ?_)
  · have hi' : (i : Int) ≤ 4 := by split at hi <;> omega
    refine s_set 2 rfl (.inl rfl) (.s (.s .z)) (de_add (ve_var 2 rfl rfl rfl) (ve_var 3 rfl rfl rfl)) ?_
    refine s_set 3 rfl (.inl rfl) (.s (.s (.s .z))) (de_fdiv (de_mul (ve_var 3 rfl rfl rfl) (de_sub (ve_var 0 rfl rfl rfl) (ve_var 4 rfl rfl rfl)) (.inr ⟨by omega, by omega⟩)) (de_add (ve_var 4 rfl rfl rfl) de_int) ⟨by omega, by omega⟩) ?_
    exact s_nil ⟨⟨rfl, rfl, rfl, rfl, trivial⟩, rfl⟩
  exact s_ret (ve_var 2 rfl rfl rfl) (hok _ rfl)
theorem ok_weight (T : Txt g CL) (F : Df g "weight" ["counts", "many"] s_weight) (c_look_counts : Callee g "look_counts" ["counts"] 1 (sp_look_counts g.ea)) (c_look_questions : Callee g "look_questions" ["many"] 1 (sp_look_questions g.ea))
    (c_choices : Callee g "choices" ["many", "most"] 1 (sp_choices g.ea)) : Callee g "weight" ["counts", "many"] 2 (sp_weight g.ea) := by
  refine callee_ok (vis := [true, true, true, true]) F sc_weight (ci_by (by decide +kernel)) fun ds A Q E hn h => ?_
  obtain ⟨o, ⟨c, m, rfl, rfl⟩, hok, her⟩ := h
  show WSs _ _ _ [some (.d (tI c)), some (.d (.int m)), none, none] _ _ _
  refine s_expr (we_callR c_look_counts (by decide) rfl (va_cons (ve_var 0 rfl rfl rfl) va_nil) rfl ⟨c, rfl, rfl⟩ (fun r h1 => ?_) (fun e h1 => her e ?_))
  rotate_left
  · cases q : lookCounts c with
    | ok u => rw [q] at h1; cases h1
    | error e' => rw [q] at h1; cases h1; simp [weightM, q, bind, Except.bind, Except.map]
  have g1 : goodC c = true := by
    by_cases z : goodC c = true
    · exact z
    · simp [lookCounts, z, Except.map] at h1
  have l1 : lookCounts c = .ok () := by simp [lookCounts, g1]
  refine s_expr (we_callR c_look_questions (by decide) rfl (va_cons (ve_var 1 rfl rfl rfl) va_nil) rfl ⟨m, rfl, rfl⟩ (fun r h2 => ?_) (fun e h2 => her e ?_))
  rotate_left
  · cases q : lookQs m with
    | ok u => rw [q] at h2; cases h2
    | error e' => rw [q] at h2; cases h2; simp [weightM, l1, q, bind, Except.bind, Except.map]
  have g2 : goodQ m = true := by
    by_cases z : goodQ m = true
    · exact z
    · simp [lookQs, z, Except.map] at h2
  have l2 : lookQs m = .ok () := by simp [lookQs, g2]
  have hl : 1 ≤ (c.length : Int) ∧ (c.length : Int) ≤ 5 := by simp [goodC] at g1; omega
  have hx : ∀ x ∈ c, 0 ≤ x ∧ x ≤ 64 := by simp [goodC] at g1; exact fun x hx => ⟨(g1.2 x hx).1, (g1.2 x hx).2⟩
  have hq : 0 ≤ m ∧ m ≤ 60 := by simpa [goodQ] using g2
  refine s_set 2 rfl (.inl rfl) (.s (.s .z)) de_int ?_
  refine s_forR (fun s : Int => [some (.d (tI c)), some (.d (.int m)), some (.d (.int s)), none]) (fun s => A) (fun s k => s + nth c k * choicesV m (c.length - 1 - k)) (fun i s => True) 0 rfl T.range (de_len (ve_var 0 rfl rfl rfl) (.t _) rfl T.len) (by rw [List.length_map]; omega) (by omega) ⟨rfl, rfl, rfl, trivial⟩ rfl trivial (fun i s hi hJ hs => ⟨trivial, _, td_name 3 rfl (.inl rfl) (.s (.s (.s .z))), ?_⟩) (fun hJ => ?_)
  · rw [List.length_map] at hi
    have hi' : (i : Int) < c.length := by omega
    have hn := hx _ (nth_mem (by omega) hi')
    refine s_set 2 rfl (.inl rfl) (.s (.s .z)) (de_add (ve_var 2 rfl rfl rfl) (de_mul (de_ixTn (ve_var 0 rfl rfl rfl) (ve_var 3 rfl rfl rfl) (by omega) hi') (de_call c_choices (by decide) rfl (va_cons (ve_var 1 rfl rfl rfl) (va_cons (de_sub (de_sub (de_len (ve_var 0 rfl rfl rfl) (.t _) rfl T.len) de_int) (ve_var 3 rfl rfl rfl)) va_nil)) rfl ⟨m, _, rfl, hq.1, hq.2, by rw [List.length_map]; omega, by rw [List.length_map]; omega, rfl⟩) (.inl ⟨by omega, by omega⟩))) ?_
    refine s_nil ⟨⟨rfl, rfl, ?_, trivial⟩, rfl⟩
    rw [List.length_map]
  · rw [List.length_map, Int.toNat_natCast]
    exact s_ret (ve_var 2 rfl rfl rfl) (hok _ (by simp [weightM, l1, l2, weightV, bind, Except.bind, Except.map, pure, Except.pure]))
theorem ok_two_to (T : Txt g CL) (F : Df g "two_to" ["many"] s_two_to) : Callee g "two_to" ["many"] 1 (sp_two_to g.ea) := by
  refine callee_ok (vis := [true, true, true]) F sc_two_to (ci_by (by decide +kernel)) fun ds A Q E hn h => ?_
  obtain ⟨o, ⟨m, rfl, h00, h0, rfl⟩, hok, her⟩ := h
  show WSs _ _ _ [some (.d (.int m)), none, none] _ _ _
  refine s_set 1 rfl (.inl rfl) (.s .z) de_int ?_
  refine s_forR (fun s : Int => [some (.d (.int m)), some (.d (.int s)), none]) (fun s => A) (fun s _ => 2 * s) (fun i s => True) 1 rfl T.range (ve_var 0 rfl rfl rfl) (by walk_at "bd") (by walk_at "bd") (by walk_at "less") rfl trivial (fun i s hi hJ hs => ⟨trivial, _, td_name 2 rfl (.inl rfl) (.s (.s .z)), ?_⟩) (fun hJ => ?_)
  · refine s_set 1 rfl (.inl rfl) (.s .z) (de_mul de_int (ve_var 1 rfl rfl rfl) (.inl ⟨by omega, by omega⟩)) ?_
    exact s_nil ⟨by walk_at "less", rfl⟩
  exact s_ret (ve_var 1 rfl rfl rfl) (hok _ rfl)
theorem ok_behind (T : Txt g CL) (F : Df g "behind" ["counts", "part"] s_behind) (c_look_counts : Callee g "look_counts" ["counts"] 1 (sp_look_counts g.ea)) : Callee g "behind" ["counts", "part"] 2 (sp_behind g.ea) := by
  refine callee_ok (vis := [true, true, true, true, true, false]) F sc_behind (ci_by (by decide +kernel)) fun ds A Q E hn h => ?_
  obtain ⟨o, ⟨c, p, rfl, rfl⟩, hok, her⟩ := h
  show WSs _ _ _ [some (.d (tI c)), some (.d (tI p)), none, none, none, none] _ _ _
  refine s_expr (we_callR c_look_counts (by decide) rfl (va_cons (ve_var 0 rfl rfl rfl) va_nil) rfl ⟨c, rfl, rfl⟩ (fun r h1 => ?_) (fun e h1 => her e ?_))
  rotate_left
  · obtain ⟨rfl, l1⟩ := lookCounts_er h1
    simp [behindM, l1, bind, Except.bind, Except.map]
  obtain ⟨g1, l1⟩ := lookCounts_ok h1
  have hl := goodC_len g1
  refine s_if1 (dt_or (c_neI.dt (de_len (ve_var 1 rfl rfl rfl) (.t _) rfl T.len) (de_len (ve_var 0 rfl rfl rfl) (.t _) rfl T.len) rfl) (fun hc => (dw_or1 (dt_not (dt_val (de_all (d_lc PyData.bool [("k", 5)] [true, true, false, false, false, true] (blkOk_by (by decide +kernel)) (ci_by (by decide +kernel)) (it_range1 rfl T.range (de_len (ve_var 0 rfl rfl rfl) (.t _) rfl T.len) (by walk_at "bd") (by walk_at "bd")) rfl (fun z hz => tb_nameG 5 (by decide) rfl (.inl rfl) (.s (.s (.s (.s (.s .z)))))) (fun z hz => by have hz2 := mem_rng.mp hz; simp at hc hz2; exact (de_chain c_le c_le de_int (de_ixTn (ve_var 1 rfl rfl rfl) (ve_var 5 rfl rfl rfl) (by walk_at "bd") (by walk_at "bd")) (fun _ => (de_ixTn (ve_var 0 rfl rfl rfl) (ve_var 5 rfl rfl rfl) (by walk_at "bd") (by walk_at "bd"))))) (by walk_at "len")) (.d _) rfl T.all)))))) (fun hk => ?_) (fun hk => ?_)
  · refine s_raise T.x_BadCounts rfl (her _ ?_)
    have e : partOk c p = false := by
      unfold partOk
      simp only [List.length_map, List.all_map, Function.comp_def, id, Int.toNat_natCast] at hk
      revert hk
      simp only [Int.ofNat_inj]
      cases decide (p.length = c.length) <;> simp
    simp [behindM, l1, e, bind, Except.bind, Except.map]
  have e : partOk c p = true := by
    unfold partOk
    simp only [List.length_map, List.all_map, Function.comp_def, id, Int.toNat_natCast] at hk
    revert hk
    simp only [Int.ofNat_inj]
    cases decide (p.length = c.length) <;> simp
  have hp : p.length = c.length := by simp [partOk] at e; exact e.1
  refine s_setC 2 rfl rfl rfl (.s (.s .z)) (d_lc PyData.int [("k", 5)] [true, true, false, false, false, true] (blkOk_by (by decide +kernel)) (ci_by (by decide +kernel)) (it_range1 rfl T.range (de_len (ve_var 0 rfl rfl rfl) (.t _) rfl T.len) (by walk_at "bd") (by walk_at "bd")) rfl (fun z hz => tb_nameG 5 (by decide) rfl (.inl rfl) (.s (.s (.s (.s (.s .z)))))) (fun z hz => by have hz2 := mem_rng.mp hz; exact (de_sub (de_ixTn (ve_var 0 rfl rfl rfl) (ve_var 5 rfl rfl rfl) (by walk_at "bd") (by walk_at "bd")) (de_ixTn (ve_var 1 rfl rfl rfl) (ve_var 5 rfl rfl rfl) (by walk_at "bd") (by walk_at "bd")))) (by walk_at "len")) ?_
  refine s_set 3 rfl (.inl rfl) (.s (.s (.s .z))) (de_tuple (d_lc PyData.int [("k", 5)] [false, true, true, false, false, true] (blkOk_by (by decide +kernel)) (ci_by (by decide +kernel)) (it_range1 rfl T.range (de_len (ve_var 0 rfl rfl rfl) (.t _) rfl T.len) (by walk_at "bd") (by walk_at "bd")) rfl (fun z hz => tb_nameG 5 (by decide) rfl (.inl rfl) (.s (.s (.s (.s (.s .z)))))) (fun z hz => by have hz2 := mem_rng.mp hz; exact (de_add (de_ixTn (ve_var 1 rfl rfl rfl) (ve_var 5 rfl rfl rfl) (by walk_at "bd") (by walk_at "bd")) (de_ifC PyData.int (c_gt.dt (ve_var 5 rfl rfl rfl) de_int rfl) (fun hc => by simp at hc; exact (de_ixLn (ve_var 2 rfl rfl rfl) (.d _) (de_sub (ve_var 5 rfl rfl rfl) de_int) (by walk_at "bd") (by walk_at "bd"))) (fun hc => de_int)))) (by walk_at "len")) (.l (.d _)) rfl T.tuple) ?_
  refine s_set 4 rfl (.inl rfl) (.s (.s (.s (.s .z)))) (de_tuple (d_lc PyData.int [("k", 5)] [false, true, true, false, false, true] (blkOk_by (by decide +kernel)) (ci_by (by decide +kernel)) (it_range1 rfl T.range (de_len (ve_var 0 rfl rfl rfl) (.t _) rfl T.len) (by walk_at "bd") (by walk_at "bd")) rfl (fun z hz => tb_nameG 5 (by decide) rfl (.inl rfl) (.s (.s (.s (.s (.s .z)))))) (fun z hz => by have hz2 := mem_rng.mp hz; exact (de_add (de_ixLn (ve_var 2 rfl rfl rfl) (.d _) (ve_var 5 rfl rfl rfl) (by walk_at "bd") (by walk_at "bd")) (de_ifC PyData.int (c_gt.dt (ve_var 5 rfl rfl rfl) de_int rfl) (fun hc => by simp at hc; exact (de_ixTn (ve_var 1 rfl rfl rfl) (de_sub (ve_var 5 rfl rfl rfl) de_int) (by walk_at "bd") (by walk_at "bd"))) (fun hc => de_int)))) (by walk_at "len")) (.l (.d _)) rfl T.tuple) ?_
  refine s_ret (d_tup (da_cons (ve_var 3 rfl rfl rfl) (da_cons (ve_var 4 rfl rfl rfl) da_nil))) (hok _ ?_)
  simp [behindM, l1, e, bind, Except.bind, Except.map, pure, Except.pure, dPair, behindY, behindN, restV]
theorem ok_bound (T : Txt g CL) (F : Df g "bound" ["counts"] s_bound) (c_look_counts : Callee g "look_counts" ["counts"] 1 (sp_look_counts g.ea)) (c_weight : Callee g "weight" ["counts", "many"] 2 (sp_weight g.ea))
    (c_two_to : Callee g "two_to" ["many"] 1 (sp_two_to g.ea)) : Callee g "bound" ["counts"] 3 (sp_bound g.ea) := by
  refine callee_ok (vis := [true, true]) F sc_bound (ci_by (by decide +kernel)) fun ds A Q E hn h => ?_
  obtain ⟨o, ⟨c, rfl, rfl⟩, hok, her⟩ := h
  show WSs _ _ _ [some (.d (tI c)), none] _ _ _
  refine s_expr (we_callR c_look_counts (by decide) rfl (va_cons (ve_var 0 rfl rfl rfl) va_nil) rfl ⟨c, rfl, rfl⟩ (fun r h1 => ?_) (fun e h1 => her e ?_))
  rotate_left
  · obtain ⟨rfl, l1⟩ := lookCounts_er h1
    simp [boundM, l1, bind, Except.bind, Except.map]
  obtain ⟨g1, l1⟩ := lookCounts_ok h1
  have b60 := boundT_60 g1
  refine s_set 1 rfl (.inl rfl) (.s .z) de_int ?_
  refine s_while (fun s : Nat => [some (.d (tI c)), some (.d (.int s))]) (fun s => A) (fun s => boundT c s) (fun s => s + 1) (fun s => s ≤ 60 ∧ ∀ j : Nat, j < s → boundT c j = true) (fun s => 60 - s) 0 (by walk_at "less") rfl ⟨by omega, fun j hj => by omega⟩ (fun s hJ => ?_) (fun s hJ ht => ?_) (fun s hJ ht => ?_)
  · have hs := hJ.1
    refine (dt_and (c_gt.dt (de_sum (ve_var 0 rfl rfl rfl) (.t _) rfl T.sum) de_int rfl) (fun hc => (dw_and1 (c_gt.dt (de_call c_weight (by decide) rfl (va_cons (ve_var 0 rfl rfl rfl) (va_cons (ve_var 1 rfl rfl rfl) va_nil)) rfl ⟨c, (s : Int), rfl, ?_⟩) (de_call c_two_to (by decide) rfl (va_cons (ve_var 1 rfl rfl rfl) va_nil) rfl (by refine ⟨(s : Int), rfl, ?_, ?_, rfl⟩ <;> omega)) rfl))))
    rw [weightM_ok (m := (s : Int)) g1 (by omega) (by omega)]
    rfl
  · have hs : s < 60 := by
      rcases Nat.lt_or_ge s 60 with q | q
      · exact q
      · rw [show s = 60 from by omega] at ht; exact absurd ht (by rw [show ((60 : Nat) : Int) = 60 from rfl, b60]; decide)
    refine ⟨⟨by omega, fun j hj => ?_⟩, by omega, ?_⟩
    · rcases Nat.lt_or_ge j s with q | q
      · exact hJ.2 j q
      · rw [show j = s from by omega]; exact ht
    · refine s_set 1 rfl (.inl rfl) (.s .z) (de_add (ve_var 1 rfl rfl rfl) de_int) ?_
      exact s_nil ⟨by walk_at "less", rfl⟩
  · refine s_ret (ve_var 1 rfl rfl rfl) (hok _ ?_)
    simp [boundM, l1, bind, Except.bind, Except.map, pure, Except.pure, boundV_eq hJ.1 hJ.2 ht]
/-! ### what the laws share -/
theorem ok__law_cell (T : Txt g CL) (F : Df g "_law_cell" ["_law_script", "_law_k"] s__law_cell) : Callee g "_law_cell" ["_law_script", "_law_k"] 1 (sp_cell g) := by
  refine callee_ok (vis := [true, true]) F sc__law_cell (ci_by (by decide +kernel)) fun ds A Q E hn h => ?_
  obtain ⟨o, ⟨ns, k, rfl, rfl⟩, hok, her⟩ := h
  show WSs _ _ _ [some (.f g.K ns), some (.d (.int k))] _ _ _
  refine s_if1 (dt_truthF (ve_var 0 rfl rfl rfl)) (fun hk => ?_) (fun hk => ?_)
  · have hne : ns ≠ [] := fun e => by rw [e] at hk; revert hk; decide
    have hl : 0 < (ns.length : Int) := by have := List.length_pos_iff.mpr hne; omega
    have h0 := Int.emod_nonneg k (show (ns.length : Int) ≠ 0 by omega)
    have h1 := Int.emod_lt_of_pos k hl
    refine s_ret (de_ixFn (ve_var 0 rfl rfl rfl) (de_mod (ve_var 1 rfl rfl rfl) (de_lenF (ve_var 0 rfl rfl rfl) rfl T.len) hl) h0 h1) (hok _ ?_)
    unfold cellV
    rw [if_neg (by simpa using hne)]
  · have hne : ns = [] := by cases ns with | nil => rfl | cons a b => revert hk; simp
    subst hne
    exact s_ret de_int (hok _ rfl)
theorem ok__law_mix (T : Txt g CL) (F : Df g "_law_mix" ["_law_script", "_law_k"] s__law_mix) (c__law_cell : Callee g "_law_cell" ["_law_script", "_law_k"] 1 (sp_cell g)) : Callee g "_law_mix" ["_law_script", "_law_k"] 2 (sp_mix g) := by
  refine callee_ok (vis := [true, true, true]) F sc__law_mix (ci_by (by decide +kernel)) fun ds A Q E hn h => ?_
  obtain ⟨o, ⟨ns, k, rfl, rfl⟩, hok, her⟩ := h
  show WSs _ _ _ [some (.f g.K ns), some (.d (.int k)), none] _ _ _
  have a0 := Int.emod_nonneg (cellV ns k + 104729 * (k + 1)) (show (4294967291 : Int) ≠ 0 by decide)
  have a1 := Int.emod_lt_of_pos (cellV ns k + 104729 * (k + 1)) (show (0 : Int) < 4294967291 by decide)
  have b0 := Int.emod_nonneg (((cellV ns k + 104729 * (k + 1)) % 4294967291) ^ (5 : Int).toNat) (show (4294967279 : Int) ≠ 0 by decide)
  have b1 := Int.emod_lt_of_pos (((cellV ns k + 104729 * (k + 1)) % 4294967291) ^ (5 : Int).toNat) (show (0 : Int) < 4294967279 by decide)
  refine s_set 2 rfl (.inl rfl) (.s (.s .z)) (de_mod (de_add (de_call c__law_cell (by decide) rfl (va_cons (ve_var 0 rfl rfl rfl) (va_cons (ve_var 1 rfl rfl rfl) va_nil)) rfl ⟨ns, k, rfl, rfl⟩) (de_mul de_int (de_add (ve_var 1 rfl rfl rfl) de_int) (.inl ⟨by omega, by omega⟩))) de_int (by omega)) ?_
  refine s_set 2 rfl (.inl rfl) (.s (.s .z)) (de_mod (de_pow (ve_var 2 rfl rfl rfl) de_int ⟨by omega, by omega, by omega⟩) de_int (by omega)) ?_
  refine s_ret (de_mod (de_add (de_mul (de_fdiv (ve_var 2 rfl rfl rfl) de_int ⟨by omega, by omega⟩) de_int (.inr ⟨by omega, by omega⟩)) (ve_var 2 rfl rfl rfl)) de_int (by omega)) (hok _ ?_)
  unfold mixV
  rfl
theorem ok__law_refusal (T : Txt g CL) (F : Df g "_law_refusal" ["_law_kept"] s__law_refusal) : Callee g "_law_refusal" ["_law_kept"] 1 (sp_refusal g.ea) := by
  refine callee_ok (vis := [true, true]) F sc__law_refusal (ci_by (by decide +kernel)) fun ds A Q E hn h => ?_
  obtain ⟨o, h, hok, her⟩ := h
  rcases h with ⟨rfl, rfl⟩ | ⟨e, s, rfl, hs, rfl⟩
  · show WSs _ _ _ [some (.d .none), none] _ _ _
    refine s_if1 (c_is.dt (ve_var 0 rfl rfl rfl) de_none rfl) (fun hk => ?_) (fun hk => ?_)
    · exact s_ret de_str (hok _ rfl)
    · cases hk
  show WSs _ _ _ [some (.x (g.ea e)), none] _ _ _
  refine s_ifF (c_is.dt (ve_var 0 rfl rfl rfl) de_none rfl) rfl ?_
  have tab : ∃ b1 b2 b3 b4 b5 b6 : Bool, ∃ j : Nat, ExcC g.K (g.ea e) ∧ W.kitOne g.K (.ref (g.ea e)) (.ref (g.ea .counts)) = some b1 ∧ W.kitOne g.K (.ref (g.ea e)) (.ref (g.ea .game)) = some b2 ∧ W.kitOne g.K (.ref (g.ea e)) (.ref (g.ea .plan)) = some b3 ∧ W.kitOne g.K (.ref (g.ea e)) (.ref (g.ea .question)) = some b4 ∧ W.kitOne g.K (.ref (g.ea e)) (.ref (g.ea .text)) = some b5 ∧ W.kitOne g.K (.ref (g.ea e)) (.ref (g.ea .liar)) = some b6 ∧ W.kitOne g.K (.ref (g.ea e)) (.type "ValueError") = some true ∧
      [b1, b2, b3, b4, b5, b6].count true = 1 ∧ [b1, b2, b3, b4, b5, b6][j]? = some true ∧ (∀ (m : Nat) z, m < j → [b1, b2, b3, b4, b5, b6][m]? = some z → z ≠ true) ∧ atI [PyData.str "counts", .str "game", .str "plan", .str "question", .str "text", .str "liar"] (j : Int) = some (.str s) := by
    cases e with
    | counts => cases hs; exact ⟨_, _, _, _, _, _, 0, T.e_BadCounts, T.kit_BadCounts_BadCounts, T.kit_BadCounts_BadGame, T.kit_BadCounts_BadPlan, T.kit_BadCounts_BadQuestion, T.kit_BadCounts_BadText, T.kit_BadCounts_Liar, T.kit_BadCounts_V, rfl, rfl, fun m z hm hz => absurd hm (Nat.not_lt_zero m), rfl⟩
    | game => cases hs; exact ⟨_, _, _, _, _, _, 1, T.e_BadGame, T.kit_BadGame_BadCounts, T.kit_BadGame_BadGame, T.kit_BadGame_BadPlan, T.kit_BadGame_BadQuestion, T.kit_BadGame_BadText, T.kit_BadGame_Liar, T.kit_BadGame_V, rfl, rfl, fun m z hm hz => by (match m, hm with | 0, _ => (cases hz; decide)), rfl⟩
    | plan => cases hs; exact ⟨_, _, _, _, _, _, 2, T.e_BadPlan, T.kit_BadPlan_BadCounts, T.kit_BadPlan_BadGame, T.kit_BadPlan_BadPlan, T.kit_BadPlan_BadQuestion, T.kit_BadPlan_BadText, T.kit_BadPlan_Liar, T.kit_BadPlan_V, rfl, rfl, fun m z hm hz => by (match m, hm with | 0, _ => (cases hz; decide) | 1, _ => (cases hz; decide)), rfl⟩
    | question => cases hs; exact ⟨_, _, _, _, _, _, 3, T.e_BadQuestion, T.kit_BadQuestion_BadCounts, T.kit_BadQuestion_BadGame, T.kit_BadQuestion_BadPlan, T.kit_BadQuestion_BadQuestion, T.kit_BadQuestion_BadText, T.kit_BadQuestion_Liar, T.kit_BadQuestion_V, rfl, rfl, fun m z hm hz => by (match m, hm with | 0, _ => (cases hz; decide) | 1, _ => (cases hz; decide) | 2, _ => (cases hz; decide)), rfl⟩
    | liar => cases hs; exact ⟨_, _, _, _, _, _, 5, T.e_Liar, T.kit_Liar_BadCounts, T.kit_Liar_BadGame, T.kit_Liar_BadPlan, T.kit_Liar_BadQuestion, T.kit_Liar_BadText, T.kit_Liar_Liar, T.kit_Liar_V, rfl, rfl, fun m z hm hz => by (match m, hm with | 0, _ => (cases hz; decide) | 1, _ => (cases hz; decide) | 2, _ => (cases hz; decide) | 3, _ => (cases hz; decide) | 4, _ => (cases hz; decide)), rfl⟩
    | text => cases hs; exact ⟨_, _, _, _, _, _, 4, T.e_BadText, T.kit_BadText_BadCounts, T.kit_BadText_BadGame, T.kit_BadText_BadPlan, T.kit_BadText_BadQuestion, T.kit_BadText_BadText, T.kit_BadText_Liar, T.kit_BadText_V, rfl, rfl, fun m z hm hz => by (match m, hm with | 0, _ => (cases hz; decide) | 1, _ => (cases hz; decide) | 2, _ => (cases hz; decide) | 3, _ => (cases hz; decide)), rfl⟩
    | row => cases hs
  obtain ⟨b1, b2, b3, b4, b5, b6, j, ex, k1, k2, k3, k4, k5, k6, kv, hc, hj, hno, hat⟩ := tab
  refine s_set 1 rfl (.inl rfl) (.s .z) (d_lst (da_cons (de_isiX (ve_var 0 rfl rfl rfl) (ve_cls rfl T.k_BadCounts) ex k1 rfl T.isinstance) (da_cons (de_isiX (ve_var 0 rfl rfl rfl) (ve_cls rfl T.k_BadGame) ex k2 rfl T.isinstance) (da_cons (de_isiX (ve_var 0 rfl rfl rfl) (ve_cls rfl T.k_BadPlan) ex k3 rfl T.isinstance) da_nil)))) ?_
  refine s_set 1 rfl (.inl rfl) (.s .z) (de_addL (ve_var 1 rfl rfl rfl) (d_lst (da_cons (de_isiX (ve_var 0 rfl rfl rfl) (ve_cls rfl T.k_BadQuestion) ex k4 rfl T.isinstance) (da_cons (de_isiX (ve_var 0 rfl rfl rfl) (ve_cls rfl T.k_BadText) ex k5 rfl T.isinstance) (da_cons (de_isiX (ve_var 0 rfl rfl rfl) (ve_cls rfl T.k_Liar) ex k6 rfl T.isinstance) da_nil)))) (by walk_at "len")) ?_
  refine s_ifF (dt_or (c_neI.dt (de_countB (bs := [b1, b2, b3, b4, b5, b6]) (ve_var 1 rfl rfl rfl) (.d _) de_bool) de_int rfl) (fun hc => (dw_or1 (dt_not (dt_val (de_isiXT (ve_var 0 rfl rfl rfl) (ve_bltn rfl T.ValueError (by decide +kernel)) ex kv rfl T.isinstance)))))) (by rw [hc]; decide) ?_
  exact s_ret (de_ixLd (d_lst (da_cons de_str (da_cons de_str (da_cons de_str (da_cons de_str (da_cons de_str (da_cons de_str da_nil))))))) (de_indexB (bs := [b1, b2, b3, b4, b5, b6]) (ve_var 1 rfl rfl rfl) (.d _) de_bool hj hno) hat) (hok _ rfl)
theorem exm6 (T : Txt g CL) : ∀ e s, nmE e = some s → W.exmOne g.K (.ref (g.ea e)) (.ref CL) = some true := fun e s h => by
  cases e with
  | counts => exact T.exm_BadCounts
  | game => exact T.exm_BadGame
  | plan => exact T.exm_BadPlan
  | question => exact T.exm_BadQuestion
  | text => exact T.exm_BadText
  | liar => exact T.exm_Liar
  | row => cases h
theorem ok__law_counts (T : Txt g CL) (F : Df g "_law_counts" ["_law_script", "_law_k", "_law_most", "_law_sizes"] s__law_counts) (c__law_mix : Callee g "_law_mix" ["_law_script", "_law_k"] 2 (sp_mix g)) : Callee g "_law_counts" ["_law_script", "_law_k", "_law_most", "_law_sizes"] 3 (sp_counts g) := by
  refine callee_ok (vis := [true, true, true, true, true, true, true, true, true]) F sc__law_counts (ci_by (by decide +kernel)) fun ds A Q E hn h => ?_
  obtain ⟨o, ⟨ns, k, most, sizes, rfl, m0, m1, hne, hl, hsz, rfl⟩, hok, her⟩ := h
  show WSs _ _ _ [some (.f g.K ns), some (.d (.int k)), some (.d (.int most)), some (.d (lI sizes)), none, none, none, none, none] _ _ _
  have hl0 : 0 < (sizes.length : Int) := by have := List.length_pos_iff.mpr hne; omega
  have q := mix_lt ns k hl0
  have hz := hsz _ (nth_mem q.1 q.2)
  refine s_set 4 rfl (.inl rfl) (.s (.s (.s (.s .z)))) (de_ixLn (ve_var 3 rfl rfl rfl) (.d _) (de_mod (de_call c__law_mix (by decide) rfl (va_cons (ve_var 0 rfl rfl rfl) (va_cons (ve_var 1 rfl rfl rfl) va_nil)) rfl ⟨ns, k, rfl, rfl⟩) (de_len (ve_var 3 rfl rfl rfl) (.l (.d _)) rfl T.len) (by rw [List.length_map]; exact hl0)) (by rw [List.length_map]; exact q.1) (by rw [List.length_map]; exact q.2)) ?_
  refine s_set 5 rfl (.inl rfl) (.s (.s (.s (.s (.s .z))))) (de_mod (de_call c__law_mix (by decide) rfl (va_cons (ve_var 0 rfl rfl rfl) (va_cons (de_add (ve_var 1 rfl rfl rfl) de_int) va_nil)) rfl ⟨ns, k + 1, rfl, rfl⟩) (de_add (ve_var 2 rfl rfl rfl) de_int) (by omega)) ?_
  refine s_new 6 rfl (.inl rfl) da_nil (by simp) (fun l6 hl6 => ?_)
  rw [List.length_map]
  generalize hse : nth sizes (mixV ns k % sizes.length) = size at hz
  refine s_forR (fun s : List Int × Int => [some (.f g.K ns), some (.d (.int k)), some (.d (.int most)), some (.d (lI sizes)), some (.d (.int size)), some (.d (.int s.2)), some (.r l6), none, none]) (fun s => updA A l6 (oL (s.1.map .int))) (cntStep ns k size) (fun i s => True) ([], mixV ns (k + 1) % (most + 1)) rfl T.range (ve_var 4 rfl rfl rfl) (by walk_at "bd") (by walk_at "bd") (by walk_at "less") rfl trivial (fun i s hi hJ hs => ⟨trivial, _, td_name 7 rfl (.inl rfl) (.s (.s (.s (.s (.s (.s (.s .z))))))), ?_⟩) (fun hJ => ?_)
  · have sp := cntRow_spec ns k most size m0 i (by omega)
    rw [← hs] at sp
    obtain ⟨s1, s2, s3, s4⟩ := sp
    refine s_set 8 rfl (.inl rfl) (.s (.s (.s (.s (.s (.s (.s (.s .z)))))))) (de_ifC PyData.int (c_eqI.dt (ve_var 7 rfl rfl rfl) (de_sub (ve_var 4 rfl rfl rfl) de_int) rfl) (fun hc => (ve_var 5 rfl rfl rfl)) (fun hc => (de_mod (de_fdiv (de_call c__law_mix (by decide) rfl (va_cons (ve_var 0 rfl rfl rfl) (va_cons (de_add (de_add (ve_var 1 rfl rfl rfl) de_int) (ve_var 7 rfl rfl rfl)) va_nil)) rfl ⟨ns, _, rfl, rfl⟩) de_int (by walk_at "div")) (de_add (ve_var 5 rfl rfl rfl) de_int) (by omega)))) ?_
    refine s_appD (ve_var 6 rfl rfl rfl) (by walk_at "own") (ve_var 8 rfl rfl rfl) (by rw [List.length_map]; omega) ?_
    refine s_set 5 rfl (.inl rfl) (.s (.s (.s (.s (.s .z))))) (de_sub (ve_var 5 rfl rfl rfl) (ve_var 8 rfl rfl rfl)) ?_
    exact s_nil ⟨by walk_at "less", by rw [updA_updA]; simp [cntStep, oL]⟩
  refine s_frz 6 rfl hl6 (.s (.s (.s (.s (.s (.s .z)))))) ?_
  refine s_ret (de_tuple (de_ifC lI (c_eqI.dt (de_mod (de_call c__law_mix (by decide) rfl (va_cons (ve_var 0 rfl rfl rfl) (va_cons (de_add (ve_var 1 rfl rfl rfl) de_int) va_nil)) rfl ⟨ns, _, rfl, rfl⟩) de_int (by omega)) de_int rfl) (fun hc => (de_revL (ve_var 6 rfl rfl rfl) (.d _)).eq (by rw [← List.map_reverse])) (fun hc => (ve_var 6 rfl rfl rfl))) (.l (.d _)) rfl T.tuple) (hok _ ?_)
  unfold countsV cntRow
  rw [hse]
/-! ### the worker -/
theorem ok_look_small (T : Txt g CL) (F : Df g "look_small" ["counts"] s_look_small) (c_look_counts : Callee g "look_counts" ["counts"] 1 (sp_look_counts g.ea)) : Callee g "look_small" ["counts"] 2 (sp_look_small g.ea) := by
  refine callee_ok (vis := [true]) F sc_look_small (ci_by (by decide +kernel)) fun ds A Q E hn h => ?_
  obtain ⟨o, ⟨c, rfl, hl, rfl⟩, hok, her⟩ := h
  show WSs _ _ _ [some (.d (tI c))] _ _ _
  have hl2 : (c.map PyData.int).length = c.length := List.length_map _
  have el : goodC c = true → lookSmall c = if (decide (c.sum > 12) || decide ((c.length : Int) > 3)) = true then .error .counts else .ok () := fun gz => by
    unfold lookSmall goodS
    rw [gz]
    cases decide (c.sum > 12) <;> cases decide ((c.length : Int) > 3) <;> rfl
  refine s_expr (we_callR c_look_counts (by decide) rfl (va_cons (ve_var 0 rfl rfl rfl) va_nil) rfl ⟨c, rfl, rfl⟩ (fun r h1 => ?_) (fun e h1 => ?_))
  rotate_left
  · obtain ⟨rfl, l1⟩ := lookCounts_er h1
    refine her _ ?_
    have : goodC c = false := by
      cases z : goodC c with
      | false => rfl
      | true => unfold lookCounts at l1; rw [if_pos z] at l1; cases l1
    unfold lookSmall goodS
    rw [this]; rfl
  obtain ⟨g1, l1⟩ := lookCounts_ok h1
  rw [el g1] at hok her
  refine s_if1 (DT.eq (v' := decide (c.sum > 12) || decide ((c.length : Int) > 3)) (dt_or (c_gt.dt (de_sum (ve_var 0 rfl rfl rfl) (.t _) rfl T.sum) (de_gintE rfl T.c_MOST_THINGS) rfl) (fun hc => (dw_or1 (c_gt.dt (de_len (ve_var 0 rfl rfl rfl) (.t _) rfl T.len) de_int rfl)))) (by rw [hl2])) (fun hk => ?_) (fun hk => ?_)
  · exact s_raise T.x_BadCounts rfl (her _ (by rw [if_pos hk]; rfl))
  · exact s_nil (hok _ (by rw [hk]; rfl))
theorem ok_unevenness (T : Txt g CL) (F : Df g "unevenness" ["counts", "part"] s_unevenness) : Callee g "unevenness" ["counts", "part"] 1 (sp_uneven g.ea) := by
  refine callee_ok (vis := [true, true, false]) F sc_unevenness (ci_by (by decide +kernel)) fun ds A Q E hn h => ?_
  obtain ⟨o, ⟨c, p, rfl, hl, h3, hc, hp, rfl⟩, hok, her⟩ := h
  show WSs _ _ _ [some (.d (tI c)), some (.d (tI p)), none] _ _ _
  have hl2 : (c.map PyData.int).length = c.length := List.length_map _
  refine s_ret (de_sum (ns := (rng 0 c.length).map fun k => (if nth c k - 2 * nth p k < 0 then -(nth c k - 2 * nth p k) else nth c k - 2 * nth p k) * ((c.length : Int) - k)) (DE.eq (d_lc (h := fun k => (if nth c k - 2 * nth p k < 0 then -(nth c k - 2 * nth p k) else nth c k - 2 * nth p k) * ((c.length : Int) - k)) PyData.int [("k", 2)] [true, true, true] (blkOk_by (by decide +kernel)) (ci_by (by decide +kernel)) (it_range1 rfl T.range (de_len (ve_var 0 rfl rfl rfl) (.t _) rfl T.len) (by omega) (by omega)) rfl (fun z hz => tb_nameG 2 (by decide) rfl (.inl rfl) (.s (.s .z))) (fun z hz => by
    have hz2 := mem_rng.mp hz
    have b1 := hc _ (nth_mem (xs := c) (k := z) (by omega) (by omega))
    have b2 := hp _ (nth_mem (xs := p) (k := z) (by omega) (by omega))
    refine DE.eq (de_mul (de_abs (de_sub (de_ixTn (xs := c) (f := PyData.int) (ve_var 0 rfl rfl rfl) (ve_var 2 rfl rfl rfl) (by omega) (by omega)) (de_mul de_int (de_ixTn (xs := p) (f := PyData.int) (ve_var 1 rfl rfl rfl) (ve_var 2 rfl rfl rfl) (by omega) (by omega)) (.inl ⟨by omega, by omega⟩))) rfl T.abs) (de_sub (de_len (ve_var 0 rfl rfl rfl) (.t _) rfl T.len) (ve_var 2 rfl rfl rfl)) (.inl ⟨by split <;> omega, by split <;> omega⟩)) (by rw [hl2])) (by rw [rng_length]; omega)) (by rw [hl2, Int.toNat_natCast])) (.l (.d _)) rfl T.sum) (hok _ rfl)
theorem ok_parts (T : Txt g CL) (F : Df g "parts" ["counts"] s_parts) (c_unevenness : Callee g "unevenness" ["counts", "part"] 1 (sp_uneven g.ea)) : Callee g "parts" ["counts"] 2 (sp_parts g.ea) := by
  refine callee_ok (vis := [true, true, true, true, true, true, false, false]) F sc_parts (ci_by (by decide +kernel)) fun ds A Q E hn h => ?_
  obtain ⟨o, ⟨S, n, c, rfl, hG, rfl⟩, hok, her⟩ := h
  have hl2 : (c.map PyData.int).length = c.length := List.length_map _
  have hl := hG.len
  have n3 := hG.n3
  show WSs _ _ _ [some (.d (tI c)), none, none, none, none, none, none, none] _ _ _
  refine s_set (dv := .d (lLI [[]])) 1 rfl (.inl rfl) (.s .z) (d_lst (da_cons (d_tup (ds := []) da_nil) da_nil)) ?_
  refine s_forL (zs := c) (f := PyData.int) (fun s : List (List Int) => [some (.d (tI c)), some (.d (lLI s)), none, none, none, none, none, none]) (fun s => A) growP (fun i s => s.length ≤ 13 ^ i ∧ ∀ p ∈ s, p.length = i) [[]] (ve_var 0 rfl rfl rfl) (.inr rfl) (by walk_at "less") rfl ⟨Nat.le_refl _, fun p hp => by rw [List.mem_singleton.mp hp]; rfl⟩ (fun i z s hz hJ hs => ⟨?_, _, td_name 2 rfl (.inl rfl) (.s (.s .z)), ?_⟩) (fun hJ => ?_)
  · have zb := hG.le (List.mem_of_getElem? hz)
    refine ⟨?_, fun p hp => ?_⟩
    · unfold growP
      rw [flat_len (c := (z + 1).toNat) fun t _ => by rw [List.length_map, rng_length], Nat.pow_succ]
      exact Nat.mul_le_mul hJ.1 (by omega)
    · unfold growP at hp
      obtain ⟨q, hq, hp⟩ := List.mem_flatMap.mp hp
      obtain ⟨k, hk, rfl⟩ := List.mem_map.mp hp
      rw [List.length_append, hJ.2 q hq]; rfl
  · have zb := hG.le (List.mem_of_getElem? hz)
    have hi : i < c.length := (List.getElem?_eq_some_iff.mp hz).1
    have s13 : s.length ≤ 2197 := by
      have : 13 ^ i ≤ 13 ^ 3 := Nat.pow_le_pow_right (by decide) (by omega)
      have e : (13 : Nat) ^ 3 = 2197 := rfl
      have := hJ.1
      omega
    refine s_new 3 rfl (.inl rfl) da_nil (by simp) (fun l3 hl3 => ?_)
    refine s_forL (zs := s) (f := tI) (fun r : List (List Int) => [some (.d (tI c)), some (.d (lLI s)), some (.d (.int z)), some (.r l3), none, none, none, none]) (fun r => updA A l3 (oL (r.map tI))) (fun r p => r ++ (rng 0 (z + 1).toNat).map fun k => p ++ [k]) (fun j r => r.length ≤ j * 13) [] (ve_var 1 rfl rfl rfl) (.inl rfl) (by walk_at "less") rfl (Nat.zero_le _) (fun j p r hp hJ2 hr => ⟨by rw [List.length_append, List.length_map, rng_length]; omega, _, td_name 4 rfl (.inr ⟨rfl, rfl⟩) (.s (.s (.s (.s .z)))), ?_⟩) (fun hJ2 => ?_)
    · have hj : j < s.length := (List.getElem?_eq_some_iff.mp hp).1
      have pl := hJ.2 p (List.mem_of_getElem? hp)
      have e2 : (r ++ (rng 0 (z + 1).toNat).map fun k => p ++ [k]).map tI = r.map tI ++ ((rng 0 (z + 1).toNat).map fun k => p ++ [k]).map tI := by rw [List.map_append]
      refine s_extD (ve_var 3 rfl rfl rfl) (by walk_at "own") (d_lc (h := fun k => p ++ [k]) tI [("k", 7)] [false, false, false, false, true, false, false, true] (blkOk_by (by decide +kernel)) (ci_by (by decide +kernel)) (it_range1 rfl T.range (de_add (ve_var 2 rfl rfl rfl) de_int) (by omega) (by omega)) rfl (fun z hz => tb_nameG 7 (by decide) rfl (.inl rfl) (.s (.s (.s (.s (.s (.s (.s .z)))))))) (fun z hz => DE.eq (de_addT (xs := p.map .int) (ys := [.int z]) (ve_var 4 rfl rfl rfl) (d_tup (da_cons (ve_var 7 rfl rfl rfl) da_nil)) (by rw [List.length_map, sizeLine_eq]; simp; omega)) (by show _ = PyData.tuple ((p ++ [z]).map .int); rw [List.map_append]; rfl)) (by rw [rng_length]; omega)) (by rw [List.length_map, List.length_map, List.length_map, rng_length]; omega) ?_
      refine s_nil ⟨by walk_at "less", ?_⟩
      rw [updA_updA, e2]
    · have ef : s.foldl (fun r p => r ++ (rng 0 (z + 1).toNat).map fun k => p ++ [k]) [] = growP s z := by rw [fold_flat, List.nil_append]; rfl
      rw [ef]
      refine s_frz 3 rfl hl3 (.s (.s (.s .z))) ?_
      refine s_set (dv := .d (lLI (growP s z))) 1 rfl (.inl rfl) (.s .z) (ve_var 3 rfl rfl rfl) ?_
      exact s_nil ⟨by walk_at "less", rfl⟩
  · have s13 : (allP c).length ≤ 2197 := by
      have : 13 ^ c.length ≤ 13 ^ 3 := Nat.pow_le_pow_right (by decide) (by omega)
      have e : (13 : Nat) ^ 3 = 2197 := rfl
      have := hJ.1
      show (c.foldl growP [[]]).length ≤ _
      omega
    show WSs _ _ _ [some (.d (tI c)), some (.d (.list ((allP c).map tI))), none, none, none, none, none, none] _ _ _
    have inP : ∀ p ∈ allP c, p.length = c.length ∧ ∀ x ∈ p, 0 ≤ x ∧ x ≤ 12 := fun p hp => by
      have pp := (mem_allP c p).mp hp
      refine ⟨partOk_len (partP_ok.mp pp), ?_⟩
      have key : ∀ {c p : List Int}, PartP c p → (∀ x ∈ c, 0 ≤ x ∧ x ≤ 12) → ∀ x ∈ p, 0 ≤ x ∧ x ≤ 12 := fun {c p} h => by
        induction h with
        | nil => intro _ x hx; exact (List.not_mem_nil hx).elim
        | cons h0 h1 r ih =>
          intro hc x hx
          rcases List.mem_cons.mp hx with rfl | hx
          · have := hc _ List.mem_cons_self; omega
          · exact ih (fun y hy => hc y (List.mem_cons_of_mem _ hy)) x hx
      exact key pp fun x hx => hG.le hx
    refine s_setLcI (zs := allP c) (f := tI) (h := fun z => z) (pr := fun p => lexLe p (restV c p)) 5 rfl rfl rfl rfl rfl tI [("part", 4)] [true, false, false, false, true, false, false, false] (blkOk_by (by decide +kernel)) (ci_by (by decide +kernel)) (it_list (ve_var 1 rfl rfl rfl) (.d _)) rfl (fun z hz => tb_nameG 4 (by decide) rfl (.inr ⟨rfl, rfl⟩) (.s (.s (.s (.s .z))))) (fun z hz => by
      have hz3 := inP z hz
      exact (c_leT.dt (ve_var 4 rfl rfl rfl) (DE.eq (d' := tI (restV c z)) (de_tuple (d_lc (h := fun k => nth c k - nth z k) PyData.int [("k", 7)] [true, false, false, false, true, false, false, true] (blkOk_by (by decide +kernel)) (ci_by (by decide +kernel)) (it_range1 rfl T.range (de_len (ve_var 0 rfl rfl rfl) (.t _) rfl T.len) (by omega) (by omega)) rfl (fun z hz => tb_nameG 7 (by decide) rfl (.inl rfl) (.s (.s (.s (.s (.s (.s (.s .z)))))))) (fun k hk => by
        have hk2 := mem_rng.mp hk
        exact (de_sub (de_ixTn (xs := c) (f := PyData.int) (ve_var 0 rfl rfl rfl) (ve_var 7 rfl rfl rfl) (by omega) (by omega)) (de_ixTn (xs := z) (f := PyData.int) (ve_var 4 rfl rfl rfl) (ve_var 7 rfl rfl rfl) (by omega) (by omega)))) (by rw [rng_length]; omega)) (.l (.d _)) rfl T.tuple) (by rw [hl2, Int.toNat_natCast]; rfl)) rfl)) (fun z hz hp => (ve_var 4 rfl rfl rfl)) (by omega) (.s (.s (.s (.s (.s .z))))) ?_
    rw [List.map_id'']
    rotate_left
    · exact fun _ => rfl
    show WSs _ _ _ [some (.d (tI c)), some (.d (.list ((allP c).map tI))), none, none, none, some (.d (.list ((someP c).map tI))), none, none] _ _ _
    have s14 : (someP c).length ≤ 2197 := Nat.le_trans (List.length_filter_le _ _) s13
    have e5 : (sortPT ((someP c).map fun p => (unev c p, p))).length = (someP c).length := by rw [(sortPT_perm _).length_eq, List.length_map]
    refine s_ret (DE.eq (d_lc (zs := sortPT ((someP c).map fun p => (unev c p, p))) (f := dPT) (h := fun z => z.2) tI [("far", 6), ("part", 4)] [false, false, false, false, true, false, true, false] (blkOk_by (by decide +kernel)) (ci_by (by decide +kernel)) (it_list (de_sortedPT (zs := (someP c).map fun p => (unev c p, p)) (d_lc (zs := someP c) (f := tI) (h := fun p => (unev c p, p)) dPT [("part", 4)] [true, false, false, false, true, false, false, false] (blkOk_by (by decide +kernel)) (ci_by (by decide +kernel)) (it_list (ve_var 5 rfl rfl rfl) (.d _)) rfl (fun z hz => tb_nameG 4 (by decide) rfl (.inl rfl) (.s (.s (.s (.s .z))))) (fun z hz => by
      have hz3 := inP z (List.mem_filter.mp hz).1
      exact (d_tup (da_cons (de_call (r := .int (unev c z)) c_unevenness (by decide) rfl (va_cons (ve_var 0 rfl rfl rfl) (va_cons (ve_var 4 rfl rfl rfl) va_nil)) rfl ⟨c, z, rfl, hz3.1, by omega, fun x hx => hG.le hx, hz3.2, rfl⟩) (da_cons (ve_var 4 rfl rfl rfl) da_nil)))) (by omega)) (.d _) rfl T.sorted) (.d _)) rfl (fun z hz => tb_tup2G 6 4 (by decide) (by decide) rfl (.inl rfl) rfl (.inl rfl) (.s (.s (.s (.s (.s (.s .z)))))) (.s (.s (.s (.s .z))))) (fun z hz => (ve_var 4 rfl rfl rfl)) (by rw [e5]; omega)) rfl) (hok _ rfl)
theorem ok_Worker___init__ (T : Txt g CL) (F : Di g "Worker" (cAt g "Worker") "Worker.__init__" ["self"] s_Worker___init__) : MakeOk g "Worker" (cWork g) ["self"] 1 (sp_winit g) := by
  refine make_ok (vis := [true]) F sc_Worker___init__ (ci_by (by decide +kernel)) fun ds A Q E hn h => ?_
  obtain ⟨l, rfl, hA, hok⟩ := h
  show WSs _ _ _ [some (.r l)] _ _ _
  refine s_fld (l := l) (fs := []) T.cls_Worker T.na_Worker_known (we_dnew fun lk hlk => ?_)
  have n1 : lk ≠ l := fun e => by rw [e, hA] at hlk; cases hlk
  refine ⟨by rw [updA_ne n1.symm]; exact hA, by show 0 < 1000; decide, ve_var 0 rfl rfl rfl, ?_⟩
  exact s_nil (hok lk hlk)
theorem wcan_of (T : Txt g CL) (F : Dm g (cAt g "Worker") "can" "Worker.can" ["self", "counts", "many"] s_Worker_can) (c_bound : Callee g "bound" ["counts"] 3 (sp_bound g.ea)) (K : Nat) (c_found : MethOk g (cWork g) "found" ["self", "counts", "many"] (2 * K + 3) (sp_wfound K g)) : MethOk g (cWork g) "can" ["self", "counts", "many"] (2 * K + 4) (sp_wcan K g) := by
  refine meth_ok (vis := [true, true, true, true]) F sc_Worker_can (ci_lv (ci_by (by decide +kernel))) fun ds A Q E hn h => ?_
  obtain ⟨o, ⟨l, S, n, c, k, rfl, HI, ok, hk, h61, rfl⟩, hok, her⟩ := h
  obtain ⟨ld, hA, hd, hld⟩ := HI.ex
  have hq := hok _ rfl
  have hl := ok.len
  show WSs _ _ _ [some (.r l), some (.d (tI c)), some (.d (.int k)), none] _ _ _
  refine s_view ?_
  refine s_if1 (c_le.dt (de_sum (ve_var 1 rfl rfl rfl) (.t _) rfl T.sum) de_int rfl) (fun hk1 => ?_) (fun hk1 => ?_)
  · have hk1 := of_decide_eq_true hk1
    have e : canW k c = some [] := by cases k <;> (show (if _ then _ else _ : Option (List Int)) = _; rw [if_pos hk1])
    rw [e] at hq
    exact s_ret (d_tup (ds := []) da_nil) ⟨A, View.refl A, hq⟩
  have hk1 := of_decide_eq_false hk1
  refine s_if1 (c_lt.dt (ve_var 2 rfl rfl rfl) (de_call (r := .int (boundV c)) c_bound (by show 3 ≤ 2 * K + 3; omega) rfl (va_cons (ve_var 1 rfl rfl rfl) va_nil) rfl ⟨c, rfl, by show _ = Except.map _ (boundM c); unfold boundM; rw [look_ok ok.good]; rfl⟩) rfl) (fun hk2 => ?_) (fun hk2 => ?_)
  · have hk2 := of_decide_eq_true hk2
    have e : canW k c = none := by
      cases k with
      | zero => show (if _ then _ else _ : Option (List Int)) = _; rw [if_neg hk1]
      | succ k => show (if _ then _ else _ : Option (List Int)) = _; rw [if_neg hk1, if_pos hk2]
    rw [e] at hq
    exact s_ret de_none ⟨A, View.refl A, hq⟩
  have hk2 := of_decide_eq_false hk2
  have hb := bound_pos ok (by omega)
  obtain ⟨k, rfl⟩ : ∃ j, k = j + 1 := ⟨k - 1, by omega⟩
  refine s_set (dv := .d (wkey c (k + 1)).data) 3 rfl (.inl rfl) (.s (.s (.s .z))) (DE.eq (d_tup (da_cons (ve_var 1 rfl rfl rfl) (da_cons (ve_var 2 rfl rfl rfl) da_nil))) (wkey_data c (k + 1)).symm) ?_
  have dep : (wkey c (k + 1)).depth ≤ 8 := wkey_depth c (k + 1)
  refine s_openK hd fun kvs j => ?_
  have hA3 : ∀ kv, (updA A ld (aoK g.P g.w kv)) l = some (aoI (cWork g) (fsW ld)) := fun kv => by rw [updA_ne hld]; exact hA
  refine s_if1 ((c_ninK (ks := [ckey c, .num ((k + 1 : Nat) : Int)]) updA_same dep).dt (ve_var 3 rfl rfl rfl) (ve_fld T.cls_Worker T.na_Worker_known (ve_var 0 rfl rfl rfl) (hA3 _) rfl) rfl) (fun hk3 => ?_) (fun hk3 => ?_)
  · refine s_viewA (View.shutK' hd j) ?_
    refine s_kputI (VE.we (ve_meth (dv := .d (oDW (canW (k + 1) c))) c_found (by show 2 * K + 3 ≤ 2 * K + 3; omega) (ve_var 0 rfl rfl rfl) hA rfl (va_cons (ve_var 1 rfl rfl rfl) (va_cons (ve_var 2 rfl rfl rfl) va_nil)) rfl (fun A1 ex => ⟨_, ⟨l, S, n, c, k, rfl, HI.ext ex, ok, hk, h61, hk1, hk2, rfl⟩, fun r q => by cases q; exact ⟨rfl, rfl⟩, fun _ q => by cases q⟩)) ⟨ld, JW n, _, ve_fld T.cls_Worker T.na_Worker_known (ve_var 0 rfl rfl rfl) hA rfl, hd, ve_var 3 rfl rfl rfl, dep, fun kvs j => j.len ok.n3, fun kvs j => ?_⟩)
    exact s_nil (s_ret (ve_ixK (d := .d (oDW (canW (k + 1) c))) (ve_fld T.cls_Worker T.na_Worker_known (ve_var 0 rfl rfl rfl) (hA3 _) rfl) updA_same (ve_var 3 rfl rfl rfl) dep (by rw [valK_put, if_pos rfl])) ⟨A, View.shutK' hd (j.put ok h61), hq⟩)
  · obtain ⟨d, e⟩ : ∃ d, valK kvs (wkey c (k + 1)) = some d := by
      have hk3 : (!(valK kvs (wkey c (k + 1))).isSome) = false := hk3
      have hk3 : (valK kvs (wkey c (k + 1))).isSome = true := by revert hk3; cases (valK kvs (wkey c (k + 1))).isSome <;> simp
      exact Option.isSome_iff_exists.mp hk3
    have := j.2 c (k + 1) d e
    subst this
    exact s_ret (ve_ixK (ve_fld T.cls_Worker T.na_Worker_known (ve_var 0 rfl rfl rfl) (hA3 _) rfl) updA_same (ve_var 3 rfl rfl rfl) dep e) ⟨A, View.shutK' hd j, hq⟩
theorem wfound_of (T : Txt g CL) (F : Dm g (cAt g "Worker") "found" "Worker.found" ["self", "counts", "many"] s_Worker_found) (c_parts : Callee g "parts" ["counts"] 2 (sp_parts g.ea)) (c_behind : Callee g "behind" ["counts", "part"] 2 (sp_behind g.ea)) (K : Nat) (c_can : MethOk g (cWork g) "can" ["self", "counts", "many"] (2 * K + 4) (sp_wcan K g)) : MethOk g (cWork g) "found" ["self", "counts", "many"] (2 * K + 5) (sp_wfound (K + 1) g) := by
  refine meth_ok (vis := [true, true, true, true, true, true]) F sc_Worker_found (ci_lv (ci_by (by decide +kernel))) fun ds A Q E hn h => ?_
  obtain ⟨o, ⟨l, S, n, c, k, rfl, HI, ok, hk, h61, hs1, hb1, rfl⟩, hok, her⟩ := h
  obtain ⟨ld, hA, hd, hld⟩ := HI.ex
  have hq := hok _ rfl
  have ec : canW (k + 1) c = (partsV c).find? fun p => (canW k (behindY c p)).isSome && (canW k (behindN c p)).isSome := by
    show (if _ then _ else _ : Option (List Int)) = _; rw [if_neg hs1, if_neg hb1]
  show WSs _ _ _ [some (.r l), some (.d (tI c)), some (.d (.int ((k + 1 : Nat) : Int))), none, none, none] _ _ _
  refine s_forLJ (zs := partsV c) (f := tI) (fun s : Unit => [some (.r l), some (.d (tI c)), some (.d (.int ((k + 1 : Nat) : Int))), none, none, none]) (fun s => A) (fun s z => s) (fun i s => ∀ q ∈ (partsV c).take i, ((canW k (behindY c q)).isSome && (canW k (behindN c q)).isSome) = false) () (de_call (r := lLI (partsV c)) c_parts (by show 2 ≤ 2 * K + 4; omega) rfl (va_cons (ve_var 1 rfl rfl rfl) va_nil) rfl ⟨S, n, c, rfl, ok, rfl⟩) (.inl rfl) (by walk_at "less") rfl (fun q hq => by rw [List.take_zero] at hq; exact (List.not_mem_nil hq).elim) (fun i p s hz hJ hs => ⟨_, td_name 3 rfl (.inl rfl) (.s (.s (.s .z))), ?_⟩) (fun hJ => ?_)
  · have pok := (mem_partsV.mp (List.mem_of_getElem? hz)).1
    obtain ⟨g1, g2⟩ := ok.behind pok
    have hbM : behindM c p = .ok (behindY c p, behindN c p) := by
      unfold behindM
      rw [look_ok ok.good]
      show (if _ then _ else _) = _
      rw [if_pos pok]; rfl
    refine s_unpack (td_tup2 4 5 rfl (.inl rfl) rfl (.inl rfl) (.s (.s (.s (.s .z)))) (.s (.s (.s (.s (.s .z)))))) (de_call (r := dPair (behindY c p, behindN c p)) c_behind (by show 2 ≤ 2 * K + 4; omega) rfl (va_cons (ve_var 1 rfl rfl rfl) (va_cons (ve_var 3 rfl rfl rfl) va_nil)) rfl ⟨c, p, rfl, by rw [hbM]; rfl⟩) ?_
    have isn : ∀ x : Option (List Int), (!isNone (.d (oDW x))) = x.isSome := fun x => by cases x <;> rfl
    have hk1 : ((k + 1 : Nat) : Int) - 1 = (k : Int) := by omega
    refine s_if1 (DT.eq (v' := (canW k (behindY c p)).isSome && (canW k (behindN c p)).isSome) (dt_and (c_isnot.dt (ve_meth (dv := .d (oDW (canW k (behindY c p)))) c_can (by show 2 * K + 4 ≤ 2 * K + 4; omega) (ve_var 0 rfl rfl rfl) hA rfl (va_cons (ve_var 4 rfl rfl rfl) (va_cons (DE.eq (de_sub (ve_var 2 rfl rfl rfl) de_int) (by rw [hk1])) va_nil)) rfl (fun A1 ex => ⟨_, ⟨l, S, n, _, k, rfl, HI.ext ex, g1, by omega, by omega, rfl⟩, fun r q => by cases q; exact ⟨rfl, rfl⟩, fun _ q => by cases q⟩)) de_none rfl) (fun hc => (dw_and1 (c_isnot.dt (ve_meth (dv := .d (oDW (canW k (behindN c p)))) c_can (by show 2 * K + 4 ≤ 2 * K + 4; omega) (ve_var 0 rfl rfl rfl) hA rfl (va_cons (ve_var 5 rfl rfl rfl) (va_cons (DE.eq (de_sub (ve_var 2 rfl rfl rfl) de_int) (by rw [hk1])) va_nil)) rfl (fun A1 ex => ⟨_, ⟨l, S, n, _, k, rfl, HI.ext ex, g2, by omega, by omega, rfl⟩, fun r q => by cases q; exact ⟨rfl, rfl⟩, fun _ q => by cases q⟩)) de_none rfl)))) (by rw [isn, isn])) (fun hk2 => ?_) (fun hk2 => ?_)
    · have e : canW (k + 1) c = some p := by rw [ec]; exact find_at hz hJ hk2
      rw [e] at hq
      exact s_ret (ve_var 3 rfl rfl rfl) hq
    · refine s_nil ⟨fun q hq => ?_, by walk_at "less", rfl⟩
      rw [take_snoc hz, List.mem_append, List.mem_singleton] at hq
      rcases hq with h | h
      · exact hJ q h
      · rw [h]; exact hk2
  · have e : canW (k + 1) c = none := by
      rw [ec]
      refine List.find?_eq_none.mpr fun q hq => ?_
      rw [hJ q (by rw [List.take_length]; exact hq)]
      decide
    rw [e] at hq
    exact s_ret de_none hq
theorem ok_Worker_can (T : Txt g CL) (F : Dm g (cAt g "Worker") "can" "Worker.can" ["self", "counts", "many"] s_Worker_can) (F2 : Dm g (cAt g "Worker") "found" "Worker.found" ["self", "counts", "many"] s_Worker_found) (c_bound : Callee g "bound" ["counts"] 3 (sp_bound g.ea)) (c_parts : Callee g "parts" ["counts"] 2 (sp_parts g.ea)) (c_behind : Callee g "behind" ["counts", "part"] 2 (sp_behind g.ea)) : ∀ K, MethOk g (cWork g) "can" ["self", "counts", "many"] (2 * K + 4) (sp_wcan K g)
  | 0 => wcan_of T F c_bound 0 (meth_ok (vis := [true, true, true, true, true, true]) F2 sc_Worker_found (ci_lv (ci_by (by decide +kernel))) fun ds A Q E hn h => by
      obtain ⟨o, ⟨l, S, n, c, k, _, _, _, hk, _⟩, _⟩ := h
      omega)
  | K + 1 => wcan_of T F c_bound (K + 1) (wfound_of T F2 c_parts c_behind K (ok_Worker_can T F F2 c_bound c_parts c_behind K))
theorem ok_least (T : Txt g CL) (F : Df g "least" ["counts"] s_least) (c_look_small : Callee g "look_small" ["counts"] 2 (sp_look_small g.ea)) (c_bound : Callee g "bound" ["counts"] 3 (sp_bound g.ea)) (c_Worker : MakeOk g "Worker" (cWork g) ["self"] 1 (sp_winit g)) (c_can : ∀ K, MethOk g (cWork g) "can" ["self", "counts", "many"] (2 * K + 4) (sp_wcan K g)) : Callee g "least" ["counts"] 77 (sp_leastW g.ea) := by
  have c_can := c_can 36
  refine callee_ok (vis := [true, true, true]) F sc_least (ci_by (by decide +kernel)) fun ds A Q E hn h => ?_
  obtain ⟨o, ⟨c, rfl, hl, rfl⟩, hok, her⟩ := h
  show WSs _ _ _ [some (.d (tI c)), none, none] _ _ _
  refine s_view ?_
  refine s_expr (we_callR c_look_small (by decide) rfl (va_cons (ve_var 0 rfl rfl rfl) va_nil) rfl ⟨c, rfl, hl, rfl⟩ (fun r h1 => ?_) (fun e h1 => ?_))
  rotate_left
  · refine ⟨A, View.refl A, her _ ?_⟩
    cases z : lookSmall c with
    | ok u => rw [z] at h1; cases h1
    | error e' => rw [z] at h1; cases h1; rfl
  have gs : goodS c = true := by
    unfold lookSmall at h1
    cases z : goodS c with
    | true => rfl
    | false => rw [z] at h1; cases h1
  have ok := lookSmall_ok gs
  obtain ⟨s1, s2, s3, s4⟩ := leastC_spec ok
  have l36 : leastC c ≤ 36 := by
    have a1 := ok.sum; have n1 := ok.n1; have n3 := ok.n3
    have hn : c.length = 1 ∨ c.length = 2 ∨ c.length = 3 := by omega
    rcases hn with e | e | e <;> rw [e] at s4 <;> omega
  have hq := hok (.int (leastC c)) (by unfold lookSmall; rw [if_pos gs]; rfl)
  refine s_setW 1 rfl (.inl rfl) (we_make0 c_Worker (by decide) rfl rfl (fun l hl => ⟨l, rfl, updA_same, fun ld hld => ⟨rfl, ?_⟩⟩))
  have n12 : ld ≠ l := fun e => by rw [e, updA_same] at hld; cases hld
  have hld0 : A ld = none := by rw [updA_ne n12] at hld; exact hld
  have e2 : updA (updA (updA A l (aoI (cWork g) [])) ld (aoK g.P g.w [])) l (aoI (cWork g) (fsW ld)) = updA (updA A l (aoI (cWork g) (fsW ld))) ld (aoK g.P g.w []) := by
    funext a
    by_cases c : a = l
    · subst c; rw [updA_same, updA_ne n12.symm, updA_same]
    · rw [updA_ne c]
      by_cases c2 : a = ld
      · subst c2; rw [updA_same, updA_same]
      · rw [updA_ne c2, updA_ne c2, updA_ne c, updA_ne c]
  rw [e2]
  refine s_viewA (View.shutK updA_same (JW_nil c.length)) ?_
  rw [updA_updA]
  obtain ⟨A1, eA⟩ : ∃ A1, A1 = updA (updA A l (aoI (cWork g) (fsW ld))) ld (aoKI g.P g.w (JW c.length)) := ⟨_, rfl⟩
  rw [← eA]
  have hA : A1 l = some (aoI (cWork g) (fsW ld)) := by rw [eA, updA_ne n12.symm, updA_same]
  have HI : WorkIn g A1 l c.length := ⟨ld, hA, by rw [eA, updA_same], n12.symm⟩
  have back : View A1 A := by rw [eA]; exact View.ext ((ExtA.upd hl).trans (ExtA.upd (by rw [updA_ne n12]; exact hld0)))
  obtain ⟨b, eb⟩ : ∃ b : Nat, boundV c = b := by obtain ⟨s, e, _⟩ := bound_spec ok.good; exact ⟨s, e⟩
  refine s_set (dv := .d (.int b)) 2 rfl (.inl rfl) (.s (.s .z)) (DE.eq (de_call (r := .int (boundV c)) c_bound (by decide) rfl (va_cons (ve_var 0 rfl rfl rfl) va_nil) rfl ⟨c, rfl, by show _ = Except.map _ (boundM c); unfold boundM; rw [look_ok ok.good]; rfl⟩) (by rw [eb])) ?_
  refine s_while (fun s : Nat => [some (.d (tI c)), some (.r l), some (.d (.int s))]) (fun s => A1) (fun s => (canW s c).isNone) (fun s => s + 1) (fun s => s ≤ leastC c) (fun s => 37 - s) b (by walk_at "less") rfl (by omega) (fun s hJ => DT.eq (c_is.dt (ve_meth (dv := .d (oDW (canW s c))) c_can (by decide) (ve_var 1 rfl rfl rfl) hA rfl (va_cons (de_tuple (ve_var 0 rfl rfl rfl) (.t _) rfl T.tuple) (va_cons (ve_var 2 rfl rfl rfl) va_nil)) rfl (fun A2 ex => ⟨_, ⟨l, 12, c.length, c, s, rfl, HI.ext ex, ok, by omega, by omega, rfl⟩, fun r q => by cases q; exact ⟨rfl, rfl⟩, fun _ q => by cases q⟩)) de_none rfl) (by cases canW s c <;> rfl)) (fun s hJ ht => ?_) (fun s hJ ht => ?_)
  · have hn : ¬ leastC c ≤ s := fun z => by
      have := (s2 s).mpr z
      rw [← can_law s ok] at this
      cases y : canW s c with
      | none => rw [y] at this; cases this
      | some x => rw [y] at ht; cases ht
    refine ⟨by show s + 1 ≤ _; omega, by omega, ?_⟩
    refine s_set 2 rfl (.inl rfl) (.s (.s .z)) (DE.eq (d' := .int ((s + 1 : Nat) : Int)) (de_add (ve_var 2 rfl rfl rfl) de_int) (by congr 1)) ?_
    exact s_nil ⟨by walk_at "less", rfl⟩
  · have hs : lawC s c = true := by
      rw [← can_law s ok]
      cases y : canW s c with
      | none => rw [y] at ht; cases ht
      | some x => rfl
    have e : leastC c = s := by have := (s2 s).mp hs; omega
    rw [e] at hq
    exact s_ret (ve_var 2 rfl rfl rfl) ⟨A, back, hq⟩
theorem wplan_of (T : Txt g CL) (F : Dm g (cAt g "Worker") "plan" "Worker.plan" ["self", "counts", "many"] s_Worker_plan) (c_behind : Callee g "behind" ["counts", "part"] 2 (sp_behind g.ea)) (c_can : ∀ K, MethOk g (cWork g) "can" ["self", "counts", "many"] (2 * K + 4) (sp_wcan K g)) (K : Nat) (c_plan : ∀ J, K = J + 1 → MethOk g (cWork g) "plan" ["self", "counts", "many"] (2 * J + 5) (sp_wplan J g)) : MethOk g (cWork g) "plan" ["self", "counts", "many"] (2 * K + 5) (sp_wplan K g) := by
  refine meth_ok (vis := [true, true, true, true, true, true]) F sc_Worker_plan (ci_lv (ci_by (by decide +kernel))) fun ds A Q E hn h => ?_
  obtain ⟨o, ⟨l, S, n, c, k, rfl, HI, ok, hk, h61, hs, rfl⟩, hok, her⟩ := h
  have hq := hok _ rfl
  obtain ⟨lk, hA, _, _⟩ := id HI.ex
  obtain ⟨p, hp⟩ := Option.isSome_iff_exists.mp hs
  obtain ⟨n1, n2⟩ := can_nil ok hp
  show WSs _ _ _ [some (.r l), some (.d (tI c)), some (.d (.int k)), none, none, none] _ _ _
  refine s_set (dv := .d (tI p)) 3 rfl (.inl rfl) (.s (.s (.s .z))) (DE.eq (ve_meth (dv := .d (oDW (canW k c))) (c_can K) (by show 2 * K + 4 ≤ 2 * K + 4; omega) (ve_var 0 rfl rfl rfl) hA rfl (va_cons (ve_var 1 rfl rfl rfl) (va_cons (ve_var 2 rfl rfl rfl) va_nil)) rfl (fun A1 ex => ⟨_, ⟨l, S, n, c, k, rfl, HI.ext ex, ok, hk, h61, rfl⟩, fun r q => by cases q; exact ⟨rfl, rfl⟩, fun _ q => by cases q⟩)) (by rw [hp]; rfl)) ?_
  refine s_if1 ((c_eqE (EqE.tuple EqE.int) (fun xs => (Sh.tuple (n := 1) (.map fun _ => .int) : Sh 2 _)) (by decide) p []).dt (ve_var 3 rfl rfl rfl) (d_tup (ds := []) da_nil) rfl) (fun hk1 => ?_) (fun hk1 => ?_)
  · have hk1 := of_decide_eq_true hk1
    have e : planW k c = .tuple [] := by
      cases k with
      | zero => rfl
      | succ k => unfold planW; rw [hp]; dsimp only; rw [if_pos hk1]
    rw [e] at hq
    exact s_ret (d_tup (ds := []) da_nil) hq
  · have hk1 := of_decide_eq_false hk1
    obtain ⟨j, rfl, pok, s1, s2⟩ := n2 fun z => hk1 (n1.mpr z)
    obtain ⟨J, rfl⟩ : ∃ J, K = J + 1 := ⟨K - 1, by omega⟩
    have c_plan := c_plan J rfl
    obtain ⟨g1, g2⟩ := ok.behind pok
    have hbM : behindM c p = .ok (behindY c p, behindN c p) := by
      unfold behindM
      rw [look_ok ok.good]
      show (if _ then _ else _) = _
      rw [if_pos pok]; rfl
    have e : planW (j + 1) c = .tuple [tI p, planW j (behindY c p), planW j (behindN c p)] := by
      show (match canW (j + 1) c with | none => _ | some p => _) = _
      rw [hp]; dsimp only; rw [if_neg hk1]
    rw [e] at hq
    have hj : ((j + 1 : Nat) : Int) - 1 = (j : Int) := by omega
    refine s_unpack (td_tup2 4 5 rfl (.inl rfl) rfl (.inl rfl) (.s (.s (.s (.s .z)))) (.s (.s (.s (.s (.s .z)))))) (de_call (r := dPair (behindY c p, behindN c p)) c_behind (by show 2 ≤ 2 * (J + 1) + 4; omega) rfl (va_cons (ve_var 1 rfl rfl rfl) (va_cons (ve_var 3 rfl rfl rfl) va_nil)) rfl ⟨c, p, rfl, by rw [hbM]; rfl⟩) ?_
    exact s_ret (d_tup (da_cons (ve_var 3 rfl rfl rfl) (da_cons (ve_meth (dv := .d (planW j (behindY c p))) c_plan (by show 2 * J + 5 ≤ 2 * (J + 1) + 4; omega) (ve_var 0 rfl rfl rfl) hA rfl (va_cons (ve_var 4 rfl rfl rfl) (va_cons (DE.eq (de_sub (ve_var 2 rfl rfl rfl) de_int) (by rw [hj])) va_nil)) rfl (fun A1 ex => ⟨_, ⟨l, S, n, _, j, rfl, HI.ext ex, g1, by omega, by omega, s1, rfl⟩, fun r q => by cases q; exact ⟨rfl, rfl⟩, fun _ q => by cases q⟩)) (da_cons (ve_meth (dv := .d (planW j (behindN c p))) c_plan (by show 2 * J + 5 ≤ 2 * (J + 1) + 4; omega) (ve_var 0 rfl rfl rfl) hA rfl (va_cons (ve_var 5 rfl rfl rfl) (va_cons (DE.eq (de_sub (ve_var 2 rfl rfl rfl) de_int) (by rw [hj])) va_nil)) rfl (fun A1 ex => ⟨_, ⟨l, S, n, _, j, rfl, HI.ext ex, g2, by omega, by omega, s2, rfl⟩, fun r q => by cases q; exact ⟨rfl, rfl⟩, fun _ q => by cases q⟩)) da_nil)))) hq
theorem ok_Worker_plan (T : Txt g CL) (F : Dm g (cAt g "Worker") "plan" "Worker.plan" ["self", "counts", "many"] s_Worker_plan) (c_behind : Callee g "behind" ["counts", "part"] 2 (sp_behind g.ea)) (c_can : ∀ K, MethOk g (cWork g) "can" ["self", "counts", "many"] (2 * K + 4) (sp_wcan K g)) : ∀ K, MethOk g (cWork g) "plan" ["self", "counts", "many"] (2 * K + 5) (sp_wplan K g)
  | 0 => wplan_of T F c_behind c_can 0 fun J h => by cases h
  | K + 1 => wplan_of T F c_behind c_can (K + 1) fun J h => by cases h; exact ok_Worker_plan T F c_behind c_can K
theorem look_plan_of (T : Txt g CL) (F : Df g "look_plan" ["plan", "deep"] s_look_plan) (f : Nat) (c_rec : ∀ e, f = e + 1 → Callee g "look_plan" ["plan", "deep"] (e + 1) (sp_look_plan e g.ea)) : Callee g "look_plan" ["plan", "deep"] (f + 1) (sp_look_plan f g.ea) := by
  refine callee_ok (vis := [true, true, true]) F sc_look_plan (ci_lv (ci_by (by decide +kernel))) fun ds A Q E hn h => ?_
  obtain ⟨o, ⟨pl, d, rfl, hok0, hf, rfl⟩, hok, her⟩ := h
  have bad : lookPl d pl = false → E (g.ea .plan) A := fun z => her _ (by unfold lookPlan; rw [z]; rfl)
  have good : lookPl d pl = true → Q (.d .none) A := fun z => hok _ (by unfold lookPlan; rw [if_pos z]; rfl)
  cases pl with
  | odd xs =>
    obtain ⟨o1, o2⟩ : xs.length ≠ 0 ∧ xs.length ≠ 3 := hok0
    show WSs _ _ _ [some (.d (.tuple xs)), some (.d (.int d)), none] _ _ _
    refine s_if1 (dt_or (c_gt.dt (ve_var 1 rfl rfl rfl) (de_gintE rfl T.c_MOST_DEEP) rfl) (fun hc => (dw_or1 ((c_ninTI (ns := [0, 3])).dt (de_len (ve_var 0 rfl rfl rfl) (.t _) rfl T.len) (d_tup (da_cons de_int (da_cons de_int da_nil))) rfl)))) (fun hk => ?_) (fun hk => ?_)
    · exact s_raise T.x_BadPlan rfl (bad rfl)
    · exfalso
      have nm : ¬ ((xs.length : Int) ∈ [(0 : Int), 3]) := fun z => by
        rcases List.mem_cons.mp z with h | h
        · omega
        · have := List.mem_singleton.mp h; omega
      rw [decide_eq_false nm] at hk
      simp at hk
  | nil =>
    show WSs _ _ _ [some (.d (.tuple [])), some (.d (.int d)), none] _ _ _
    refine s_if1 (DT.eq (v' := decide ((d : Int) > 60)) (dt_or (c_gt.dt (ve_var 1 rfl rfl rfl) (de_gintE rfl T.c_MOST_DEEP) rfl) (fun hc => (dw_or1 ((c_ninTI (ns := [0, 3])).dt (de_len (xs := []) (ve_var 0 rfl rfl rfl) (.t _) rfl T.len) (d_tup (da_cons de_int (da_cons de_int da_nil))) rfl)))) (by simp)) (fun hk => ?_) (fun hk => ?_)
    · have hk := of_decide_eq_true hk
      exact s_raise T.x_BadPlan rfl (bad (by show decide _ = false; exact decide_eq_false (by omega)))
    · have hk := of_decide_eq_false hk
      refine s_forLJ (zs := ([] : List Pl)) (f := plD) (fun s : Unit => [some (.d (.tuple [])), some (.d (.int d)), none]) (fun s => A) (fun s z => s) (fun i s => True) () (de_sliceT (xs := []) (ve_var 0 rfl rfl rfl) (vo_some de_int) vo_none) (.inr rfl) (by walk_at "less") rfl trivial (fun i z s hz hJ hs => by simp at hz) (fun hJ => ?_)
      exact s_nil (good (by show decide _ = true; exact decide_eq_true (by omega)))
  | node p y n =>
    obtain ⟨ky, kn⟩ : y.Ok ∧ n.Ok := hok0
    show WSs _ _ _ [some (.d (.tuple [tI p, plD y, plD n])), some (.d (.int d)), none] _ _ _
    refine s_if1 (DT.eq (v' := decide ((d : Int) > 60)) (dt_or (c_gt.dt (ve_var 1 rfl rfl rfl) (de_gintE rfl T.c_MOST_DEEP) rfl) (fun hc => (dw_or1 ((c_ninTI (ns := [0, 3])).dt (de_len (xs := [tI p, plD y, plD n]) (ve_var 0 rfl rfl rfl) (.t _) rfl T.len) (d_tup (da_cons de_int (da_cons de_int da_nil))) rfl)))) (by simp)) (fun hk => ?_) (fun hk => ?_)
    · have hk := of_decide_eq_true hk
      exact s_raise T.x_BadPlan rfl (bad (by show (decide _ && _) = false; rw [decide_eq_false (by omega)]; rfl))
    · have hk := of_decide_eq_false hk
      have hd : decide (d ≤ 60) = true := decide_eq_true (by omega)
      obtain ⟨e, rfl⟩ : ∃ e, f = e + 1 := ⟨f - 1, by omega⟩
      have c_rec := c_rec e rfl
      refine s_forLJ (zs := [y, n]) (f := plD) (fun s : Unit => [some (.d (.tuple [tI p, plD y, plD n])), some (.d (.int d)), none]) (fun s => A) (fun s z => s) (fun i s => ∀ z ∈ [y, n].take i, lookPl (d + 1) z = true) () (de_sliceT (xs := [tI p, plD y, plD n]) (ve_var 0 rfl rfl rfl) (vo_some de_int) vo_none) (.inr (by rw [cut_1]; rfl)) (by walk_at "less") rfl (fun z hz => by simp at hz) (fun i z s hz hJ hs => ⟨_, td_name 2 rfl (.inl rfl) (.s (.s .z)), ?_⟩) (fun hJ => ?_)
      · have zm : z ∈ [y, n] := List.mem_of_getElem? hz
        have zok : z.Ok := by
          rcases List.mem_cons.mp zm with rfl | h
          · exact ky
          · rw [List.mem_singleton.mp h]; exact kn
        refine s_expr (we_callR c_rec (by show e + 1 ≤ e + 1; omega) rfl (va_cons (ve_var 2 rfl rfl rfl) (va_cons (DE.eq (d' := .int ((d + 1 : Nat) : Int)) (de_add (ve_var 1 rfl rfl rfl) de_int) (by congr 1)) va_nil)) rfl ⟨z, d + 1, rfl, zok, by omega, rfl⟩ (fun r h1 => ?_) (fun er h1 => ?_))
        · refine s_nil ⟨fun w hw => ?_, by walk_at "less", rfl⟩
          rw [take_snoc hz, List.mem_append, List.mem_singleton] at hw
          rcases hw with h | h
          · exact hJ w h
          · rw [h]
            cases q : lookPl (d + 1) z with
            | true => rfl
            | false => unfold lookPlan at h1; rw [q] at h1; cases h1
        · cases q : lookPl (d + 1) z with
          | true => unfold lookPlan at h1; rw [if_pos q] at h1; cases h1
          | false =>
            unfold lookPlan at h1
            rw [q] at h1
            cases h1
            refine bad ?_
            show (decide _ && (lookPl (d + 1) y && lookPl (d + 1) n)) = false
            rcases List.mem_cons.mp zm with rfl | h
            · rw [q, Bool.false_and, Bool.and_false]
            · rw [List.mem_singleton.mp h] at q
              rw [q, Bool.and_false, Bool.and_false]
      · refine s_nil (good ?_)
        show (decide _ && (lookPl (d + 1) y && lookPl (d + 1) n)) = true
        rw [hd, hJ y (by simp), hJ n (by simp)]; rfl
theorem ok_look_plan (T : Txt g CL) (F : Df g "look_plan" ["plan", "deep"] s_look_plan) : ∀ f, Callee g "look_plan" ["plan", "deep"] (f + 1) (sp_look_plan f g.ea)
  | 0 => look_plan_of T F 0 fun e h => by cases h
  | f + 1 => look_plan_of T F (f + 1) fun e h => by cases h; exact ok_look_plan T F f
theorem ok_told (T : Txt g CL) (F : Df g "told" ["counts", "many"] s_told) (c_look_small : Callee g "look_small" ["counts"] 2 (sp_look_small g.ea)) (c_look_questions : Callee g "look_questions" ["many"] 1 (sp_look_questions g.ea)) (c_Worker : MakeOk g "Worker" (cWork g) ["self"] 1 (sp_winit g)) (c_can : ∀ K, MethOk g (cWork g) "can" ["self", "counts", "many"] (2 * K + 4) (sp_wcan K g)) (c_plan : ∀ K, MethOk g (cWork g) "plan" ["self", "counts", "many"] (2 * K + 5) (sp_wplan K g)) : Callee g "told" ["counts", "many"] 78 (sp_toldP g.ea) := by
  have c_can := c_can 36
  have c_plan := c_plan 36
  refine callee_ok (vis := [true, true, true, true]) F sc_told (ci_by (by decide +kernel)) fun ds A Q E hn h => ?_
  obtain ⟨o, ⟨c, k, rfl, gs, h36, hw, rfl⟩, hok, her⟩ := h
  have hq := hok _ rfl
  have ok := lookSmall_ok gs
  have h3 := ok.n3
  have cs : (canW k c).isSome = true := by rw [can_law k ok]; exact hw
  show WSs _ _ _ [some (.d (tI c)), some (.d (.int k)), none, none] _ _ _
  refine s_view ?_
  refine s_expr (we_callR c_look_small (by decide) rfl (va_cons (ve_var 0 rfl rfl rfl) va_nil) rfl ⟨c, rfl, by omega, rfl⟩ (fun r h1 => ?_) (fun e h1 => by unfold lookSmall at h1; rw [if_pos gs] at h1; cases h1))
  refine s_expr (we_callR c_look_questions (by decide) rfl (va_cons (ve_var 1 rfl rfl rfl) va_nil) rfl ⟨k, rfl, rfl⟩ (fun r h1 => ?_) (fun e h1 => by unfold lookQs goodQ at h1; rw [decide_eq_true (by omega), decide_eq_true (by omega)] at h1; cases h1))
  refine s_setW 2 rfl (.inl rfl) (we_make0 c_Worker (by decide) rfl rfl (fun l hl => ⟨l, rfl, updA_same, fun ld hld => ⟨rfl, ?_⟩⟩))
  have n12 : ld ≠ l := fun e => by rw [e, updA_same] at hld; cases hld
  have hld0 : A ld = none := by rw [updA_ne n12] at hld; exact hld
  have e2 : updA (updA (updA A l (aoI (cWork g) [])) ld (aoK g.P g.w [])) l (aoI (cWork g) (fsW ld)) = updA (updA A l (aoI (cWork g) (fsW ld))) ld (aoK g.P g.w []) := by
    funext a
    by_cases c : a = l
    · subst c; rw [updA_same, updA_ne n12.symm, updA_same]
    · rw [updA_ne c]
      by_cases c2 : a = ld
      · subst c2; rw [updA_same, updA_same]
      · rw [updA_ne c2, updA_ne c2, updA_ne c, updA_ne c]
  rw [e2]
  refine s_viewA (View.shutK updA_same (JW_nil c.length)) ?_
  rw [updA_updA]
  obtain ⟨A1, eA⟩ : ∃ A1, A1 = updA (updA A l (aoI (cWork g) (fsW ld))) ld (aoKI g.P g.w (JW c.length)) := ⟨_, rfl⟩
  rw [← eA]
  have hA : A1 l = some (aoI (cWork g) (fsW ld)) := by rw [eA, updA_ne n12.symm, updA_same]
  have HI : WorkIn g A1 l c.length := ⟨ld, hA, by rw [eA, updA_same], n12.symm⟩
  have back : View A1 A := by rw [eA]; exact View.ext ((ExtA.upd hl).trans (ExtA.upd (by rw [updA_ne n12]; exact hld0)))
  refine s_if1 (DT.eq (v' := (canW k c).isSome) (c_isnot.dt (ve_meth (dv := .d (oDW (canW k c))) c_can (by decide) (ve_var 2 rfl rfl rfl) hA rfl (va_cons (de_tuple (ve_var 0 rfl rfl rfl) (.t _) rfl T.tuple) (va_cons (ve_var 1 rfl rfl rfl) va_nil)) rfl (fun A2 ex => ⟨_, ⟨l, 12, c.length, c, k, rfl, HI.ext ex, ok, by omega, by omega, rfl⟩, fun r q => by cases q; exact ⟨rfl, rfl⟩, fun _ q => by cases q⟩)) de_none rfl) (by cases canW k c <;> rfl)) (fun hk => ?_) (fun hk => by rw [cs] at hk; cases hk)
  exact s_ret (d_tup (da_cons de_str (da_cons (ve_meth (dv := .d (planW k c)) c_plan (by decide) (ve_var 2 rfl rfl rfl) hA rfl (va_cons (de_tuple (ve_var 0 rfl rfl rfl) (.t _) rfl T.tuple) (va_cons (ve_var 1 rfl rfl rfl) va_nil)) rfl (fun A2 ex => ⟨_, ⟨l, 12, c.length, c, k, rfl, HI.ext ex, ok, by omega, by omega, cs, rfl⟩, fun r q => by cases q; exact ⟨rfl, rfl⟩, fun _ q => by cases q⟩)) da_nil))) ⟨A, back, hq⟩
theorem written_of (T : Txt g CL) (F : Df g "written_plan" ["plan"] s_written_plan) (c_look_plan : ∀ f, Callee g "look_plan" ["plan", "deep"] (f + 1) (sp_look_plan f g.ea)) (f : Nat) (c_rec : ∀ e, f = e + 1 → Callee g "written_plan" ["plan"] (e + 63) (sp_written e g.ea)) : Callee g "written_plan" ["plan"] (f + 63) (sp_written f g.ea) := by
  have c_look_plan := c_look_plan 61
  refine callee_ok (vis := [true, true, false]) F sc_written_plan (ci_lv (ci_by (by decide +kernel))) fun ds A Q E hn h => ?_
  obtain ⟨o, ⟨pl, rfl, hpo, hf, h61, hg, rfl⟩, hok, her⟩ := h
  unfold writtenM at hok her
  show WSs _ _ _ [some (.d (plD pl)), none, none] _ _ _
  refine s_expr (we_callR c_look_plan (by show 62 ≤ f + 62; omega) rfl (va_cons (ve_var 0 rfl rfl rfl) (va_cons de_int va_nil)) rfl ⟨pl, 0, rfl, hpo, by omega, rfl⟩ (fun r h1 => ?_) (fun e h1 => ?_))
  rotate_left
  · refine her e ?_
    cases z : lookPlan 0 pl with
    | ok u => rw [z] at h1; cases h1
    | error e' => rw [z] at h1; cases h1; rfl
  have lp : lookPl 0 pl = true := by
    unfold lookPlan at h1
    cases z : lookPl 0 pl with
    | true => rfl
    | false => rw [z] at h1; cases h1
  have e3 : lookPlan 0 pl = .ok () := by unfold lookPlan; rw [if_pos lp]
  rw [e3] at hok
  have hq := hok _ rfl
  have gd := (look_good' lp).1
  obtain ⟨nk, tl⟩ := hg gd
  have ev := eqv_pl gd
  refine s_if1 ((c_eqD ((sh_pl gd).ok (by omega)) ((Sh.tuple (n := 0) .nil).ok (by omega))).dt (ve_var 0 rfl rfl rfl) (d_tup (ds := []) da_nil) rfl) (fun hk => ?_) (fun hk => ?_)
  · rw [ev] at hk
    cases pl with
    | nil => exact s_ret (DE.eq (d' := stD [46]) de_str rfl) hq
    | node p y n => cases hk
    | odd xs => cases hk
  rw [ev] at hk
  cases pl with
  | nil => cases hk
  | odd xs => exact gd.elim
  | node p y z =>
    obtain ⟨gy, gz⟩ := gd
    obtain ⟨oy, oz⟩ : y.Ok ∧ z.Ok := hpo
    obtain ⟨np, ny, nz⟩ := nk.y
    have hty : y.ht + 1 ≤ f ∧ z.ht + 1 ≤ f ∧ y.ht ≤ 61 ∧ z.ht ≤ 61 := by
      have hf : 1 + max y.ht z.ht ≤ f := hf
      have h61 : 1 + max y.ht z.ht ≤ 61 := h61
      omega
    have lyz : lookPl 0 y = true ∧ lookPl 0 z = true := by
      have := (look_good' lp).2
      have h : (decide (0 ≤ 60) && (lookPl 1 y && lookPl 1 z)) = true := lp
      rw [Bool.and_eq_true, Bool.and_eq_true] at h
      have a := (look_good' h.2.1).2
      have b := (look_good' h.2.2).2
      exact ⟨lookPl_of gy (by omega), lookPl_of gz (by omega)⟩
    obtain ⟨e, rfl⟩ : ∃ e, f = e + 1 := ⟨f - 1, by omega⟩
    have c_rec := c_rec e rfl
    have sz := wtext_parts (n := 16777216) tl
    have js := join_size p
    have pl2 : (p.map decI).length = p.length := List.length_map _
    refine s_set (dv := .d (stD (TL.joinL [44] (p.map decI)))) 1 rfl (.inl rfl) (.s .z) (de_joinSt (DE.eq (d' := stD [44]) de_str rfl) (DE.eq (d_lc (f := PyData.int) (zs := p) (h := fun n => decI n) stD [("number", 2)] [false, false, true] (blk_lv (blkOk_by (by decide +kernel))) (ci_lv2 (ci_by (by decide +kernel))) (it_tup (de_ixT (xs := [tI p, plD y, plD z]) (d := tI p) (ve_var 0 rfl rfl rfl) de_int rfl)) rfl (fun z hz => tb_nameG 2 (by decide) rfl (.inl rfl) (.s (.s .z))) (fun z hz => de_strN (ve_var 2 rfl rfl rfl) (np z hz).1 (by have := (np z hz).2; omega) rfl T.str) (by omega)) rfl) (by show _ + _ * 1 ≤ 16777216; omega)) ?_
    have r1 : writtenM y = .ok (stD (wtext y)) := by unfold writtenM lookPlan; rw [if_pos lyz.1]; rfl
    have r2 : writtenM z = .ok (stD (wtext z)) := by unfold writtenM lookPlan; rw [if_pos lyz.2]; rfl
    have q : stD (wtext (.node p y z)) = stD (((((([40] ++ TL.joinL [44] (p.map decI)) ++ [32]) ++ wtext y) ++ [32]) ++ wtext z) ++ [41]) := by rw [wtext_node]
    rw [q] at hq
    exact s_ret (de_addSt (de_addSt (de_addSt (de_addSt (de_addSt (de_addSt (DE.eq (d' := stD [40]) de_str rfl) (ve_var 1 rfl rfl rfl) (by simp only [List.length_append, List.length_cons, List.length_nil]; omega)) (DE.eq (d' := stD [32]) de_str rfl) (by simp only [List.length_append, List.length_cons, List.length_nil]; omega)) (de_call (r := stD (wtext y)) c_rec (by show e + 63 ≤ e + 1 + 62; omega) rfl (va_cons (de_ixT (xs := [tI p, plD y, plD z]) (d := plD y) (ve_var 0 rfl rfl rfl) de_int rfl) va_nil) rfl ⟨y, rfl, oy, by omega, by omega, fun _ => ⟨ny, by show _ ≤ 16777216; omega⟩, r1.symm⟩) (by simp only [List.length_append, List.length_cons, List.length_nil]; omega)) (DE.eq (d' := stD [32]) de_str rfl) (by simp only [List.length_append, List.length_cons, List.length_nil]; omega)) (de_call (r := stD (wtext z)) c_rec (by show e + 63 ≤ e + 1 + 62; omega) rfl (va_cons (de_ixT (xs := [tI p, plD y, plD z]) (d := plD z) (ve_var 0 rfl rfl rfl) de_int rfl) va_nil) rfl ⟨z, rfl, oz, by omega, by omega, fun _ => ⟨nz, by show _ ≤ 16777216; omega⟩, r2.symm⟩) (by simp only [List.length_append, List.length_cons, List.length_nil]; omega)) (DE.eq (d' := stD [41]) de_str rfl) (by simp only [List.length_append, List.length_cons, List.length_nil]; omega)) hq
theorem ok_written_plan (T : Txt g CL) (F : Df g "written_plan" ["plan"] s_written_plan) (c_look_plan : ∀ f, Callee g "look_plan" ["plan", "deep"] (f + 1) (sp_look_plan f g.ea)) : ∀ f, Callee g "written_plan" ["plan"] (f + 63) (sp_written f g.ea)
  | 0 => written_of T F c_look_plan 0 fun e h => by cases h
  | f + 1 => written_of T F c_look_plan (f + 1) fun e h => by cases h; exact ok_written_plan T F c_look_plan f
theorem lengths_of_of (T : Txt g CL) (F : Df g "lengths_of" ["plan"] s_lengths_of) (c_look_plan : ∀ f, Callee g "look_plan" ["plan", "deep"] (f + 1) (sp_look_plan f g.ea)) (f : Nat) (c_rec : ∀ e, f = e + 1 → Callee g "lengths_of" ["plan"] (e + 63) (sp_lengths e g.ea)) : Callee g "lengths_of" ["plan"] (f + 63) (sp_lengths f g.ea) := by
  have c_look_plan := c_look_plan 61
  refine callee_ok (vis := [true, false]) F sc_lengths_of (ci_lv (ci_by (by decide +kernel))) fun ds A Q E hn h => ?_
  obtain ⟨o, ⟨pl, rfl, hpo, hf, h61, hl, rfl⟩, hok, her⟩ := h
  unfold lengthsM at hok her
  show WSs _ _ _ [some (.d (plD pl)), none] _ _ _
  refine s_expr (we_callR c_look_plan (by show 62 ≤ f + 62; omega) rfl (va_cons (ve_var 0 rfl rfl rfl) (va_cons de_int va_nil)) rfl ⟨pl, 0, rfl, hpo, by omega, rfl⟩ (fun r h1 => ?_) (fun e h1 => ?_))
  rotate_left
  · refine her e ?_
    cases z : lookPlan 0 pl with
    | ok u => rw [z] at h1; cases h1
    | error e' => rw [z] at h1; cases h1; rfl
  have lp : lookPl 0 pl = true := by
    unfold lookPlan at h1
    cases z : lookPl 0 pl with
    | true => rfl
    | false => rw [z] at h1; cases h1
  have e3 : lookPlan 0 pl = .ok () := by unfold lookPlan; rw [if_pos lp]
  rw [e3] at hok
  have hq := hok _ rfl
  have gd := (look_good' lp).1
  have ev := eqv_pl gd
  refine s_if1 ((c_eqD ((sh_pl gd).ok (by omega)) ((Sh.tuple (n := 0) .nil).ok (by omega))).dt (ve_var 0 rfl rfl rfl) (d_tup (ds := []) da_nil) rfl) (fun hk => ?_) (fun hk => ?_)
  · rw [ev] at hk
    cases pl with
    | nil => exact s_ret (d_lst (ds := [.int 0]) (da_cons de_int da_nil)) hq
    | node p y n => cases hk
    | odd xs => cases hk
  rw [ev] at hk
  cases pl with
  | nil => cases hk
  | odd xs => exact gd.elim
  | node p y z =>
    obtain ⟨gy, gz⟩ := gd
    obtain ⟨oy, oz⟩ : y.Ok ∧ z.Ok := hpo
    have hty : y.ht + 1 ≤ f ∧ z.ht + 1 ≤ f ∧ y.ht ≤ 61 ∧ z.ht ≤ 61 := by
      have hf : 1 + max y.ht z.ht ≤ f := hf
      have h61 : 1 + max y.ht z.ht ≤ 61 := h61
      omega
    have lyz : lookPl 0 y = true ∧ lookPl 0 z = true := by
      have h : (decide (0 ≤ 60) && (lookPl 1 y && lookPl 1 z)) = true := lp
      rw [Bool.and_eq_true, Bool.and_eq_true] at h
      have a := (look_good' h.2.1).2
      have b := (look_good' h.2.2).2
      exact ⟨lookPl_of gy (by omega), lookPl_of gz (by omega)⟩
    obtain ⟨e, rfl⟩ : ∃ e, f = e + 1 := ⟨f - 1, by omega⟩
    have c_rec := c_rec e rfl
    have sz : (endsP y).length + (endsP z).length ≤ 16777216 := by
      have h : ((endsP y ++ endsP z).map fun x => x + 1).length ≤ BIG := hl
      rw [List.length_map, List.length_append] at h
      exact h
    have r1 : lengthsM y = .ok (lI (endsP y)) := by unfold lengthsM lookPlan; rw [if_pos lyz.1]; rfl
    have r2 : lengthsM z = .ok (lI (endsP z)) := by unfold lengthsM lookPlan; rw [if_pos lyz.2]; rfl
    have ly : ((endsP y).map PyData.int).length = (endsP y).length := List.length_map _
    have lz : ((endsP z).map PyData.int).length = (endsP z).length := List.length_map _
    exact s_ret (DE.eq (d' := lI ((endsP y ++ endsP z).map fun x => x + 1)) (d_lc (f := PyData.int) (zs := endsP y ++ endsP z) (h := fun x => x + 1) PyData.int [("many", 1)] [false, true] (blk_lv (blkOk_by (by decide +kernel))) (ci_lv2 (ci_by (by decide +kernel))) (it_list (DE.eq (d' := .list ((endsP y ++ endsP z).map PyData.int)) (de_addL (de_call (r := lI (endsP y)) c_rec (by show e + 63 ≤ e + 1 + 62; omega) rfl (va_cons (de_ixT (xs := [tI p, plD y, plD z]) (d := plD y) (ve_var 0 rfl rfl rfl) de_int rfl) va_nil) rfl ⟨y, rfl, oy, by omega, by omega, by show _ ≤ 16777216; omega, r1.symm⟩) (de_call (r := lI (endsP z)) c_rec (by show e + 63 ≤ e + 1 + 62; omega) rfl (va_cons (de_ixT (xs := [tI p, plD y, plD z]) (d := plD z) (ve_var 0 rfl rfl rfl) de_int rfl) va_nil) rfl ⟨z, rfl, oz, by omega, by omega, by show _ ≤ 16777216; omega, r2.symm⟩) (by rw [ly, lz, sizeLine_eq]; exact sz)) (by rw [List.map_append])) (.d _)) rfl (fun z hz => tb_nameG 1 (by decide) rfl (.inl rfl) (.s .z)) (fun z hz => (de_add (ve_var 1 rfl rfl rfl) de_int)) (by rw [List.length_append]; omega)) rfl) hq
theorem ok_lengths_of (T : Txt g CL) (F : Df g "lengths_of" ["plan"] s_lengths_of) (c_look_plan : ∀ f, Callee g "look_plan" ["plan", "deep"] (f + 1) (sp_look_plan f g.ea)) : ∀ f, Callee g "lengths_of" ["plan"] (f + 63) (sp_lengths f g.ea)
  | 0 => lengths_of_of T F c_look_plan 0 fun e h => by cases h
  | f + 1 => lengths_of_of T F c_look_plan (f + 1) fun e h => by cases h; exact ok_lengths_of T F c_look_plan f
theorem ok_Signs___init__ (T : Txt g CL) (F : Di g "Signs" (cAt g "Signs") "Signs.__init__" ["self", "text"] s_Signs___init__) : MakeOk g "Signs" (cSg g) ["self", "text"] 1 (sp_sinit g) := by
  refine make_ok (vis := [true, true]) F sc_Signs___init__ (ci_by (by decide +kernel)) fun ds A Q E hn h => ?_
  obtain ⟨l, t, rfl, hA, hq⟩ := h
  show WSs _ _ _ [some (.r l), some (.d (stD t))] _ _ _
  refine s_fld (l := l) (fs := []) T.cls_Signs T.na_Signs_text (VE.we (ve_var 1 rfl rfl rfl) ⟨hA, by show 0 < 1000; decide, ve_var 0 rfl rfl rfl, ?_⟩)
  refine s_fld (l := l) (fs := [("text", .v (.d (stD t)))]) T.cls_Signs T.na_Signs_spot (VE.we (dv := .d (.int 0)) de_int ⟨updA_same, by show 1 < 1000; decide, ve_var 0 rfl rfl rfl, ?_⟩)
  rw [updA_updA]
  exact s_nil hq
theorem ok_Signs_is_next (T : Txt g CL) (F : Dm g (cAt g "Signs") "is_next" "Signs.is_next" ["self", "sign"] s_Signs_is_next) : MethOk g (cSg g) "is_next" ["self", "sign"] 1 (sp_snext g) := by
  refine meth_ok (vis := [true, true]) F sc_Signs_is_next (ci_by (by decide +kernel)) fun ds A Q E hn h => ?_
  obtain ⟨o, ⟨l, t, k, c, rfl, hA, hk, hz, rfl⟩, hok, her⟩ := h
  have hq := hok _ rfl
  have hA : A l = some (aoI (cSg g) (fsS t k)) := hA
  show WSs _ _ _ [some (.r l), some (.d (stD [c]))] _ _ _
  exact s_ret (DE.eq ((c_eqSt (x := cutD t (some (k : Int)) (some ((k : Int) + 1))) (y := [c])).ve (de_sliceS (ve_fld T.cls_Signs T.na_Signs_text (ve_var 0 rfl rfl rfl) hA rfl) (vo_some (ve_fld T.cls_Signs T.na_Signs_spot (ve_var 0 rfl rfl rfl) hA rfl)) (vo_some (de_add (ve_fld T.cls_Signs T.na_Signs_spot (ve_var 0 rfl rfl rfl) hA rfl) de_int)) hz) (ve_var 1 rfl rfl rfl) rfl) (by rw [cut_one, take_one])) hq
theorem ok_Signs_need (T : Txt g CL) (F : Dm g (cAt g "Signs") "need" "Signs.need" ["self", "sign"] s_Signs_need) (c_is_next : MethOk g (cSg g) "is_next" ["self", "sign"] 1 (sp_snext g)) : MethOk g (cSg g) "need" ["self", "sign"] 2 (sp_sneed g) := by
  refine meth_ok (vis := [true, true]) F sc_Signs_need (ci_by (by decide +kernel)) fun ds A Q E hn h => ?_
  obtain ⟨l, t, k, c, rfl, hA, hk, hz, hq, he⟩ := h
  have hA : A l = some (aoI (cSg g) (fsS t k)) := hA
  show WSs _ _ _ [some (.r l), some (.d (stD [c]))] _ _ _
  refine s_if1 (dt_not (dt_val (k := decide ((t.drop k).head? = some c)) (ve_meth (dv := .d (.bool (decide ((t.drop k).head? = some c)))) c_is_next (by decide) (ve_var 0 rfl rfl rfl) hA rfl (va_cons (ve_var 1 rfl rfl rfl) va_nil) rfl (fun A1 ex => ⟨_, ⟨l, t, k, c, rfl, ex _ _ hA, hk, hz, rfl⟩, fun r q => by cases q; exact ⟨rfl, rfl⟩, fun _ q => by cases q⟩)))) (fun hk1 => ?_) (fun hk1 => ?_)
  · refine s_raise T.x_BadText rfl (he ?_)
    rw [Bool.not_eq_true', decide_eq_false_iff_not] at hk1
    unfold needR; rw [if_neg hk1]
  · rw [Bool.not_eq_false', decide_eq_true_eq] at hk1
    have hn : needR c (t.drop k) = some (t.drop k).tail := by unfold needR; rw [if_pos hk1]
    have e : t.length - (t.drop k).tail.length = k + 1 := by
      rw [List.length_tail, List.length_drop]
      have : 0 < (t.drop k).length := by
        cases z : t.drop k with
        | nil => rw [z] at hk1; cases hk1
        | cons a b => exact Nat.succ_pos _
      rw [List.length_drop] at this
      omega
    have hq := hq _ hn
    rw [e] at hq
    refine s_fld (l := l) (fs := fsS t k) T.cls_Signs T.na_Signs_spot (VE.we (dv := .d (.int ((k : Int) + 1))) (de_add (ve_fld T.cls_Signs T.na_Signs_spot (ve_var 0 rfl rfl rfl) hA rfl) de_int) ⟨hA, by show 2 < 1000; decide, ve_var 0 rfl rfl rfl, s_nil ?_⟩)
    exact hq
theorem ok_Signs_number (T : Txt g CL) (F : Dm g (cAt g "Signs") "number" "Signs.number" ["self"] s_Signs_number) : MethOk g (cSg g) "number" ["self"] 1 (sp_snum g) := by
  refine meth_ok (vis := [true, true, true]) F sc_Signs_number (ci_by (by decide +kernel)) fun ds A Q E hn h => ?_
  obtain ⟨l, t, k, rfl, hA, hk, hz, hq, he⟩ := h
  have hA : A l = some (aoI (cSg g) (fsS t k)) := hA
  show WSs _ _ _ [some (.r l), none, none] _ _ _
  refine s_set (dv := .d (.int k)) 1 rfl (.inl rfl) (.s .z) (ve_fld T.cls_Signs T.na_Signs_spot (ve_var 0 rfl rfl rfl) hA rfl) ?_
  obtain ⟨w, ew⟩ : ∃ w, w = (t.drop k).takeWhile isD := ⟨_, rfl⟩
  have wl : k + w.length ≤ t.length := by
    have h1 : w.length ≤ (t.drop k).length := by rw [ew]; exact (List.takeWhile_prefix isD).length_le
    rw [List.length_drop] at h1; omega
  have et : t.drop k = w ++ (t.drop k).dropWhile isD := by rw [ew]; exact (List.takeWhile_append_dropWhile (p := isD) (l := t.drop k)).symm
  have tst : ∀ s, s ≤ w.length → hdD (t.drop (k + s)) = decide (s < w.length) := fun s hs => by
    rw [← List.drop_drop, hdD_tw _ _ (by rw [← ew]; exact hs), ← ew]
  have hd : NumText.AllDigits w := fun c hc => by
    rw [ew] at hc
    exact of_decide_eq_true (takeWhile_all c hc)
  refine s_while (fun s : Nat => [some (.r l), some (.d (.int k)), none]) (fun s => updA A l (aoS g t (k + s))) (fun s => decide (s < w.length)) (fun s => s + 1) (fun s => s ≤ w.length) (fun s => t.length + 1 - (k + s)) 0 (by walk_at "less") (by rw [Nat.add_zero]; exact (updA_self hA).symm) (Nat.zero_le _) (fun s hJ => ?_) (fun s hJ ht => ⟨?_, ?_, ?_⟩) (fun s hJ ht => ?_)
  · have hA1 : (updA A l (aoS g t (k + s))) l = some (aoI (cSg g) (fsS t (k + s))) := updA_same
    have hs := tst s hJ
    cases z : t.drop (k + s) with
    | nil =>
      rw [z] at hs
      have hl : t.length = k + s := by
        have := congrArg List.length z
        rw [List.length_drop] at this
        have : t.length - (k + s) = 0 := this
        omega
      refine DT.eq (dt_and ((c_inS0 (z := FIG)).dt (DE.eq (de_sliceS (ve_fld T.cls_Signs T.na_Signs_text (ve_var 0 rfl rfl rfl) hA1 rfl) (vo_some (ve_fld T.cls_Signs T.na_Signs_spot (ve_var 0 rfl rfl rfl) hA1 rfl)) (vo_some (de_add (ve_fld T.cls_Signs T.na_Signs_spot (ve_var 0 rfl rfl rfl) hA1 rfl) de_int)) hz) (by rw [cut_one, z]; rfl)) (DE.eq (d' := stD FIG) (de_gstrE rfl T.c_FIGURES) rfl) rfl) (fun hc => (dw_and1 (c_lt.dt (ve_fld T.cls_Signs T.na_Signs_spot (ve_var 0 rfl rfl rfl) hA1 rfl) (de_lenSt (ve_fld T.cls_Signs T.na_Signs_text (ve_var 0 rfl rfl rfl) hA1 rfl) hz rfl T.len) rfl)))) ?_
      rw [← hs, decide_eq_false (by omega)]; rfl
    | cons c r =>
      rw [z] at hs
      have hl : k + s < t.length := by
        have := congrArg List.length z
        rw [List.length_drop, List.length_cons] at this
        omega
      refine DT.eq (dt_and ((c_inS1 (c := c) (z := FIG)).dt (DE.eq (de_sliceS (ve_fld T.cls_Signs T.na_Signs_text (ve_var 0 rfl rfl rfl) hA1 rfl) (vo_some (ve_fld T.cls_Signs T.na_Signs_spot (ve_var 0 rfl rfl rfl) hA1 rfl)) (vo_some (de_add (ve_fld T.cls_Signs T.na_Signs_spot (ve_var 0 rfl rfl rfl) hA1 rfl) de_int)) hz) (by rw [cut_one, z]; rfl)) (DE.eq (d' := stD FIG) (de_gstrE rfl T.c_FIGURES) rfl) rfl) (fun hc => (dw_and1 (c_lt.dt (ve_fld T.cls_Signs T.na_Signs_spot (ve_var 0 rfl rfl rfl) hA1 rfl) (de_lenSt (ve_fld T.cls_Signs T.na_Signs_text (ve_var 0 rfl rfl rfl) hA1 rfl) hz rfl T.len) rfl)))) ?_
      rw [mem_FIG, decide_eq_true (by omega), Bool.and_true]
      exact hs
  · have := of_decide_eq_true ht
    show s + 1 ≤ w.length
    omega
  · have := of_decide_eq_true ht
    show t.length + 1 - (k + (s + 1)) < t.length + 1 - (k + s)
    omega
  · have hA1 : (updA A l (aoS g t (k + s))) l = some (aoI (cSg g) (fsS t (k + s))) := updA_same
    refine s_fld (l := l) (fs := fsS t (k + s)) T.cls_Signs T.na_Signs_spot (VE.we (dv := .d (.int (((k + s : Nat) : Int) + 1))) (de_add (ve_fld T.cls_Signs T.na_Signs_spot (ve_var 0 rfl rfl rfl) hA1 rfl) de_int) ⟨hA1, by show 2 < 1000; decide, ve_var 0 rfl rfl rfl, s_nil ⟨by walk_at "less", ?_⟩⟩)
    rw [updA_updA]; rfl
  have es : s = w.length := by have := of_decide_eq_false ht; omega
  subst es
  have hA1 : (updA A l (aoS g t (k + w.length))) l = some (aoI (cSg g) (fsS t (k + w.length))) := updA_same
  have wz : w.length ≤ 16777216 := by have hz : t.length ≤ 16777216 := hz; omega
  refine s_set (dv := .d (stD w)) 2 rfl (.inl rfl) (.s (.s .z)) (DE.eq (de_sliceS (ve_fld T.cls_Signs T.na_Signs_text (ve_var 0 rfl rfl rfl) hA1 rfl) (vo_some (ve_var 1 rfl rfl rfl)) (vo_some (ve_fld T.cls_Signs T.na_Signs_spot (ve_var 0 rfl rfl rfl) hA1 rfl)) hz) (by rw [cut_mid t (by omega) wl, show k + w.length - k = w.length by omega, et, List.take_left])) ?_
  have h1 : (!(decide ((1 : Int) ≤ (w.length : Int)) && decide ((w.length : Int) ≤ 2))) = false → (0 : Int) < (w.length : Int) := fun h => by
    rw [Bool.not_eq_false', Bool.and_eq_true, decide_eq_true_eq] at h
    omega
  have sf := suf et hk
  refine s_if1 (DT.eq (v' := !okW w) (dt_or (dt_not (dt_chain c_le c_le de_int (de_lenSt (ve_var 2 rfl rfl rfl) wz rfl T.len) (fun _ => de_int))) (fun hc => (dw_or1 (dt_and ((c_eqSt (y := [48])).dt (de_ixSt (ve_var 2 rfl rfl rfl) de_int wz (by omega) (h1 hc)) (DE.eq (d' := stD [48]) de_str rfl) rfl) (fun hc => (dw_and1 ((c_neSt (y := [48])).dt (ve_var 2 rfl rfl rfl) (DE.eq (d' := stD [48]) de_str rfl) rfl))))))) (okW_val w)) (fun hk1 => ?_) (fun hk1 => ?_)
  · rw [Bool.not_eq_true'] at hk1
    exact s_raise T.x_BadText rfl (he (by unfold numR; rw [← ew, if_neg (by rw [hk1]; decide)]) _)
  · rw [Bool.not_eq_false'] at hk1
    have hq := hq _ _ (by unfold numR; rw [← ew, if_pos hk1])
    rw [← sf.2.2] at hq
    have ne : w ≠ [] := fun z => by rw [z] at hk1; cases hk1
    have w2 : w.length ≤ 2 := by
      unfold okW at hk1
      rw [Bool.and_eq_true, decide_eq_true_eq] at hk1
      exact hk1.1.2
    exact s_ret (de_intSt (ve_var 2 rfl rfl rfl) hd ne (by omega) rfl T.int) hq
theorem planR_eq {e : Nat} {l : List Nat} (h : ¬ l.head? = some 46) : planR (e + 1) l = (needR 40 l).bind fun l1 => (numR l1).bind fun q => (moreR (q.2.length + 1) q.2).bind fun r => (needR 32 r.2).bind fun l4 => (planR e l4).bind fun y => (needR 32 y.2).bind fun l6 => (planR e l6).bind fun z => (needR 41 z.2).map fun l8 => (.node (q.1 :: r.1) y.1 z.1, l8) := by
  rw [planR, if_neg h]
theorem splan_of (T : Txt g CL) (F : Dm g (cAt g "Signs") "plan" "Signs.plan" ["self", "deep"] s_Signs_plan) (c_is_next : MethOk g (cSg g) "is_next" ["self", "sign"] 1 (sp_snext g)) (c_need : MethOk g (cSg g) "need" ["self", "sign"] 2 (sp_sneed g)) (c_number : MethOk g (cSg g) "number" ["self"] 1 (sp_snum g)) (f : Nat) (c_rec : ∀ e, f = e + 1 → MethOk g (cSg g) "plan" ["self", "deep"] (e + 3) (sp_splan e g)) : MethOk g (cSg g) "plan" ["self", "deep"] (f + 3) (sp_splan f g) := by
  refine meth_ok (vis := [true, true, true, true, true]) F sc_Signs_plan (ci_lv (ci_by (by decide +kernel))) fun ds A Q E hn h => ?_
  obtain ⟨l, t, k, d, rfl, hd, hA, hk, hz, hq, he⟩ := h
  have hA0 : A l = some (aoI (cSg g) (fsS t k)) := hA
  have hB : ∀ x, (updA A l (aoS g t x)) l = some (aoI (cSg g) (fsS t x)) := fun x => updA_same
  show WSs _ _ _ [some (.r l), some (.d (.int d)), none, none, none] _ _ _
  refine s_up ?_
  refine s_if1 (c_gt.dt (ve_var 1 rfl rfl rfl) (de_gintE rfl T.c_MOST_DEEP) rfl) (fun hk0 => ?_) (fun hk0 => ?_)
  · have : (d : Int) > 60 := of_decide_eq_true hk0
    obtain rfl : f = 0 := by omega
    have := he rfl k
    rw [updA_self hA] at this
    exact s_raise T.x_BadText rfl ⟨A, ExtA.refl A, this⟩
  have : ¬ (d : Int) > 60 := of_decide_eq_false hk0
  obtain ⟨e, rfl⟩ : ∃ e, f = e + 1 := ⟨f - 1, by omega⟩
  have c_rec := c_rec e rfl
  refine s_if1 (dt_val (k := decide ((t.drop k).head? = some 46)) (ve_meth (dv := .d (.bool (decide ((t.drop k).head? = some 46)))) c_is_next (by show 1 ≤ e + 1 + 2; omega) (ve_var 0 rfl rfl rfl) hA0 rfl (va_cons (DE.eq (d' := stD [46]) de_str rfl) va_nil) rfl (fun A1 ex => ⟨_, ⟨l, t, k, 46, rfl, ex _ _ hA, hk, hz, rfl⟩, fun r q => by cases q; exact ⟨rfl, rfl⟩, fun _ q => by cases q⟩))) (fun hk1 => ?_) (fun hk1 => ?_)
  · have hk1 := of_decide_eq_true hk1
    have hn : needR 46 (t.drop k) = some (t.drop k).tail := by unfold needR; rw [if_pos hk1]
    have hp : planR (e + 1) (t.drop k) = some (.nil, (t.drop k).tail) := by rw [planR, if_pos hk1]
    refine s_expr (we_meth c_need (by show 2 ≤ e + 1 + 2; omega) (ve_var 0 rfl rfl rfl) hA0 rfl (va_cons (DE.eq (d' := stD [46]) de_str rfl) va_nil) rfl ⟨l, t, k, 46, rfl, hA, hk, hz, fun r hr => ?_, fun hx => by rw [hn] at hx; cases hx⟩)
    rw [hn] at hr
    cases hr
    exact s_ret (d_tup (ds := []) da_nil) ⟨_, ExtA.refl _, hq _ _ hp⟩
  have P := planR_eq (e := e) (of_decide_eq_false hk1)
  refine s_expr (we_meth c_need (by show 2 ≤ e + 1 + 2; omega) (ve_var 0 rfl rfl rfl) hA0 rfl (va_cons (DE.eq (d' := stD [40]) de_str rfl) va_nil) rfl ⟨l, t, k, 40, rfl, hA, hk, hz, fun r1 hr => ?_, fun hx => ⟨A, ExtA.refl A, by have := he (by rw [P, hx]; rfl) k; rwa [updA_self hA] at this⟩⟩)
  rw [hr, Option.bind_some] at P
  have s1 := suf (w := [40]) (r := r1) (needR_sound hr) hk
  refine s_setW 2 rfl (.inl rfl) (we_lstW (wa_cons (we_meth0 c_number (by show 1 ≤ e + 1 + 2; omega) (ve_var 0 rfl rfl rfl) (hB _) rfl rfl ⟨l, t, t.length - r1.length, rfl, updA_same, s1.2.1, hz, fun n r2 hr2 => wa_nil ⟨[.int n], rfl, by show 1 ≤ 1000; decide, fun l2 hl2 => ?_⟩, fun hx k' => ⟨updA A l (aoS g t k'), by rw [updA_updA]; exact ExtA.refl _, he (by rw [P]; rw [s1.1] at hx; rw [hx]; rfl) k'⟩⟩)))
  rw [s1.1] at hr2
  rw [hr2, Option.bind_some] at P
  rw [updA_updA] at hl2 ⊢
  have sn := numR_sound hr2
  have s2 : t.drop (t.length - r2.length) = r2 ∧ t.length - r2.length ≤ t.length := by
    have h1 : t.drop (t.length - r1.length) = decI n ++ r2 := by rw [s1.1]; exact sn.1
    have := suf h1 s1.2.1
    exact ⟨this.1, this.2.1⟩
  have n12 : l2 ≠ l := fun z => by rw [z, updA_same] at hl2; cases hl2
  have hl2A : A l2 = none := by rw [updA_ne n12] at hl2; exact hl2
  have fr : ∀ x, (updA A l x) l2 = none := fun x => by rw [updA_ne n12]; exact hl2A
  have P : planR (e + 1) (t.drop k) = (moreR (r2.length + 1) r2).bind fun r => (needR 32 r.2).bind fun l4 => (planR e l4).bind fun y => (needR 32 y.2).bind fun l6 => (planR e l6).bind fun z => (needR 41 z.2).map fun l8 => (.node (n :: r.1) y.1 z.1, l8) := P
  refine s_whileJ (T := List Int × List Nat) (fun s => [some (.r l), some (.d (.int d)), some (.r l2), none, none]) (fun s => updA (updA A l (aoS g t (t.length - s.2.length))) l2 (oL ((n :: s.1).map .int))) (fun s => decide (s.2.head? = some 44)) (fun s => t.drop (t.length - s.2.length) = s.2 ∧ s.2.length ≤ t.length ∧ s.1.length + s.2.length ≤ t.length ∧ ∃ fu, s.2.length < fu ∧ moreR (r2.length + 1) r2 = (moreR fu s.2).map fun q => (s.1 ++ q.1, q.2)) (fun s => s.2.length) ([], r2) (by walk_at "less") rfl ⟨s2.1, by have := congrArg List.length s2.1; rw [List.length_drop] at this; show r2.length ≤ t.length; omega, by have := congrArg List.length s2.1; rw [List.length_drop] at this; show 0 + r2.length ≤ t.length; omega, r2.length + 1, Nat.lt_succ_self _, by cases moreR (r2.length + 1) r2 <;> rfl⟩ (fun s hJ => ?_) (fun s hJ ht => ?_) (fun s hJ ht => ?_)
  · obtain ⟨j1, j2, j3, j4⟩ := hJ
    have hC : (updA (updA A l (aoS g t (t.length - s.2.length))) l2 (oL ((n :: s.1).map .int))) l = some (aoI (cSg g) (fsS t (t.length - s.2.length))) := by rw [updA_ne n12.symm, updA_same]; rfl
    exact dt_val (k := decide (s.2.head? = some 44)) (ve_meth (dv := .d (.bool (decide (s.2.head? = some 44)))) c_is_next (by show 1 ≤ e + 1 + 2; omega) (ve_var 0 rfl rfl rfl) hC rfl (va_cons (DE.eq (d' := stD [44]) de_str rfl) va_nil) rfl (fun A1 ex => ⟨_, ⟨l, t, t.length - s.2.length, 44, rfl, ex _ _ hC, by omega, hz, by rw [j1]⟩, fun r q => by cases q; exact ⟨rfl, rfl⟩, fun _ q => by cases q⟩))
  · obtain ⟨j1, j2, j3, fu, j4, j5⟩ := hJ
    obtain ⟨done, rs⟩ := s
    have ht : rs.head? = some 44 := of_decide_eq_true ht
    obtain ⟨r', rfl⟩ : ∃ r', rs = 44 :: r' := by
      cases rs with
      | nil => cases ht
      | cons a b => cases ht; exact ⟨b, rfl⟩
    have j1 : t.drop (t.length - (44 :: r').length) = 44 :: r' := j1
    have hC : (updA (updA A l (aoS g t (t.length - (44 :: r').length))) l2 (oL ((n :: done).map .int))) l = some (aoI (cSg g) (fsS t (t.length - (44 :: r').length))) := by rw [updA_ne n12.symm, updA_same]; rfl
    have sr := suf (w := [44]) (r := r') j1 (by omega)
    obtain ⟨fu', rfl⟩ : ∃ fu', fu = fu' + 1 := ⟨fu - 1, by omega⟩
    have m1 : moreR (fu' + 1) (44 :: r') = (numR r').bind fun q => (moreR fu' q.2).map fun r => (q.1 :: r.1, r.2) := by
      rw [moreR, if_pos (show (44 :: r').head? = some 44 from rfl)]; rfl
    have j5 : moreR (r2.length + 1) r2 = (moreR (fu' + 1) (44 :: r')).map fun q => (done ++ q.1, q.2) := j5
    rw [m1] at j5
    refine s_expr (we_meth c_need (by show 2 ≤ e + 1 + 2; omega) (ve_var 0 rfl rfl rfl) hC rfl (va_cons (DE.eq (d' := stD [44]) de_str rfl) va_nil) rfl ⟨l, t, t.length - (44 :: r').length, 44, rfl, hC, by omega, hz, fun r3 hr3 => ?_, fun hx => by rw [j1, needR_cons] at hx; cases hx⟩)
    rw [j1, needR_cons] at hr3
    cases hr3
    rw [updA2 n12.symm]
    have hC2 : (updA (updA A l (aoS g t (t.length - r'.length))) l2 (oL ((n :: done).map .int))) l = some (aoI (cSg g) (fsS t (t.length - r'.length))) := by rw [updA_ne n12.symm, updA_same]; rfl
    refine s_expr (we_appendE (l := l2) (ve_var 2 rfl rfl rfl) ⟨_, updA_same⟩ (we_meth0 c_number (by show 1 ≤ e + 1 + 2; omega) (ve_var 0 rfl rfl rfl) hC2 rfl rfl ⟨l, t, t.length - r'.length, rfl, hC2, sr.2.1, hz, fun m r4 hr4 => ?_, fun hx k' => ?_⟩))
    · rw [sr.1] at hr4
      rw [hr4] at j5
      have sm := numR_sound hr4
      have s4 := suf (k := t.length - r'.length) (w := decI m) (r := r4) (by rw [sr.1]; exact sm.1) sr.2.1
      have l4 : (decI m).length + r4.length = r'.length := by rw [sm.1, List.length_append]
      have l5 : 0 < (decI m).length := List.length_pos_iff.mpr (decI_ne m)
      have j2 : (44 :: r').length ≤ t.length := j2
      have j3 : done.length + (44 :: r').length ≤ t.length := j3
      have j4 : (44 :: r').length < fu' + 1 := j4
      rw [List.length_cons] at j2 j3 j4
      have hz : t.length ≤ 16777216 := hz
      rw [updA2 n12.symm]
      refine ⟨(n :: done).map .int, .int m, rfl, updA_same, by rw [List.length_map, List.length_cons]; omega, ?_⟩
      rw [updA_updA]
      refine s_nil ⟨(done ++ [m], r4), ⟨s4.1, by show r4.length ≤ t.length; omega, by show (done ++ [m]).length + r4.length ≤ t.length; rw [List.length_append, List.length_singleton]; omega, fu', by show r4.length < fu'; omega, ?_⟩, by show r4.length < (44 :: r').length; rw [List.length_cons]; omega, by walk_at "less", ?_⟩
      · rw [j5]
        show ((moreR fu' r4).map fun r => (m :: r.1, r.2)).map (fun q => (done ++ q.1, q.2)) = (moreR fu' r4).map fun q => ((done ++ [m]) ++ q.1, q.2)
        cases moreR fu' r4 with
        | none => rfl
        | some q => show some (done ++ m :: q.1, q.2) = some ((done ++ [m]) ++ q.1, q.2); rw [List.append_assoc]; rfl
      · show _ = updA (updA A l (aoS g t (t.length - r4.length))) l2 (oL ((n :: (done ++ [m])).map .int))
        rw [show (n :: (done ++ [m])).map PyData.int = (n :: done).map .int ++ [.int m] by rw [← List.cons_append, List.map_append]; rfl]
    · rw [sr.1] at hx
      rw [hx] at j5
      refine ⟨updA A l (aoS g t k'), ?_, he (by rw [P, j5]; rfl) k'⟩
      rw [updA2 n12.symm]
      exact ExtA.upd (fr _)
  obtain ⟨j1, j2, j3, fu, j4, j5⟩ := hJ
  obtain ⟨ns, r3⟩ := s
  have j1 : t.drop (t.length - r3.length) = r3 := j1
  have ht : ¬ r3.head? = some 44 := of_decide_eq_false ht
  obtain ⟨fu', rfl⟩ : ∃ fu', fu = fu' + 1 := ⟨fu - 1, by omega⟩
  have m1 : moreR (r2.length + 1) r2 = some (ns, r3) := by
    rw [j5]
    show (moreR (fu' + 1) r3).map _ = _
    rw [moreR, if_neg ht]
    show some (ns ++ [], r3) = _
    rw [List.append_nil]
  rw [m1, Option.bind_some] at P
  refine s_frz 2 rfl (fr _) (.s (.s .z)) ?_
  show WSs _ _ _ [some (.r l), some (.d (.int d)), some (.d (.list ((n :: ns).map .int))), none, none] (updA A l (aoS g t (t.length - r3.length))) _ _
  have P : planR (e + 1) (t.drop k) = (needR 32 r3).bind fun l4 => (planR e l4).bind fun y => (needR 32 y.2).bind fun l6 => (planR e l6).bind fun z => (needR 41 z.2).map fun l8 => (.node (n :: ns) y.1 z.1, l8) := P
  refine s_expr (we_meth c_need (by show 2 ≤ e + 1 + 2; omega) (ve_var 0 rfl rfl rfl) (hB _) rfl (va_cons (DE.eq (d' := stD [32]) de_str rfl) va_nil) rfl ⟨l, t, t.length - r3.length, 32, rfl, updA_same, by omega, hz, fun r4 hr => ?_, fun hx => ⟨_, ExtA.refl _, he (by rw [P, ← j1, hx]; rfl) _⟩⟩)
  rw [j1] at hr
  rw [updA_updA]
  rw [hr, Option.bind_some] at P
  have s4 := suf (k := t.length - r3.length) (w := [32]) (r := r4) (by rw [j1]; exact needR_sound hr) (by omega)
  have dc : ((d : Int) + 1) = ((d + 1 : Nat) : Int) := by omega
  refine s_setW 3 rfl (.inl rfl) (we_meth c_rec (by show e + 3 ≤ e + 1 + 2; omega) (ve_var 0 rfl rfl rfl) (hB _) rfl (va_cons (DE.eq (de_add (ve_var 1 rfl rfl rfl) de_int) (by rw [dc])) va_nil) rfl ⟨l, t, t.length - r4.length, d + 1, rfl, by omega, updA_same, s4.2.1, hz, fun y r5 hr5 => ?_, fun hx k' => ⟨updA A l (aoS g t k'), by rw [updA_updA]; exact ExtA.refl _, he (by rw [s4.1] at hx; rw [P, hx]; rfl) k'⟩⟩)
  rw [s4.1] at hr5
  rw [updA_updA]
  rw [hr5, Option.bind_some] at P
  have sy := planR_sound e hr5
  have s5 := suf (k := t.length - r4.length) (w := wtext y) (r := r5) (by rw [s4.1]; exact sy.1) s4.2.1
  have P : planR (e + 1) (t.drop k) = (needR 32 r5).bind fun l6 => (planR e l6).bind fun z => (needR 41 z.2).map fun l8 => (.node (n :: ns) y z.1, l8) := P
  refine s_expr (we_meth c_need (by show 2 ≤ e + 1 + 2; omega) (ve_var 0 rfl rfl rfl) (hB _) rfl (va_cons (DE.eq (d' := stD [32]) de_str rfl) va_nil) rfl ⟨l, t, t.length - r5.length, 32, rfl, updA_same, s5.2.1, hz, fun r6 hr => ?_, fun hx => ⟨_, ExtA.refl _, he (by rw [s5.1] at hx; rw [P, hx]; rfl) _⟩⟩)
  rw [s5.1] at hr
  rw [updA_updA]
  rw [hr, Option.bind_some] at P
  have s6 := suf (k := t.length - r5.length) (w := [32]) (r := r6) (by rw [s5.1]; exact needR_sound hr) s5.2.1
  refine s_setW 4 rfl (.inl rfl) (we_meth c_rec (by show e + 3 ≤ e + 1 + 2; omega) (ve_var 0 rfl rfl rfl) (hB _) rfl (va_cons (DE.eq (de_add (ve_var 1 rfl rfl rfl) de_int) (by rw [dc])) va_nil) rfl ⟨l, t, t.length - r6.length, d + 1, rfl, by omega, updA_same, s6.2.1, hz, fun z r7 hr7 => ?_, fun hx k' => ⟨updA A l (aoS g t k'), by rw [updA_updA]; exact ExtA.refl _, he (by rw [s6.1] at hx; rw [P, hx]; rfl) k'⟩⟩)
  rw [s6.1] at hr7
  rw [updA_updA]
  rw [hr7, Option.bind_some] at P
  have sz := planR_sound e hr7
  have s7 := suf (k := t.length - r6.length) (w := wtext z) (r := r7) (by rw [s6.1]; exact sz.1) s6.2.1
  have P : planR (e + 1) (t.drop k) = (needR 41 r7).map fun l8 => (.node (n :: ns) y z, l8) := P
  refine s_expr (we_meth c_need (by show 2 ≤ e + 1 + 2; omega) (ve_var 0 rfl rfl rfl) (hB _) rfl (va_cons (DE.eq (d' := stD [41]) de_str rfl) va_nil) rfl ⟨l, t, t.length - r7.length, 41, rfl, updA_same, s7.2.1, hz, fun r8 hr => ?_, fun hx => ⟨_, ExtA.refl _, he (by rw [s7.1] at hx; rw [P, hx]; rfl) _⟩⟩)
  rw [s7.1] at hr
  rw [updA_updA]
  rw [hr] at P
  exact s_ret (d_tup (ds := [tI (n :: ns), plD y, plD z]) (da_cons (de_tuple (ve_var 2 rfl rfl rfl) (.l (.d _)) rfl T.tuple) (da_cons (ve_var 3 rfl rfl rfl) (da_cons (ve_var 4 rfl rfl rfl) da_nil)))) ⟨_, ExtA.refl _, hq _ _ P⟩
theorem ok_Signs_plan (T : Txt g CL) (F : Dm g (cAt g "Signs") "plan" "Signs.plan" ["self", "deep"] s_Signs_plan) (c_is_next : MethOk g (cSg g) "is_next" ["self", "sign"] 1 (sp_snext g)) (c_need : MethOk g (cSg g) "need" ["self", "sign"] 2 (sp_sneed g)) (c_number : MethOk g (cSg g) "number" ["self"] 1 (sp_snum g)) : ∀ f, MethOk g (cSg g) "plan" ["self", "deep"] (f + 3) (sp_splan f g)
  | 0 => splan_of T F c_is_next c_need c_number 0 fun e h => by cases h
  | f + 1 => splan_of T F c_is_next c_need c_number (f + 1) fun e h => by cases h; exact ok_Signs_plan T F c_is_next c_need c_number f
theorem ok_read_plan (T : Txt g CL) (F : Df g "read_plan" ["text"] s_read_plan) (c_Signs : MakeOk g "Signs" (cSg g) ["self", "text"] 1 (sp_sinit g)) (c_plan : ∀ f, MethOk g (cSg g) "plan" ["self", "deep"] (f + 3) (sp_splan f g)) : Callee g "read_plan" ["text"] 65 (sp_read g.ea) := by
  have c_plan := c_plan 61
  refine callee_ok (vis := [true, true, true]) F sc_read_plan (ci_by (by decide +kernel)) fun ds A Q E hn h => ?_
  obtain ⟨o, ⟨t, rfl, hz, rfl⟩, hok, her⟩ := h
  show WSs _ _ _ [some (.d (stD t)), none, none] _ _ _
  refine s_up ?_
  refine s_setW 1 rfl (.inl rfl) (we_make c_Signs (by decide) rfl (va_cons (ve_var 0 rfl rfl rfl) va_nil) rfl (fun l hl => ⟨l, t, rfl, updA_same, rfl, ?_⟩))
  rw [updA_updA]
  have x : ∀ o, ExtA A (updA A l o) := fun o => ExtA.upd hl
  have hB : ∀ x, (updA A l (aoS g t x)) l = some (aoI (cSg g) (fsS t x)) := fun x => updA_same
  have bad : readR t = none → E (g.ea .text) A := fun h => her _ (by unfold readM; rw [h])
  refine s_setW 2 rfl (.inl rfl) (we_meth c_plan (by decide) (ve_var 1 rfl rfl rfl) (hB 0) rfl (va_cons de_int va_nil) rfl ⟨l, t, 0, 0, rfl, rfl, updA_same, Nat.zero_le _, hz, fun p r hr => ?_, fun hx k' => ⟨A, by rw [updA_updA]; exact x _, bad (by rw [List.drop_zero] at hx; unfold readR; rw [hx]; rfl)⟩⟩)
  rw [List.drop_zero] at hr
  rw [updA_updA]
  have sp := planR_sound 61 hr
  have lr : r.length ≤ t.length := by rw [sp.1, List.length_append]; omega
  refine s_if1 (c_lt.dt (ve_fld T.cls_Signs T.na_Signs_spot (ve_var 1 rfl rfl rfl) (hB _) rfl) (de_lenSt (ve_var 0 rfl rfl rfl) hz rfl T.len) rfl) (fun hk => ?_) (fun hk => ?_)
  · have h1 := of_decide_eq_true hk
    have hr0 : r ≠ [] := fun z => by subst z; simp at h1
    exact s_raise T.x_BadText rfl ⟨A, x _, bad (by unfold readR; rw [hr]; show (if r = [] then _ else none) = none; rw [if_neg hr0])⟩
  · have h1 := of_decide_eq_false hk
    have hw : 0 < t.length := by
      rw [sp.1, List.length_append]
      have : 0 < (wtext p).length := by
        cases p with
        | nil => exact Nat.succ_pos _
        | node a b c => exact Nat.succ_pos _
        | odd xs => exact sp.2.elim
      omega
    have hr0 : r = [] := by
      cases r with
      | nil => rfl
      | cons a b => exfalso; rw [List.length_cons] at h1 lr; omega
    subst hr0
    have hp : readR t = some p := by unfold readR; rw [hr]; rfl
    exact s_ret (ve_var 2 rfl rfl rfl) ⟨A, x _, hok _ (by unfold readM; rw [hp])⟩
theorem ltext_of (T : Txt g CL) (F : Df g "_law_text" ["_law_plan"] s__law_text) (f : Nat) (c_rec : ∀ e, f = e + 1 → Callee g "_law_text" ["_law_plan"] (e + 1) (sp_ltext e g.ea)) : Callee g "_law_text" ["_law_plan"] (f + 1) (sp_ltext f g.ea) := by
  refine callee_ok (vis := [true, false]) F sc__law_text (ci_lv (ci_by (by decide +kernel))) fun ds A Q E hn h => ?_
  obtain ⟨o, ⟨pl, rfl, gd, nk, hf, h61, tl, rfl⟩, hok, her⟩ := h
  have hq := hok _ rfl
  show WSs _ _ _ [some (.d (plD pl)), none] _ _ _
  have ev := eqv_pl gd
  refine s_if1 ((c_eqD ((sh_pl gd).ok (by omega)) ((Sh.tuple (n := 0) .nil).ok (by omega))).dt (ve_var 0 rfl rfl rfl) (d_tup (ds := []) da_nil) rfl) (fun hk => ?_) (fun hk => ?_)
  · rw [ev] at hk
    cases pl with
    | nil => exact s_ret (DE.eq (d' := stD [46]) de_str rfl) hq
    | node p y n => cases hk
    | odd xs => cases hk
  rw [ev] at hk
  cases pl with
  | nil => cases hk
  | odd xs => exact gd.elim
  | node p y z =>
    obtain ⟨gy, gz⟩ := gd
    obtain ⟨np, ny, nz⟩ := nk.y
    have hty : y.ht + 1 ≤ f ∧ z.ht + 1 ≤ f ∧ y.ht ≤ 61 ∧ z.ht ≤ 61 := by
      have hf : 1 + max y.ht z.ht ≤ f := hf
      have h61 : 1 + max y.ht z.ht ≤ 61 := h61
      omega
    obtain ⟨e, rfl⟩ : ∃ e, f = e + 1 := ⟨f - 1, by omega⟩
    have c_rec := c_rec e rfl
    have sz := wtext_parts (n := 16777216) tl
    have js := join_size p
    have pl2 : (p.map decI).length = p.length := List.length_map _
    have q : stD (wtext (.node p y z)) = stD (((((([40] ++ TL.joinL [44] (p.map decI)) ++ [32]) ++ wtext y) ++ [32]) ++ wtext z) ++ [41]) := by rw [wtext_node]
    rw [q] at hq
    exact s_ret (de_addSt (de_addSt (de_addSt (de_addSt (de_addSt (de_addSt (DE.eq (d' := stD [40]) de_str rfl) (de_joinSt (DE.eq (d' := stD [44]) de_str rfl) (DE.eq (d_lc (f := PyData.int) (zs := p) (h := decI) stD [("_law_one", 1)] [false, true] (blk_lv (blkOk_by (by decide +kernel))) (ci_lv2 (ci_by (by decide +kernel))) (it_tup (de_ixT (xs := [tI p, plD y, plD z]) (d := tI p) (ve_var 0 rfl rfl rfl) de_int rfl)) rfl (fun z hz => tb_nameG 1 (by decide) rfl (.inl rfl) (.s .z)) (fun z hz => de_strN (ve_var 1 rfl rfl rfl) (np z hz).1 (by have := (np z hz).2; omega) rfl T.str) (by omega)) rfl) (by show _ + _ * 1 ≤ 16777216; omega)) (by simp only [List.length_append, List.length_cons, List.length_nil]; omega)) (DE.eq (d' := stD [32]) de_str rfl) (by simp only [List.length_append, List.length_cons, List.length_nil]; omega)) (de_call (r := stD (wtext y)) c_rec (by show e + 1 ≤ e + 1; omega) rfl (va_cons (de_ixT (xs := [tI p, plD y, plD z]) (d := plD y) (ve_var 0 rfl rfl rfl) de_int rfl) va_nil) rfl ⟨y, rfl, gy, ny, by omega, by omega, by show _ ≤ 16777216; omega, rfl⟩) (by simp only [List.length_append, List.length_cons, List.length_nil]; omega)) (DE.eq (d' := stD [32]) de_str rfl) (by simp only [List.length_append, List.length_cons, List.length_nil]; omega)) (de_call (r := stD (wtext z)) c_rec (by show e + 1 ≤ e + 1; omega) rfl (va_cons (de_ixT (xs := [tI p, plD y, plD z]) (d := plD z) (ve_var 0 rfl rfl rfl) de_int rfl) va_nil) rfl ⟨z, rfl, gz, nz, by omega, by omega, by show _ ≤ 16777216; omega, rfl⟩) (by simp only [List.length_append, List.length_cons, List.length_nil]; omega)) (DE.eq (d' := stD [41]) de_str rfl) (by simp only [List.length_append, List.length_cons, List.length_nil]; omega)) hq
theorem ok__law_text (T : Txt g CL) (F : Df g "_law_text" ["_law_plan"] s__law_text) : ∀ f, Callee g "_law_text" ["_law_plan"] (f + 1) (sp_ltext f g.ea)
  | 0 => ltext_of T F 0 fun e h => by cases h
  | f + 1 => ltext_of T F (f + 1) fun e h => by cases h; exact ok__law_text T F f
theorem lends_of (T : Txt g CL) (F : Df g "_law_ends" ["_law_plan"] s__law_ends) (f : Nat) (c_rec : ∀ e, f = e + 1 → Callee g "_law_ends" ["_law_plan"] (e + 1) (sp_lends e g.ea)) : Callee g "_law_ends" ["_law_plan"] (f + 1) (sp_lends f g.ea) := by
  refine callee_ok (vis := [true, false]) F sc__law_ends (ci_lv (ci_by (by decide +kernel))) fun ds A Q E hn h => ?_
  obtain ⟨o, ⟨pl, rfl, gd, hf, h61, hl, rfl⟩, hok, her⟩ := h
  have hq := hok _ rfl
  show WSs _ _ _ [some (.d (plD pl)), none] _ _ _
  have ev := eqv_pl gd
  refine s_if1 ((c_eqD ((sh_pl gd).ok (by omega)) ((Sh.tuple (n := 0) .nil).ok (by omega))).dt (ve_var 0 rfl rfl rfl) (d_tup (ds := []) da_nil) rfl) (fun hk => ?_) (fun hk => ?_)
  · rw [ev] at hk
    cases pl with
    | nil => exact s_ret (d_lst (ds := [.int 0]) (da_cons de_int da_nil)) hq
    | node p y n => cases hk
    | odd xs => cases hk
  rw [ev] at hk
  cases pl with
  | nil => cases hk
  | odd xs => exact gd.elim
  | node p y z =>
    obtain ⟨gy, gz⟩ := gd
    have hty : y.ht + 1 ≤ f ∧ z.ht + 1 ≤ f ∧ y.ht ≤ 61 ∧ z.ht ≤ 61 := by
      have hf : 1 + max y.ht z.ht ≤ f := hf
      have h61 : 1 + max y.ht z.ht ≤ 61 := h61
      omega
    obtain ⟨e, rfl⟩ : ∃ e, f = e + 1 := ⟨f - 1, by omega⟩
    have c_rec := c_rec e rfl
    have sz : (endsP y).length + (endsP z).length ≤ 16777216 := by
      have h : ((endsP y ++ endsP z).map fun x => x + 1).length ≤ BIG := hl
      rw [List.length_map, List.length_append] at h
      exact h
    have q : lI (endsP (.node p y z)) = .list (((endsP y).map fun x => 1 + x).map PyData.int ++ ((endsP z).map fun x => 1 + x).map PyData.int) := by
      show PyData.list (((endsP y ++ endsP z).map fun x => x + 1).map .int) = _
      rw [List.map_append, List.map_append]
      rw [show (fun x : Int => x + 1) = fun x => 1 + x from funext fun x => Int.add_comm x 1]
    rw [q] at hq
    exact s_ret (de_addL (d_lc (f := PyData.int) (zs := endsP y) (h := fun x => 1 + x) PyData.int [("_law_many", 1)] [false, true] (blk_lv (blkOk_by (by decide +kernel))) (ci_lv2 (ci_by (by decide +kernel))) (it_list (de_call (r := lI (endsP y)) c_rec (by show e + 1 ≤ e + 1; omega) rfl (va_cons (de_ixT (xs := [tI p, plD y, plD z]) (d := plD y) (ve_var 0 rfl rfl rfl) de_int rfl) va_nil) rfl ⟨y, rfl, gy, by omega, by omega, by show _ ≤ 16777216; omega, rfl⟩) (.d _)) rfl (fun z hz => tb_nameG 1 (by decide) rfl (.inl rfl) (.s .z)) (fun z hz => (de_add de_int (ve_var 1 rfl rfl rfl))) (by omega)) (d_lc (f := PyData.int) (zs := endsP z) (h := fun x => 1 + x) PyData.int [("_law_many", 1)] [false, true] (blk_lv (blkOk_by (by decide +kernel))) (ci_lv2 (ci_by (by decide +kernel))) (it_list (de_call (r := lI (endsP z)) c_rec (by show e + 1 ≤ e + 1; omega) rfl (va_cons (de_ixT (xs := [tI p, plD y, plD z]) (d := plD z) (ve_var 0 rfl rfl rfl) de_int rfl) va_nil) rfl ⟨z, rfl, gz, by omega, by omega, by show _ ≤ 16777216; omega, rfl⟩) (.d _)) rfl (fun z hz => tb_nameG 1 (by decide) rfl (.inl rfl) (.s .z)) (fun z hz => (de_add de_int (ve_var 1 rfl rfl rfl))) (by omega)) (by rw [List.length_map, List.length_map, List.length_map, List.length_map, sizeLine_eq]; exact sz)) hq
theorem ok__law_ends (T : Txt g CL) (F : Df g "_law_ends" ["_law_plan"] s__law_ends) : ∀ f, Callee g "_law_ends" ["_law_plan"] (f + 1) (sp_lends f g.ea)
  | 0 => lends_of T F 0 fun e h => by cases h
  | f + 1 => lends_of T F (f + 1) fun e h => by cases h; exact ok__law_ends T F f
theorem lbig_of (T : Txt g CL) (F : Df g "_law_biggest" ["_law_plan"] s__law_biggest) (f : Nat) (c_rec : ∀ e, f = e + 1 → Callee g "_law_biggest" ["_law_plan"] (e + 1) (sp_lbig e g.ea)) : Callee g "_law_biggest" ["_law_plan"] (f + 1) (sp_lbig f g.ea) := by
  refine callee_ok (vis := [true]) F sc__law_biggest (ci_lv (ci_by (by decide +kernel))) fun ds A Q E hn h => ?_
  obtain ⟨o, ⟨pl, rfl, gd, hf, h61, hl, rfl⟩, hok, her⟩ := h
  have hq := hok _ rfl
  show WSs _ _ _ [some (.d (plD pl))] _ _ _
  have ev := eqv_pl gd
  cases pl with
  | odd xs => exact gd.elim
  | nil => exact s_ret (DE.eq (de_if (d1 := .list []) (d2 := .list []) ((c_eqD ((sh_pl gd).ok (by omega)) ((Sh.tuple (n := 0) .nil).ok (by omega))).dt (ve_var 0 rfl rfl rfl) (d_tup (ds := []) da_nil) rfl) (fun hc => d_lst da_nil) (fun hc => by rw [ev] at hc; cases hc)) (by split <;> rfl)) hq
  | node p y z =>
    obtain ⟨gy, gz⟩ := gd
    have hty : y.ht + 1 ≤ f ∧ z.ht + 1 ≤ f ∧ y.ht ≤ 61 ∧ z.ht ≤ 61 := by
      have hf : 1 + max y.ht z.ht ≤ f := hf
      have h61 : 1 + max y.ht z.ht ≤ 61 := h61
      omega
    obtain ⟨e, rfl⟩ : ∃ e, f = e + 1 := ⟨f - 1, by omega⟩
    have c_rec := c_rec e rfl
    have sz : p.length + (bigP y).length + (bigP z).length ≤ 16777216 := by
      have h : (p ++ bigP y ++ bigP z).length ≤ BIG := hl
      rw [List.length_append, List.length_append] at h
      exact h
    have q : lI (bigP (.node p y z)) = .list ((p.map PyData.int ++ (bigP y).map PyData.int) ++ (bigP z).map PyData.int) := by
      show PyData.list ((p ++ bigP y ++ bigP z).map .int) = _
      rw [List.map_append, List.map_append]
    rw [q] at hq
    have gd : (Pl.node p y z).Good := ⟨gy, gz⟩
    have ht61 : (Pl.node p y z).ht ≤ 61 := h61
    exact s_ret (DE.eq (de_if (d1 := .list ((p.map PyData.int ++ (bigP y).map PyData.int) ++ (bigP z).map PyData.int)) (d2 := .list ((p.map PyData.int ++ (bigP y).map PyData.int) ++ (bigP z).map PyData.int)) ((c_eqD ((sh_pl gd).ok (by omega)) ((Sh.tuple (n := 0) .nil).ok (by omega))).dt (ve_var 0 rfl rfl rfl) (d_tup (ds := []) da_nil) rfl) (fun hc => by rw [ev] at hc; cases hc) (fun hc => (de_addL (de_addL (de_list (de_ixT (xs := [tI p, plD y, plD z]) (d := tI p) (ve_var 0 rfl rfl rfl) de_int rfl) (.t _) rfl T.list) (de_call (r := lI (bigP y)) c_rec (by show e + 1 ≤ e + 1; omega) rfl (va_cons (de_ixT (xs := [tI p, plD y, plD z]) (d := plD y) (ve_var 0 rfl rfl rfl) de_int rfl) va_nil) rfl ⟨y, rfl, gy, by omega, by omega, by show _ ≤ 16777216; omega, rfl⟩) (by rw [List.length_map, List.length_map, sizeLine_eq]; omega)) (de_call (r := lI (bigP z)) c_rec (by show e + 1 ≤ e + 1; omega) rfl (va_cons (de_ixT (xs := [tI p, plD y, plD z]) (d := plD z) (ve_var 0 rfl rfl rfl) de_int rfl) va_nil) rfl ⟨z, rfl, gz, by omega, by omega, by show _ ≤ 16777216; omega, rfl⟩) (by rw [List.length_append, List.length_map, List.length_map, List.length_map, sizeLine_eq]; exact sz)))) (by split <;> rfl)) hq
theorem ok__law_biggest (T : Txt g CL) (F : Df g "_law_biggest" ["_law_plan"] s__law_biggest) : ∀ f, Callee g "_law_biggest" ["_law_plan"] (f + 1) (sp_lbig f g.ea)
  | 0 => lbig_of T F 0 fun e h => by cases h
  | f + 1 => lbig_of T F (f + 1) fun e h => by cases h; exact ok__law_biggest T F f
theorem ok__law_deep (T : Txt g CL) (F : Df g "_law_deep" ["_law_many"] s__law_deep) : Callee g "_law_deep" ["_law_many"] 1 (sp_ldeepT g.ea) := by
  refine callee_ok (vis := [true, true, true]) F sc__law_deep (ci_by (by decide +kernel)) fun ds A Q E hn h => ?_
  obtain ⟨o, ⟨n, rfl, hn2, rfl⟩, hok, her⟩ := h
  have hq := hok _ rfl
  show WSs _ _ _ [some (.d (.int n)), none, none] _ _ _
  refine s_set (dv := .d (plD (deepT 0))) 1 rfl (.inl rfl) (.s .z) (d_tup (ds := []) da_nil) ?_
  refine s_forR (fun s : Nat => [some (.d (.int n)), some (.d (plD (deepT s))), none]) (fun s => A) (fun s k => s + 1) (fun i s => s = i) 0 rfl T.range (ve_var 0 rfl rfl rfl) (by omega) (by omega) (by walk_at "less") rfl rfl (fun i s hi hJ hs => ⟨by rw [hJ], _, td_name 2 rfl (.inl rfl) (.s (.s .z)), ?_⟩) (fun hJ => ?_)
  · refine s_set (dv := .d (plD (deepT (s + 1)))) 1 rfl (.inl rfl) (.s .z) (d_tup (ds := [tI [1, 12], .tuple [], plD (deepT s)]) (da_cons (d_tup (ds := [.int 1, .int 12]) (da_cons de_int (da_cons de_int da_nil))) (da_cons (d_tup (ds := []) da_nil) (da_cons (ve_var 1 rfl rfl rfl) da_nil)))) ?_
    exact s_nil ⟨by walk_at "less", rfl⟩
  · rw [hJ, Int.toNat_natCast]
    exact s_ret (ve_var 1 rfl rfl rfl) hq
theorem ok__law_words (T : Txt g CL) (F : Df g "_law_words" ["_law_text_here"] s__law_words) : Callee g "_law_words" ["_law_text_here"] 1 (sp_lwords g.ea) := by
  refine callee_ok (vis := [true, true, true]) F sc__law_words (ci_by (by decide +kernel)) fun ds A Q E hn h => ?_
  obtain ⟨o, ⟨t, rfl, hz, rfl⟩, hok, her⟩ := h
  have hq := hok _ rfl
  have hz : t.length ≤ 16777216 := hz
  show WSs _ _ _ [some (.d (stD t)), none, none] _ _ _
  refine s_new 1 rfl (.inl rfl) da_nil (by simp) (fun l1 hl1 => ?_)
  refine s_forSt (l := t) (fun s : List (List Nat) => [some (.d (stD t)), some (.r l1), none]) (fun s => updA A l1 (oL (s.map stD))) stepWd (fun i s => s.length ≤ i ∧ i ≤ t.length ∧ ∀ w ∈ s, w ≠ [] ∧ w.length ≤ i) [] (ve_var 0 rfl rfl rfl) (by walk_at "less") rfl ⟨Nat.le_refl _, Nat.zero_le _, fun w hw => (List.not_mem_nil hw).elim⟩ (fun i c s hi hJ => ⟨_, td_name 2 rfl (.inl rfl) (.s (.s .z)), ?_⟩) (fun hJ => ?_)
  · obtain ⟨j1, j2, j3⟩ := hJ
    have iB : i < t.length := (List.getElem?_eq_some_iff.mp hi).1
    rcases List.eq_nil_or_concat s with e | ⟨pre, w, e⟩
    · subst e
      have es : stepWd [] c = [[c]] := by unfold stepWd; rw [show lastD [] = false from rfl, Bool.and_false]; rfl
      refine s_if (dt_and (k := false) (k' := false) (dt_truthX (ve_var 1 rfl rfl rfl) (.o updA_same)) (fun hc => by cases hc)) (fun hk => by cases hk) (fun hk => ?_)
      refine s_appD (ve_var 1 rfl rfl rfl) updA_same (ve_var 2 rfl rfl rfl) (by simp) ?_
      rw [updA_updA]
      refine s_nil (s_nil ⟨?_, by walk_at "less", ?_⟩)
      · rw [es]
        exact ⟨by show 1 ≤ i + 1; omega, by omega, fun w hw => by rw [List.mem_singleton] at hw; subst hw; exact ⟨by simp, by show 1 ≤ i + 1; omega⟩⟩
      · rw [es]; rfl
    · rw [List.concat_eq_append] at e
      subst e
      obtain ⟨hw, hwl⟩ := j3 w (List.mem_append_right _ List.mem_cons_self)
      obtain ⟨a, w', rfl⟩ : ∃ a w', w = a :: w' := by
        cases w with
        | nil => exact absurd rfl hw
        | cons a w' => exact ⟨a, w', rfl⟩
      have hpl : (pre ++ [a :: w']).length = pre.length + 1 := by rw [List.length_append, List.length_singleton]
      rw [hpl] at j1
      have at1 : atI ((pre ++ [a :: w']).map stD) (-1) = some (stD (a :: w')) := atI_last (n := pre.length) (by rw [List.length_map, hpl]) (by rw [List.map_append, List.getElem?_append_right (by rw [List.length_map]; exact Nat.le_refl _), List.length_map, Nat.sub_self]; rfl)
      have ix : ∀ {Γ : Gam} {p1 p2 p3 p4 : Pos} {k1 : Nat}, Γ[1]? = some (some (.r l1)) → DE g (ciOf ["_law_text_here", "_law_found", "_law_sign"] s__law_words [true, true, true] 0) Γ (updA A l1 (oL ((pre ++ [a :: w']).map stD))) (.Subscript (.Name "_law_found" p1) (.UnaryOp .USub (.Constant (.int 1) k1 p2) p3) p4) (stD (a :: w')) := fun h => de_ixL (ve_var 1 rfl rfl h) (.o updA_same) (de_neg de_int) at1
      have vv : (!((pre ++ [a :: w']).map stD).isEmpty && (decide (c ∈ FIG) && (!decide (a :: w' = []) && decide (a ∈ FIG)))) = (isD c && lastD (pre ++ [a :: w'])) := by
        rw [lastD_snoc, mem_FIG, mem_FIG, decide_eq_false (by simp)]
        have : ((pre ++ [a :: w']).map stD).isEmpty = false := by cases pre <;> rfl
        rw [this]
        show (true && (isD c && (true && isD a))) = (isD c && isD a)
        rw [Bool.true_and, Bool.true_and]
      refine s_if (DT.eq (v' := isD c && lastD (pre ++ [a :: w'])) (dt_and (dt_truthX (ve_var 1 rfl rfl rfl) (.o updA_same)) (fun hc => (dw_and ((c_inS1 (c := c) (z := FIG)).dt (ve_var 2 rfl rfl rfl) (DE.eq (d' := stD FIG) de_str rfl) rfl) (fun hc => (dw_and ((c_neSt (x := a :: w') (y := [])).dt (ix rfl) (DE.eq (d' := stD []) de_str rfl) rfl) (fun hc => (dw_and1 ((c_inS1 (c := a) (z := FIG)).dt (DE.eq (d' := stD [a]) (de_ixSt (x := a :: w') (ix rfl) de_int (by omega) (by omega) (by rw [List.length_cons]; omega)) rfl) (DE.eq (d' := stD FIG) de_str rfl) rfl)))))))) vv) (fun hk => ?_) (fun hk => ?_)
      · have es : stepWd (pre ++ [a :: w']) c = pre ++ [(a :: w') ++ [c]] := by
          unfold stepWd
          rw [if_pos hk, List.dropLast_concat, List.getLast?_append]; rfl
        refine s_sixL (d := stD ((a :: w') ++ [c])) (de_addSt (ix rfl) (ve_var 2 rfl rfl rfl) (by rw [List.length_singleton]; omega)) (ve_var 1 rfl rfl rfl) updA_same (de_neg de_int) (by simp) ?_
        rw [updA_updA]
        refine s_nil (s_nil ⟨?_, by walk_at "less", ?_⟩)
        · rw [es]
          refine ⟨by rw [List.length_append, List.length_singleton]; omega, by omega, fun v hv => ?_⟩
          rcases List.mem_append.mp hv with hv | hv
          · have := j3 v (List.mem_append_left _ hv); exact ⟨this.1, by omega⟩
          · rw [List.mem_singleton] at hv; subst hv; exact ⟨by simp, by rw [List.length_append, List.length_singleton]; omega⟩
        · rw [es]
          rw [List.map_append, List.map_append]
          show updA A l1 (oL ((pre.map stD ++ [stD (a :: w')]).dropLast ++ [_])) = _
          rw [List.dropLast_concat]; rfl
      · have es : stepWd (pre ++ [a :: w']) c = (pre ++ [a :: w']) ++ [[c]] := by
          unfold stepWd
          rw [if_neg (by rw [hk]; decide)]
        refine s_appD (ve_var 1 rfl rfl rfl) updA_same (ve_var 2 rfl rfl rfl) (by rw [List.length_map, hpl]; omega) ?_
        rw [updA_updA]
        refine s_nil (s_nil ⟨?_, by walk_at "less", ?_⟩)
        · rw [es]
          refine ⟨by rw [List.length_append, hpl, List.length_singleton]; omega, by omega, fun v hv => ?_⟩
          rcases List.mem_append.mp hv with hv | hv
          · have := j3 v hv; exact ⟨this.1, by omega⟩
          · rw [List.mem_singleton] at hv; subst hv; exact ⟨by simp, by show 1 ≤ i + 1; omega⟩
        · rw [es, List.map_append (l₂ := [[c]])]; rfl
  · refine s_frz 1 rfl hl1 (.s .z) ?_
    exact s_ret (ve_var 1 rfl rfl rfl) hq
theorem nth_wd (ws : List (List Nat)) (i : Nat) : nth ws (i : Int) = wd ws i := by
  unfold nth wd
  rw [Int.toNat_natCast, List.getD_eq_getElem?_getD]; rfl
theorem lparsed_of (T : Txt g CL) (F : Df g "_law_parsed" ["_law_words_here", "_law_at", "_law_deep_here"] s__law_parsed) (f : Nat) (c_rec : ∀ e, f = e + 1 → Callee g "_law_parsed" ["_law_words_here", "_law_at", "_law_deep_here"] (e + 1) (sp_lparsed e g.ea)) : Callee g "_law_parsed" ["_law_words_here", "_law_at", "_law_deep_here"] (f + 1) (sp_lparsed f g.ea) := by
  refine callee_ok (vis := [true, true, true, true, true, true]) F sc__law_parsed (ci_lv (ci_by (by decide +kernel))) fun ds A Q E hn h => ?_
  obtain ⟨o, ⟨ws, i, d, rfl, hd, hw, hl, hb, rfl⟩, hok, her⟩ := h
  have hq := hok _ rfl
  have wl : (ws.map stD).length = ws.length := List.length_map _
  show WSs _ _ _ [some (.d (.list (ws.map stD))), some (.d (.int i)), some (.d (.int d)), none, none, none] _ _ _
  refine s_up ?_
  refine s_if1 (dt_or (c_gt.dt (ve_var 2 rfl rfl rfl) de_int rfl) (fun hc => (dw_or1 (c_ge.dt (ve_var 1 rfl rfl rfl) (de_len (ve_var 0 rfl rfl rfl) (.l (.d _)) rfl T.len) rfl)))) (fun hk => ?_) (fun hk => ?_)
  · rw [Bool.or_eq_true, decide_eq_true_eq, decide_eq_true_eq] at hk
    have e : parsedL ws f i = none := by
      cases f with
      | zero => rfl
      | succ f => rw [parsedL, if_pos (by omega)]
    rw [e] at hq
    exact s_ret de_none ⟨A, ExtA.refl A, hq⟩
  rw [Bool.or_eq_false_iff, decide_eq_false_iff_not, decide_eq_false_iff_not] at hk
  obtain ⟨e, rfl⟩ : ∃ e, f = e + 1 := ⟨f - 1, by omega⟩
  have c_rec := c_rec e rfl
  have il : i < ws.length := by omega
  have wm : ∀ j : Nat, j < ws.length → wd ws j ∈ ws := fun j hj => by unfold wd; rw [List.getElem?_eq_getElem hj]; exact List.getElem_mem hj
  refine s_if1 ((c_eqSt (y := [46])).dt (de_ixLn (xs := ws) (f := stD) (ve_var 0 rfl rfl rfl) (.d _) (ve_var 1 rfl rfl rfl) (by omega) (by omega)) (DE.eq (d' := stD [46]) de_str rfl) rfl) (fun hk1 => ?_) (fun hk1 => ?_)
  · have hk1 := of_decide_eq_true hk1
    rw [nth_wd] at hk1
    have ep : parsedL ws (e + 1) i = some (.nil, i + 1) := by rw [parsedL, if_neg (by omega), if_pos hk1]
    rw [ep] at hq
    exact s_ret (d_tup (ds := [.tuple [], .int ((i : Int) + 1)]) (da_cons (d_tup (ds := []) da_nil) (da_cons (de_add (ve_var 1 rfl rfl rfl) de_int) da_nil))) ⟨A, ExtA.refl A, hq⟩
  have hk1 := of_decide_eq_false hk1
  rw [nth_wd] at hk1
  have P : parsedL ws (e + 1) i = (parsedL ws e (numsL ws (ws.length + 1) (i + 1)).2).bind fun y => (parsedL ws e (y.2 + 1)).bind fun z => if (numsL ws (ws.length + 1) (i + 1)).1 = [] then none else some (.node (numsL ws (ws.length + 1) (i + 1)).1 y.1 z.1, z.2 + 1) := by rw [parsedL, if_neg (by omega), if_neg hk1]
  refine s_new 3 rfl (.inl rfl) da_nil (by simp) (fun l3 hl3 => ?_)
  have x3 : ∀ o, ExtA A (updA A l3 o) := fun o => ExtA.upd hl3
  refine s_set (dv := .d (.int ((i + 1 : Nat) : Int))) 1 rfl (.inl rfl) (.s .z) (DE.eq (de_add (ve_var 1 rfl rfl rfl) de_int) rfl) ?_
  refine s_while (T := List Int × Nat) (fun s => [some (.d (.list (ws.map stD))), some (.d (.int s.2)), some (.d (.int d)), some (.r l3), none, none]) (fun s => updA A l3 (oL (s.1.map .int))) (fun s => goN ws s.2) (fun s => (s.1 ++ [((NumText.digitsVal (wd ws s.2) : Nat) : Int)], s.2 + 2)) (fun s => 1 ≤ s.2 ∧ s.1.length ≤ s.2 ∧ ∃ fu, ws.length < s.2 + 2 * fu ∧ numsL ws (ws.length + 1) (i + 1) = (s.1 ++ (numsL ws fu s.2).1, (numsL ws fu s.2).2)) (fun s => ws.length + 2 - s.2) ([], i + 1) (by walk_at "less") rfl ⟨by show 1 ≤ i + 1; omega, Nat.zero_le _, ws.length + 1, by show ws.length < i + 1 + 2 * (ws.length + 1); omega, rfl⟩ (fun s hJ => ?_) (fun s hJ ht => ?_) (fun s hJ ht => ?_)
  · obtain ⟨j1, j2, j3⟩ := hJ
    obtain ⟨part, at_⟩ := s
    have j1 : 1 ≤ at_ := j1
    by_cases hlt : at_ < ws.length
    · have hm := wm at_ hlt
      have w1 := hw _ hm
      have w2 : (wd ws at_).length ≤ 16777216 := hb _ hm
      have w3 : 0 < (wd ws at_).length := List.length_pos_iff.mpr w1.1
      have e1 : decide (nth (wd ws at_) 0 ∈ FIG) = hdD (wd ws at_) := by
        rw [mem_FIG]
        cases z : wd ws at_ with
        | nil => exact absurd z w1.1
        | cons a b => rfl
      refine DT.eq (dt_and (c_lt.dt (ve_var 1 rfl rfl rfl) (de_len (ve_var 0 rfl rfl rfl) (.l (.d _)) rfl T.len) rfl) (fun hc => (dw_and ((c_inS1 (c := nth (wd ws at_) 0) (z := FIG)).dt (de_ixSt (DE.eq (d' := stD (wd ws at_)) (de_ixLn (xs := ws) (f := stD) (ve_var 0 rfl rfl rfl) (.d _) (ve_var 1 rfl rfl rfl) (by show 0 ≤ (at_ : Int); omega) (by show (at_ : Int) < ws.length; omega)) (by show stD (nth ws (at_ : Int)) = _; rw [nth_wd])) de_int w2 (by omega) (by omega)) (DE.eq (d' := stD FIG) de_str rfl) rfl) (fun hc => (dw_and1 ((c_inTS (x := wd ws (at_ - 1)) (ys := [[40], [44]])).dt (DE.eq (d' := stD (wd ws (at_ - 1))) (de_ixLn (xs := ws) (f := stD) (ve_var 0 rfl rfl rfl) (.d _) (de_sub (ve_var 1 rfl rfl rfl) de_int) (by show 0 ≤ (at_ : Int) - 1; omega) (by show (at_ : Int) - 1 < ws.length; omega)) (by show stD (nth ws ((at_ : Int) - 1)) = _; rw [show (at_ : Int) - 1 = ((at_ - 1 : Nat) : Int) by omega, nth_wd])) (d_tup (ds := [stD [40], stD [44]]) (da_cons (DE.eq (d' := stD [40]) de_str rfl) (da_cons (DE.eq (d' := stD [44]) de_str rfl) da_nil))) rfl)))))) ?_
      show (decide ((at_ : Int) < ((ws.map stD).length : Int)) && (decide (nth (wd ws at_) 0 ∈ FIG) && decide (wd ws (at_ - 1) ∈ [[40], [44]]))) = goN ws at_
      rw [e1, wl]
      unfold goN
      rw [decide_eq_true hlt, decide_eq_true (by omega)]
    · have ef : decide ((at_ : Int) < ((ws.map stD).length : Int)) = false := decide_eq_false (by rw [wl]; omega)
      refine DT.eq (dt_and (k' := false) (c_lt.dt (ve_var 1 rfl rfl rfl) (de_len (ve_var 0 rfl rfl rfl) (.l (.d _)) rfl T.len) rfl) (fun hc => (Bool.false_ne_true (ef.symm.trans hc)).elim)) ?_
      show (decide ((at_ : Int) < ((ws.map stD).length : Int)) && false) = goN ws at_
      unfold goN
      rw [decide_eq_false hlt, Bool.and_false]; rfl
  · obtain ⟨j1, j2, fu, j3, j4⟩ := hJ
    obtain ⟨part, at_⟩ := s
    have ht : goN ws at_ = true := ht
    have ht2 := ht
    unfold goN at ht2
    rw [Bool.and_eq_true, Bool.and_eq_true, decide_eq_true_eq] at ht2
    obtain ⟨hlt, hh, _⟩ := ht2
    have j1 : 1 ≤ at_ := j1
    have j2 : part.length ≤ at_ := j2
    have j3 : ws.length < at_ + 2 * fu := j3
    have j4 : numsL ws (ws.length + 1) (i + 1) = (part ++ (numsL ws fu at_).1, (numsL ws fu at_).2) := j4
    obtain ⟨fu', rfl⟩ : ∃ fu', fu = fu' + 1 := ⟨fu - 1, by omega⟩
    have e1 : numsL ws (fu' + 1) at_ = (((NumText.digitsVal (wd ws at_) : Nat) : Int) :: (numsL ws fu' (at_ + 2)).1, (numsL ws fu' (at_ + 2)).2) := by rw [numsL, if_pos ht]
    rw [e1] at j4
    have hm := wm at_ hlt
    have w1 := hw _ hm
    have w2 := w1.2 hh
    refine ⟨⟨by show 1 ≤ at_ + 2; omega, by show (part ++ [_]).length ≤ at_ + 2; rw [List.length_append, List.length_singleton]; omega, fu', by show ws.length < at_ + 2 + 2 * fu'; omega, ?_⟩, by show ws.length + 2 - (at_ + 2) < ws.length + 2 - at_; omega, ?_⟩
    · rw [j4, List.append_assoc]; rfl
    · refine s_appD (ve_var 3 rfl rfl rfl) updA_same (de_intSt (w := wd ws at_) (DE.eq (d' := stD (wd ws at_)) (de_ixLn (xs := ws) (f := stD) (ve_var 0 rfl rfl rfl) (.d _) (ve_var 1 rfl rfl rfl) (by show 0 ≤ (at_ : Int); omega) (by show (at_ : Int) < ws.length; omega)) (by show stD (nth ws (at_ : Int)) = _; rw [nth_wd])) w2.1 w1.1 w2.2 rfl T.int) (by rw [List.length_map]; omega) ?_
      rw [updA_updA]
      refine s_set (dv := .d (.int ((at_ + 2 : Nat) : Int))) 1 rfl (.inl rfl) (.s .z) (DE.eq (de_add (ve_var 1 rfl rfl rfl) de_int) rfl) ?_
      refine s_nil ⟨by walk_at "less", ?_⟩
      show _ = updA A l3 (oL ((part ++ [_]).map .int))
      rw [List.map_append]; rfl
  obtain ⟨j1, j2, fu, j3, j4⟩ := hJ
  obtain ⟨part, at_⟩ := s
  have ht : goN ws at_ = false := ht
  have j4 : numsL ws (ws.length + 1) (i + 1) = (part ++ (numsL ws fu at_).1, (numsL ws fu at_).2) := j4
  rw [numsL_stop ht, List.append_nil] at j4
  rw [j4] at P
  have P : parsedL ws (e + 1) i = (parsedL ws e at_).bind fun y => (parsedL ws e (y.2 + 1)).bind fun z => if part = [] then none else some (.node part y.1 z.1, z.2 + 1) := P
  refine s_frz 3 rfl hl3 (.s (.s (.s .z))) ?_
  show WSs _ _ _ [some (.d (.list (ws.map stD))), some (.d (.int at_)), some (.d (.int d)), some (.d (.list (part.map .int))), none, none] A _ _
  have dc : ((d : Int) + 1) = ((d + 1 : Nat) : Int) := by omega
  refine s_set (dv := .d (parD (parsedL ws e at_))) 4 rfl (.inl rfl) (.s (.s (.s (.s .z)))) (de_call (r := parD (parsedL ws e at_)) c_rec (by show e + 1 ≤ e + 1; omega) rfl (va_cons (ve_var 0 rfl rfl rfl) (va_cons (ve_var 1 rfl rfl rfl) (va_cons (DE.eq (de_add (ve_var 2 rfl rfl rfl) de_int) (by rw [dc])) va_nil))) rfl ⟨ws, at_, d + 1, rfl, by omega, hw, hl, hb, rfl⟩) ?_
  cases ey : parsedL ws e at_ with
  | none =>
    rw [ey] at P
    have P : parsedL ws (e + 1) i = none := P
    rw [P] at hq
    refine s_set (dv := .d .none) 5 rfl (.inl rfl) (.s (.s (.s (.s (.s .z))))) (DE.eq (de_if (d1 := .none) (d2 := .none) ((c_isnot (dv := .d .none)).dt (ve_var 4 rfl rfl rfl) de_none rfl) (fun hc => by cases hc) (fun hc => de_none)) rfl) ?_
    exact s_ret (DE.eq (de_if (d1 := .none) (d2 := .none) (dt_or (k := true) (k' := true) ((c_is (dv := .d .none)).dt (ve_var 5 rfl rfl rfl) de_none rfl) (fun hc => by cases hc)) (fun hc => de_none) (fun hc => by cases hc)) rfl) ⟨A, ExtA.refl A, hq⟩
  | some y =>
    rw [ey] at P
    have P : parsedL ws (e + 1) i = (parsedL ws e (y.2 + 1)).bind fun z => if part = [] then none else some (.node part y.1 z.1, z.2 + 1) := P
    refine s_set (dv := .d (parD (parsedL ws e (y.2 + 1)))) 5 rfl (.inl rfl) (.s (.s (.s (.s (.s .z))))) (DE.eq (de_if (d1 := parD (parsedL ws e (y.2 + 1))) (d2 := .none) ((c_isnot (dv := .d (.tuple [plD y.1, .int y.2]))).dt (ve_var 4 rfl rfl rfl) de_none rfl) (fun hc => de_call (r := parD (parsedL ws e (y.2 + 1))) c_rec (by show e + 1 ≤ e + 1; omega) rfl (va_cons (ve_var 0 rfl rfl rfl) (va_cons (de_add (de_ixT (xs := [plD y.1, .int y.2]) (d := .int y.2) (ve_var 4 rfl rfl rfl) de_int rfl) de_int) (va_cons (DE.eq (de_add (ve_var 2 rfl rfl rfl) de_int) (by rw [dc])) va_nil))) rfl ⟨ws, y.2 + 1, d + 1, rfl, by omega, hw, hl, hb, rfl⟩) (fun hc => by cases hc)) rfl) ?_
    cases ez : parsedL ws e (y.2 + 1) with
    | none =>
      rw [ez] at P
      have P : parsedL ws (e + 1) i = none := P
      rw [P] at hq
      exact s_ret (DE.eq (de_if (d1 := .none) (d2 := .none) (dt_or (k := true) (k' := true) ((c_is (dv := .d .none)).dt (ve_var 5 rfl rfl rfl) de_none rfl) (fun hc => by cases hc)) (fun hc => de_none) (fun hc => by cases hc)) rfl) ⟨A, ExtA.refl A, hq⟩
    | some z =>
      rw [ez] at P
      have P : parsedL ws (e + 1) i = if part = [] then none else some (.node part y.1 z.1, z.2 + 1) := P
      rw [P] at hq
      have eqp := c_eqLI (g := g) (I := ciOf ["_law_words_here", "_law_at", "_law_deep_here", "_law_part", "_law_yes", "_law_no"] s__law_parsed [true, true, true, true, true, true] (e + 1)) (A := A) (xs := part) (ys := [])
      refine s_ret (DE.eq (d' := parD (if part = [] then none else some (.node part y.1 z.1, z.2 + 1))) (de_if (d1 := .none) (d2 := .tuple [.tuple [tI part, plD y.1, plD z.1], .int ((z.2 : Int) + 1)]) (dt_or ((c_is (dv := .d (.tuple [plD z.1, .int z.2]))).dt (ve_var 5 rfl rfl rfl) de_none rfl) (fun hc => (dw_or1 (eqp.dt (ve_var 3 rfl rfl rfl) (d_lst (ds := []) da_nil) rfl)))) (fun hc => de_none) (fun hc => (d_tup (da_cons (d_tup (da_cons (de_tuple (ve_var 3 rfl rfl rfl) (.l (.d _)) rfl T.tuple) (da_cons (de_ixT (xs := [plD y.1, .int y.2]) (d := plD y.1) (ve_var 4 rfl rfl rfl) de_int rfl) (da_cons (de_ixT (xs := [plD z.1, .int z.2]) (d := plD z.1) (ve_var 5 rfl rfl rfl) de_int rfl) da_nil)))) (da_cons (de_add (de_ixT (xs := [plD z.1, .int z.2]) (d := .int z.2) (ve_var 5 rfl rfl rfl) de_int rfl) de_int) da_nil))))) ?_) ⟨A, ExtA.refl A, hq⟩
      by_cases hp : part = []
      · rw [if_pos hp, decide_eq_true hp]; rfl
      · rw [if_neg hp, decide_eq_false hp]; rfl
theorem ok__law_parsed (T : Txt g CL) (F : Df g "_law_parsed" ["_law_words_here", "_law_at", "_law_deep_here"] s__law_parsed) : ∀ f, Callee g "_law_parsed" ["_law_words_here", "_law_at", "_law_deep_here"] (f + 1) (sp_lparsed f g.ea)
  | 0 => lparsed_of T F 0 fun e h => by cases h
  | f + 1 => lparsed_of T F (f + 1) fun e h => by cases h; exact ok__law_parsed T F f
theorem ok__law_tried (T : Txt g CL) (F : Df g "_law_tried" ["_law_text_here"] s__law_tried) (c__law_words : Callee g "_law_words" ["_law_text_here"] 1 (sp_lwords g.ea)) (c__law_parsed : ∀ f, Callee g "_law_parsed" ["_law_words_here", "_law_at", "_law_deep_here"] (f + 1) (sp_lparsed f g.ea)) (c__law_biggest : ∀ f, Callee g "_law_biggest" ["_law_plan"] (f + 1) (sp_lbig f g.ea)) (c__law_text : ∀ f, Callee g "_law_text" ["_law_plan"] (f + 1) (sp_ltext f g.ea)) : Callee g "_law_tried" ["_law_text_here"] 63 (sp_ltried g.ea) := by
  have c__law_parsed := c__law_parsed 61
  have c__law_biggest := c__law_biggest 61
  have c__law_text := c__law_text 61
  refine callee_ok (vis := [true, true]) F sc__law_tried (ci_by (by decide +kernel)) fun ds A Q E hn h => ?_
  obtain ⟨o, ⟨t, rfl, hz, hm, rfl⟩, hok, her⟩ := h
  have hq := hok _ rfl
  rw [← tried_eq] at hq
  obtain ⟨w1, w2⟩ := wordsL_ok hm
  have wb : ∀ w ∈ wordsL t, w.length ≤ BIG := fun w hw => by
    have h : ∀ (l : List Nat) (acc : List (List Nat)) (n : Nat), (∀ w ∈ acc, w.length ≤ n) → ∀ w ∈ l.foldl stepWd acc, w.length ≤ n + l.length := by
      intro l
      induction l with
      | nil => intro acc n h w hw; exact Nat.le_trans (h w hw) (Nat.le_add_right _ _)
      | cons c l ih =>
        intro acc n h w hw
        rw [List.foldl_cons] at hw
        have := ih (stepWd acc c) (n + 1) (fun v hv => by
          unfold stepWd at hv
          split at hv
          · rcases List.mem_append.mp hv with hv | hv
            · have := h v (List.dropLast_subset _ hv); omega
            · rw [List.mem_singleton] at hv
              subst hv
              rw [List.length_append, List.length_singleton]
              cases z : acc.getLast? with
              | none => show 0 + 1 ≤ n + 1; omega
              | some x => have := h x (List.mem_of_getLast? z); show x.length + 1 ≤ n + 1; omega
          · rcases List.mem_append.mp hv with hv | hv
            · have := h v hv; omega
            · rw [List.mem_singleton] at hv; subst hv; show 1 ≤ n + 1; omega) w hw
        rw [List.length_cons]; omega
    have := h t [] 0 (fun w hw => (List.not_mem_nil hw).elim) w hw
    show w.length ≤ 16777216
    omega
  have hzb : t.length ≤ BIG := by show t.length ≤ 16777216; omega
  show WSs _ _ _ [some (.d (stD t)), none] _ _ _
  refine s_set (dv := .d (parD (parsedL (wordsL t) 61 0))) 1 rfl (.inl rfl) (.s .z) (de_call (r := parD (parsedL (wordsL t) 61 0)) c__law_parsed (by decide) rfl (va_cons (de_call (r := .list ((wordsL t).map stD)) c__law_words (by decide) rfl (va_cons (ve_var 0 rfl rfl rfl) va_nil) rfl ⟨t, rfl, hzb, rfl⟩) (va_cons de_int (va_cons de_int va_nil))) rfl ⟨wordsL t, 0, 0, rfl, rfl, w1, by omega, wb, rfl⟩) ?_
  unfold triedL at hq
  cases ep : parsedL (wordsL t) 61 0 with
  | none =>
    rw [ep] at hq
    have hq : Q (.d .none) A := hq
    refine s_if1 (dt_or (k := true) (k' := true) ((c_is (dv := .d .none)).dt (ve_var 1 rfl rfl rfl) de_none rfl) (fun hc => by cases hc)) (fun hk => ?_) (fun hk => by cases hk)
    exact s_ret de_none hq
  | some q =>
    rw [ep, Option.bind_some] at hq
    obtain ⟨p, e⟩ := q
    have hq : Q (.d (triD (if (∀ x ∈ bigP p, x ≤ 99) ∧ wtext p = t then some p else none))) A := hq
    obtain ⟨a1, a2, a3, a4, a5⟩ := parsedL_sound _ _ _ ep
    have gp : p.Good ∧ p.ht ≤ 60 ∧ ∀ x ∈ bigP p, 0 ≤ x := by
      have h : ∀ (f : Nat) (p : Pl), PL f p → p.Good ∧ p.ht < f ∧ ∀ x ∈ bigP p, 0 ≤ x := by
        intro f
        induction f with
        | zero => intro p h; exact h.elim
        | succ f ih =>
          intro p h
          cases p with
          | nil => exact ⟨trivial, Nat.succ_pos _, fun x hx => (List.not_mem_nil hx).elim⟩
          | odd xs => exact h.elim
          | node p y z =>
            obtain ⟨_, h2, h3, h4⟩ := h
            obtain ⟨b1, b2, b3⟩ := ih y h3
            obtain ⟨d1, d2, d3⟩ := ih z h4
            refine ⟨⟨b1, d1⟩, by show 1 + max y.ht z.ht < f + 1; omega, fun x hx => ?_⟩
            have ex : bigP (.node p y z) = p ++ bigP y ++ bigP z := rfl
            rw [ex, List.mem_append, List.mem_append] at hx
            rcases hx with (hx | hx) | hx
            · exact h2 x hx
            · exact b3 x hx
            · exact d3 x hx
      obtain ⟨b1, b2, b3⟩ := h 61 p a1
      exact ⟨b1, by omega, b3⟩
    obtain ⟨gd, h60, nn⟩ := gp
    have bl : (bigP p).length ≤ 16777216 := by omega
    have mx := maxL_spec (0 :: bigP p) (by simp)
    have key : decide (maxL (0 :: bigP p) > 99) = false ↔ ∀ x ∈ bigP p, x ≤ 99 := by
      rw [decide_eq_false_iff_not]
      constructor
      · intro h x hx
        have := mx.2 x (List.mem_cons_of_mem _ hx)
        omega
      · intro h hc
        rcases List.mem_cons.mp mx.1 with h0 | h0
        · omega
        · have := h _ h0; omega
    have tx : decide (maxL (0 :: bigP p) > 99) = false → NumOk p ∧ (wtext p).length ≤ BIG := fun h => by
      have h9 := key.mp h
      refine ⟨fun x hx => ⟨nn x hx, h9 x hx⟩, ?_⟩
      have := a5 h9
      show (wtext p).length ≤ 16777216
      omega
    show WSs _ _ _ [some (.d (stD t)), some (.d (.tuple [plD p, .int e]))] _ _ _
    refine s_if1 (dt_or ((c_is (dv := .d (.tuple [plD p, .int e]))).dt (ve_var 1 rfl rfl rfl) de_none rfl) (fun hc => (dw_or (c_gt.dt (de_maxL (ns := 0 :: bigP p) (DE.eq (d' := .list ((0 :: bigP p).map PyData.int)) (de_addL (d_lst (ds := [.int 0]) (da_cons de_int da_nil)) (de_call (r := lI (bigP p)) c__law_biggest (by decide) rfl (va_cons (de_ixT (xs := [plD p, .int e]) (d := plD p) (ve_var 1 rfl rfl rfl) de_int rfl) va_nil) rfl ⟨p, rfl, gd, by omega, by omega, bl, rfl⟩) (by rw [List.length_map, sizeLine_eq]; show 1 + _ ≤ _; omega)) rfl) (.d _) (by simp) rfl T.max) de_int rfl) (fun hc => (dw_or1 (c_neSt.dt (de_call (r := stD (wtext p)) c__law_text (by decide) rfl (va_cons (de_ixT (xs := [plD p, .int e]) (d := plD p) (ve_var 1 rfl rfl rfl) de_int rfl) va_nil) rfl ⟨p, rfl, gd, (tx hc).1, by omega, by omega, (tx hc).2, rfl⟩) (ve_var 0 rfl rfl rfl) rfl)))))) (fun hk => ?_) (fun hk => ?_)
    · have hn2 : ¬ ((∀ x ∈ bigP p, x ≤ 99) ∧ wtext p = t) := fun z => by
        rw [key.mpr z.1, decide_eq_true z.2] at hk
        cases hk
      rw [if_neg hn2] at hq
      exact s_ret de_none hq
    · have hp2 : (∀ x ∈ bigP p, x ≤ 99) ∧ wtext p = t := by
        rw [Bool.or_eq_false_iff, Bool.or_eq_false_iff, Bool.not_eq_false', decide_eq_true_eq] at hk
        exact ⟨key.mp hk.2.1, hk.2.2⟩
      rw [if_pos hp2] at hq
      exact s_ret (de_ixT (xs := [plD p, .int e]) (d := plD p) (ve_var 1 rfl rfl rfl) de_int rfl) hq
theorem ok__law_told (T : Txt g CL) (F : Df g "_law_told" ["_law_way", "_law_thing"] s__law_told) (c__law_refusal : Callee g "_law_refusal" ["_law_kept"] 1 (sp_refusal g.ea)) (c_written_plan : ∀ f, Callee g "written_plan" ["plan"] (f + 63) (sp_written f g.ea)) (c_read_plan : Callee g "read_plan" ["text"] 65 (sp_read g.ea)) (c_lengths_of : ∀ f, Callee g "lengths_of" ["plan"] (f + 63) (sp_lengths f g.ea)) : Callee g "_law_told" ["_law_way", "_law_thing"] 125 (sp_told70 g.ea) := by
  have c_written_plan := c_written_plan 61
  have c_lengths_of := c_lengths_of 61
  refine callee_ok (vis := [true, true, true, true, true]) F sc__law_told (ci_by (by decide +kernel)) fun ds A Q E hn h => ?_
  obtain ⟨o, ⟨o', ha, rfl⟩, hok, her⟩ := h
  have hq := hok _ rfl
  have nm := ask70_nm ha
  have h1 : ∀ r, o' = .ok r → Q (.d r) A := fun r h => by rw [h] at hq; exact hq
  have h2 : ∀ e, o' = .error e → ∃ s, nmE e = some s ∧ Q (.d (.str s)) A := fun e h => by
    obtain ⟨s, hs⟩ := nm e h
    rw [h] at hq
    refine ⟨s, hs, ?_⟩
    have hq : Q (.d (.str ((nmE e).getD "wrong"))) A := hq
    rw [hs] at hq
    exact hq
  rcases ha with ⟨pl, rfl, k1, k2, k3, rfl⟩ | ⟨t, rfl, k1, rfl⟩ | ⟨pl, rfl, k1, k2, k3, rfl⟩
  · show WSs _ _ _ [some (.d (.int 0)), some (.d (plD pl)), none, none, none] _ _ _
    refine s_set 2 rfl (.inl rfl) (.s (.s .z)) de_none ?_
    refine s_set 3 rfl (.inl rfl) (.s (.s (.s .z))) de_none ?_
    refine s_keep (nm := nmE) 2 3 4 rfl rfl rfl rfl rfl (by decide) rfl T.k_LiarError rfl rfl rfl rfl (by decide) rfl (exm6 T) c__law_refusal (by decide) rfl (by decide) ?_
    refine s_if (c_eqI.dt (ve_var 0 rfl rfl rfl) de_int rfl) (fun hk => ?_) (fun hk => by cases hk)
    refine s_setW 3 rfl (.inl rfl) (we_callR c_written_plan (by decide) rfl (va_cons (ve_var 1 rfl rfl rfl) va_nil) rfl ⟨pl, rfl, k1, k2, k2, k3, rfl⟩ (fun r h => s_nil (s_nil ⟨rfl, .d r, rfl, h1 r h⟩)) (fun e h => ?_))
    obtain ⟨s, hs, q⟩ := h2 e h
    exact ⟨e, s, rfl, hs, q⟩
  · show WSs _ _ _ [some (.d (.int 1)), some (.d (stD t)), none, none, none] _ _ _
    refine s_set 2 rfl (.inl rfl) (.s (.s .z)) de_none ?_
    refine s_set 3 rfl (.inl rfl) (.s (.s (.s .z))) de_none ?_
    refine s_keep (nm := nmE) 2 3 4 rfl rfl rfl rfl rfl (by decide) rfl T.k_LiarError rfl rfl rfl rfl (by decide) rfl (exm6 T) c__law_refusal (by decide) rfl (by decide) ?_
    refine s_if (c_eqI.dt (ve_var 0 rfl rfl rfl) de_int rfl) (fun hk => by cases hk) (fun hk => ?_)
    refine s_setW 3 rfl (.inl rfl) (we_if (c_eqI.dt (ve_var 0 rfl rfl rfl) de_int rfl) (fun hk => we_callR c_read_plan (by decide) rfl (va_cons (ve_var 1 rfl rfl rfl) va_nil) rfl ⟨t, rfl, k1, rfl⟩ (fun r h => s_nil (s_nil ⟨rfl, .d r, rfl, h1 r h⟩)) (fun e h => ?_)) (fun hk => by cases hk))
    obtain ⟨s, hs, q⟩ := h2 e h
    exact ⟨e, s, rfl, hs, q⟩
  · show WSs _ _ _ [some (.d (.int 2)), some (.d (plD pl)), none, none, none] _ _ _
    refine s_set 2 rfl (.inl rfl) (.s (.s .z)) de_none ?_
    refine s_set 3 rfl (.inl rfl) (.s (.s (.s .z))) de_none ?_
    refine s_keep (nm := nmE) 2 3 4 rfl rfl rfl rfl rfl (by decide) rfl T.k_LiarError rfl rfl rfl rfl (by decide) rfl (exm6 T) c__law_refusal (by decide) rfl (by decide) ?_
    refine s_if (c_eqI.dt (ve_var 0 rfl rfl rfl) de_int rfl) (fun hk => by cases hk) (fun hk => ?_)
    refine s_setW 3 rfl (.inl rfl) (we_if (c_eqI.dt (ve_var 0 rfl rfl rfl) de_int rfl) (fun hk => by cases hk) (fun hk => we_callR c_lengths_of (by decide) rfl (va_cons (ve_var 1 rfl rfl rfl) va_nil) rfl ⟨pl, rfl, k1, k2, k2, k3, rfl⟩ (fun r h => s_nil (s_nil ⟨rfl, .d r, rfl, h1 r h⟩)) (fun e h => ?_)))
    obtain ⟨s, hs, q⟩ := h2 e h
    exact ⟨e, s, rfl, hs, q⟩
theorem cut_fromS {α : Type} (xs : List α) (k : Nat) : cutD xs (some (k : Int)) none = xs.drop k := by
  unfold cutD HT.sIx
  simp
  rw [if_neg (by omega)]
  by_cases h : k ≤ xs.length
  · have e : min k xs.length = k := by omega
    rw [e, List.take_of_length_le]
    rw [List.length_drop]; omega
  · have e : min k xs.length = xs.length := by omega
    rw [e, List.drop_length, List.drop_eq_nil_of_le (by omega)]; simp
def stepS (ns : List Int) (s : List Nat) (k : Int) : List Nat := mutS (mixV ns (21 + k)) s
theorem stepS_eq {ns : List Int} {s : List Nat} {k x : Int} (h : mixV ns (21 + k) = x) : stepS ns s k = mutS x s := by unfold stepS; rw [h]
theorem stepS_ok {M : Nat} {ns : List Int} {s : List Nat} {k : Int} (h : mr M 0 s = true) : mr (2 * M + 1) 0 (stepS ns s k) = true ∧ (stepS ns s k).length ≤ s.length + 1 := mut_ok _ h
theorem told70_w {pl : Pl} (h : pl.Good) (hh : pl.ht ≤ 60) : tolE (writtenM pl) = stD (wtext pl) ∧ tolE (lengthsM pl) = lI (endsP pl) := by
  unfold writtenM lengthsM lookPlan
  rw [if_pos (lookPl_of h (by omega))]
  exact ⟨rfl, rfl⟩
theorem ok_law (T : Txt g CL) {f : Addr} {fd : FuncData} (F : Fun g.K "law" "law" s_law f fd) (c__law_mix : Callee g "_law_mix" ["_law_script", "_law_k"] 2 (sp_mix g)) (c__law_counts : Callee g "_law_counts" ["_law_script", "_law_k", "_law_most", "_law_sizes"] 3 (sp_counts g)) (c_least : Callee g "least" ["counts"] 77 (sp_leastW g.ea)) (c_told : Callee g "told" ["counts", "many"] 78 (sp_toldP g.ea)) (c__law_text : ∀ f, Callee g "_law_text" ["_law_plan"] (f + 1) (sp_ltext f g.ea)) (c__law_ends : ∀ f, Callee g "_law_ends" ["_law_plan"] (f + 1) (sp_lends f g.ea)) (c__law_tried : Callee g "_law_tried" ["_law_text_here"] 63 (sp_ltried g.ea)) (c__law_told : Callee g "_law_told" ["_law_way", "_law_thing"] 125 (sp_told70 g.ea)) (c__law_deep : Callee g "_law_deep" ["_law_many"] 1 (sp_ldeepT g.ea)) : FnOk g.P g.w g.K g.mg g.base (L2.CX g.P g.w) 127 f fd ["_law_script"] (toSp 1 (sp_law g.K)) := by
  have c__law_text := c__law_text 61
  have c__law_ends := c__law_ends 61
  refine def_ok (ea := g.ea) (vis := [true, true, true, true, true, true, true, true, true, true, true, false]) F sc_law (ci_by (by decide +kernel)) fun ds A Q E hn h => ?_
  obtain ⟨ns, rfl, hq⟩ := h
  show WSs _ _ _ [some (.f g.K ns), none, none, none, none, none, none, none, none, none, none, none] _ _ _
  have cs := countsV_spec ns 0 6 [1, 2, 3, 2] (by decide) (by simp) (by decide)
  refine s_set 1 rfl (.inl rfl) (.s .z) (de_call c__law_counts (by decide) rfl (va_cons (ve_var 0 rfl rfl rfl) (va_cons de_int (va_cons de_int (va_cons (d_lst (da_cons de_int (da_cons de_int (da_cons de_int (da_cons de_int da_nil))))) va_nil)))) rfl ⟨ns, 0, 6, [1, 2, 3, 2], rfl, by decide, by decide, by simp, by decide, by decide, rfl⟩) ?_
  generalize countsV ns 0 6 [1, 2, 3, 2] = c at cs
  obtain ⟨c1, c2, c3⟩ := cs
  have G : GC 6 c.length c := ⟨rfl, c2, c3, by simp at c1; omega, by simp at c1; omega, by decide⟩
  have n3 := G.n3
  have ls := leastC_spec G
  have lc : (leastC c : Int) ≤ 18 := by
    have : (c.length : Int) * c.sum ≤ 3 * 6 := Int.mul_le_mul (by omega) c3 (sum_nonneg c2) (by decide)
    omega
  have pg := planP_good (leastC c) G (by rw [can_law _ G]; exact ls.1)
  refine s_set (dv := .d (plD (planP (leastC c) c))) 2 rfl (.inl rfl) (.s (.s .z)) (de_ixT (xs := [.str "plan", plD (planP (leastC c) c)]) (DE.eq (de_call (r := .tuple [.str "plan", planW (leastC c) c]) c_told (by decide) rfl (va_cons (ve_var 1 rfl rfl rfl) (va_cons (de_call (r := .int (leastC c)) c_least (by decide) rfl (va_cons (ve_var 1 rfl rfl rfl) va_nil) rfl ⟨c, rfl, by omega, by unfold lookSmall; rw [if_pos G.small]; rfl⟩) va_nil)) rfl ⟨c, leastC c, rfl, G.small, by omega, ls.1, rfl⟩) (by rw [planP_D])) de_int rfl) ?_
  generalize planP (leastC c) c = pl at pg
  obtain ⟨p1, p2, p3⟩ := pg
  have gd0 := (p1.some G.n1).good.1
  obtain ⟨pgd, psz⟩ := does_pg (f := 61) G gd0 (p3 (leastC c) (Int.le_refl _)) (by omega)
  obtain ⟨gd, gok, _, gnum⟩ := pgd.good
  have pht : pl.ht ≤ 18 := by omega
  have p2h : 2 ^ pl.ht ≤ 2 ^ 18 := Nat.pow_le_pow_right (by decide) pht
  have e18 : (2 : Nat) ^ 18 = 262144 := rfl
  have tsz : (wtext pl).length ≤ 3700000 := by omega
  have tszb : (wtext pl).length ≤ BIG := by show _ ≤ 16777216; omega
  have esz : (endsP pl).length ≤ BIG := by have := ends_len pl; show _ ≤ 16777216; omega
  obtain ⟨tw1, tw2⟩ := told70_w gd (by omega)
  have tr : tolE (readM (wtext pl)) = plD pl := by unfold readM; rw [readR_text pgd]; rfl
  refine s_set (dv := .d (stD (wtext pl))) 3 rfl (.inl rfl) (.s (.s (.s .z))) (de_call (r := stD (wtext pl)) c__law_text (by decide) rfl (va_cons (ve_var 2 rfl rfl rfl) va_nil) rfl ⟨pl, rfl, gd, gnum, by omega, by omega, tszb, rfl⟩) ?_
  refine s_ifF (dt_or (c_neSt.dt (DE.eq (de_call (r := tolE (writtenM pl)) c__law_told (by decide) rfl (va_cons de_int (va_cons (ve_var 2 rfl rfl rfl) va_nil)) rfl ⟨_, .inl ⟨pl, rfl, gok, by omega, fun _ => ⟨gnum, tszb⟩, rfl⟩, rfl⟩) tw1) (ve_var 3 rfl rfl rfl) rfl) (fun hc => (dw_or ((c_neR (n := pl.ht + 2) rfl (sh_pl gd) (by omega)).dt (DE.eq (de_call (r := tolE (readM (wtext pl))) c__law_told (by decide) rfl (va_cons de_int (va_cons (ve_var 3 rfl rfl rfl) va_nil)) rfl ⟨_, .inr (.inl ⟨wtext pl, rfl, tszb, rfl⟩), rfl⟩) tr) (ve_var 2 rfl rfl rfl) rfl) (fun hc => (dw_or1 (c_neLI.dt (DE.eq (de_call (r := tolE (lengthsM pl)) c__law_told (by decide) rfl (va_cons de_int (va_cons (ve_var 2 rfl rfl rfl) va_nil)) rfl ⟨_, .inr (.inr ⟨pl, rfl, gok, by omega, esz, rfl⟩), rfl⟩) tw2) (de_call (r := lI (endsP pl)) c__law_ends (by decide) rfl (va_cons (ve_var 2 rfl rfl rfl) va_nil) rfl ⟨pl, rfl, gd, by omega, by omega, esz, rfl⟩) rfl)))))) (by simp) ?_
  have m0 : mr 2 0 (wtext pl) = true := by
    have := mr_text 61 (k := 0) (r := []) pgd
    rw [List.append_nil] at this
    rw [this]; rfl
  have a20 := mix_lt ns 20 (n := 2) (by decide)
  have a20' : 0 ≤ mixV ns 20 % 2 ∧ mixV ns 20 % 2 ≤ 1 := by omega
  generalize hjj : mixV ns 20 % 2 = jj at a20'
  refine s_forR (fun s : List Nat => [some (.f g.K ns), some (.d (tI c)), some (.d (plD pl)), some (.d (stD s)), none, none, none, none, none, none, none, none]) (fun s => A) (stepS ns) (fun i s => mr (3 * 2 ^ i - 1) 0 s = true ∧ s.length ≤ 3700000 + i) (wtext pl) rfl T.range (DE.eq (d' := .int (1 + jj)) (de_add de_int (de_mod (de_call c__law_mix (by decide) rfl (va_cons (ve_var 0 rfl rfl rfl) (va_cons de_int va_nil)) rfl ⟨ns, _, rfl, rfl⟩) de_int (by omega))) (by rw [hjj])) (by omega) (by omega) (by walk_at "less") rfl ⟨m0, tsz⟩ (fun i s hi hJ hs => ⟨?_, _, td_name 4 rfl (.inl rfl) (.s (.s (.s (.s .z)))), ?_⟩) (fun hJ => ?_)
  · obtain ⟨j1, j2⟩ := hJ
    have := stepS_ok (ns := ns) (k := (i : Int)) j1
    have e : 2 * (3 * 2 ^ i - 1) + 1 = 3 * 2 ^ (i + 1) - 1 := by
      have : 0 < 2 ^ i := Nat.pow_pos (by decide)
      rw [Nat.pow_succ]; omega
    rw [e] at this
    exact ⟨this.1, by have := this.2; omega⟩
  · obtain ⟨j1, j2⟩ := hJ
    have i2 : i < 2 := by omega
    have sb : s.length ≤ 16777216 := by omega
    generalize hx : mixV ns (21 + (i : Int)) = x
    refine s_set (dv := .d (.int x)) 5 rfl (.inl rfl) (.s (.s (.s (.s (.s .z))))) (DE.eq (de_call (r := .int (mixV ns (21 + (i : Int)))) c__law_mix (by decide) rfl (va_cons (ve_var 0 rfl rfl rfl) (va_cons (de_add de_int (ve_var 4 rfl rfl rfl)) va_nil)) rfl ⟨ns, _, rfl, rfl⟩) (by rw [hx])) ?_
    have ea : ((atS x s : Nat) : Int) = x / 8 % ((s.length : Int) + 1) := by
      unfold atS
      have := Int.emod_nonneg (x / 8) (show ((s.length : Int) + 1) ≠ 0 by omega)
      omega
    refine s_set (dv := .d (.int ((atS x s : Nat) : Int))) 6 rfl (.inl rfl) (.s (.s (.s (.s (.s (.s .z)))))) (DE.eq (de_mod (de_fdiv (ve_var 5 rfl rfl rfl) de_int (by walk_at "div")) (de_add (de_lenSt (ve_var 3 rfl rfl rfl) sb rfl T.len) de_int) (by omega)) (by rw [ea])) ?_
    refine s_set (dv := .d (stD [nth oneS (x / 4096 % 9)])) 7 rfl (.inl rfl) (.s (.s (.s (.s (.s (.s (.s .z))))))) (de_ixSt (x := oneS) (DE.eq (d' := stD oneS) de_str rfl) (de_mod (de_fdiv (ve_var 5 rfl rfl rfl) de_int (by walk_at "div")) de_int (by omega)) (by decide) (by omega) (by show x / 4096 % 9 < 9; omega)) ?_
    have l1 : (s.take (atS x s)).length ≤ s.length := by rw [List.length_take]; omega
    have l2 : (s.drop (atS x s)).length ≤ s.length := by rw [List.length_drop]; omega
    have l3 : (s.drop (atS x s + 1)).length ≤ s.length := by rw [List.length_drop]; omega
    have dc : ((atS x s : Nat) : Int) + 1 = ((atS x s + 1 : Nat) : Int) := by omega
    refine s_set (dv := .d (.list ((someS x s).map stD))) 8 rfl (.inl rfl) (.s (.s (.s (.s (.s (.s (.s (.s .z)))))))) (d_lst (ds := [stD (s.take (atS x s) ++ [nth oneS (x / 4096 % 9)] ++ s.drop (atS x s)), stD (s.take (atS x s) ++ [nth oneS (x / 4096 % 9)] ++ s.drop (atS x s + 1)), stD (s.take (atS x s) ++ s.drop (atS x s + 1))]) (da_cons (de_addSt (de_addSt (DE.eq (d' := stD (s.take (atS x s))) (de_sliceS (ve_var 3 rfl rfl rfl) vo_none (vo_some (ve_var 6 rfl rfl rfl)) sb) (by rw [cut_till])) (ve_var 7 rfl rfl rfl) (by rw [List.length_singleton]; omega)) (DE.eq (d' := stD (s.drop (atS x s))) (de_sliceS (ve_var 3 rfl rfl rfl) (vo_some (ve_var 6 rfl rfl rfl)) vo_none sb) (by rw [cut_fromS])) (by rw [List.length_append, List.length_singleton]; omega)) (da_cons (de_addSt (de_addSt (DE.eq (d' := stD (s.take (atS x s))) (de_sliceS (ve_var 3 rfl rfl rfl) vo_none (vo_some (ve_var 6 rfl rfl rfl)) sb) (by rw [cut_till])) (ve_var 7 rfl rfl rfl) (by rw [List.length_singleton]; omega)) (DE.eq (d' := stD (s.drop (atS x s + 1))) (de_sliceS (ve_var 3 rfl rfl rfl) (vo_some (de_add (ve_var 6 rfl rfl rfl) de_int)) vo_none sb) (by rw [dc, cut_fromS])) (by rw [List.length_append, List.length_singleton]; omega)) (da_cons (de_addSt (DE.eq (d' := stD (s.take (atS x s))) (de_sliceS (ve_var 3 rfl rfl rfl) vo_none (vo_some (ve_var 6 rfl rfl rfl)) sb) (by rw [cut_till])) (DE.eq (d' := stD (s.drop (atS x s + 1))) (de_sliceS (ve_var 3 rfl rfl rfl) (vo_some (de_add (ve_var 6 rfl rfl rfl) de_int)) vo_none sb) (by rw [dc, cut_fromS])) (by omega)) da_nil)))) ?_
    refine s_set (dv := .d (stD (mutS x s))) 3 rfl (.inl rfl) (.s (.s (.s .z))) (de_ixLn (xs := someS x s) (f := stD) (ve_var 8 rfl rfl rfl) (.d _) (de_mod (ve_var 5 rfl rfl rfl) de_int (by omega)) (by omega) (by show x % 3 < 3; omega)) ?_
    refine s_nil ⟨?_, rfl⟩
    rw [stepS_eq hx]
    exact (by walk_at "less")
  generalize (rng 0 (1 + jj).toNat).foldl (stepS ns) (wtext pl) = t at hJ
  obtain ⟨k1, k2⟩ := hJ
  have nj : (1 + jj).toNat ≤ 2 := by omega
  have k3 : mr 640 0 t = true := mr_le (by
    have : 2 ^ (1 + jj).toNat ≤ 2 ^ 2 := Nat.pow_le_pow_right (by decide) nj
    have e : (2 : Nat) ^ 2 = 4 := rfl
    omega) t (Nat.le_refl _) k1
  have k4 : t.length ≤ 4000000 := by omega
  have k5 : t.length ≤ BIG := by show t.length ≤ 16777216; omega
  refine s_set (dv := .d (triD (readR t))) 9 rfl (.inl rfl) (.s (.s (.s (.s (.s (.s (.s (.s (.s .z))))))))) (de_call (r := triD (readR t)) c__law_tried (by decide) rfl (va_cons (ve_var 3 rfl rfl rfl) va_nil) rfl ⟨t, rfl, k4, k3, rfl⟩) ?_
  refine wss_cut (fun Γ' A' => A' = A ∧ Γ' = [some (.f g.K ns), some (.d (tI c)), some (.d (plD pl)), some (.d (stD t)), none, none, none, none, none, some (.d (triD (readR t))), none, none]) ?_ fun Γ' A' hP => ?_
  · cases er : readR t with
    | none =>
      have e1 : tolE (readM t) = .str "text" := by unfold readM; rw [er]; rfl
      exact ws_if (c_neS.dt (DE.eq (de_call (r := tolE (readM t)) c__law_told (by decide) rfl (va_cons de_int (va_cons (ve_var 3 rfl rfl rfl) va_nil)) rfl ⟨_, .inr (.inl ⟨t, rfl, k5, rfl⟩), rfl⟩) e1) (DE.eq (d' := .str "text") (de_if (d1 := .str "text") (d2 := .none) ((c_is (dv := .d .none)).dt (ve_var 9 rfl rfl rfl) de_none rfl) (fun hc => de_str) (fun hc => by cases hc)) rfl) rfl) (fun hk => by simp at hk) (fun hk => wss_nil ⟨rfl, rfl⟩)
    | some p =>
      have pp := (readR_sound er).2.good
      have e1 : tolE (readM t) = plD p := by unfold readM; rw [er]; rfl
      have nn := none_pl (pl := p)
      exact ws_if ((c_neR (n := p.ht + 2) rfl (sh_pl pp.1) (by have := pp.2.2.1; omega)).dt (DE.eq (de_call (r := tolE (readM t)) c__law_told (by decide) rfl (va_cons de_int (va_cons (ve_var 3 rfl rfl rfl) va_nil)) rfl ⟨_, .inr (.inl ⟨t, rfl, k5, rfl⟩), rfl⟩) e1) (DE.eq (d' := plD p) (de_if (d1 := plD p) (d2 := plD p) ((c_is (dv := .d (plD p))).dt (ve_var 9 rfl rfl rfl) de_none rfl) (fun hc => by rw [nn] at hc; cases hc) (fun hc => (ve_var 9 rfl rfl rfl))) (by split <;> rfl)) rfl) (fun hk => by cases hk) (fun hk => wss_nil ⟨rfl, rfl⟩)
  obtain ⟨rfl, rfl⟩ := hP
  obtain ⟨d1, d2, d3⟩ := deepT_pg 60 61 (by decide)
  obtain ⟨f1, f2, f3⟩ := deepT_pg 61 62 (by decide)
  obtain ⟨g1, g2, g3, g4⟩ := d1.good
  obtain ⟨h1, h2, h3, h4⟩ := f1.good
  obtain ⟨d6, hd6⟩ : ∃ d6, d6 = deepT 60 := ⟨_, rfl⟩
  obtain ⟨d7, hd7⟩ : ∃ d7, d7 = deepT 61 := ⟨_, rfl⟩
  have r6 : tolE (readM (wtext d6)) = plD d6 := by unfold readM; rw [hd6, readR_text d1]; rfl
  have r7 : tolE (readM (wtext d7)) = .str "text" := by unfold readM; rw [hd7, deep61]; rfl
  rw [← hd6] at d1 d2 d3 g1 g2 g3 g4
  rw [← hd7] at f1 f2 f3 h1 h2 h3 h4
  have z6 : (wtext d6).length ≤ BIG := by show _ ≤ 16777216; omega
  have z7 : (wtext d7).length ≤ BIG := by show _ ≤ 16777216; omega
  refine s_set (dv := .d (plD d6)) 10 rfl (.inl rfl) (.s (.s (.s (.s (.s (.s (.s (.s (.s (.s .z)))))))))) (de_call (r := plD d6) c__law_deep (by decide) rfl (va_cons de_int va_nil) rfl ⟨60, rfl, by decide, by rw [hd6]⟩) ?_
  refine s_ifF (dt_or ((c_neR (n := d6.ht + 2) rfl (sh_pl g1) (by omega)).dt (DE.eq (de_call (r := tolE (readM (wtext d6))) c__law_told (by decide) rfl (va_cons de_int (va_cons (de_call (r := stD (wtext d6)) c__law_text (by decide) rfl (va_cons (ve_var 10 rfl rfl rfl) va_nil) rfl ⟨d6, rfl, g1, g4, by omega, by omega, z6, rfl⟩) va_nil)) rfl ⟨_, .inr (.inl ⟨wtext d6, rfl, z6, rfl⟩), rfl⟩) r6) (ve_var 10 rfl rfl rfl) rfl) (fun hc => (dw_or1 (c_neS.dt (DE.eq (de_call (r := tolE (readM (wtext d7))) c__law_told (by decide) rfl (va_cons de_int (va_cons (de_call (r := stD (wtext d7)) c__law_text (by decide) rfl (va_cons (de_call (r := plD d7) c__law_deep (by decide) rfl (va_cons de_int va_nil) rfl ⟨61, rfl, by decide, by rw [hd7]⟩) va_nil) rfl ⟨d7, rfl, h1, h4, by omega, by omega, z7, rfl⟩) va_nil)) rfl ⟨_, .inr (.inl ⟨wtext d7, rfl, z7, rfl⟩), rfl⟩) r7) de_str rfl)))) (by simp) ?_
  have shp : Sh 1 (PyData.list [.str "plan", .str "plan"]) := .list (n := 0) (.cons (.str (by decide +kernel)) (.cons (.str (by decide +kernel)) .nil))
  have oko : (Pl.odd [tI [0]]).Ok := by show (1 : Nat) ≠ 0 ∧ (1 : Nat) ≠ 3; decide
  refine s_ret ((c_eqR (n := 1) (x := .list [.str "plan", .str "plan"]) (y := .list [.str "plan", .str "plan"]) rfl shp (by decide)).ve (DE.eq (d_lcD (zs := [(0 : Int), 2]) (f := PyData.int) (h := fun _ => PyData.str "plan") [("_law_way", 11)] [false, false, false, false, false, false, false, false, false, false, false, true] (blkOk_by (by decide +kernel)) (ci_by (by decide +kernel)) (it_tup (d_tup (ds := [.int 0, .int 2]) (da_cons de_int (da_cons de_int da_nil)))) rfl (fun z hz => tb_nameG 11 (by decide) rfl (.inl rfl) (.s (.s (.s (.s (.s (.s (.s (.s (.s (.s (.s .z)))))))))))) (fun z hz => by
    rcases List.mem_cons.mp hz with rfl | hz
    · exact DE.eq (de_call (r := tolE (writtenM (.odd [tI [0]]))) c__law_told (by decide) rfl (va_cons (ve_var 11 rfl rfl rfl) (va_cons (d_tup (ds := [tI [0]]) (da_cons (d_tup (ds := [.int 0]) (da_cons de_int da_nil)) da_nil)) va_nil)) rfl ⟨_, .inl ⟨.odd [tI [0]], rfl, oko, by show 0 ≤ 61; decide, fun h => h.elim, rfl⟩, rfl⟩) rfl
    · rcases List.mem_cons.mp hz with rfl | hz
      · exact DE.eq (de_call (r := tolE (lengthsM (.odd [tI [0]]))) c__law_told (by decide) rfl (va_cons (ve_var 11 rfl rfl rfl) (va_cons (d_tup (ds := [tI [0]]) (da_cons (d_tup (ds := [.int 0]) (da_cons de_int da_nil)) da_nil)) va_nil)) rfl ⟨_, .inr (.inr ⟨.odd [tI [0]], rfl, oko, by show 0 ≤ 61; decide, by show 0 ≤ 16777216; decide, rfl⟩), rfl⟩) rfl
      · exact (List.not_mem_nil hz).elim) (by decide)) rfl) (DE.eq (de_repL (xs := [.str "plan"]) (d_lst (da_cons de_str da_nil)) (.d _) de_int (by omega) (by omega) (by rw [sizeLine_eq]; decide)) rfl) rfl) hq
end
end LB

namespace LB
open PySem PySem.Spec PyProof.Rows L2
theorem exm_own {K : PySem.W.Frag} {S C : Addr} (h1 : PySem.W.subIn K (.ref S) (.type "BaseException") = some true) (h2 : PySem.W.isClsIn K S = true) (h3 : PySem.W.typeIn K (.ref S) = some (.type "type")) (h4 : PySem.W.subIn K (.ref C) (.ref S) = some true) : PySem.W.exmOne K (.ref C) (.ref S) = some true := by
  have e1 : (PySem.W.subIn K (.ref S) (.type "BaseException") == some true) = true := by rw [h1] <;> rfl
  have e2 : ((PySem.W.clsIn K S).isSome && PySem.W.typeIn K (.ref S) == some (.type "type")) = true := by
    have h2' : (PySem.W.clsIn K S).isSome = true := h2
    rw [h2', h3] <;> rfl
  show (if (PySem.W.subIn K (.ref S) (.type "BaseException") == some true) = true then (if ((PySem.W.clsIn K S).isSome && PySem.W.typeIn K (.ref S) == some (.type "type")) = true then PySem.W.subIn K (.ref C) (.ref S) else none) else none) = some true
  rw [if_pos e1, if_pos e2]
  exact h4
def eaOf (C_BadGame C_BadCounts C_BadQuestion C_Liar C_BadPlan C_BadText : Addr) : Err → Addr := fun e => match e with | .game => C_BadGame | .counts => C_BadCounts | .question => C_BadQuestion | .liar => C_Liar | .plan => C_BadPlan | .text => C_BadText | _ => C_BadGame
theorem all_mk {P : Program} {w : World} {K : PySem.W.Frag} {h : Heap} {mg : Str → Option Value} {fa : Addr} (X : K.In h) (G : h.Ns mainGlobals mg) (hfa : mg "law" = some (.ref fa))
    {C_Worker C_Signs : Addr}
    {f0 : Addr} {od0 an0 : Option Addr} {sl0 : Array (Option Value)} {oc0 kV0 dc0 pm0 cd0 ct0 : Value}
    {f1 : Addr} {od1 an1 : Option Addr} {sl1 : Array (Option Value)} {oc1 kV1 dc1 pm1 cd1 ct1 : Value}
    {f2 : Addr} {od2 an2 : Option Addr} {sl2 : Array (Option Value)} {oc2 kV2 dc2 pm2 cd2 ct2 : Value}
    {f3 : Addr} {od3 an3 : Option Addr} {sl3 : Array (Option Value)} {oc3 kV3 dc3 pm3 cd3 ct3 : Value}
    {f4 : Addr} {od4 an4 : Option Addr} {sl4 : Array (Option Value)} {oc4 kV4 dc4 pm4 cd4 ct4 : Value}
    {f5 : Addr} {od5 an5 : Option Addr} {sl5 : Array (Option Value)} {oc5 kV5 dc5 pm5 cd5 ct5 : Value}
    {f6 : Addr} {od6 an6 : Option Addr} {sl6 : Array (Option Value)} {oc6 kV6 dc6 pm6 cd6 ct6 : Value}
    {f7 : Addr} {od7 an7 : Option Addr} {sl7 : Array (Option Value)} {oc7 kV7 dc7 pm7 cd7 ct7 : Value}
    {f8 : Addr} {od8 an8 : Option Addr} {sl8 : Array (Option Value)} {oc8 kV8 dc8 pm8 cd8 ct8 : Value}
    {f9 : Addr} {od9 an9 : Option Addr} {sl9 : Array (Option Value)} {oc9 kV9 dc9 pm9 cd9 ct9 : Value}
    {f10 : Addr} {od10 an10 : Option Addr} {sl10 : Array (Option Value)} {oc10 kV10 dc10 pm10 cd10 ct10 : Value}
    {f11 : Addr} {od11 an11 : Option Addr} {sl11 : Array (Option Value)} {oc11 kV11 dc11 pm11 cd11 ct11 : Value}
    {f12 : Addr} {od12 an12 : Option Addr} {sl12 : Array (Option Value)} {oc12 kV12 dc12 pm12 cd12 ct12 : Value}
    {f13 : Addr} {od13 an13 : Option Addr} {sl13 : Array (Option Value)} {oc13 kV13 dc13 pm13 cd13 ct13 : Value}
    {f14 : Addr} {od14 an14 : Option Addr} {sl14 : Array (Option Value)} {oc14 kV14 dc14 pm14 cd14 ct14 : Value}
    {f15 : Addr} {od15 an15 : Option Addr} {sl15 : Array (Option Value)} {oc15 kV15 dc15 pm15 cd15 ct15 : Value}
    {f16 : Addr} {od16 an16 : Option Addr} {sl16 : Array (Option Value)} {oc16 kV16 dc16 pm16 cd16 ct16 : Value}
    {f17 : Addr} {od17 an17 : Option Addr} {sl17 : Array (Option Value)} {oc17 kV17 dc17 pm17 cd17 ct17 : Value}
    {f18 : Addr} {od18 an18 : Option Addr} {sl18 : Array (Option Value)} {oc18 kV18 dc18 pm18 cd18 ct18 : Value}
    {f19 : Addr} {od19 an19 : Option Addr} {sl19 : Array (Option Value)} {oc19 kV19 dc19 pm19 cd19 ct19 : Value}
    {f20 : Addr} {od20 an20 : Option Addr} {sl20 : Array (Option Value)} {oc20 kV20 dc20 pm20 cd20 ct20 : Value}
    {f21 : Addr} {od21 an21 : Option Addr} {sl21 : Array (Option Value)} {oc21 kV21 dc21 pm21 cd21 ct21 : Value}
    {f22 : Addr} {od22 an22 : Option Addr} {sl22 : Array (Option Value)} {oc22 kV22 dc22 pm22 cd22 ct22 : Value}
    {f23 : Addr} {od23 an23 : Option Addr} {sl23 : Array (Option Value)} {oc23 kV23 dc23 pm23 cd23 ct23 : Value}
    {f24 : Addr} {od24 an24 : Option Addr} {sl24 : Array (Option Value)} {oc24 kV24 dc24 pm24 cd24 ct24 : Value}
    {f25 : Addr} {od25 an25 : Option Addr} {sl25 : Array (Option Value)} {oc25 kV25 dc25 pm25 cd25 ct25 : Value}
    {f26 : Addr} {od26 an26 : Option Addr} {sl26 : Array (Option Value)} {oc26 kV26 dc26 pm26 cd26 ct26 : Value}
    {f27 : Addr} {od27 an27 : Option Addr} {sl27 : Array (Option Value)} {oc27 kV27 dc27 pm27 cd27 ct27 : Value}
    {f28 : Addr} {od28 an28 : Option Addr} {sl28 : Array (Option Value)} {oc28 kV28 dc28 pm28 cd28 ct28 : Value}
    {f29 : Addr} {od29 an29 : Option Addr} {sl29 : Array (Option Value)} {oc29 kV29 dc29 pm29 cd29 ct29 : Value}
    {f30 : Addr} {od30 an30 : Option Addr} {sl30 : Array (Option Value)} {oc30 kV30 dc30 pm30 cd30 ct30 : Value}
    {f31 : Addr} {od31 an31 : Option Addr} {sl31 : Array (Option Value)} {oc31 kV31 dc31 pm31 cd31 ct31 : Value}
    {f32 : Addr} {od32 an32 : Option Addr} {sl32 : Array (Option Value)} {oc32 kV32 dc32 pm32 cd32 ct32 : Value}
    {f33 : Addr} {od33 an33 : Option Addr} {sl33 : Array (Option Value)} {oc33 kV33 dc33 pm33 cd33 ct33 : Value}
    {f34 : Addr} {od34 an34 : Option Addr} {sl34 : Array (Option Value)} {oc34 kV34 dc34 pm34 cd34 ct34 : Value}
    {f35 : Addr} {od35 an35 : Option Addr} {sl35 : Array (Option Value)} {oc35 kV35 dc35 pm35 cd35 ct35 : Value}
    {f36 : Addr} {od36 an36 : Option Addr} {sl36 : Array (Option Value)} {oc36 kV36 dc36 pm36 cd36 ct36 : Value}
    {f37 : Addr} {od37 an37 : Option Addr} {sl37 : Array (Option Value)} {oc37 kV37 dc37 pm37 cd37 ct37 : Value}
    {C_LiarError C_BadGame C_BadCounts C_BadQuestion C_Liar C_BadPlan C_BadText : Addr}
    {t_MOST_COUNT : Tok}
    {t_MOST_QUESTIONS : Tok}
    {t_MOST_THINGS : Tok}
    {t_MOST_DEEP : Tok}
    {t_FIGURES : Tok}
    (q_Worker : PySem.W.nsIn K mainGlobals "Worker" = some (some (.ref C_Worker)))
    (pg_Worker : PySem.W.plainGet K C_Worker Str.empty = true)
    (hd_Worker : PySem.W.hasDictIn K C_Worker = true)
    (po_Worker : PySem.W.plainOver K C_Worker = true)
    (sa_Worker : PySem.W.findIn K (.ref C_Worker) "__setattr__" = some (some (.builtin "object.__setattr__")))
    (mk_Worker : PySem.W.makesIn K C_Worker = true)
    (kc_Worker : PySem.W.keepIn K (.ref C_Worker) = true)
    (na_Worker_known : PySem.W.findIn K (.ref C_Worker) "known" = some none)
    (q_Signs : PySem.W.nsIn K mainGlobals "Signs" = some (some (.ref C_Signs)))
    (pg_Signs : PySem.W.plainGet K C_Signs Str.empty = true)
    (hd_Signs : PySem.W.hasDictIn K C_Signs = true)
    (po_Signs : PySem.W.plainOver K C_Signs = true)
    (sa_Signs : PySem.W.findIn K (.ref C_Signs) "__setattr__" = some (some (.builtin "object.__setattr__")))
    (mk_Signs : PySem.W.makesIn K C_Signs = true)
    (kc_Signs : PySem.W.keepIn K (.ref C_Signs) = true)
    (na_Signs_text : PySem.W.findIn K (.ref C_Signs) "text" = some none)
    (na_Signs_spot : PySem.W.findIn K (.ref C_Signs) "spot" = some none)
    (a0 : PySem.W.nsIn K mainGlobals "look_counts" = some (some (.ref f0)))
    (l0 : K.lookup f0 = some ⟨oc0, od0, .func (PySem.W.fnOf "look_counts" "look_counts" (defArgs s_look_counts) (defBody s_look_counts) (defScope s_look_counts) .none kV0 dc0 pm0 an0 cd0 ct0), sl0⟩)
    (c0 : PySem.W.codeIn K cd0 "look_counts" = true)
    (k0 : PySem.W.keepIn K (.ref f0) = true)
    (a1 : PySem.W.nsIn K mainGlobals "look_questions" = some (some (.ref f1)))
    (l1 : K.lookup f1 = some ⟨oc1, od1, .func (PySem.W.fnOf "look_questions" "look_questions" (defArgs s_look_questions) (defBody s_look_questions) (defScope s_look_questions) .none kV1 dc1 pm1 an1 cd1 ct1), sl1⟩)
    (c1 : PySem.W.codeIn K cd1 "look_questions" = true)
    (k1 : PySem.W.keepIn K (.ref f1) = true)
    (a2 : PySem.W.nsIn K mainGlobals "choices" = some (some (.ref f2)))
    (l2 : K.lookup f2 = some ⟨oc2, od2, .func (PySem.W.fnOf "choices" "choices" (defArgs s_choices) (defBody s_choices) (defScope s_choices) .none kV2 dc2 pm2 an2 cd2 ct2), sl2⟩)
    (c2 : PySem.W.codeIn K cd2 "choices" = true)
    (k2 : PySem.W.keepIn K (.ref f2) = true)
    (a3 : PySem.W.nsIn K mainGlobals "weight" = some (some (.ref f3)))
    (l3 : K.lookup f3 = some ⟨oc3, od3, .func (PySem.W.fnOf "weight" "weight" (defArgs s_weight) (defBody s_weight) (defScope s_weight) .none kV3 dc3 pm3 an3 cd3 ct3), sl3⟩)
    (c3 : PySem.W.codeIn K cd3 "weight" = true)
    (k3 : PySem.W.keepIn K (.ref f3) = true)
    (a4 : PySem.W.nsIn K mainGlobals "two_to" = some (some (.ref f4)))
    (l4 : K.lookup f4 = some ⟨oc4, od4, .func (PySem.W.fnOf "two_to" "two_to" (defArgs s_two_to) (defBody s_two_to) (defScope s_two_to) .none kV4 dc4 pm4 an4 cd4 ct4), sl4⟩)
    (c4 : PySem.W.codeIn K cd4 "two_to" = true)
    (k4 : PySem.W.keepIn K (.ref f4) = true)
    (a5 : PySem.W.nsIn K mainGlobals "behind" = some (some (.ref f5)))
    (l5 : K.lookup f5 = some ⟨oc5, od5, .func (PySem.W.fnOf "behind" "behind" (defArgs s_behind) (defBody s_behind) (defScope s_behind) .none kV5 dc5 pm5 an5 cd5 ct5), sl5⟩)
    (c5 : PySem.W.codeIn K cd5 "behind" = true)
    (k5 : PySem.W.keepIn K (.ref f5) = true)
    (a6 : PySem.W.nsIn K mainGlobals "bound" = some (some (.ref f6)))
    (l6 : K.lookup f6 = some ⟨oc6, od6, .func (PySem.W.fnOf "bound" "bound" (defArgs s_bound) (defBody s_bound) (defScope s_bound) .none kV6 dc6 pm6 an6 cd6 ct6), sl6⟩)
    (c6 : PySem.W.codeIn K cd6 "bound" = true)
    (k6 : PySem.W.keepIn K (.ref f6) = true)
    (a7 : PySem.W.nsIn K mainGlobals "look_small" = some (some (.ref f7)))
    (l7 : K.lookup f7 = some ⟨oc7, od7, .func (PySem.W.fnOf "look_small" "look_small" (defArgs s_look_small) (defBody s_look_small) (defScope s_look_small) .none kV7 dc7 pm7 an7 cd7 ct7), sl7⟩)
    (c7 : PySem.W.codeIn K cd7 "look_small" = true)
    (k7 : PySem.W.keepIn K (.ref f7) = true)
    (a8 : PySem.W.nsIn K mainGlobals "unevenness" = some (some (.ref f8)))
    (l8 : K.lookup f8 = some ⟨oc8, od8, .func (PySem.W.fnOf "unevenness" "unevenness" (defArgs s_unevenness) (defBody s_unevenness) (defScope s_unevenness) .none kV8 dc8 pm8 an8 cd8 ct8), sl8⟩)
    (c8 : PySem.W.codeIn K cd8 "unevenness" = true)
    (k8 : PySem.W.keepIn K (.ref f8) = true)
    (a9 : PySem.W.nsIn K mainGlobals "parts" = some (some (.ref f9)))
    (l9 : K.lookup f9 = some ⟨oc9, od9, .func (PySem.W.fnOf "parts" "parts" (defArgs s_parts) (defBody s_parts) (defScope s_parts) .none kV9 dc9 pm9 an9 cd9 ct9), sl9⟩)
    (c9 : PySem.W.codeIn K cd9 "parts" = true)
    (k9 : PySem.W.keepIn K (.ref f9) = true)
    (a10 : PySem.W.findIn K (.ref C_Worker) "__init__" = some (some (.ref f10)))
    (i10 : PySem.W.isFn K (.ref f10) = true)
    (l10 : K.lookup f10 = some ⟨oc10, od10, .func (PySem.W.fnOf "__init__" "Worker.__init__" (defArgs s_Worker___init__) (defBody s_Worker___init__) (defScope s_Worker___init__) .none kV10 dc10 pm10 an10 cd10 ct10), sl10⟩)
    (c10 : PySem.W.codeIn K cd10 "Worker.__init__" = true)
    (k10 : PySem.W.keepIn K (.ref f10) = true)
    (a11 : PySem.W.findIn K (.ref C_Worker) "found" = some (some (.ref f11)))
    (i11 : PySem.W.isFn K (.ref f11) = true)
    (l11 : K.lookup f11 = some ⟨oc11, od11, .func (PySem.W.fnOf "found" "Worker.found" (defArgs s_Worker_found) (defBody s_Worker_found) (defScope s_Worker_found) .none kV11 dc11 pm11 an11 cd11 ct11), sl11⟩)
    (c11 : PySem.W.codeIn K cd11 "Worker.found" = true)
    (k11 : PySem.W.keepIn K (.ref f11) = true)
    (a12 : PySem.W.findIn K (.ref C_Worker) "can" = some (some (.ref f12)))
    (i12 : PySem.W.isFn K (.ref f12) = true)
    (l12 : K.lookup f12 = some ⟨oc12, od12, .func (PySem.W.fnOf "can" "Worker.can" (defArgs s_Worker_can) (defBody s_Worker_can) (defScope s_Worker_can) .none kV12 dc12 pm12 an12 cd12 ct12), sl12⟩)
    (c12 : PySem.W.codeIn K cd12 "Worker.can" = true)
    (k12 : PySem.W.keepIn K (.ref f12) = true)
    (a13 : PySem.W.findIn K (.ref C_Worker) "plan" = some (some (.ref f13)))
    (i13 : PySem.W.isFn K (.ref f13) = true)
    (l13 : K.lookup f13 = some ⟨oc13, od13, .func (PySem.W.fnOf "plan" "Worker.plan" (defArgs s_Worker_plan) (defBody s_Worker_plan) (defScope s_Worker_plan) .none kV13 dc13 pm13 an13 cd13 ct13), sl13⟩)
    (c13 : PySem.W.codeIn K cd13 "Worker.plan" = true)
    (k13 : PySem.W.keepIn K (.ref f13) = true)
    (a14 : PySem.W.nsIn K mainGlobals "least" = some (some (.ref f14)))
    (l14 : K.lookup f14 = some ⟨oc14, od14, .func (PySem.W.fnOf "least" "least" (defArgs s_least) (defBody s_least) (defScope s_least) .none kV14 dc14 pm14 an14 cd14 ct14), sl14⟩)
    (c14 : PySem.W.codeIn K cd14 "least" = true)
    (k14 : PySem.W.keepIn K (.ref f14) = true)
    (a15 : PySem.W.nsIn K mainGlobals "told" = some (some (.ref f15)))
    (l15 : K.lookup f15 = some ⟨oc15, od15, .func (PySem.W.fnOf "told" "told" (defArgs s_told) (defBody s_told) (defScope s_told) .none kV15 dc15 pm15 an15 cd15 ct15), sl15⟩)
    (c15 : PySem.W.codeIn K cd15 "told" = true)
    (k15 : PySem.W.keepIn K (.ref f15) = true)
    (a16 : PySem.W.nsIn K mainGlobals "look_plan" = some (some (.ref f16)))
    (l16 : K.lookup f16 = some ⟨oc16, od16, .func (PySem.W.fnOf "look_plan" "look_plan" (defArgs s_look_plan) (defBody s_look_plan) (defScope s_look_plan) .none kV16 dc16 pm16 an16 cd16 ct16), sl16⟩)
    (c16 : PySem.W.codeIn K cd16 "look_plan" = true)
    (k16 : PySem.W.keepIn K (.ref f16) = true)
    (a17 : PySem.W.nsIn K mainGlobals "written_plan" = some (some (.ref f17)))
    (l17 : K.lookup f17 = some ⟨oc17, od17, .func (PySem.W.fnOf "written_plan" "written_plan" (defArgs s_written_plan) (defBody s_written_plan) (defScope s_written_plan) .none kV17 dc17 pm17 an17 cd17 ct17), sl17⟩)
    (c17 : PySem.W.codeIn K cd17 "written_plan" = true)
    (k17 : PySem.W.keepIn K (.ref f17) = true)
    (a18 : PySem.W.findIn K (.ref C_Signs) "__init__" = some (some (.ref f18)))
    (i18 : PySem.W.isFn K (.ref f18) = true)
    (l18 : K.lookup f18 = some ⟨oc18, od18, .func (PySem.W.fnOf "__init__" "Signs.__init__" (defArgs s_Signs___init__) (defBody s_Signs___init__) (defScope s_Signs___init__) .none kV18 dc18 pm18 an18 cd18 ct18), sl18⟩)
    (c18 : PySem.W.codeIn K cd18 "Signs.__init__" = true)
    (k18 : PySem.W.keepIn K (.ref f18) = true)
    (a19 : PySem.W.findIn K (.ref C_Signs) "is_next" = some (some (.ref f19)))
    (i19 : PySem.W.isFn K (.ref f19) = true)
    (l19 : K.lookup f19 = some ⟨oc19, od19, .func (PySem.W.fnOf "is_next" "Signs.is_next" (defArgs s_Signs_is_next) (defBody s_Signs_is_next) (defScope s_Signs_is_next) .none kV19 dc19 pm19 an19 cd19 ct19), sl19⟩)
    (c19 : PySem.W.codeIn K cd19 "Signs.is_next" = true)
    (k19 : PySem.W.keepIn K (.ref f19) = true)
    (a20 : PySem.W.findIn K (.ref C_Signs) "need" = some (some (.ref f20)))
    (i20 : PySem.W.isFn K (.ref f20) = true)
    (l20 : K.lookup f20 = some ⟨oc20, od20, .func (PySem.W.fnOf "need" "Signs.need" (defArgs s_Signs_need) (defBody s_Signs_need) (defScope s_Signs_need) .none kV20 dc20 pm20 an20 cd20 ct20), sl20⟩)
    (c20 : PySem.W.codeIn K cd20 "Signs.need" = true)
    (k20 : PySem.W.keepIn K (.ref f20) = true)
    (a21 : PySem.W.findIn K (.ref C_Signs) "number" = some (some (.ref f21)))
    (i21 : PySem.W.isFn K (.ref f21) = true)
    (l21 : K.lookup f21 = some ⟨oc21, od21, .func (PySem.W.fnOf "number" "Signs.number" (defArgs s_Signs_number) (defBody s_Signs_number) (defScope s_Signs_number) .none kV21 dc21 pm21 an21 cd21 ct21), sl21⟩)
    (c21 : PySem.W.codeIn K cd21 "Signs.number" = true)
    (k21 : PySem.W.keepIn K (.ref f21) = true)
    (a22 : PySem.W.findIn K (.ref C_Signs) "plan" = some (some (.ref f22)))
    (i22 : PySem.W.isFn K (.ref f22) = true)
    (l22 : K.lookup f22 = some ⟨oc22, od22, .func (PySem.W.fnOf "plan" "Signs.plan" (defArgs s_Signs_plan) (defBody s_Signs_plan) (defScope s_Signs_plan) .none kV22 dc22 pm22 an22 cd22 ct22), sl22⟩)
    (c22 : PySem.W.codeIn K cd22 "Signs.plan" = true)
    (k22 : PySem.W.keepIn K (.ref f22) = true)
    (a23 : PySem.W.nsIn K mainGlobals "read_plan" = some (some (.ref f23)))
    (l23 : K.lookup f23 = some ⟨oc23, od23, .func (PySem.W.fnOf "read_plan" "read_plan" (defArgs s_read_plan) (defBody s_read_plan) (defScope s_read_plan) .none kV23 dc23 pm23 an23 cd23 ct23), sl23⟩)
    (c23 : PySem.W.codeIn K cd23 "read_plan" = true)
    (k23 : PySem.W.keepIn K (.ref f23) = true)
    (a24 : PySem.W.nsIn K mainGlobals "lengths_of" = some (some (.ref f24)))
    (l24 : K.lookup f24 = some ⟨oc24, od24, .func (PySem.W.fnOf "lengths_of" "lengths_of" (defArgs s_lengths_of) (defBody s_lengths_of) (defScope s_lengths_of) .none kV24 dc24 pm24 an24 cd24 ct24), sl24⟩)
    (c24 : PySem.W.codeIn K cd24 "lengths_of" = true)
    (k24 : PySem.W.keepIn K (.ref f24) = true)
    (a25 : PySem.W.nsIn K mainGlobals "_law_cell" = some (some (.ref f25)))
    (l25 : K.lookup f25 = some ⟨oc25, od25, .func (PySem.W.fnOf "_law_cell" "_law_cell" (defArgs s__law_cell) (defBody s__law_cell) (defScope s__law_cell) .none kV25 dc25 pm25 an25 cd25 ct25), sl25⟩)
    (c25 : PySem.W.codeIn K cd25 "_law_cell" = true)
    (k25 : PySem.W.keepIn K (.ref f25) = true)
    (a26 : PySem.W.nsIn K mainGlobals "_law_mix" = some (some (.ref f26)))
    (l26 : K.lookup f26 = some ⟨oc26, od26, .func (PySem.W.fnOf "_law_mix" "_law_mix" (defArgs s__law_mix) (defBody s__law_mix) (defScope s__law_mix) .none kV26 dc26 pm26 an26 cd26 ct26), sl26⟩)
    (c26 : PySem.W.codeIn K cd26 "_law_mix" = true)
    (k26 : PySem.W.keepIn K (.ref f26) = true)
    (a27 : PySem.W.nsIn K mainGlobals "_law_counts" = some (some (.ref f27)))
    (l27 : K.lookup f27 = some ⟨oc27, od27, .func (PySem.W.fnOf "_law_counts" "_law_counts" (defArgs s__law_counts) (defBody s__law_counts) (defScope s__law_counts) .none kV27 dc27 pm27 an27 cd27 ct27), sl27⟩)
    (c27 : PySem.W.codeIn K cd27 "_law_counts" = true)
    (k27 : PySem.W.keepIn K (.ref f27) = true)
    (a28 : PySem.W.nsIn K mainGlobals "_law_refusal" = some (some (.ref f28)))
    (l28 : K.lookup f28 = some ⟨oc28, od28, .func (PySem.W.fnOf "_law_refusal" "_law_refusal" (defArgs s__law_refusal) (defBody s__law_refusal) (defScope s__law_refusal) .none kV28 dc28 pm28 an28 cd28 ct28), sl28⟩)
    (c28 : PySem.W.codeIn K cd28 "_law_refusal" = true)
    (k28 : PySem.W.keepIn K (.ref f28) = true)
    (a29 : PySem.W.nsIn K mainGlobals "_law_text" = some (some (.ref f29)))
    (l29 : K.lookup f29 = some ⟨oc29, od29, .func (PySem.W.fnOf "_law_text" "_law_text" (defArgs s__law_text) (defBody s__law_text) (defScope s__law_text) .none kV29 dc29 pm29 an29 cd29 ct29), sl29⟩)
    (c29 : PySem.W.codeIn K cd29 "_law_text" = true)
    (k29 : PySem.W.keepIn K (.ref f29) = true)
    (a30 : PySem.W.nsIn K mainGlobals "_law_ends" = some (some (.ref f30)))
    (l30 : K.lookup f30 = some ⟨oc30, od30, .func (PySem.W.fnOf "_law_ends" "_law_ends" (defArgs s__law_ends) (defBody s__law_ends) (defScope s__law_ends) .none kV30 dc30 pm30 an30 cd30 ct30), sl30⟩)
    (c30 : PySem.W.codeIn K cd30 "_law_ends" = true)
    (k30 : PySem.W.keepIn K (.ref f30) = true)
    (a31 : PySem.W.nsIn K mainGlobals "_law_words" = some (some (.ref f31)))
    (l31 : K.lookup f31 = some ⟨oc31, od31, .func (PySem.W.fnOf "_law_words" "_law_words" (defArgs s__law_words) (defBody s__law_words) (defScope s__law_words) .none kV31 dc31 pm31 an31 cd31 ct31), sl31⟩)
    (c31 : PySem.W.codeIn K cd31 "_law_words" = true)
    (k31 : PySem.W.keepIn K (.ref f31) = true)
    (a32 : PySem.W.nsIn K mainGlobals "_law_parsed" = some (some (.ref f32)))
    (l32 : K.lookup f32 = some ⟨oc32, od32, .func (PySem.W.fnOf "_law_parsed" "_law_parsed" (defArgs s__law_parsed) (defBody s__law_parsed) (defScope s__law_parsed) .none kV32 dc32 pm32 an32 cd32 ct32), sl32⟩)
    (c32 : PySem.W.codeIn K cd32 "_law_parsed" = true)
    (k32 : PySem.W.keepIn K (.ref f32) = true)
    (a33 : PySem.W.nsIn K mainGlobals "_law_biggest" = some (some (.ref f33)))
    (l33 : K.lookup f33 = some ⟨oc33, od33, .func (PySem.W.fnOf "_law_biggest" "_law_biggest" (defArgs s__law_biggest) (defBody s__law_biggest) (defScope s__law_biggest) .none kV33 dc33 pm33 an33 cd33 ct33), sl33⟩)
    (c33 : PySem.W.codeIn K cd33 "_law_biggest" = true)
    (k33 : PySem.W.keepIn K (.ref f33) = true)
    (a34 : PySem.W.nsIn K mainGlobals "_law_tried" = some (some (.ref f34)))
    (l34 : K.lookup f34 = some ⟨oc34, od34, .func (PySem.W.fnOf "_law_tried" "_law_tried" (defArgs s__law_tried) (defBody s__law_tried) (defScope s__law_tried) .none kV34 dc34 pm34 an34 cd34 ct34), sl34⟩)
    (c34 : PySem.W.codeIn K cd34 "_law_tried" = true)
    (k34 : PySem.W.keepIn K (.ref f34) = true)
    (a35 : PySem.W.nsIn K mainGlobals "_law_told" = some (some (.ref f35)))
    (l35 : K.lookup f35 = some ⟨oc35, od35, .func (PySem.W.fnOf "_law_told" "_law_told" (defArgs s__law_told) (defBody s__law_told) (defScope s__law_told) .none kV35 dc35 pm35 an35 cd35 ct35), sl35⟩)
    (c35 : PySem.W.codeIn K cd35 "_law_told" = true)
    (k35 : PySem.W.keepIn K (.ref f35) = true)
    (a36 : PySem.W.nsIn K mainGlobals "_law_deep" = some (some (.ref f36)))
    (l36 : K.lookup f36 = some ⟨oc36, od36, .func (PySem.W.fnOf "_law_deep" "_law_deep" (defArgs s__law_deep) (defBody s__law_deep) (defScope s__law_deep) .none kV36 dc36 pm36 an36 cd36 ct36), sl36⟩)
    (c36 : PySem.W.codeIn K cd36 "_law_deep" = true)
    (k36 : PySem.W.keepIn K (.ref f36) = true)
    (a37 : PySem.W.nsIn K mainGlobals "law" = some (some (.ref f37)))
    (l37 : K.lookup f37 = some ⟨oc37, od37, .func (PySem.W.fnOf "law" "law" (defArgs s_law) (defBody s_law) (defScope s_law) .none kV37 dc37 pm37 an37 cd37 ct37), sl37⟩)
    (c37 : PySem.W.codeIn K cd37 "law" = true)
    (k37 : PySem.W.keepIn K (.ref f37) = true)
    (q_LiarError : PySem.W.nsIn K mainGlobals "LiarError" = some (some (.ref C_LiarError)))
    (qb_LiarError : PySem.W.subIn K (.ref C_LiarError) (.type "BaseException") = some true)
    (qt_LiarError : PySem.W.typeIn K (.ref C_LiarError) = some (.type "type"))
    (qi_LiarError : PySem.W.isClsIn K C_LiarError = true)
    (q_BadGame : PySem.W.nsIn K mainGlobals "BadGame" = some (some (.ref C_BadGame)))
    (qb_BadGame : PySem.W.subIn K (.ref C_BadGame) (.type "BaseException") = some true)
    (qt_BadGame : PySem.W.typeIn K (.ref C_BadGame) = some (.type "type"))
    (qi_BadGame : PySem.W.isClsIn K C_BadGame = true)
    (q_BadCounts : PySem.W.nsIn K mainGlobals "BadCounts" = some (some (.ref C_BadCounts)))
    (qb_BadCounts : PySem.W.subIn K (.ref C_BadCounts) (.type "BaseException") = some true)
    (qt_BadCounts : PySem.W.typeIn K (.ref C_BadCounts) = some (.type "type"))
    (qi_BadCounts : PySem.W.isClsIn K C_BadCounts = true)
    (q_BadQuestion : PySem.W.nsIn K mainGlobals "BadQuestion" = some (some (.ref C_BadQuestion)))
    (qb_BadQuestion : PySem.W.subIn K (.ref C_BadQuestion) (.type "BaseException") = some true)
    (qt_BadQuestion : PySem.W.typeIn K (.ref C_BadQuestion) = some (.type "type"))
    (qi_BadQuestion : PySem.W.isClsIn K C_BadQuestion = true)
    (q_Liar : PySem.W.nsIn K mainGlobals "Liar" = some (some (.ref C_Liar)))
    (qb_Liar : PySem.W.subIn K (.ref C_Liar) (.type "BaseException") = some true)
    (qt_Liar : PySem.W.typeIn K (.ref C_Liar) = some (.type "type"))
    (qi_Liar : PySem.W.isClsIn K C_Liar = true)
    (q_BadPlan : PySem.W.nsIn K mainGlobals "BadPlan" = some (some (.ref C_BadPlan)))
    (qb_BadPlan : PySem.W.subIn K (.ref C_BadPlan) (.type "BaseException") = some true)
    (qt_BadPlan : PySem.W.typeIn K (.ref C_BadPlan) = some (.type "type"))
    (qi_BadPlan : PySem.W.isClsIn K C_BadPlan = true)
    (q_BadText : PySem.W.nsIn K mainGlobals "BadText" = some (some (.ref C_BadText)))
    (qb_BadText : PySem.W.subIn K (.ref C_BadText) (.type "BaseException") = some true)
    (qt_BadText : PySem.W.typeIn K (.ref C_BadText) = some (.type "type"))
    (qi_BadText : PySem.W.isClsIn K C_BadText = true)
    (qe_BadGame : PySem.W.excIn K C_BadGame [.type "ValueError", .type "Exception", .type "BaseException", .type "object"] "ValueError.__new__" = true)
    (qk_BadGame : PySem.W.keepIn K (.ref C_BadGame) = true)
    (qg_BadGame : PySem.W.findIn K (.ref C_BadGame) "__getattribute__" = some (some (.builtin "BaseException.__getattribute__")))
    (qh_BadGame : PySem.W.findIn K (.ref C_BadGame) "__getattr__" = some none)
    (qd_BadGame : PySem.W.hasDictIn K C_BadGame = true)
    (qa_BadGame : PySem.W.findIn K (.ref C_BadGame) "__class__" = some (some (.builtin "object.__class__")))
    (qm_BadGame : PySem.W.mroIn K C_BadGame (.type "object") = some true)
    (qv_BadGame : PySem.W.subIn K (.ref C_BadGame) (.type "ValueError") = some true)
    (ql_BadGame : PySem.W.subIn K (.ref C_BadGame) (.ref C_LiarError) = some true)
    (qq_BadGame_BadGame : PySem.W.subIn K (.ref C_BadGame) (.ref C_BadGame) = some true)
    (qq_BadGame_BadCounts : PySem.W.subIn K (.ref C_BadGame) (.ref C_BadCounts) = some false)
    (qq_BadGame_BadQuestion : PySem.W.subIn K (.ref C_BadGame) (.ref C_BadQuestion) = some false)
    (qq_BadGame_Liar : PySem.W.subIn K (.ref C_BadGame) (.ref C_Liar) = some false)
    (qq_BadGame_BadPlan : PySem.W.subIn K (.ref C_BadGame) (.ref C_BadPlan) = some false)
    (qq_BadGame_BadText : PySem.W.subIn K (.ref C_BadGame) (.ref C_BadText) = some false)
    (qe_BadCounts : PySem.W.excIn K C_BadCounts [.type "ValueError", .type "Exception", .type "BaseException", .type "object"] "ValueError.__new__" = true)
    (qk_BadCounts : PySem.W.keepIn K (.ref C_BadCounts) = true)
    (qg_BadCounts : PySem.W.findIn K (.ref C_BadCounts) "__getattribute__" = some (some (.builtin "BaseException.__getattribute__")))
    (qh_BadCounts : PySem.W.findIn K (.ref C_BadCounts) "__getattr__" = some none)
    (qd_BadCounts : PySem.W.hasDictIn K C_BadCounts = true)
    (qa_BadCounts : PySem.W.findIn K (.ref C_BadCounts) "__class__" = some (some (.builtin "object.__class__")))
    (qm_BadCounts : PySem.W.mroIn K C_BadCounts (.type "object") = some true)
    (qv_BadCounts : PySem.W.subIn K (.ref C_BadCounts) (.type "ValueError") = some true)
    (ql_BadCounts : PySem.W.subIn K (.ref C_BadCounts) (.ref C_LiarError) = some true)
    (qq_BadCounts_BadGame : PySem.W.subIn K (.ref C_BadCounts) (.ref C_BadGame) = some false)
    (qq_BadCounts_BadCounts : PySem.W.subIn K (.ref C_BadCounts) (.ref C_BadCounts) = some true)
    (qq_BadCounts_BadQuestion : PySem.W.subIn K (.ref C_BadCounts) (.ref C_BadQuestion) = some false)
    (qq_BadCounts_Liar : PySem.W.subIn K (.ref C_BadCounts) (.ref C_Liar) = some false)
    (qq_BadCounts_BadPlan : PySem.W.subIn K (.ref C_BadCounts) (.ref C_BadPlan) = some false)
    (qq_BadCounts_BadText : PySem.W.subIn K (.ref C_BadCounts) (.ref C_BadText) = some false)
    (qe_BadQuestion : PySem.W.excIn K C_BadQuestion [.type "ValueError", .type "Exception", .type "BaseException", .type "object"] "ValueError.__new__" = true)
    (qk_BadQuestion : PySem.W.keepIn K (.ref C_BadQuestion) = true)
    (qg_BadQuestion : PySem.W.findIn K (.ref C_BadQuestion) "__getattribute__" = some (some (.builtin "BaseException.__getattribute__")))
    (qh_BadQuestion : PySem.W.findIn K (.ref C_BadQuestion) "__getattr__" = some none)
    (qd_BadQuestion : PySem.W.hasDictIn K C_BadQuestion = true)
    (qa_BadQuestion : PySem.W.findIn K (.ref C_BadQuestion) "__class__" = some (some (.builtin "object.__class__")))
    (qm_BadQuestion : PySem.W.mroIn K C_BadQuestion (.type "object") = some true)
    (qv_BadQuestion : PySem.W.subIn K (.ref C_BadQuestion) (.type "ValueError") = some true)
    (ql_BadQuestion : PySem.W.subIn K (.ref C_BadQuestion) (.ref C_LiarError) = some true)
    (qq_BadQuestion_BadGame : PySem.W.subIn K (.ref C_BadQuestion) (.ref C_BadGame) = some false)
    (qq_BadQuestion_BadCounts : PySem.W.subIn K (.ref C_BadQuestion) (.ref C_BadCounts) = some false)
    (qq_BadQuestion_BadQuestion : PySem.W.subIn K (.ref C_BadQuestion) (.ref C_BadQuestion) = some true)
    (qq_BadQuestion_Liar : PySem.W.subIn K (.ref C_BadQuestion) (.ref C_Liar) = some false)
    (qq_BadQuestion_BadPlan : PySem.W.subIn K (.ref C_BadQuestion) (.ref C_BadPlan) = some false)
    (qq_BadQuestion_BadText : PySem.W.subIn K (.ref C_BadQuestion) (.ref C_BadText) = some false)
    (qe_Liar : PySem.W.excIn K C_Liar [.type "ValueError", .type "Exception", .type "BaseException", .type "object"] "ValueError.__new__" = true)
    (qk_Liar : PySem.W.keepIn K (.ref C_Liar) = true)
    (qg_Liar : PySem.W.findIn K (.ref C_Liar) "__getattribute__" = some (some (.builtin "BaseException.__getattribute__")))
    (qh_Liar : PySem.W.findIn K (.ref C_Liar) "__getattr__" = some none)
    (qd_Liar : PySem.W.hasDictIn K C_Liar = true)
    (qa_Liar : PySem.W.findIn K (.ref C_Liar) "__class__" = some (some (.builtin "object.__class__")))
    (qm_Liar : PySem.W.mroIn K C_Liar (.type "object") = some true)
    (qv_Liar : PySem.W.subIn K (.ref C_Liar) (.type "ValueError") = some true)
    (ql_Liar : PySem.W.subIn K (.ref C_Liar) (.ref C_LiarError) = some true)
    (qq_Liar_BadGame : PySem.W.subIn K (.ref C_Liar) (.ref C_BadGame) = some false)
    (qq_Liar_BadCounts : PySem.W.subIn K (.ref C_Liar) (.ref C_BadCounts) = some false)
    (qq_Liar_BadQuestion : PySem.W.subIn K (.ref C_Liar) (.ref C_BadQuestion) = some false)
    (qq_Liar_Liar : PySem.W.subIn K (.ref C_Liar) (.ref C_Liar) = some true)
    (qq_Liar_BadPlan : PySem.W.subIn K (.ref C_Liar) (.ref C_BadPlan) = some false)
    (qq_Liar_BadText : PySem.W.subIn K (.ref C_Liar) (.ref C_BadText) = some false)
    (qe_BadPlan : PySem.W.excIn K C_BadPlan [.type "ValueError", .type "Exception", .type "BaseException", .type "object"] "ValueError.__new__" = true)
    (qk_BadPlan : PySem.W.keepIn K (.ref C_BadPlan) = true)
    (qg_BadPlan : PySem.W.findIn K (.ref C_BadPlan) "__getattribute__" = some (some (.builtin "BaseException.__getattribute__")))
    (qh_BadPlan : PySem.W.findIn K (.ref C_BadPlan) "__getattr__" = some none)
    (qd_BadPlan : PySem.W.hasDictIn K C_BadPlan = true)
    (qa_BadPlan : PySem.W.findIn K (.ref C_BadPlan) "__class__" = some (some (.builtin "object.__class__")))
    (qm_BadPlan : PySem.W.mroIn K C_BadPlan (.type "object") = some true)
    (qv_BadPlan : PySem.W.subIn K (.ref C_BadPlan) (.type "ValueError") = some true)
    (ql_BadPlan : PySem.W.subIn K (.ref C_BadPlan) (.ref C_LiarError) = some true)
    (qq_BadPlan_BadGame : PySem.W.subIn K (.ref C_BadPlan) (.ref C_BadGame) = some false)
    (qq_BadPlan_BadCounts : PySem.W.subIn K (.ref C_BadPlan) (.ref C_BadCounts) = some false)
    (qq_BadPlan_BadQuestion : PySem.W.subIn K (.ref C_BadPlan) (.ref C_BadQuestion) = some false)
    (qq_BadPlan_Liar : PySem.W.subIn K (.ref C_BadPlan) (.ref C_Liar) = some false)
    (qq_BadPlan_BadPlan : PySem.W.subIn K (.ref C_BadPlan) (.ref C_BadPlan) = some true)
    (qq_BadPlan_BadText : PySem.W.subIn K (.ref C_BadPlan) (.ref C_BadText) = some false)
    (qe_BadText : PySem.W.excIn K C_BadText [.type "ValueError", .type "Exception", .type "BaseException", .type "object"] "ValueError.__new__" = true)
    (qk_BadText : PySem.W.keepIn K (.ref C_BadText) = true)
    (qg_BadText : PySem.W.findIn K (.ref C_BadText) "__getattribute__" = some (some (.builtin "BaseException.__getattribute__")))
    (qh_BadText : PySem.W.findIn K (.ref C_BadText) "__getattr__" = some none)
    (qd_BadText : PySem.W.hasDictIn K C_BadText = true)
    (qa_BadText : PySem.W.findIn K (.ref C_BadText) "__class__" = some (some (.builtin "object.__class__")))
    (qm_BadText : PySem.W.mroIn K C_BadText (.type "object") = some true)
    (qv_BadText : PySem.W.subIn K (.ref C_BadText) (.type "ValueError") = some true)
    (ql_BadText : PySem.W.subIn K (.ref C_BadText) (.ref C_LiarError) = some true)
    (qq_BadText_BadGame : PySem.W.subIn K (.ref C_BadText) (.ref C_BadGame) = some false)
    (qq_BadText_BadCounts : PySem.W.subIn K (.ref C_BadText) (.ref C_BadCounts) = some false)
    (qq_BadText_BadQuestion : PySem.W.subIn K (.ref C_BadText) (.ref C_BadQuestion) = some false)
    (qq_BadText_Liar : PySem.W.subIn K (.ref C_BadText) (.ref C_Liar) = some false)
    (qq_BadText_BadPlan : PySem.W.subIn K (.ref C_BadText) (.ref C_BadPlan) = some false)
    (qq_BadText_BadText : PySem.W.subIn K (.ref C_BadText) (.ref C_BadText) = some true)
    (gn : PySem.W.specialIn K (.builtin "object.__class__") "__get__" = some (some (.builtin "getset_descriptor.__get__")))
    (gt : PySem.W.takesIn K (.builtin "object.__class__") = some true)
    (w_MOST_COUNT : PySem.W.nsIn K mainGlobals "MOST_COUNT" = some (some (.int 64 t_MOST_COUNT)))
    (w_MOST_QUESTIONS : PySem.W.nsIn K mainGlobals "MOST_QUESTIONS" = some (some (.int 60 t_MOST_QUESTIONS)))
    (w_MOST_THINGS : PySem.W.nsIn K mainGlobals "MOST_THINGS" = some (some (.int 12 t_MOST_THINGS)))
    (w_MOST_DEEP : PySem.W.nsIn K mainGlobals "MOST_DEEP" = some (some (.int 60 t_MOST_DEEP)))
    (w_FIGURES : PySem.W.nsIn K mainGlobals "FIGURES" = some (some (.str "0123456789" t_FIGURES)))
    (z_ValueError : PySem.W.nsIn K mainGlobals "ValueError" = some none)
    (z_abs : PySem.W.nsIn K mainGlobals "abs" = some none)
    (z_all : PySem.W.nsIn K mainGlobals "all" = some none)
    (z_int : PySem.W.nsIn K mainGlobals "int" = some none)
    (z_isinstance : PySem.W.nsIn K mainGlobals "isinstance" = some none)
    (z_len : PySem.W.nsIn K mainGlobals "len" = some none)
    (z_list : PySem.W.nsIn K mainGlobals "list" = some none)
    (z_max : PySem.W.nsIn K mainGlobals "max" = some none)
    (z_min : PySem.W.nsIn K mainGlobals "min" = some none)
    (z_range : PySem.W.nsIn K mainGlobals "range" = some none)
    (z_sorted : PySem.W.nsIn K mainGlobals "sorted" = some none)
    (z_str : PySem.W.nsIn K mainGlobals "str" = some none)
    (z_sum : PySem.W.nsIn K mainGlobals "sum" = some none)
    (z_tuple : PySem.W.nsIn K mainGlobals "tuple" = some none)
    : ∃ fd : FuncData, (∀ (s : Shared) (v : Value), BindsTo s fd ⟨[v], []⟩ [("_law_script", v)]) ∧ ∀ base : Heap, K.In base → base.Ns mainGlobals mg → FnOk P w K mg base (L2.CX P w) 127 fa fd ["_law_script"] (toSp 1 (sp_law K)) := by
  have e := hfa.symm.trans (PySem.W.mg_of X G a37)
  cases e
  have F0 := fun_mk (st := s_look_counts) l0 c0 k0
  have F1 := fun_mk (st := s_look_questions) l1 c1 k1
  have F2 := fun_mk (st := s_choices) l2 c2 k2
  have F3 := fun_mk (st := s_weight) l3 c3 k3
  have F4 := fun_mk (st := s_two_to) l4 c4 k4
  have F5 := fun_mk (st := s_behind) l5 c5 k5
  have F6 := fun_mk (st := s_bound) l6 c6 k6
  have F7 := fun_mk (st := s_look_small) l7 c7 k7
  have F8 := fun_mk (st := s_unevenness) l8 c8 k8
  have F9 := fun_mk (st := s_parts) l9 c9 k9
  have F10 := fun_mk (st := s_Worker___init__) l10 c10 k10
  have F11 := fun_mk (st := s_Worker_found) l11 c11 k11
  have F12 := fun_mk (st := s_Worker_can) l12 c12 k12
  have F13 := fun_mk (st := s_Worker_plan) l13 c13 k13
  have F14 := fun_mk (st := s_least) l14 c14 k14
  have F15 := fun_mk (st := s_told) l15 c15 k15
  have F16 := fun_mk (st := s_look_plan) l16 c16 k16
  have F17 := fun_mk (st := s_written_plan) l17 c17 k17
  have F18 := fun_mk (st := s_Signs___init__) l18 c18 k18
  have F19 := fun_mk (st := s_Signs_is_next) l19 c19 k19
  have F20 := fun_mk (st := s_Signs_need) l20 c20 k20
  have F21 := fun_mk (st := s_Signs_number) l21 c21 k21
  have F22 := fun_mk (st := s_Signs_plan) l22 c22 k22
  have F23 := fun_mk (st := s_read_plan) l23 c23 k23
  have F24 := fun_mk (st := s_lengths_of) l24 c24 k24
  have F25 := fun_mk (st := s__law_cell) l25 c25 k25
  have F26 := fun_mk (st := s__law_mix) l26 c26 k26
  have F27 := fun_mk (st := s__law_counts) l27 c27 k27
  have F28 := fun_mk (st := s__law_refusal) l28 c28 k28
  have F29 := fun_mk (st := s__law_text) l29 c29 k29
  have F30 := fun_mk (st := s__law_ends) l30 c30 k30
  have F31 := fun_mk (st := s__law_words) l31 c31 k31
  have F32 := fun_mk (st := s__law_parsed) l32 c32 k32
  have F33 := fun_mk (st := s__law_biggest) l33 c33 k33
  have F34 := fun_mk (st := s__law_tried) l34 c34 k34
  have F35 := fun_mk (st := s__law_told) l35 c35 k35
  have F36 := fun_mk (st := s__law_deep) l36 c36 k36
  have F37 := fun_mk (st := s_law) l37 c37 k37
  refine ⟨PySem.W.fnOf "law" "law" (defArgs s_law) (defBody s_law) (defScope s_law) .none kV37 dc37 pm37 an37 cd37 ct37, fun s v => .of_eq rfl, fun base _ _ => ?_⟩
  let g : Gv := ⟨P, w, K, mg, base, eaOf C_BadGame C_BadCounts C_BadQuestion C_Liar C_BadPlan C_BadText⟩
  have eC_Worker : cAt g "Worker" = C_Worker := cAt_eq (PySem.W.mg_of X G q_Worker)
  have eC_Signs : cAt g "Signs" = C_Signs := cAt_eq (PySem.W.mg_of X G q_Signs)
  have T : Txt g C_LiarError := {
    ValueError := PySem.W.mg_none_of X G z_ValueError,
    abs := PySem.W.mg_none_of X G z_abs,
    all := PySem.W.mg_none_of X G z_all,
    int := PySem.W.mg_none_of X G z_int,
    isinstance := PySem.W.mg_none_of X G z_isinstance,
    len := PySem.W.mg_none_of X G z_len,
    list := PySem.W.mg_none_of X G z_list,
    max := PySem.W.mg_none_of X G z_max,
    min := PySem.W.mg_none_of X G z_min,
    range := PySem.W.mg_none_of X G z_range,
    sorted := PySem.W.mg_none_of X G z_sorted,
    str := PySem.W.mg_none_of X G z_str,
    sum := PySem.W.mg_none_of X G z_sum,
    tuple := PySem.W.mg_none_of X G z_tuple,
    c_MOST_COUNT := ⟨_, PySem.W.mg_of X G w_MOST_COUNT⟩,
    c_MOST_QUESTIONS := ⟨_, PySem.W.mg_of X G w_MOST_QUESTIONS⟩,
    c_MOST_THINGS := ⟨_, PySem.W.mg_of X G w_MOST_THINGS⟩,
    c_MOST_DEEP := ⟨_, PySem.W.mg_of X G w_MOST_DEEP⟩,
    c_FIGURES := ⟨_, PySem.W.mg_of X G w_FIGURES⟩,
    k_BadGame := PySem.W.mg_of X G q_BadGame,
    x_BadGame := ⟨qe_BadGame, PySem.W.mg_of X G q_BadGame, qk_BadGame, qb_BadGame, qt_BadGame⟩,
    e_BadGame := ⟨qg_BadGame, qh_BadGame, qb_BadGame, qd_BadGame, qa_BadGame, gn, gt, qm_BadGame⟩,
    kit_BadGame_BadGame := kit_self _,
    kit_BadGame_BadCounts := kit_ne qq_BadGame_BadCounts qq_BadGame_BadGame qi_BadCounts qt_BadCounts,
    kit_BadGame_BadQuestion := kit_ne qq_BadGame_BadQuestion qq_BadGame_BadGame qi_BadQuestion qt_BadQuestion,
    kit_BadGame_Liar := kit_ne qq_BadGame_Liar qq_BadGame_BadGame qi_Liar qt_Liar,
    kit_BadGame_BadPlan := kit_ne qq_BadGame_BadPlan qq_BadGame_BadGame qi_BadPlan qt_BadPlan,
    kit_BadGame_BadText := kit_ne qq_BadGame_BadText qq_BadGame_BadGame qi_BadText qt_BadText,
    kit_BadGame_V := kit_typeV qv_BadGame,
    exm_BadGame := exm_own qb_LiarError qi_LiarError qt_LiarError ql_BadGame,
    k_BadCounts := PySem.W.mg_of X G q_BadCounts,
    x_BadCounts := ⟨qe_BadCounts, PySem.W.mg_of X G q_BadCounts, qk_BadCounts, qb_BadCounts, qt_BadCounts⟩,
    e_BadCounts := ⟨qg_BadCounts, qh_BadCounts, qb_BadCounts, qd_BadCounts, qa_BadCounts, gn, gt, qm_BadCounts⟩,
    kit_BadCounts_BadGame := kit_ne qq_BadCounts_BadGame qq_BadCounts_BadCounts qi_BadGame qt_BadGame,
    kit_BadCounts_BadCounts := kit_self _,
    kit_BadCounts_BadQuestion := kit_ne qq_BadCounts_BadQuestion qq_BadCounts_BadCounts qi_BadQuestion qt_BadQuestion,
    kit_BadCounts_Liar := kit_ne qq_BadCounts_Liar qq_BadCounts_BadCounts qi_Liar qt_Liar,
    kit_BadCounts_BadPlan := kit_ne qq_BadCounts_BadPlan qq_BadCounts_BadCounts qi_BadPlan qt_BadPlan,
    kit_BadCounts_BadText := kit_ne qq_BadCounts_BadText qq_BadCounts_BadCounts qi_BadText qt_BadText,
    kit_BadCounts_V := kit_typeV qv_BadCounts,
    exm_BadCounts := exm_own qb_LiarError qi_LiarError qt_LiarError ql_BadCounts,
    k_BadQuestion := PySem.W.mg_of X G q_BadQuestion,
    x_BadQuestion := ⟨qe_BadQuestion, PySem.W.mg_of X G q_BadQuestion, qk_BadQuestion, qb_BadQuestion, qt_BadQuestion⟩,
    e_BadQuestion := ⟨qg_BadQuestion, qh_BadQuestion, qb_BadQuestion, qd_BadQuestion, qa_BadQuestion, gn, gt, qm_BadQuestion⟩,
    kit_BadQuestion_BadGame := kit_ne qq_BadQuestion_BadGame qq_BadQuestion_BadQuestion qi_BadGame qt_BadGame,
    kit_BadQuestion_BadCounts := kit_ne qq_BadQuestion_BadCounts qq_BadQuestion_BadQuestion qi_BadCounts qt_BadCounts,
    kit_BadQuestion_BadQuestion := kit_self _,
    kit_BadQuestion_Liar := kit_ne qq_BadQuestion_Liar qq_BadQuestion_BadQuestion qi_Liar qt_Liar,
    kit_BadQuestion_BadPlan := kit_ne qq_BadQuestion_BadPlan qq_BadQuestion_BadQuestion qi_BadPlan qt_BadPlan,
    kit_BadQuestion_BadText := kit_ne qq_BadQuestion_BadText qq_BadQuestion_BadQuestion qi_BadText qt_BadText,
    kit_BadQuestion_V := kit_typeV qv_BadQuestion,
    exm_BadQuestion := exm_own qb_LiarError qi_LiarError qt_LiarError ql_BadQuestion,
    k_Liar := PySem.W.mg_of X G q_Liar,
    x_Liar := ⟨qe_Liar, PySem.W.mg_of X G q_Liar, qk_Liar, qb_Liar, qt_Liar⟩,
    e_Liar := ⟨qg_Liar, qh_Liar, qb_Liar, qd_Liar, qa_Liar, gn, gt, qm_Liar⟩,
    kit_Liar_BadGame := kit_ne qq_Liar_BadGame qq_Liar_Liar qi_BadGame qt_BadGame,
    kit_Liar_BadCounts := kit_ne qq_Liar_BadCounts qq_Liar_Liar qi_BadCounts qt_BadCounts,
    kit_Liar_BadQuestion := kit_ne qq_Liar_BadQuestion qq_Liar_Liar qi_BadQuestion qt_BadQuestion,
    kit_Liar_Liar := kit_self _,
    kit_Liar_BadPlan := kit_ne qq_Liar_BadPlan qq_Liar_Liar qi_BadPlan qt_BadPlan,
    kit_Liar_BadText := kit_ne qq_Liar_BadText qq_Liar_Liar qi_BadText qt_BadText,
    kit_Liar_V := kit_typeV qv_Liar,
    exm_Liar := exm_own qb_LiarError qi_LiarError qt_LiarError ql_Liar,
    k_BadPlan := PySem.W.mg_of X G q_BadPlan,
    x_BadPlan := ⟨qe_BadPlan, PySem.W.mg_of X G q_BadPlan, qk_BadPlan, qb_BadPlan, qt_BadPlan⟩,
    e_BadPlan := ⟨qg_BadPlan, qh_BadPlan, qb_BadPlan, qd_BadPlan, qa_BadPlan, gn, gt, qm_BadPlan⟩,
    kit_BadPlan_BadGame := kit_ne qq_BadPlan_BadGame qq_BadPlan_BadPlan qi_BadGame qt_BadGame,
    kit_BadPlan_BadCounts := kit_ne qq_BadPlan_BadCounts qq_BadPlan_BadPlan qi_BadCounts qt_BadCounts,
    kit_BadPlan_BadQuestion := kit_ne qq_BadPlan_BadQuestion qq_BadPlan_BadPlan qi_BadQuestion qt_BadQuestion,
    kit_BadPlan_Liar := kit_ne qq_BadPlan_Liar qq_BadPlan_BadPlan qi_Liar qt_Liar,
    kit_BadPlan_BadPlan := kit_self _,
    kit_BadPlan_BadText := kit_ne qq_BadPlan_BadText qq_BadPlan_BadPlan qi_BadText qt_BadText,
    kit_BadPlan_V := kit_typeV qv_BadPlan,
    exm_BadPlan := exm_own qb_LiarError qi_LiarError qt_LiarError ql_BadPlan,
    k_BadText := PySem.W.mg_of X G q_BadText,
    x_BadText := ⟨qe_BadText, PySem.W.mg_of X G q_BadText, qk_BadText, qb_BadText, qt_BadText⟩,
    e_BadText := ⟨qg_BadText, qh_BadText, qb_BadText, qd_BadText, qa_BadText, gn, gt, qm_BadText⟩,
    kit_BadText_BadGame := kit_ne qq_BadText_BadGame qq_BadText_BadText qi_BadGame qt_BadGame,
    kit_BadText_BadCounts := kit_ne qq_BadText_BadCounts qq_BadText_BadText qi_BadCounts qt_BadCounts,
    kit_BadText_BadQuestion := kit_ne qq_BadText_BadQuestion qq_BadText_BadText qi_BadQuestion qt_BadQuestion,
    kit_BadText_Liar := kit_ne qq_BadText_Liar qq_BadText_BadText qi_Liar qt_Liar,
    kit_BadText_BadPlan := kit_ne qq_BadText_BadPlan qq_BadText_BadText qi_BadPlan qt_BadPlan,
    kit_BadText_BadText := kit_self _,
    kit_BadText_V := kit_typeV qv_BadText,
    exm_BadText := exm_own qb_LiarError qi_LiarError qt_LiarError ql_BadText,
    k_LiarError := PySem.W.mg_of X G q_LiarError,
    m_Worker := by rw [eC_Worker]; exact PySem.W.mg_of X G q_Worker,
    cls_Worker := by rw [eC_Worker]; exact ⟨pg_Worker, hd_Worker, po_Worker, sa_Worker⟩,
    na_Worker_known := by rw [eC_Worker]; exact na_Worker_known,
    m_Signs := by rw [eC_Signs]; exact PySem.W.mg_of X G q_Signs,
    cls_Signs := by rw [eC_Signs]; exact ⟨pg_Signs, hd_Signs, po_Signs, sa_Signs⟩,
    na_Signs_text := by rw [eC_Signs]; exact na_Signs_text,
    na_Signs_spot := by rw [eC_Signs]; exact na_Signs_spot }
  have D0 : Df g "look_counts" ["counts"] s_look_counts := ⟨f0, _, F0, PySem.W.mg_of X G a0, F0.binds (ps := ["counts"]) fun _ _ _ _ _ _ us hl => match us, hl with | [_], _ => rfl⟩
  have D1 : Df g "look_questions" ["many"] s_look_questions := ⟨f1, _, F1, PySem.W.mg_of X G a1, F1.binds (ps := ["many"]) fun _ _ _ _ _ _ us hl => match us, hl with | [_], _ => rfl⟩
  have D2 : Df g "choices" ["many", "most"] s_choices := ⟨f2, _, F2, PySem.W.mg_of X G a2, F2.binds (ps := ["many", "most"]) fun _ _ _ _ _ _ us hl => match us, hl with | [_, _], _ => rfl⟩
  have D3 : Df g "weight" ["counts", "many"] s_weight := ⟨f3, _, F3, PySem.W.mg_of X G a3, F3.binds (ps := ["counts", "many"]) fun _ _ _ _ _ _ us hl => match us, hl with | [_, _], _ => rfl⟩
  have D4 : Df g "two_to" ["many"] s_two_to := ⟨f4, _, F4, PySem.W.mg_of X G a4, F4.binds (ps := ["many"]) fun _ _ _ _ _ _ us hl => match us, hl with | [_], _ => rfl⟩
  have D5 : Df g "behind" ["counts", "part"] s_behind := ⟨f5, _, F5, PySem.W.mg_of X G a5, F5.binds (ps := ["counts", "part"]) fun _ _ _ _ _ _ us hl => match us, hl with | [_, _], _ => rfl⟩
  have D6 : Df g "bound" ["counts"] s_bound := ⟨f6, _, F6, PySem.W.mg_of X G a6, F6.binds (ps := ["counts"]) fun _ _ _ _ _ _ us hl => match us, hl with | [_], _ => rfl⟩
  have D7 : Df g "look_small" ["counts"] s_look_small := ⟨f7, _, F7, PySem.W.mg_of X G a7, F7.binds (ps := ["counts"]) fun _ _ _ _ _ _ us hl => match us, hl with | [_], _ => rfl⟩
  have D8 : Df g "unevenness" ["counts", "part"] s_unevenness := ⟨f8, _, F8, PySem.W.mg_of X G a8, F8.binds (ps := ["counts", "part"]) fun _ _ _ _ _ _ us hl => match us, hl with | [_, _], _ => rfl⟩
  have D9 : Df g "parts" ["counts"] s_parts := ⟨f9, _, F9, PySem.W.mg_of X G a9, F9.binds (ps := ["counts"]) fun _ _ _ _ _ _ us hl => match us, hl with | [_], _ => rfl⟩
  have D10 : Di g "Worker" (cAt g "Worker") "Worker.__init__" ["self"] s_Worker___init__ := ⟨T.m_Worker, by rw [eC_Worker]; exact ⟨f10, _, F10, ⟨mk_Worker, a10, i10, kc_Worker⟩, F10.binds (ps := ["self"]) fun _ _ _ _ _ _ us hl => match us, hl with | [_], _ => rfl⟩⟩
  have D11 : Dm g (cAt g "Worker") "found" "Worker.found" ["self", "counts", "many"] s_Worker_found := ⟨T.cls_Worker, by rw [eC_Worker]; exact ⟨f11, _, F11, ⟨a11, i11, k11⟩, F11.binds (ps := ["self", "counts", "many"]) fun _ _ _ _ _ _ us hl => match us, hl with | [_, _, _], _ => rfl⟩⟩
  have D12 : Dm g (cAt g "Worker") "can" "Worker.can" ["self", "counts", "many"] s_Worker_can := ⟨T.cls_Worker, by rw [eC_Worker]; exact ⟨f12, _, F12, ⟨a12, i12, k12⟩, F12.binds (ps := ["self", "counts", "many"]) fun _ _ _ _ _ _ us hl => match us, hl with | [_, _, _], _ => rfl⟩⟩
  have D13 : Dm g (cAt g "Worker") "plan" "Worker.plan" ["self", "counts", "many"] s_Worker_plan := ⟨T.cls_Worker, by rw [eC_Worker]; exact ⟨f13, _, F13, ⟨a13, i13, k13⟩, F13.binds (ps := ["self", "counts", "many"]) fun _ _ _ _ _ _ us hl => match us, hl with | [_, _, _], _ => rfl⟩⟩
  have D14 : Df g "least" ["counts"] s_least := ⟨f14, _, F14, PySem.W.mg_of X G a14, F14.binds (ps := ["counts"]) fun _ _ _ _ _ _ us hl => match us, hl with | [_], _ => rfl⟩
  have D15 : Df g "told" ["counts", "many"] s_told := ⟨f15, _, F15, PySem.W.mg_of X G a15, F15.binds (ps := ["counts", "many"]) fun _ _ _ _ _ _ us hl => match us, hl with | [_, _], _ => rfl⟩
  have D16 : Df g "look_plan" ["plan", "deep"] s_look_plan := ⟨f16, _, F16, PySem.W.mg_of X G a16, F16.binds (ps := ["plan", "deep"]) fun _ _ _ _ _ _ us hl => match us, hl with | [_, _], _ => rfl⟩
  have D17 : Df g "written_plan" ["plan"] s_written_plan := ⟨f17, _, F17, PySem.W.mg_of X G a17, F17.binds (ps := ["plan"]) fun _ _ _ _ _ _ us hl => match us, hl with | [_], _ => rfl⟩
  have D18 : Di g "Signs" (cAt g "Signs") "Signs.__init__" ["self", "text"] s_Signs___init__ := ⟨T.m_Signs, by rw [eC_Signs]; exact ⟨f18, _, F18, ⟨mk_Signs, a18, i18, kc_Signs⟩, F18.binds (ps := ["self", "text"]) fun _ _ _ _ _ _ us hl => match us, hl with | [_, _], _ => rfl⟩⟩
  have D19 : Dm g (cAt g "Signs") "is_next" "Signs.is_next" ["self", "sign"] s_Signs_is_next := ⟨T.cls_Signs, by rw [eC_Signs]; exact ⟨f19, _, F19, ⟨a19, i19, k19⟩, F19.binds (ps := ["self", "sign"]) fun _ _ _ _ _ _ us hl => match us, hl with | [_, _], _ => rfl⟩⟩
  have D20 : Dm g (cAt g "Signs") "need" "Signs.need" ["self", "sign"] s_Signs_need := ⟨T.cls_Signs, by rw [eC_Signs]; exact ⟨f20, _, F20, ⟨a20, i20, k20⟩, F20.binds (ps := ["self", "sign"]) fun _ _ _ _ _ _ us hl => match us, hl with | [_, _], _ => rfl⟩⟩
  have D21 : Dm g (cAt g "Signs") "number" "Signs.number" ["self"] s_Signs_number := ⟨T.cls_Signs, by rw [eC_Signs]; exact ⟨f21, _, F21, ⟨a21, i21, k21⟩, F21.binds (ps := ["self"]) fun _ _ _ _ _ _ us hl => match us, hl with | [_], _ => rfl⟩⟩
  have D22 : Dm g (cAt g "Signs") "plan" "Signs.plan" ["self", "deep"] s_Signs_plan := ⟨T.cls_Signs, by rw [eC_Signs]; exact ⟨f22, _, F22, ⟨a22, i22, k22⟩, F22.binds (ps := ["self", "deep"]) fun _ _ _ _ _ _ us hl => match us, hl with | [_, _], _ => rfl⟩⟩
  have D23 : Df g "read_plan" ["text"] s_read_plan := ⟨f23, _, F23, PySem.W.mg_of X G a23, F23.binds (ps := ["text"]) fun _ _ _ _ _ _ us hl => match us, hl with | [_], _ => rfl⟩
  have D24 : Df g "lengths_of" ["plan"] s_lengths_of := ⟨f24, _, F24, PySem.W.mg_of X G a24, F24.binds (ps := ["plan"]) fun _ _ _ _ _ _ us hl => match us, hl with | [_], _ => rfl⟩
  have D25 : Df g "_law_cell" ["_law_script", "_law_k"] s__law_cell := ⟨f25, _, F25, PySem.W.mg_of X G a25, F25.binds (ps := ["_law_script", "_law_k"]) fun _ _ _ _ _ _ us hl => match us, hl with | [_, _], _ => rfl⟩
  have D26 : Df g "_law_mix" ["_law_script", "_law_k"] s__law_mix := ⟨f26, _, F26, PySem.W.mg_of X G a26, F26.binds (ps := ["_law_script", "_law_k"]) fun _ _ _ _ _ _ us hl => match us, hl with | [_, _], _ => rfl⟩
  have D27 : Df g "_law_counts" ["_law_script", "_law_k", "_law_most", "_law_sizes"] s__law_counts := ⟨f27, _, F27, PySem.W.mg_of X G a27, F27.binds (ps := ["_law_script", "_law_k", "_law_most", "_law_sizes"]) fun _ _ _ _ _ _ us hl => match us, hl with | [_, _, _, _], _ => rfl⟩
  have D28 : Df g "_law_refusal" ["_law_kept"] s__law_refusal := ⟨f28, _, F28, PySem.W.mg_of X G a28, F28.binds (ps := ["_law_kept"]) fun _ _ _ _ _ _ us hl => match us, hl with | [_], _ => rfl⟩
  have D29 : Df g "_law_text" ["_law_plan"] s__law_text := ⟨f29, _, F29, PySem.W.mg_of X G a29, F29.binds (ps := ["_law_plan"]) fun _ _ _ _ _ _ us hl => match us, hl with | [_], _ => rfl⟩
  have D30 : Df g "_law_ends" ["_law_plan"] s__law_ends := ⟨f30, _, F30, PySem.W.mg_of X G a30, F30.binds (ps := ["_law_plan"]) fun _ _ _ _ _ _ us hl => match us, hl with | [_], _ => rfl⟩
  have D31 : Df g "_law_words" ["_law_text_here"] s__law_words := ⟨f31, _, F31, PySem.W.mg_of X G a31, F31.binds (ps := ["_law_text_here"]) fun _ _ _ _ _ _ us hl => match us, hl with | [_], _ => rfl⟩
  have D32 : Df g "_law_parsed" ["_law_words_here", "_law_at", "_law_deep_here"] s__law_parsed := ⟨f32, _, F32, PySem.W.mg_of X G a32, F32.binds (ps := ["_law_words_here", "_law_at", "_law_deep_here"]) fun _ _ _ _ _ _ us hl => match us, hl with | [_, _, _], _ => rfl⟩
  have D33 : Df g "_law_biggest" ["_law_plan"] s__law_biggest := ⟨f33, _, F33, PySem.W.mg_of X G a33, F33.binds (ps := ["_law_plan"]) fun _ _ _ _ _ _ us hl => match us, hl with | [_], _ => rfl⟩
  have D34 : Df g "_law_tried" ["_law_text_here"] s__law_tried := ⟨f34, _, F34, PySem.W.mg_of X G a34, F34.binds (ps := ["_law_text_here"]) fun _ _ _ _ _ _ us hl => match us, hl with | [_], _ => rfl⟩
  have D35 : Df g "_law_told" ["_law_way", "_law_thing"] s__law_told := ⟨f35, _, F35, PySem.W.mg_of X G a35, F35.binds (ps := ["_law_way", "_law_thing"]) fun _ _ _ _ _ _ us hl => match us, hl with | [_, _], _ => rfl⟩
  have D36 : Df g "_law_deep" ["_law_many"] s__law_deep := ⟨f36, _, F36, PySem.W.mg_of X G a36, F36.binds (ps := ["_law_many"]) fun _ _ _ _ _ _ us hl => match us, hl with | [_], _ => rfl⟩
  have Q0 := ok_look_counts T D0
  have Q1 := ok_look_questions T D1
  have Q2 := ok_choices T D2
  have Q3 := ok_weight T D3 Q0 Q1 Q2
  have Q4 := ok_two_to T D4
  have Q5 := ok_behind T D5 Q0
  have Q6 := ok_bound T D6 Q0 Q3 Q4
  have Q7 := ok_look_small T D7 Q0
  have Q8 := ok_unevenness T D8
  have Q9 := ok_parts T D9 Q8
  have Q10 := ok_Worker___init__ T D10
  have Q12 := ok_Worker_can T D12 D11 Q6 Q9 Q5
  have Q13 := ok_Worker_plan T D13 Q5 Q12
  have Q14 := ok_least T D14 Q7 Q6 Q10 Q12
  have Q15 := ok_told T D15 Q7 Q1 Q10 Q12 Q13
  have Q16 := ok_look_plan T D16
  have Q17 := ok_written_plan T D17 Q16
  have Q18 := ok_Signs___init__ T D18
  have Q19 := ok_Signs_is_next T D19
  have Q20 := ok_Signs_need T D20 Q19
  have Q21 := ok_Signs_number T D21
  have Q22 := ok_Signs_plan T D22 Q19 Q20 Q21
  have Q23 := ok_read_plan T D23 Q18 Q22
  have Q24 := ok_lengths_of T D24 Q16
  have Q25 := ok__law_cell T D25
  have Q26 := ok__law_mix T D26 Q25
  have Q27 := ok__law_counts T D27 Q26
  have Q28 := ok__law_refusal T D28
  have Q29 := ok__law_text T D29
  have Q30 := ok__law_ends T D30
  have Q31 := ok__law_words T D31
  have Q32 := ok__law_parsed T D32
  have Q33 := ok__law_biggest T D33
  have Q34 := ok__law_tried T D34 Q31 Q32 Q33 Q29
  have Q35 := ok__law_told T D35 Q28 Q17 Q23 Q24
  have Q36 := ok__law_deep T D36
  exact ok_law (g := g) T F37 Q26 Q27 Q14 Q15 Q29 Q30 Q34 Q35 Q36
end LB
open PySem PySem.W PyProof.Rows in
set_option maxRecDepth 100000 in
set_option maxHeartbeats 0 in
theorem PySem.Challenge.cw_liarbook_k70_whole_plan_texts_holds : PySem.Challenge.rw_liarbook_k70_whole_plan_texts.Holds := by
  w_on; o_law; k_head; (case hw => w_witness2)
  k_fill
  refine L2.walk_of (l := PySem.Challenge.rw_liarbook_k70_whole_plan_texts) (n := 63) (k := 127) (x := "_law_script") (CX := fun w => L2.CX PySem.Challenge.pw_liarbook_k70_whole_plan_texts w) (sp := fun w => LB.toSp 1 (LB.sp_law _)) rfl (by decide) rfl ⟨rfl, by decide, by decide⟩ (fun w h Y => PySem.W.kIn_of Y) ?F (fun w H a ns hl hO hS => LB.law_start hO hS) fun _ _ _ _ _ z => LB.cx_end z
  case F =>
    intro w mg fa h KX G hmg
    refine' LB.all_mk KX G hmg ?q_Worker ?pg_Worker ?hd_Worker ?po_Worker ?sa_Worker ?mk_Worker ?kc_Worker ?na_Worker_known ?q_Signs ?pg_Signs ?hd_Signs ?po_Signs ?sa_Signs ?mk_Signs ?kc_Signs ?na_Signs_text ?na_Signs_spot ?a0 ?l0 ?c0 ?k0 ?a1 ?l1 ?c1 ?k1 ?a2 ?l2 ?c2 ?k2 ?a3 ?l3 ?c3 ?k3 ?a4 ?l4 ?c4 ?k4 ?a5 ?l5 ?c5 ?k5 ?a6 ?l6 ?c6 ?k6 ?a7 ?l7 ?c7 ?k7 ?a8 ?l8 ?c8 ?k8 ?a9 ?l9 ?c9 ?k9 ?a10 ?i10 ?l10 ?c10 ?k10 ?a11 ?i11 ?l11 ?c11 ?k11 ?a12 ?i12 ?l12 ?c12 ?k12 ?a13 ?i13 ?l13 ?c13 ?k13 ?a14 ?l14 ?c14 ?k14 ?a15 ?l15 ?c15 ?k15 ?a16 ?l16 ?c16 ?k16 ?a17 ?l17 ?c17 ?k17 ?a18 ?i18 ?l18 ?c18 ?k18 ?a19 ?i19 ?l19 ?c19 ?k19 ?a20 ?i20 ?l20 ?c20 ?k20 ?a21 ?i21 ?l21 ?c21 ?k21 ?a22 ?i22 ?l22 ?c22 ?k22 ?a23 ?l23 ?c23 ?k23 ?a24 ?l24 ?c24 ?k24 ?a25 ?l25 ?c25 ?k25 ?a26 ?l26 ?c26 ?k26 ?a27 ?l27 ?c27 ?k27 ?a28 ?l28 ?c28 ?k28 ?a29 ?l29 ?c29 ?k29 ?a30 ?l30 ?c30 ?k30 ?a31 ?l31 ?c31 ?k31 ?a32 ?l32 ?c32 ?k32 ?a33 ?l33 ?c33 ?k33 ?a34 ?l34 ?c34 ?k34 ?a35 ?l35 ?c35 ?k35 ?a36 ?l36 ?c36 ?k36 ?a37 ?l37 ?c37 ?k37 ?q_LiarError ?qb_LiarError ?qt_LiarError ?qi_LiarError ?q_BadGame ?qb_BadGame ?qt_BadGame ?qi_BadGame ?q_BadCounts ?qb_BadCounts ?qt_BadCounts ?qi_BadCounts ?q_BadQuestion ?qb_BadQuestion ?qt_BadQuestion ?qi_BadQuestion ?q_Liar ?qb_Liar ?qt_Liar ?qi_Liar ?q_BadPlan ?qb_BadPlan ?qt_BadPlan ?qi_BadPlan ?q_BadText ?qb_BadText ?qt_BadText ?qi_BadText ?qe_BadGame ?qk_BadGame ?qg_BadGame ?qh_BadGame ?qd_BadGame ?qa_BadGame ?qm_BadGame ?qv_BadGame ?ql_BadGame ?qq_BadGame_BadGame ?qq_BadGame_BadCounts ?qq_BadGame_BadQuestion ?qq_BadGame_Liar ?qq_BadGame_BadPlan ?qq_BadGame_BadText ?qe_BadCounts ?qk_BadCounts ?qg_BadCounts ?qh_BadCounts ?qd_BadCounts ?qa_BadCounts ?qm_BadCounts ?qv_BadCounts ?ql_BadCounts ?qq_BadCounts_BadGame ?qq_BadCounts_BadCounts ?qq_BadCounts_BadQuestion ?qq_BadCounts_Liar ?qq_BadCounts_BadPlan ?qq_BadCounts_BadText ?qe_BadQuestion ?qk_BadQuestion ?qg_BadQuestion ?qh_BadQuestion ?qd_BadQuestion ?qa_BadQuestion ?qm_BadQuestion ?qv_BadQuestion ?ql_BadQuestion ?qq_BadQuestion_BadGame ?qq_BadQuestion_BadCounts ?qq_BadQuestion_BadQuestion ?qq_BadQuestion_Liar ?qq_BadQuestion_BadPlan ?qq_BadQuestion_BadText ?qe_Liar ?qk_Liar ?qg_Liar ?qh_Liar ?qd_Liar ?qa_Liar ?qm_Liar ?qv_Liar ?ql_Liar ?qq_Liar_BadGame ?qq_Liar_BadCounts ?qq_Liar_BadQuestion ?qq_Liar_Liar ?qq_Liar_BadPlan ?qq_Liar_BadText ?qe_BadPlan ?qk_BadPlan ?qg_BadPlan ?qh_BadPlan ?qd_BadPlan ?qa_BadPlan ?qm_BadPlan ?qv_BadPlan ?ql_BadPlan ?qq_BadPlan_BadGame ?qq_BadPlan_BadCounts ?qq_BadPlan_BadQuestion ?qq_BadPlan_Liar ?qq_BadPlan_BadPlan ?qq_BadPlan_BadText ?qe_BadText ?qk_BadText ?qg_BadText ?qh_BadText ?qd_BadText ?qa_BadText ?qm_BadText ?qv_BadText ?ql_BadText ?qq_BadText_BadGame ?qq_BadText_BadCounts ?qq_BadText_BadQuestion ?qq_BadText_Liar ?qq_BadText_BadPlan ?qq_BadText_BadText ?gn ?gt ?w_MOST_COUNT ?w_MOST_QUESTIONS ?w_MOST_THINGS ?w_MOST_DEEP ?w_FIGURES ?z_ValueError ?z_abs ?z_all ?z_int ?z_isinstance ?z_len ?z_list ?z_max ?z_min ?z_range ?z_sorted ?z_str ?z_sum ?z_tuple
    (case q_Worker => k_is)
    (case pg_Worker => k_is)
    (case hd_Worker => k_is)
    (case po_Worker => k_is)
    (case sa_Worker => k_is)
    (case mk_Worker => k_is)
    (case kc_Worker => k_is)
    (case na_Worker_known => k_is)
    (case q_Signs => k_is)
    (case pg_Signs => k_is)
    (case hd_Signs => k_is)
    (case po_Signs => k_is)
    (case sa_Signs => k_is)
    (case mk_Signs => k_is)
    (case kc_Signs => k_is)
    (case na_Signs_text => k_is)
    (case na_Signs_spot => k_is)
    (case a0 => k_is)
    (case l0 => k_is)
    (case c0 => k_is)
    (case k0 => k_is)
    (case a1 => k_is)
    (case l1 => k_is)
    (case c1 => k_is)
    (case k1 => k_is)
    (case a2 => k_is)
    (case l2 => k_is)
    (case c2 => k_is)
    (case k2 => k_is)
    (case a3 => k_is)
    (case l3 => k_is)
    (case c3 => k_is)
    (case k3 => k_is)
    (case a4 => k_is)
    (case l4 => k_is)
    (case c4 => k_is)
    (case k4 => k_is)
    (case a5 => k_is)
    (case l5 => k_is)
    (case c5 => k_is)
    (case k5 => k_is)
    (case a6 => k_is)
    (case l6 => k_is)
    (case c6 => k_is)
    (case k6 => k_is)
    (case a7 => k_is)
    (case l7 => k_is)
    (case c7 => k_is)
    (case k7 => k_is)
    (case a8 => k_is)
    (case l8 => k_is)
    (case c8 => k_is)
    (case k8 => k_is)
    (case a9 => k_is)
    (case l9 => k_is)
    (case c9 => k_is)
    (case k9 => k_is)
    (case a10 => k_is)
    (case i10 => k_is)
    (case l10 => k_is)
    (case c10 => k_is)
    (case k10 => k_is)
    (case a11 => k_is)
    (case i11 => k_is)
    (case l11 => k_is)
    (case c11 => k_is)
    (case k11 => k_is)
    (case a12 => k_is)
    (case i12 => k_is)
    (case l12 => k_is)
    (case c12 => k_is)
    (case k12 => k_is)
    (case a13 => k_is)
    (case i13 => k_is)
    (case l13 => k_is)
    (case c13 => k_is)
    (case k13 => k_is)
    (case a14 => k_is)
    (case l14 => k_is)
    (case c14 => k_is)
    (case k14 => k_is)
    (case a15 => k_is)
    (case l15 => k_is)
    (case c15 => k_is)
    (case k15 => k_is)
    (case a16 => k_is)
    (case l16 => k_is)
    (case c16 => k_is)
    (case k16 => k_is)
    (case a17 => k_is)
    (case l17 => k_is)
    (case c17 => k_is)
    (case k17 => k_is)
    (case a18 => k_is)
    (case i18 => k_is)
    (case l18 => k_is)
    (case c18 => k_is)
    (case k18 => k_is)
    (case a19 => k_is)
    (case i19 => k_is)
    (case l19 => k_is)
    (case c19 => k_is)
    (case k19 => k_is)
    (case a20 => k_is)
    (case i20 => k_is)
    (case l20 => k_is)
    (case c20 => k_is)
    (case k20 => k_is)
    (case a21 => k_is)
    (case i21 => k_is)
    (case l21 => k_is)
    (case c21 => k_is)
    (case k21 => k_is)
    (case a22 => k_is)
    (case i22 => k_is)
    (case l22 => k_is)
    (case c22 => k_is)
    (case k22 => k_is)
    (case a23 => k_is)
    (case l23 => k_is)
    (case c23 => k_is)
    (case k23 => k_is)
    (case a24 => k_is)
    (case l24 => k_is)
    (case c24 => k_is)
    (case k24 => k_is)
    (case a25 => k_is)
    (case l25 => k_is)
    (case c25 => k_is)
    (case k25 => k_is)
    (case a26 => k_is)
    (case l26 => k_is)
    (case c26 => k_is)
    (case k26 => k_is)
    (case a27 => k_is)
    (case l27 => k_is)
    (case c27 => k_is)
    (case k27 => k_is)
    (case a28 => k_is)
    (case l28 => k_is)
    (case c28 => k_is)
    (case k28 => k_is)
    (case a29 => k_is)
    (case l29 => k_is)
    (case c29 => k_is)
    (case k29 => k_is)
    (case a30 => k_is)
    (case l30 => k_is)
    (case c30 => k_is)
    (case k30 => k_is)
    (case a31 => k_is)
    (case l31 => k_is)
    (case c31 => k_is)
    (case k31 => k_is)
    (case a32 => k_is)
    (case l32 => k_is)
    (case c32 => k_is)
    (case k32 => k_is)
    (case a33 => k_is)
    (case l33 => k_is)
    (case c33 => k_is)
    (case k33 => k_is)
    (case a34 => k_is)
    (case l34 => k_is)
    (case c34 => k_is)
    (case k34 => k_is)
    (case a35 => k_is)
    (case l35 => k_is)
    (case c35 => k_is)
    (case k35 => k_is)
    (case a36 => k_is)
    (case l36 => k_is)
    (case c36 => k_is)
    (case k36 => k_is)
    (case a37 => k_is)
    (case l37 => k_is)
    (case c37 => k_is)
    (case k37 => k_is)
    (case q_LiarError => k_is)
    (case qb_LiarError => k_is)
    (case qt_LiarError => k_is)
    (case qi_LiarError => k_is)
    (case q_BadGame => k_is)
    (case qb_BadGame => k_is)
    (case qt_BadGame => k_is)
    (case qi_BadGame => k_is)
    (case q_BadCounts => k_is)
    (case qb_BadCounts => k_is)
    (case qt_BadCounts => k_is)
    (case qi_BadCounts => k_is)
    (case q_BadQuestion => k_is)
    (case qb_BadQuestion => k_is)
    (case qt_BadQuestion => k_is)
    (case qi_BadQuestion => k_is)
    (case q_Liar => k_is)
    (case qb_Liar => k_is)
    (case qt_Liar => k_is)
    (case qi_Liar => k_is)
    (case q_BadPlan => k_is)
    (case qb_BadPlan => k_is)
    (case qt_BadPlan => k_is)
    (case qi_BadPlan => k_is)
    (case q_BadText => k_is)
    (case qb_BadText => k_is)
    (case qt_BadText => k_is)
    (case qi_BadText => k_is)
    (case qe_BadGame => k_exc)
    (case qk_BadGame => k_is)
    (case qg_BadGame => k_is)
    (case qh_BadGame => k_is)
    (case qd_BadGame => k_is)
    (case qa_BadGame => k_is)
    (case qm_BadGame => k_is)
    (case qv_BadGame => k_is)
    (case ql_BadGame => k_is)
    (case qq_BadGame_BadGame => first | rfl | k_is)
    (case qq_BadGame_BadCounts => first | rfl | k_is)
    (case qq_BadGame_BadQuestion => first | rfl | k_is)
    (case qq_BadGame_Liar => first | rfl | k_is)
    (case qq_BadGame_BadPlan => first | rfl | k_is)
    (case qq_BadGame_BadText => first | rfl | k_is)
    (case qe_BadCounts => k_exc)
    (case qk_BadCounts => k_is)
    (case qg_BadCounts => k_is)
    (case qh_BadCounts => k_is)
    (case qd_BadCounts => k_is)
    (case qa_BadCounts => k_is)
    (case qm_BadCounts => k_is)
    (case qv_BadCounts => k_is)
    (case ql_BadCounts => k_is)
    (case qq_BadCounts_BadGame => first | rfl | k_is)
    (case qq_BadCounts_BadCounts => first | rfl | k_is)
    (case qq_BadCounts_BadQuestion => first | rfl | k_is)
    (case qq_BadCounts_Liar => first | rfl | k_is)
    (case qq_BadCounts_BadPlan => first | rfl | k_is)
    (case qq_BadCounts_BadText => first | rfl | k_is)
    (case qe_BadQuestion => k_exc)
    (case qk_BadQuestion => k_is)
    (case qg_BadQuestion => k_is)
    (case qh_BadQuestion => k_is)
    (case qd_BadQuestion => k_is)
    (case qa_BadQuestion => k_is)
    (case qm_BadQuestion => k_is)
    (case qv_BadQuestion => k_is)
    (case ql_BadQuestion => k_is)
    (case qq_BadQuestion_BadGame => first | rfl | k_is)
    (case qq_BadQuestion_BadCounts => first | rfl | k_is)
    (case qq_BadQuestion_BadQuestion => first | rfl | k_is)
    (case qq_BadQuestion_Liar => first | rfl | k_is)
    (case qq_BadQuestion_BadPlan => first | rfl | k_is)
    (case qq_BadQuestion_BadText => first | rfl | k_is)
    (case qe_Liar => k_exc)
    (case qk_Liar => k_is)
    (case qg_Liar => k_is)
    (case qh_Liar => k_is)
    (case qd_Liar => k_is)
    (case qa_Liar => k_is)
    (case qm_Liar => k_is)
    (case qv_Liar => k_is)
    (case ql_Liar => k_is)
    (case qq_Liar_BadGame => first | rfl | k_is)
    (case qq_Liar_BadCounts => first | rfl | k_is)
    (case qq_Liar_BadQuestion => first | rfl | k_is)
    (case qq_Liar_Liar => first | rfl | k_is)
    (case qq_Liar_BadPlan => first | rfl | k_is)
    (case qq_Liar_BadText => first | rfl | k_is)
    (case qe_BadPlan => k_exc)
    (case qk_BadPlan => k_is)
    (case qg_BadPlan => k_is)
    (case qh_BadPlan => k_is)
    (case qd_BadPlan => k_is)
    (case qa_BadPlan => k_is)
    (case qm_BadPlan => k_is)
    (case qv_BadPlan => k_is)
    (case ql_BadPlan => k_is)
    (case qq_BadPlan_BadGame => first | rfl | k_is)
    (case qq_BadPlan_BadCounts => first | rfl | k_is)
    (case qq_BadPlan_BadQuestion => first | rfl | k_is)
    (case qq_BadPlan_Liar => first | rfl | k_is)
    (case qq_BadPlan_BadPlan => first | rfl | k_is)
    (case qq_BadPlan_BadText => first | rfl | k_is)
    (case qe_BadText => k_exc)
    (case qk_BadText => k_is)
    (case qg_BadText => k_is)
    (case qh_BadText => k_is)
    (case qd_BadText => k_is)
    (case qa_BadText => k_is)
    (case qm_BadText => k_is)
    (case qv_BadText => k_is)
    (case ql_BadText => k_is)
    (case qq_BadText_BadGame => first | rfl | k_is)
    (case qq_BadText_BadCounts => first | rfl | k_is)
    (case qq_BadText_BadQuestion => first | rfl | k_is)
    (case qq_BadText_Liar => first | rfl | k_is)
    (case qq_BadText_BadPlan => first | rfl | k_is)
    (case qq_BadText_BadText => first | rfl | k_is)
    (case gn => k_is)
    (case gt => k_is)
    (case w_MOST_COUNT => k_is)
    (case w_MOST_QUESTIONS => k_is)
    (case w_MOST_THINGS => k_is)
    (case w_MOST_DEEP => k_is)
    (case w_FIGURES => k_is)
    (case z_ValueError => k_is)
    (case z_abs => k_is)
    (case z_all => k_is)
    (case z_int => k_is)
    (case z_isinstance => k_is)
    (case z_len => k_is)
    (case z_list => k_is)
    (case z_max => k_is)
    (case z_min => k_is)
    (case z_range => k_is)
    (case z_sorted => k_is)
    (case z_str => k_is)
    (case z_sum => k_is)
    (case z_tuple => k_is)
