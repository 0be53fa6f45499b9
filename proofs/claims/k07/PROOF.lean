import PyProof.Rows.All
import Wide.All
import OpenK.AllK
import Wide.FinOn
import HandS.ForMost
import HandS.ForExc
import HandS.Wide
import HandS.Gcd
import HandS.TupAny
import HandS.Flow
import HandS.Style
import HandS.ExcInit
import KE.KExcSuper
import KE.KSuper
import HandS.AnyAll
import HandS.Deep
import HandS.RaiseMore
import HandS.WideBits
import HandS.SortInts
import HandS.Star
import HandS.Text
import HandS.Zip
import KE.SortData
import KE.DataMinMax
import PyProof.ReprRoads
import PyProof.ReprLen
import PyProof.Rows.RegStrFacts
import HandS.TupLe
import HandS.CallLocal
import HandS.Small
import KE.KeyNested
import KE.KDictKeyed
import KE.KDictWalk
import HandS.Iter
import KE.KPairComp
import HandS.More
import KE.KDictCopyH
import KE.KDictSum
import PyProof.TupleOfSeq
import PySem.Challenge.RW_overtakings_k07_fractions
set_option Elab.async false
set_option linter.all false
set_option maxRecDepth 100000
namespace PU
open PySem PySem.Spec L2
set_option autoImplicit false

/-- plain data -/
inductive D where
  | non | bl (b : Bool) | int (i : Int) | str (x : Str) | con (v : V)
  | lst (xs : List D) | tup (xs : List D) | dK (kvs : List (Key × D)) | dT (kvs : List (List Key × D))
  | dN (kvs : List (NestedKey × D))
/-- a dict's raw entries, where it stands -/
def NDx (a : Addr) (es : Array DictEntry) (ep : Nat) : Heap → Prop := fun h => (a == sysModules) = false ∧ es.size ≤ sizeLine ∧ h.DictRaw a es ep
mutual
/-- a key as data -/
def keyD : NestedKey → D
  | .none => .non
  | .num i => .int i
  | .text x => .str x
  | .tup ks => .tup (keyDs ks)
def keyDs : List NestedKey → List D
  | [] => []
  | k :: ks => keyD k :: keyDs ks
end
mutual
/-- a key without texts -/
def ktf : NestedKey → Bool
  | .none => true
  | .num _ => true
  | .text _ => false
  | .tup ks => ktfs ks
def ktfs : List NestedKey → Bool
  | [] => true
  | k :: ks => ktf k && ktfs ks
end

mutual
inductive DP (K : PySem.W.Frag) (H : Hp) : V → D → Prop
  | non : DP K H .non .non
  | bl (b : Bool) : DP K H (.bl b) (.bl b)
  | int (i : Int) : DP K H (.int i) (.int i)
  | str (x : Str) : DP K H (.str x) (.str x)
  | con (v : V) : DP K H v (.con v)
  | lst {a : Addr} {xs : List V} {ds : List D} : H a = some (.lst xs) → DPs K H xs ds → DP K H (.ref a) (.lst ds)
  | tup {a : Addr} {xs : List V} {ds : List D} : SqT K H a xs → DPs K H xs ds → DP K H (.ref a) (.tup ds)
  | dK {a : Addr} {xs : List (Key × V)} {ds : List (Key × D)} : Rd H a (.dK xs) → DPk K H xs ds → DP K H (.ref a) (.dK ds)
  | dT {a : Addr} {xs : List (List Key × V)} {ds : List (List Key × D)} : Rd H a (.dT xs) → DPt K H xs ds → DP K H (.ref a) (.dT ds)
  | dN {a a0 : Addr} {es : Array DictEntry} {ep : Nat} {el : List DictEntry} {ds : List (NestedKey × D)} : H a = some (.ext (NDx a0 es ep)) → es.toList = el → (ds.map (·.1)).Nodup → DPn K H el ds → DP K H (.ref a) (.dN ds)
inductive DPs (K : PySem.W.Frag) (H : Hp) : List V → List D → Prop
  | nil : DPs K H [] []
  | cons {v : V} {vs : List V} {d : D} {ds : List D} : DP K H v d → DPs K H vs ds → DPs K H (v :: vs) (d :: ds)
inductive DPk (K : PySem.W.Frag) (H : Hp) : List (Key × V) → List (Key × D) → Prop
  | nil : DPk K H [] []
  | cons {k : Key} {v : V} {vs : List (Key × V)} {d : D} {ds : List (Key × D)} : DP K H v d → DPk K H vs ds → DPk K H ((k, v) :: vs) ((k, d) :: ds)
inductive DPt (K : PySem.W.Frag) (H : Hp) : List (List Key × V) → List (List Key × D) → Prop
  | nil : DPt K H [] []
  | cons {k : List Key} {v : V} {vs : List (List Key × V)} {d : D} {ds : List (List Key × D)} : DP K H v d → DPt K H vs ds → DPt K H ((k, v) :: vs) ((k, d) :: ds)
inductive DPn (K : PySem.W.Frag) (H : Hp) : List DictEntry → List (NestedKey × D) → Prop
  | nil : DPn K H [] []
  | cons {e : DictEntry} {k : NestedKey} {w0 : World} {v kv : V} {d dk : D} {es : List DictEntry} {ds : List (NestedKey × D)} : ktf k = true → k.depth ≤ 8 → e.hash = k.hash w0 → RelV kv e.key → RelV v e.val → dk = keyD k → DP K H kv dk → DP K H v d → DPn K H es ds → DPn K H (e :: es) ((k, d) :: ds)
end

theorem same_tup {K : PySem.W.Frag} {H H' : Hp} {a : Addr} {xs : List V} (e : Same H H') (h : SqT K H a xs) : SqT K H' a xs := by
  rcases h with (h | ⟨o, h⟩) | h
  · exact .inl (.inl (e _ _ h))
  · exact .inl (.inr ⟨o, e _ _ h⟩)
  · exact .inr h
theorem same_rd {H H' : Hp} {a : Addr} {u : HO} (e : Same H H') (h : Rd H a u) : Rd H' a u := by
  rcases h with h | ⟨o, h⟩
  · exact .inl (e _ _ h)
  · exact .inr ⟨o, e _ _ h⟩
section
variable {K : PySem.W.Frag} {F F' : Hp}
mutual
theorem DP.mono (e : Same F F') : ∀ {v : V} {d : D}, DP K F v d → DP K F' v d
  | _, _, .non => .non
  | _, _, .bl b => .bl b
  | _, _, .int i => .int i
  | _, _, .str x => .str x
  | _, _, .con v => .con v
  | _, _, .lst h t => .lst (e _ _ h) (DPs.mono e t)
  | _, _, .tup h t => .tup (same_tup e h) (DPs.mono e t)
  | _, _, .dK h t => .dK (same_rd e h) (DPk.mono e t)
  | _, _, .dT h t => .dT (same_rd e h) (DPt.mono e t)
  | _, _, .dN h x n t => .dN (e _ _ h) x n (DPn.mono e t)
theorem DPs.mono (e : Same F F') : ∀ {v : List V} {d : List D}, DPs K F v d → DPs K F' v d
  | _, _, .nil => .nil
  | _, _, .cons h t => .cons (DP.mono e h) (DPs.mono e t)
theorem DPk.mono (e : Same F F') : ∀ {v : List (Key × V)} {d : List (Key × D)}, DPk K F v d → DPk K F' v d
  | _, _, .nil => .nil
  | _, _, .cons h t => .cons (DP.mono e h) (DPk.mono e t)
theorem DPt.mono (e : Same F F') : ∀ {v : List (List Key × V)} {d : List (List Key × D)}, DPt K F v d → DPt K F' v d
  | _, _, .nil => .nil
  | _, _, .cons h t => .cons (DP.mono e h) (DPt.mono e t)
theorem DPn.mono (e : Same F F') : ∀ {v : List DictEntry} {d : List (NestedKey × D)}, DPn K F v d → DPn K F' v d
  | _, _, .nil => .nil
  | _, _, .cons h1 h2 h3 h4 h5 h6 p q t => .cons h1 h2 h3 h4 h5 h6 (DP.mono e p) (DP.mono e q) (DPn.mono e t)
end
theorem DPs.length : ∀ {v : List V} {d : List D}, DPs K F v d → v.length = d.length
  | _, _, .nil => rfl
  | _, _, .cons _ t => congrArg (· + 1) t.length
theorem DPs.append : ∀ {v w : List V} {d e : List D}, DPs K F v d → DPs K F w e → DPs K F (v ++ w) (d ++ e)
  | _, _, _, _, .nil, h => h
  | _, _, _, _, .cons h t, h' => .cons h (t.append h')
theorem DPs.get : ∀ {v : List V} {d : List D} {i : Nat} {x : D}, DPs K F v d → d[i]? = some x → ∃ y, v[i]? = some y ∧ DP K F y x
  | _, _, _, _, .nil, e => by simp at e
  | _, _, 0, _, .cons h _, e => by
    simp at e
    subst e
    exact ⟨_, rfl, h⟩
  | _, _, i + 1, x, .cons _ t, e => by
    obtain ⟨y, h1, h2⟩ := DPs.get (i := i) (x := x) t (by simpa using e)
    exact ⟨y, by simpa using h1, h2⟩
theorem DPs.get' : ∀ {v : List V} {d : List D} {i : Nat} {x : V}, DPs K F v d → v[i]? = some x → ∃ y, d[i]? = some y ∧ DP K F x y
  | _, _, _, _, .nil, e => by simp at e
  | _, _, 0, _, .cons h _, e => by
    simp at e
    subst e
    exact ⟨_, rfl, h⟩
  | _, _, i + 1, x, .cons _ t, e => by
    obtain ⟨y, h1, h2⟩ := DPs.get' (i := i) (x := x) t (by simpa using e)
    exact ⟨y, by simpa using h1, h2⟩
end

/-! ### the abstract state -/
inductive AV where
  | un | dat (d : D) | own (d : D) | src

/-- an object that one slot alone holds -/
inductive OwnP (K : PySem.W.Frag) (F : Hp) : HO → D → Prop
  | lst {xs : List V} {ds : List D} : DPs K F xs ds → OwnP K F (.lst xs) (.lst ds)
  | dK {xs : List (Key × V)} {ds : List (Key × D)} : DPk K F xs ds → OwnP K F (.dK xs) (.dK ds)
  | dT {xs : List (List Key × V)} {ds : List (List Key × D)} : DPt K F xs ds → OwnP K F (.dT xs) (.dT ds)
  | dN {a0 : Addr} {es : Array DictEntry} {ep : Nat} {ds : List (NestedKey × D)} : (ds.map (·.1)).Nodup → DPn K F es.toList ds → OwnP K F (.ext (NDx a0 es ep)) (.dN ds)
theorem OwnP.mono {K : PySem.W.Frag} {F F' : Hp} (e : Same F F') {o : HO} {d : D} (h : OwnP K F o d) : OwnP K F' o d := by
  cases h with
  | lst h => exact .lst (h.mono e)
  | dK h => exact .dK (h.mono e)
  | dT h => exact .dT (h.mono e)
  | dN n h => exact .dN n (h.mono e)

/-- the drawing source: a dict at s, its cells' list at c -/
def SrcAt (H : Hp) (s c : Addr) : Prop := ∃ (ns : List Int) (l m t : Int),
  H s = some (.dK [(.inr "cells", .ref c), (.inr "left", .int l), (.inr "mixed", .int m), (.inr "turn", .int t)]) ∧ H c = some (.lst (ns.map V.int)) ∧
  (∀ x ∈ ns, 0 ≤ x) ∧ 0 ≤ l ∧ 0 ≤ m ∧ m < 2147483647 ∧ 0 ≤ t
theorem SrcAt.at {H H' : Hp} {s c : Addr} (h : SrcAt H s c) (e1 : H' s = H s) (e2 : H' c = H c) : SrcAt H' s c := by
  obtain ⟨ns, l, m, t, h1, h2, r⟩ := h
  exact ⟨ns, l, m, t, e1.trans h1, e2.trans h2, r⟩

/-- the entry: the source, the frozen part, the heap -/
structure Bas where
  ec : Str → Option Addr
  Z : Option (Addr × Addr)
  P : Hp
  F0 : Hp
  H0 : Hp
def NotSrc (Z : Option (Addr × Addr)) (b : Addr) : Prop := ∀ s c, Z = some (s, c) → b ≠ s ∧ b ≠ c

structure Bse (B : Bas) (F H : Hp) : Prop where
  fz : Same F H
  f0 : Same B.F0 F
  nf : ∀ b, F b ≠ none → B.F0 b ≠ none ∨ B.H0 b = none
  kp : ∀ b o, B.H0 b = some o → NotSrc B.Z b → H b = some o
  sr : ∀ s c, B.Z = some (s, c) → SrcAt H s c ∧ F s = none ∧ F c = none ∧ s ≠ c ∧ B.H0 s ≠ none ∧ B.H0 c ≠ none
  pr : ∀ b o, B.P b = some o → H b = some o ∧ F b = none ∧ B.H0 b = none

structure Rel (K : PySem.W.Frag) (B : Bas) (F H : Hp) (ρ : List AV) (σ : St) : Prop extends Bse B F H where
  len : σ.length = ρ.length
  sl : ∀ (i : Nat) (d : D), ρ[i]? = some (.dat d) → ∃ v, σ[i]? = some (some v) ∧ DP K F v d
  ow : ∀ (i : Nat) (d : D), ρ[i]? = some (.own d) → ∃ a ho, σ[i]? = some (some (.ref a)) ∧ F a = none ∧ B.H0 a = none ∧ B.P a = none ∧ H a = some ho ∧ OwnP K F ho d
  so : ∀ (i : Nat), ρ[i]? = some .src → ∃ s c, B.Z = some (s, c) ∧ σ[i]? = some (some (.ref s))
  ap : ∀ (i j : Nat) (d e : D) (a : Addr), i ≠ j → ρ[i]? = some (.own d) → ρ[j]? = some (.own e) → σ[i]? = some (some (.ref a)) → σ[j]? ≠ some (some (.ref a))

section
variable {K : PySem.W.Frag} {B : Bas} {F F' H H' : Hp} {ρ ρ' : List AV} {σ : St}
theorem srcAt_some {H : Hp} {s c : Addr} (h : SrcAt H s c) : H s ≠ none ∧ H c ≠ none := by
  obtain ⟨ns, l, m, t, h1, h2, _⟩ := h
  exact ⟨(by rw [h1]; exact fun z => nomatch z), (by rw [h2]; exact fun z => nomatch z)⟩
theorem Bse.free0 (R : Bse B F H) {p : Addr} (h : H p = none) : B.H0 p = none := by
  cases q : B.H0 p with
  | none => rfl
  | some o =>
    exfalso
    have ns : NotSrc B.Z p := fun s c e => by
      obtain ⟨a, _⟩ := R.sr s c e
      obtain ⟨h1, h2⟩ := srcAt_some a
      exact ⟨fun z => h1 (z ▸ h), fun z => h2 (z ▸ h)⟩
    rw [R.kp p o q ns] at h
    cases h
theorem Bse.freeF (R : Bse B F H) {p : Addr} (h : H p = none) : F p = none := by
  cases q : F p with
  | none => rfl
  | some o => rw [R.fz p o q] at h; cases h
theorem Bse.freeP (R : Bse B F H) {p : Addr} (h : H p = none) : B.P p = none := by
  cases q : B.P p with
  | none => rfl
  | some o => rw [(R.pr p o q).1] at h; cases h
theorem same_upd {H : Hp} {p : Addr} {o : HO} (h : H p = none) : Same H (upd H p o) := fun b x e => by
  rw [upd_ne (ne_of_none e h)]
  exact e
/-- a new object, frozen -/
theorem Bse.alloc (R : Bse B F H) {p : Addr} {o : HO} (h : H p = none) : Bse B (upd F p o) (upd H p o) where
  fz := fun b x e => by
    by_cases hb : b = p
    · subst hb; rw [upd_same] at e ⊢; exact e
    · rw [upd_ne hb] at e ⊢; exact R.fz b x e
  f0 := R.f0.trans (same_upd (R.freeF h))
  nf := fun b hb => by
    by_cases e : b = p
    · subst e; exact .inr (R.free0 h)
    · rw [upd_ne e] at hb; exact R.nf b hb
  kp := fun b x e n => by rw [upd_ne (ne_of_none (R.kp b x e n) h)]; exact R.kp b x e n
  sr := fun s c e => by
    obtain ⟨a, fs, fc, ne, r⟩ := R.sr s c e
    obtain ⟨h1, h2⟩ := srcAt_some a
    have n1 : s ≠ p := fun z => h1 (z ▸ h)
    have n2 : c ≠ p := fun z => h2 (z ▸ h)
    exact ⟨a.at (upd_ne n1) (upd_ne n2), by rw [upd_ne n1]; exact fs, by rw [upd_ne n2]; exact fc, ne, r⟩
  pr := fun b x e => by
    obtain ⟨h1, h2, h3⟩ := R.pr b x e
    have n : b ≠ p := ne_of_none h1 h
    exact ⟨by rw [upd_ne n]; exact h1, by rw [upd_ne n]; exact h2, h3⟩
/-- a new object, not frozen -/
theorem Bse.allocO (R : Bse B F H) {p : Addr} {o : HO} (h : H p = none) : Bse B F (upd H p o) where
  fz := R.fz.trans (same_upd h)
  f0 := R.f0
  nf := R.nf
  kp := fun b x e n => by rw [upd_ne (ne_of_none (R.kp b x e n) h)]; exact R.kp b x e n
  sr := fun s c e => by
    obtain ⟨a, fs, fc, ne, r⟩ := R.sr s c e
    obtain ⟨h1, h2⟩ := srcAt_some a
    exact ⟨a.at (upd_ne fun z => h1 (z ▸ h)) (upd_ne fun z => h2 (z ▸ h)), fs, fc, ne, r⟩
  pr := fun b x e => by
    obtain ⟨h1, h2, h3⟩ := R.pr b x e
    have n : b ≠ p := ne_of_none h1 h
    exact ⟨by rw [upd_ne n]; exact h1, h2, h3⟩
/-- an object of one's own is written -/
theorem Bse.write (R : Bse B F H) {p : Addr} {o : HO} (hf : F p = none) (h0 : B.H0 p = none) (hP : B.P p = none) : Bse B F (upd H p o) where
  fz := fun b x e => by rw [upd_ne (ne_of_none e hf)]; exact R.fz b x e
  f0 := R.f0
  nf := R.nf
  kp := fun b x e n => by rw [upd_ne (ne_of_none e h0)]; exact R.kp b x e n
  sr := fun s c e => by
    obtain ⟨a, fs, fc, ne, r1, r2⟩ := R.sr s c e
    exact ⟨a.at (upd_ne fun z => r1 (z ▸ h0)) (upd_ne fun z => r2 (z ▸ h0)), fs, fc, ne, r1, r2⟩
  pr := fun b x e => by
    obtain ⟨h1, h2, h3⟩ := R.pr b x e
    have n : b ≠ p := ne_of_none e hP
    exact ⟨by rw [upd_ne n]; exact h1, h2, h3⟩
/-- an object of one's own is frozen -/
theorem Bse.freeze (R : Bse B F H) {p : Addr} {o : HO} (hp : H p = some o) (hf : F p = none) (h0 : B.H0 p = none) (hP : B.P p = none) : Bse B (upd F p o) H where
  fz := fun b x e => by
    by_cases hb : b = p
    · subst hb; rw [upd_same] at e; cases e; exact hp
    · rw [upd_ne hb] at e; exact R.fz b x e
  f0 := R.f0.trans (same_upd hf)
  nf := fun b hb => by
    by_cases e : b = p
    · subst e; exact .inr h0
    · rw [upd_ne e] at hb; exact R.nf b hb
  kp := R.kp
  sr := fun s c e => by
    obtain ⟨a, fs, fc, ne, r1, r2⟩ := R.sr s c e
    exact ⟨a, by rw [upd_ne (show s ≠ p from fun z => r1 (z ▸ h0))]; exact fs, by rw [upd_ne (show c ≠ p from fun z => r2 (z ▸ h0))]; exact fc, ne, r1, r2⟩
  pr := fun b x e => by
    obtain ⟨h1, h2, h3⟩ := R.pr b x e
    have n : b ≠ p := ne_of_none e hP
    exact ⟨h1, by rw [upd_ne n]; exact h2, h3⟩
theorem Rel.alloc (R : Rel K B F H ρ σ) {p : Addr} {o : HO} (h : H p = none) : Rel K B (upd F p o) (upd H p o) ρ σ where
  toBse := R.toBse.alloc h
  len := R.len
  sl := fun i d e => let ⟨v, h1, h2⟩ := R.sl i d e; ⟨v, h1, h2.mono (same_upd (R.freeF h))⟩
  ow := fun i d e => by
    obtain ⟨a, ho, h1, h2, h3, hP, h4, h5⟩ := R.ow i d e
    have n : a ≠ p := ne_of_none h4 h
    exact ⟨a, ho, h1, by rw [upd_ne n]; exact h2, h3, hP, by rw [upd_ne n]; exact h4, h5.mono (same_upd (R.freeF h))⟩
  so := R.so
  ap := R.ap
theorem Rel.allocO (R : Rel K B F H ρ σ) {p : Addr} {o : HO} (h : H p = none) : Rel K B F (upd H p o) ρ σ where
  toBse := R.toBse.allocO h
  len := R.len
  sl := R.sl
  ow := fun i d e => by
    obtain ⟨a, ho, h1, h2, h3, hP, h4, h5⟩ := R.ow i d e
    exact ⟨a, ho, h1, h2, h3, hP, by rw [upd_ne (ne_of_none h4 h)]; exact h4, h5⟩
  so := R.so
  ap := R.ap
end
end PU
set_option Elab.async false
set_option linter.all false
set_option maxRecDepth 100000
namespace PU
open PySem PySem.Spec L2
set_option autoImplicit false

/-- an exception of the program's own: its class's name, its fields -/
structure XE where
  cls : Str
  fs : List (Str × D)
/-- fields -/
inductive DPf (K : PySem.W.Frag) (H : Hp) : List (Str × V) → List (Str × D) → Prop
  | nil : DPf K H [] []
  | cons {k : Str} {v : V} {vs : List (Str × V)} {d : D} {ds : List (Str × D)} : DP K H v d → DPf K H vs ds → DPf K H ((k, v) :: vs) ((k, d) :: ds)
def XP (K : PySem.W.Frag) (ec : Str → Option Addr) (x : XE) (cls : Value) (d : Option Addr) (F H : Hp) : Prop :=
  ∃ C, ec x.cls = some C ∧ cls = .ref C ∧ ((x.fs = [] ∧ d = none) ∨ ∃ dd vs, d = some dd ∧ F dd = some (.xd vs) ∧ DPf K F vs x.fs)

abbrev EK := XE → List AV → Prop
abbrev AE := EK → List AV → (D → List AV → Prop) → Prop
abbrev AT := EK → List AV → (Bool → List AV → Prop) → Prop
abbrev AA := EK → List AV → (List D → List AV → Prop) → Prop

section
variable (K : PySem.W.Frag) (B : Bas) (W : WX)
def cX (σ : St) (EX : EK) : Prop := ∀ x ρ', EX x ρ' → ∀ cls d F' H', Rel K B F' H' ρ' σ → XP K B.ec x cls d F' H' → W cls d σ H'
def cE (t : AE) : TE := fun σ H Q => ∃ ρ F EX Q0, Rel K B F H ρ σ ∧ t EX ρ Q0 ∧ (∀ d ρ', Q0 d ρ' → ∀ v F' H', Rel K B F' H' ρ' σ → Same F F' → DP K F' v d → Q v H') ∧ cX K B W σ EX
def cT (t : AT) : TT := fun σ H Q => ∃ ρ F EX Q0, Rel K B F H ρ σ ∧ t EX ρ Q0 ∧ (∀ d ρ', Q0 d ρ' → ∀ F' H', Rel K B F' H' ρ' σ → Same F F' → Q d H') ∧ cX K B W σ EX
def cA (t : AA) : TA := fun σ H Q => ∃ ρ F EX Q0, Rel K B F H ρ σ ∧ t EX ρ Q0 ∧ (∀ ds ρ', Q0 ds ρ' → ∀ vs F' H', Rel K B F' H' ρ' σ → Same F F' → DPs K F' vs ds → Q vs H') ∧ cX K B W σ EX
end
def SE (X : Cx) (B : Bas) (W : WX) (e : Expr) (t : AE) : Prop := PE X e (cE X.K B W t)
def ST (X : Cx) (B : Bas) (W : WX) (e : Expr) (t : AT) : Prop := PT X e (cT X.K B W t)
def SW (X : Cx) (B : Bas) (W : WX) (e : Expr) (t : AT) : Prop := PW X e (cT X.K B W t)
def SA (X : Cx) (B : Bas) (W : WX) (es : List Expr) (t : AA) : Prop := PA X es (cA X.K B W t)

theorem PE_imp {X : Cx} {e : Expr} {T T' : TE} (h : PE X e T) (i : ∀ σ H Q, T' σ H Q → T σ H Q) : PE X e T' := ⟨fun pins s σ H Q I q => h.run pins s σ H Q I (i _ _ _ q)⟩
theorem PT_imp {X : Cx} {e : Expr} {T T' : TT} (h : PT X e T) (i : ∀ σ H Q, T' σ H Q → T σ H Q) : PT X e T' := ⟨fun pins s σ H Q I q => h.run pins s σ H Q I (i _ _ _ q)⟩
theorem PW_imp {X : Cx} {e : Expr} {T T' : TT} (h : PW X e T) (i : ∀ σ H Q, T' σ H Q → T σ H Q) : PW X e T' := ⟨fun wh pins s σ H Q I q => h.run wh pins s σ H Q I (i _ _ _ q)⟩
theorem PA_imp {X : Cx} {e : List Expr} {T T' : TA} (h : PA X e T) (i : ∀ σ H Q, T' σ H Q → T σ H Q) : PA X e T' := ⟨fun pos pins s σ H Q I q => h.run pos pins s σ H Q I (i _ _ _ q)⟩
theorem PS_imp {X : Cx} {e : Stmt} {T T' : TS} (h : PS X e T) (i : ∀ D σ H, T' D σ H → T D σ H) : PS X e T' := ⟨fun pins s σ H D I q => h.run pins s σ H D I (i _ _ _ q)⟩
theorem PSs_imp {X : Cx} {e : List Stmt} {T T' : TS} (h : PSs X e T) (i : ∀ D σ H, T' D σ H → T D σ H) : PSs X e T' := ⟨fun pins s σ H D I q => h.run pins s σ H D I (i _ _ _ q)⟩
theorem PG_imp {X : Cx} {e : Expr} {T T' : TG} (h : PG X e T) (i : ∀ v σ H Q, T' v σ H Q → T v σ H Q) : PG X e T' := ⟨fun pins s σ H v u Q I r q => h.run pins s σ H v u Q I r (i _ _ _ _ q)⟩

section
variable {K : PySem.W.Frag} {B : Bas} {F F' H H' : Hp} {ρ ρ' : List AV} {σ : St} {W : WX}
theorem set_get {α : Type} {l : List α} {i j : Nat} {x y : α} (h : (l.set i x)[j]? = some y) : (j = i ∧ y = x) ∨ (j ≠ i ∧ l[j]? = some y) := by
  by_cases e : i = j
  · subst e
    by_cases hl : i < l.length
    · rw [List.getElem?_set_self hl] at h
      exact .inl ⟨rfl, (Option.some.inj h).symm⟩
    · rw [List.getElem?_eq_none (by simpa using hl)] at h
      cases h
  · rw [List.getElem?_set_ne e] at h
    exact .inr ⟨fun z => e z.symm, h⟩
/-- an own object becomes data -/
theorem Rel.freeze (R : Rel K B F H ρ σ) {i : Nat} {d : D} (h : ρ[i]? = some (.own d)) : ∃ a ho, σ[i]? = some (some (.ref a)) ∧ F a = none ∧ Rel K B (upd F a ho) H (ρ.set i (.dat d)) σ ∧ Same F (upd F a ho) ∧ DP K (upd F a ho) (.ref a) d := by
  obtain ⟨a, ho, h1, h2, h3, hP, h4, h5⟩ := R.ow i d h
  have sm : Same F (upd F a ho) := same_upd h2
  have dp : DP K (upd F a ho) (.ref a) d := by
    cases h5 with
    | lst q => exact .lst upd_same (q.mono sm)
    | dK q => exact .dK (.inl upd_same) (q.mono sm)
    | dT q => exact .dT (.inl upd_same) (q.mono sm)
    | dN n q => exact .dN upd_same rfl n (q.mono sm)
  refine ⟨a, ho, h1, h2, ⟨R.toBse.freeze h4 h2 h3 hP, by rw [List.length_set]; exact R.len, fun j e q => ?_, fun j e q => ?_, fun j q => ?_, fun j k e e' b n q q' r => ?_⟩, sm, dp⟩
  · rcases set_get q with ⟨rfl, z⟩ | ⟨n, z⟩
    · cases z; exact ⟨_, h1, dp⟩
    · obtain ⟨v, x1, x2⟩ := R.sl j e z
      exact ⟨v, x1, x2.mono sm⟩
  · rcases set_get q with ⟨rfl, z⟩ | ⟨n, z⟩
    · cases z
    · obtain ⟨b, o, x1, x2, x3, xP, x4, x5⟩ := R.ow j e z
      have nb : b ≠ a := fun z' => R.ap i j d e a (Ne.symm n) h z h1 (z' ▸ x1)
      exact ⟨b, o, x1, by rw [upd_ne nb]; exact x2, x3, xP, x4, x5.mono sm⟩
  · rcases set_get q with ⟨rfl, z⟩ | ⟨n, z⟩
    · cases z
    · exact R.so j z
  · rcases set_get q with ⟨rfl, z⟩ | ⟨m, z⟩
    · cases z
    · rcases set_get q' with ⟨rfl, z'⟩ | ⟨m', z'⟩
      · cases z'
      · exact R.ap j k e e' b n z z' r
/-- data stored at a slot -/
theorem Rel.store (R : Rel K B F H ρ σ) {i : Nat} {v : V} {d : D} (h : DP K F v d) : Rel K B F H (ρ.set i (.dat d)) (σ.set i (some v)) := by
  refine ⟨R.toBse, by rw [List.length_set, List.length_set]; exact R.len, fun j e q => ?_, fun j e q => ?_, fun j q => ?_, fun j k e e' b n q q' r => ?_⟩
  · rcases set_get q with ⟨rfl, z⟩ | ⟨n, z⟩
    · cases z
      have hl : j < ρ.length := by
        have := (List.getElem?_eq_some_iff.mp q).1
        rwa [List.length_set] at this
      exact ⟨v, List.getElem?_set_self (by rw [R.len]; exact hl), h⟩
    · rw [List.getElem?_set_ne (Ne.symm n)]; exact R.sl j e z
  · rcases set_get q with ⟨rfl, z⟩ | ⟨n, z⟩
    · cases z
    · rw [List.getElem?_set_ne (Ne.symm n)]; exact R.ow j e z
  · rcases set_get q with ⟨rfl, z⟩ | ⟨n, z⟩
    · cases z
    · rw [List.getElem?_set_ne (Ne.symm n)]; exact R.so j z
  · rcases set_get q with ⟨rfl, z⟩ | ⟨m, z⟩
    · cases z
    · rcases set_get q' with ⟨rfl, z'⟩ | ⟨m', z'⟩
      · cases z'
      · rw [List.getElem?_set_ne (Ne.symm m)] at r
        rw [List.getElem?_set_ne (Ne.symm m')]
        exact R.ap j k e e' b n z z' r
/-- a new object of one's own stored at a slot -/
theorem Rel.storeO (R : Rel K B F H ρ σ) {i : Nat} {a : Addr} {o : HO} {d : D} (hF : F a = none) (h0 : B.H0 a = none) (hP : B.P a = none) (hH : H a = some o) (hp : OwnP K F o d)
    (fr : ∀ (j : Nat) (e : D), j ≠ i → ρ[j]? = some (.own e) → σ[j]? ≠ some (some (.ref a))) : Rel K B F H (ρ.set i (.own d)) (σ.set i (some (.ref a))) := by
  refine ⟨R.toBse, by rw [List.length_set, List.length_set]; exact R.len, fun j e q => ?_, fun j e q => ?_, fun j q => ?_, fun j k e e' b n q q' r => ?_⟩
  · rcases set_get q with ⟨rfl, z⟩ | ⟨n, z⟩
    · cases z
    · rw [List.getElem?_set_ne (Ne.symm n)]; exact R.sl j e z
  · rcases set_get q with ⟨rfl, z⟩ | ⟨n, z⟩
    · cases z
      have hl : j < ρ.length := by
        have := (List.getElem?_eq_some_iff.mp q).1
        rwa [List.length_set] at this
      exact ⟨a, o, List.getElem?_set_self (by rw [R.len]; exact hl), hF, h0, hP, hH, hp⟩
    · rw [List.getElem?_set_ne (Ne.symm n)]; exact R.ow j e z
  · rcases set_get q with ⟨rfl, z⟩ | ⟨n, z⟩
    · cases z
    · rw [List.getElem?_set_ne (Ne.symm n)]; exact R.so j z
  · rcases set_get q with ⟨rfl, z⟩ | ⟨m, z⟩
    · rcases set_get q' with ⟨rfl, z'⟩ | ⟨m', z'⟩
      · exact absurd rfl n
      · rw [List.getElem?_set_ne (Ne.symm m')]
        have hl : j < σ.length := by
          have := (List.getElem?_eq_some_iff.mp q).1
          rw [List.length_set] at this
          rw [R.len]; exact this
        rw [List.getElem?_set_self hl] at r
        cases r
        exact fr k e' m' z'
    · rcases set_get q' with ⟨rfl, z'⟩ | ⟨m', z'⟩
      · rw [List.getElem?_set_ne (Ne.symm m)] at r
        have hl : k < σ.length := by
          have := (List.getElem?_eq_some_iff.mp q').1
          rw [List.length_set] at this
          rw [R.len]; exact this
        rw [List.getElem?_set_self hl]
        intro y
        cases y
        exact fr j e m z r
      · rw [List.getElem?_set_ne (Ne.symm m)] at r
        rw [List.getElem?_set_ne (Ne.symm m')]
        exact R.ap j k e e' b n z z' r
/-- the own object at slot i is written -/
theorem Rel.writeO (R : Rel K B F H ρ σ) {i : Nat} {a : Addr} {d0 d : D} {o : HO} (h : ρ[i]? = some (.own d0)) (ha : σ[i]? = some (some (.ref a))) (hp : OwnP K F o d) : Rel K B F (upd H a o) (ρ.set i (.own d)) σ := by
  obtain ⟨a', ho, h1, h2, h3, hP, h4, h5⟩ := R.ow i d0 h
  rw [ha] at h1
  cases h1
  refine ⟨R.toBse.write h2 h3 hP, by rw [List.length_set]; exact R.len, fun j e q => ?_, fun j e q => ?_, fun j q => ?_, fun j k e e' b n q q' r => ?_⟩
  · rcases set_get q with ⟨rfl, z⟩ | ⟨n, z⟩
    · cases z
    · exact R.sl j e z
  · rcases set_get q with ⟨rfl, z⟩ | ⟨n, z⟩
    · cases z
      exact ⟨a, o, ha, h2, h3, hP, upd_same, hp⟩
    · obtain ⟨b, o', x1, x2, x3, xP, x4, x5⟩ := R.ow j e z
      have nb : b ≠ a := fun z' => R.ap i j d0 e a (Ne.symm n) h z ha (z' ▸ x1)
      exact ⟨b, o', x1, x2, x3, xP, by rw [upd_ne nb]; exact x4, x5⟩
  · rcases set_get q with ⟨rfl, z⟩ | ⟨n, z⟩
    · cases z
    · exact R.so j z
  · rcases set_get q with ⟨rfl, z⟩ | ⟨m, z⟩
    · rcases set_get q' with ⟨rfl, z'⟩ | ⟨m', z'⟩
      · exact absurd rfl n
      · exact R.ap j k d0 e' b n h z' r
    · rcases set_get q' with ⟨rfl, z'⟩ | ⟨m', z'⟩
      · exact R.ap j k e d0 b n z h r
      · exact R.ap j k e e' b n z z' r
/-- behind a call -/
theorem Rel.call (R : Rel K B F H ρ σ) {Z : Option (Addr × Addr)} {ec : Str → Option Addr} (hZ : Z = B.Z ∨ Z = none) (P : Bse ⟨ec, Z, fun _ => none, F, H⟩ F' H') : Rel K B F' H' ρ σ := by
  have nz : ∀ b, NotSrc B.Z b → NotSrc Z b := fun b n s c e => by
    rcases hZ with rfl | rfl
    · exact n s c e
    · cases e
  have old : ∀ b o, H b = some o → F b = none → F' b = none := fun b o h n => by
    cases q : F' b with
    | none => rfl
    | some u =>
      rcases P.nf b (by rw [q]; exact fun z => nomatch z) with z | z
      · exact absurd n z
      · rw [show (Bas.mk ec Z (fun _ => none) F H).H0 b = H b from rfl, h] at z; cases z
  have own : ∀ a, B.H0 a = none → NotSrc Z a := fun a h0 s c e => by
    rcases hZ with rfl | rfl
    · obtain ⟨_, _, _, _, r1, r2⟩ := R.sr s c e
      exact ⟨fun z => r1 (z ▸ h0), fun z => r2 (z ▸ h0)⟩
    · cases e
  refine ⟨⟨P.fz, R.f0.trans P.f0, fun b hb => ?_, fun b o e n => P.kp b o (R.kp b o e n) (nz b n), fun s c e => ?_, fun b o e => ?_⟩, R.len, fun j e q => ?_, fun j e q => ?_, R.so, R.ap⟩
  · rcases P.nf b hb with z | z
    · exact R.nf b z
    · exact .inr (R.toBse.free0 z)
  · obtain ⟨a, fs, fc, ne, r1, r2⟩ := R.sr s c e
    obtain ⟨h1, h2⟩ := srcAt_some a
    obtain ⟨os, es⟩ := Option.ne_none_iff_exists'.mp h1
    obtain ⟨oc, eC⟩ := Option.ne_none_iff_exists'.mp h2
    refine ⟨?_, old s os es fs, old c oc eC fc, ne, r1, r2⟩
    rcases hZ with rfl | rfl
    · exact (P.sr s c e).1
    · have n : ∀ b, NotSrc none b := fun b s c z => nomatch z
      exact a.at ((P.kp s os es (n s)).trans es.symm) ((P.kp c oc eC (n c)).trans eC.symm)
  · obtain ⟨h1, h2, h3⟩ := R.pr b o e
    exact ⟨P.kp b o h1 (own b h3), old b o h1 h2, h3⟩
  · obtain ⟨v, x1, x2⟩ := R.sl j e q
    exact ⟨v, x1, x2.mono P.f0⟩
  · obtain ⟨a, o, x1, x2, x3, xP, x4, x5⟩ := R.ow j e q
    exact ⟨a, o, x1, old a o x4 x2, x3, xP, P.kp a o x4 (own a x3), x5.mono P.f0⟩
theorem Rel.toCall (R : Rel K B F H ρ σ) {Z : Option (Addr × Addr)} {ec : Str → Option Addr} (hZ : Z = B.Z ∨ Z = none) : Bse ⟨ec, Z, fun _ => none, F, H⟩ F H where
  fz := R.fz
  f0 := Same.refl _
  nf := fun b h => .inl h
  kp := fun b o e _ => e
  sr := fun s c e => by
    rcases hZ with rfl | rfl
    · obtain ⟨a, fs, fc, ne, r1, r2⟩ := R.sr s c e
      obtain ⟨h1, h2⟩ := srcAt_some a
      exact ⟨a, fs, fc, ne, h1, h2⟩
    · cases e
  pr := fun _ _ e => nomatch e
end
end PU
set_option Elab.async false
set_option linter.all false
set_option maxRecDepth 100000
namespace PU
open PySem PySem.Spec L2
set_option autoImplicit false

/-! ### names, constants -/
@[simp] def aVar (i : Nat) : AE := fun _ ρ Q => match ρ[i]? with
  | some (.dat d) => Q d ρ
  | some (.own d) => Q d (ρ.set i (.dat d))
  | _ => False
@[simp] def aC (d : D) : AE := fun _ ρ Q => Q d ρ
section
variable {X : Cx} {B : Bas} {W : WX} {a b c e : Expr} {es : List Expr} {ta tb tc : AE} {pos : Pos}
theorem se_of (i : Nat) {e : Expr} (h : PE X e (tVar i)) : SE X B W e (aVar i) := by
  refine PE_imp h fun σ H Q q => ?_
  obtain ⟨ρ, F, EX, Q0, R, t, k, _⟩ := q
  unfold aVar at t
  split at t
  · rename_i d hd
    obtain ⟨v, h1, h2⟩ := R.sl i d hd
    exact ⟨v, h1, k d ρ t v F H R (Same.refl _) h2⟩
  · rename_i d hd
    obtain ⟨a, ho, h1, h2, R', sm, dp⟩ := R.freeze hd
    exact ⟨_, h1, k d _ t _ _ H R' sm dp⟩
  · exact t.elim
theorem se_c {v : V} {d : D} (h : PE X e (tC v)) (hd : ∀ F, DP X.K F v d) : SE X B W e (aC d) := by
  refine PE_imp h fun σ H Q q => ?_
  obtain ⟨ρ, F, EX, Q0, R, t, k, _⟩ := q
  exact k d ρ t v F H R (Same.refl _) (hd F)
theorem se_int {i : Int} {j : Nat} : SE X B W (.Constant (.int i) j pos) (aC (.int i)) := se_c pe_int fun _ => .int i
theorem se_bl {i : Bool} {j : Nat} : SE X B W (.Constant (.bool i) j pos) (aC (.bl i)) := se_c pe_bl fun _ => .bl i
theorem se_non {j : Nat} : SE X B W (.Constant .none j pos) (aC .non) := se_c pe_non fun _ => .non
theorem se_str {x : Str} {j : Nat} : SE X B W (.Constant (.str x) j pos) (aC (.str x)) := se_c pe_str fun _ => .str x

/-! ### operations of two -/
abbrev Op2 := D → D → (D → Prop) → Prop
def OpS (K : PySem.W.Frag) (B : Bas) (r : R2) (op : Op2) : Prop :=
  ∀ (F H : Hp) (ρ : List AV) (σ : L2.St) (x y : V) (d e : D) (Q0 : D → Prop) (Q : VK), Rel K B F H ρ σ → DP K F x d → DP K F y e → op d e Q0 →
    (∀ z, Q0 z → ∀ v F' H', Rel K B F' H' ρ σ → Same F F' → DP K F' v z → Q v H') → r x y H Q
@[simp] def aBin (op : Op2) (ta tb : AE) : AE := fun EX ρ Q => ta EX ρ fun d ρ1 => tb EX ρ1 fun e ρ2 => op d e fun z => Q z ρ2
theorem cBin {K : PySem.W.Frag} {r : R2} {op : Op2} (hs : OpS K B r op) {σ : L2.St} {H : Hp} {Q : VK} (q : cE K B W (aBin op ta tb) σ H Q) : tOp r (cE K B W ta) (cE K B W tb) σ H Q := by
  obtain ⟨ρ, F, EX, Q0, R, t, k, kx⟩ := q
  refine ⟨ρ, F, EX, _, R, t, fun d ρ1 t1 x F1 H1 R1 s1 p1 => ?_, kx⟩
  refine ⟨ρ1, F1, EX, _, R1, t1, fun e ρ2 t2 y F2 H2 R2' s2 p2 => ?_, kx⟩
  exact hs F2 H2 ρ2 σ x y d e _ Q R2' (p1.mono s2) p2 t2 fun z hz v F' H' R' s' p' => k z ρ2 hz v F' H' R' ((s1.trans s2).trans s') p'
theorem se_bin {o : Operator} {r : R2} {op : Op2} (ho : OpR X (binaryOp o) r) (hs : OpS X.K B r op) (ha : SE X B W a ta) (hb : SE X B W b tb) : SE X B W (.BinOp a o b pos) (aBin op ta tb) :=
  PE_imp (pe_op ho ha hb) fun _ _ _ q => cBin hs q
theorem se_cmp {o : CmpOp} {r : R2} {op : Op2} (ho : OpR X (compareOp o) r) (hs : OpS X.K B r op) (ha : SE X B W a ta) (hb : SE X B W b tb) (hm : behindInMarks o b = false) : SE X B W (.Compare a [o] [b] pos) (aBin op ta tb) :=
  PE_imp (pe_cmpR ho ha hb hm) fun _ _ _ q => cBin hs q
theorem OpS.or {K : PySem.W.Frag} {r r' : R2} {op op' : Op2} (h : OpS K B r op) (h' : OpS K B r' op') : OpS K B (fun x y H Q => r x y H Q ∨ r' x y H Q) (fun d e Q => op d e Q ∨ op' d e Q) := by
  intro F H ρ σ x y d e Q0 Q R p1 p2 q k
  rcases q with q | q
  · exact .inl (h F H ρ σ x y d e Q0 Q R p1 p2 q k)
  · exact .inr (h' F H ρ σ x y d e Q0 Q R p1 p2 q k)

/-- ints under a condition -/
@[simp] def dI (C : Int → Int → Prop) (g : Int → Int → D) : Op2 := fun d e Q => match d, e with
  | .int i, .int j => C i j ∧ Q (g i j)
  | _, _ => False
theorem dp_int {K : PySem.W.Frag} {F : Hp} {x : V} {i : Int} (h : DP K F x (.int i)) : x = .int i := by cases h; rfl
theorem dp_bl {K : PySem.W.Frag} {F : Hp} {x : V} {i : Bool} (h : DP K F x (.bl i)) : x = .bl i := by cases h; rfl
theorem dp_str {K : PySem.W.Frag} {F : Hp} {x : V} {i : Str} (h : DP K F x (.str i)) : x = .str i := by cases h; rfl
theorem dp_non {K : PySem.W.Frag} {F : Hp} {x : V} (h : DP K F x .non) : x = .non := by cases h; rfl
theorem opS_int {K : PySem.W.Frag} {C : Int → Int → Prop} {g : Int → Int → V} {g' : Int → Int → D} (hg : ∀ F i j, DP K F (g i j) (g' i j)) : OpS K B (rI C g) (dI C g') := by
  intro F H ρ σ x y d e Q0 Q R p1 p2 q k
  unfold dI at q
  split at q
  · rename_i i j
    exact ⟨i, j, dp_int p1, dp_int p2, q.1, k _ q.2 _ F H R (Same.refl _) (hg F i j)⟩
  · exact q.elim
theorem opS_int0 {K : PySem.W.Frag} {g : Int → Int → V} {g' : Int → Int → D} (hg : ∀ F i j, DP K F (g i j) (g' i j)) : OpS K B (rI0 g) (dI (fun _ _ => True) g') := by
  intro F H ρ σ x y d e Q0 Q R p1 p2 q k
  unfold dI at q
  split at q
  · rename_i i j
    exact ⟨i, j, dp_int p1, dp_int p2, k _ q.2 _ F H R (Same.refl _) (hg F i j)⟩
  · exact q.elim

/-- a + b -/
@[simp] def dAdd : Op2 := fun d e Q => match d, e with
  | .int i, .int j => Q (.int (i + j))
  | .str x, .str y => x.length + y.length ≤ sizeLine ∧ Q (.str (x ++ y))
  | .lst xs, .lst ys => xs.length + ys.length ≤ sizeLine ∧ Q (.lst (xs ++ ys))
  | .tup xs, .tup ys => xs.length + ys.length ≤ sizeLine ∧ Q (.tup (xs ++ ys))
  | .int i, .bl b => Q (.int (i + if b then 1 else 0))
  | _, _ => False
def rAddAll (K : PySem.W.Frag) : R2 := fun x y H Q =>
  (((rI0 fun i j => .int (i + j)) x y H Q ∨ (∃ i j, x = .str i ∧ y = .str j ∧ i.length + j.length ≤ sizeLine ∧ Q (.str (i ++ j)) H)) ∨ rCat x y H Q) ∨ (rCatA K x y H Q ∨ (∃ i k, x = .int i ∧ y = .bl k ∧ Q (.int (i + PyProof.Rows.b2i k)) H))
theorem op_addAll : OpR X (binaryOp .Add) (rAddAll X.K) := ((op_add.or op_add_str).or op_cat).or (op_catA.or op_add_ib)
theorem opS_add {K : PySem.W.Frag} : OpS K B (rAddAll K) dAdd := by
  intro F H ρ σ x y d e Q0 Q R p1 p2 q k
  unfold dAdd at q
  split at q
  · rename_i i j
    exact .inl (.inl (.inl ⟨i, j, dp_int p1, dp_int p2, k _ q _ F H R (Same.refl _) (.int _)⟩))
  · rename_i i j
    exact .inl (.inl (.inr ⟨i, j, dp_str p1, dp_str p2, q.1, k _ q.2 _ F H R (Same.refl _) (.str _)⟩))
  · rename_i xs ys
    cases p1 with
    | lst h1 t1 =>
      cases p2 with
      | lst h2 t2 =>
        have l1 := t1.length
        have l2 := t2.length
        refine .inl (.inr ⟨_, _, _, _, rfl, rfl, R.fz _ _ h1, R.fz _ _ h2, by rw [l1, l2]; exact q.1, fun p hp => ?_⟩)
        have sm : ∀ o, Same F (upd F p o) := fun o => same_upd (R.freeF hp)
        exact k _ q.2 _ _ _ (R.alloc hp) (sm _) (.lst upd_same ((t1.append t2).mono (sm _)))
  · rename_i xs ys
    cases p1 with
    | tup h1 t1 =>
      cases p2 with
      | tup h2 t2 =>
        have l1 := t1.length
        have l2 := t2.length
        refine .inr (.inl ⟨_, _, _, _, rfl, rfl, same_tup R.fz h1, same_tup R.fz h2, by rw [l1, l2]; exact q.1, fun z => ?_, fun z1 z2 => ?_, fun z1 z2 p hp => ?_⟩)
        · subst z
          cases t1
          exact k _ q.2 _ F H R (Same.refl _) (.tup h2 t2)
        · subst z2
          cases t2
          rw [List.append_nil] at q
          exact k _ q.2 _ F H R (Same.refl _) (.tup h1 t1)
        · have sm : ∀ o, Same F (upd F p o) := fun o => same_upd (R.freeF hp)
          exact k _ q.2 _ _ _ (R.alloc hp) (sm _) (.tup (SqT.of upd_same) ((t1.append t2).mono (sm _)))
  · rename_i i j
    exact .inr (.inr ⟨i, j, dp_int p1, dp_bl p2, k _ q _ F H R (Same.refl _) (.int _)⟩)
  · exact q.elim
theorem se_add (ha : SE X B W a ta) (hb : SE X B W b tb) : SE X B W (.BinOp a .Add b pos) (aBin dAdd ta tb) := se_bin op_addAll opS_add ha hb
/-- a - b -/
@[simp] def dSub : Op2 := fun d e Q => match d, e with
  | .int i, .int j => Q (.int (i - j))
  | .bl i, .bl j => Q (.int ((if i then 1 else 0) - if j then 1 else 0))
  | _, _ => False
theorem op_sub_bb : OpR X (binaryOp .Sub) (fun x y H Q => ∃ i k, x = .bl i ∧ y = .bl k ∧ Q (.int (PyProof.Rows.b2i i - PyProof.Rows.b2i k)) H) := by
  intro pins s σ H x y v u Q I rx ry h
  obtain ⟨i, k, rfl, rfl, q⟩ := h
  cases rx
  cases ry
  exact PyProof.Rows.sub_bool ⟨.int _, H, I.tok _, ⟨_, rfl⟩, q⟩
def rSubAll : R2 := fun x y H Q => (rI0 fun i j => .int (i - j)) x y H Q ∨ (∃ i k, x = .bl i ∧ y = .bl k ∧ Q (.int (PyProof.Rows.b2i i - PyProof.Rows.b2i k)) H)
theorem op_subAll : OpR X (binaryOp .Sub) rSubAll := op_sub.or op_sub_bb
theorem opS_sub {K : PySem.W.Frag} : OpS K B rSubAll dSub := by
  intro F H ρ σ x y d e Q0 Q R p1 p2 q k
  unfold dSub at q
  split at q
  · rename_i i j
    exact .inl ⟨i, j, dp_int p1, dp_int p2, k _ q _ F H R (Same.refl _) (.int _)⟩
  · rename_i i j
    exact .inr ⟨i, j, dp_bl p1, dp_bl p2, k _ q _ F H R (Same.refl _) (.int _)⟩
  · exact q.elim
theorem se_sub (ha : SE X B W a ta) (hb : SE X B W b tb) : SE X B W (.BinOp a .Sub b pos) (aBin dSub ta tb) := se_bin op_subAll opS_sub ha hb
/-- a * b -/
def MulOk (i j : Int) : Prop := CMul i j ∨ CMulW i j
def dMul : Op2 := fun d e Q => match d, e with
  | .int i, .int j => MulOk i j ∧ Q (.int (i * j))
  | .lst xs, .int k => -(2 ^ 63) ≤ k ∧ k < 2 ^ 63 ∧ xs.length * k.toNat ≤ sizeLine ∧ Q (.lst (List.replicate k.toNat xs).flatten)
  | _, _ => False
def rMulAll : R2 := fun x y H Q => ((rI CMul fun i j => .int (i * j)) x y H Q ∨ (rI CMulW fun i j => .int (i * j)) x y H Q) ∨ rRep x y H Q
theorem op_mulAll : OpR X (binaryOp .Mult) rMulAll := (op_mul.or op_mulW).or op_rep
theorem DPs.rep {K : PySem.W.Frag} {F : Hp} {v : List V} {d : List D} (h : DPs K F v d) : ∀ n : Nat, DPs K F (List.replicate n v).flatten (List.replicate n d).flatten
  | 0 => .nil
  | n + 1 => by
    rw [List.replicate_succ, List.replicate_succ, List.flatten_cons, List.flatten_cons]
    exact h.append (DPs.rep h n)
theorem opS_mul {K : PySem.W.Frag} : OpS K B rMulAll dMul := by
  intro F H ρ σ x y d e Q0 Q R p1 p2 q k
  unfold dMul at q
  split at q
  · rename_i i j
    rcases q with ⟨q1 | q1, q⟩
    · exact .inl (.inl ⟨i, j, dp_int p1, dp_int p2, q1, k _ q _ F H R (Same.refl _) (.int _)⟩)
    · exact .inl (.inr ⟨i, j, dp_int p1, dp_int p2, q1, k _ q _ F H R (Same.refl _) (.int _)⟩)
  · rename_i xs j
    obtain ⟨q1, q2, q3, q⟩ := q
    cases p1 with
    | lst h1 t1 =>
      refine .inr ⟨_, j, _, rfl, dp_int p2, R.fz _ _ h1, q1, q2, by rw [t1.length]; exact q3, fun p hp => ?_⟩
      have sm : ∀ o, Same F (upd F p o) := fun o => same_upd (R.freeF hp)
      exact k _ q _ _ _ (R.alloc hp) (sm _) (.lst upd_same ((t1.rep _).mono (sm _)))
  · exact q.elim
theorem se_mul (ha : SE X B W a ta) (hb : SE X B W b tb) : SE X B W (.BinOp a .Mult b pos) (aBin dMul ta tb) := se_bin op_mulAll opS_mul ha hb
/-- a // b, the divisor below 2 ^ 9000 -/
def DivOk (_ j : Int) : Prop := j ≠ 0 ∧ j.natAbs.log2 < 9000
@[simp] def dDiv : Op2 := dI DivOk fun i j => .int (i.fdiv j)
theorem op_divAll : OpR X (binaryOp .FloorDiv) (rI DivOk fun i j => .int (i.fdiv j)) := opI fun i j _ _ _ _ _ hc q =>
  PyProof.Rows.floordiv_int hc.1 q (.inl (PyProof.noPylong_of_log2 hc.2))
theorem se_div (ha : SE X B W a ta) (hb : SE X B W b tb) : SE X B W (.BinOp a .FloorDiv b pos) (aBin dDiv ta tb) := se_bin op_divAll (opS_int fun _ i j => .int _) ha hb
@[simp] def dMod : Op2 := dI (fun _ j => j ≠ 0) fun i j => .int (i.fmod j)
theorem se_mod (ha : SE X B W a ta) (hb : SE X B W b tb) : SE X B W (.BinOp a .Mod b pos) (aBin dMod ta tb) := se_bin op_modN (opS_int fun _ i j => .int _) ha hb
def dPow : Op2 := dI CPow fun i j => .int (i ^ j.toNat)
theorem se_pow (ha : SE X B W a ta) (hb : SE X B W b tb) : SE X B W (.BinOp a .Pow b pos) (aBin dPow ta tb) := se_bin op_pow (opS_int fun _ i j => .int _) ha hb

/-! ### comparisons -/
@[simp] def dLt : Op2 := dI (fun _ _ => True) fun i j => .bl (decide (i < j))
@[simp] def dLe : Op2 := dI (fun _ _ => True) fun i j => .bl (decide (i ≤ j))
@[simp] def dGt : Op2 := dI (fun _ _ => True) fun i j => .bl (decide (j < i))
@[simp] def dGe : Op2 := dI (fun _ _ => True) fun i j => .bl (decide (j ≤ i))
theorem opS_lt {K : PySem.W.Frag} : OpS K B (rI0 fun i j => .bl (decide (i < j))) dLt := opS_int0 fun _ _ _ => .bl _
theorem opS_le {K : PySem.W.Frag} : OpS K B (rI0 fun i j => .bl (decide (i ≤ j))) dLe := opS_int0 fun _ _ _ => .bl _
theorem opS_gt {K : PySem.W.Frag} : OpS K B (rI0 fun i j => .bl (decide (j < i))) dGt := opS_int0 fun _ _ _ => .bl _
theorem opS_ge {K : PySem.W.Frag} : OpS K B (rI0 fun i j => .bl (decide (j ≤ i))) dGe := opS_int0 fun _ _ _ => .bl _
theorem se_lt (ha : SE X B W a ta) (hb : SE X B W b tb) : SE X B W (.Compare a [.Lt] [b] pos) (aBin dLt ta tb) := se_cmp op_lt opS_lt ha hb (nomark _)
theorem se_le (ha : SE X B W a ta) (hb : SE X B W b tb) : SE X B W (.Compare a [.LtE] [b] pos) (aBin dLe ta tb) := se_cmp op_le opS_le ha hb (nomark _)
theorem se_gt (ha : SE X B W a ta) (hb : SE X B W b tb) : SE X B W (.Compare a [.Gt] [b] pos) (aBin dGt ta tb) := se_cmp op_gt opS_gt ha hb (nomark _)
theorem se_ge (ha : SE X B W a ta) (hb : SE X B W b tb) : SE X B W (.Compare a [.GtE] [b] pos) (aBin dGe ta tb) := se_cmp op_ge opS_ge ha hb (nomark _)

/-! ### == of plain data -/
mutual
def D.py : D → PyData
  | .non => .none
  | .bl b => .bool b
  | .int i => .int i
  | .str x => .str x
  | .lst xs => .list (D.pys xs)
  | .tup xs => .tuple (D.pys xs)
  | _ => .none
def D.pys : List D → List PyData
  | [] => []
  | x :: xs => x.py :: D.pys xs
end
/-- plain, to a depth -/
def D.shp : Nat → D → Prop
  | _, .non => True
  | _, .bl _ => True
  | _, .int _ => True
  | _, .str x => PyData.strOk x = true
  | n + 1, .lst xs => ∀ x ∈ xs, D.shp n x
  | n + 1, .tup xs => ∀ x ∈ xs, D.shp n x
  | _, _ => False
mutual
theorem shp_dp {K : PySem.W.Frag} {F H : Hp} (e : Same F H) : ∀ {d : D} {v : V} {n : Nat}, D.shp n d → DP K F v d → Dp K H v d.py
  | .non, _, _, _, h => by cases h; exact .non
  | .bl b, _, _, _, h => by cases h; exact .bl b
  | .int b, _, _, _, h => by cases h; exact .int b
  | .str b, _, _, _, h => by cases h; exact .str b
  | .lst xs, _, 0, s, h => by unfold D.shp at s; exact s.elim
  | .lst xs, _, n + 1, s, h => by
    cases h with
    | lst h t => exact .lst (SqL.of (e _ _ h)) (shp_dps e s t)
  | .tup xs, _, 0, s, h => by unfold D.shp at s; exact s.elim
  | .tup xs, _, n + 1, s, h => by
    cases h with
    | tup h t => exact .tup (same_tup e h) (shp_dps e s t)
  | .con v, _, n, s, h => by unfold D.shp at s; exact s.elim
  | .dK v, _, n, s, h => by unfold D.shp at s; exact s.elim
  | .dT v, _, n, s, h => by unfold D.shp at s; exact s.elim
  | .dN v, _, n, s, h => by unfold D.shp at s; exact s.elim
theorem shp_dps {K : PySem.W.Frag} {F H : Hp} (e : Same F H) : ∀ {d : List D} {v : List V} {n : Nat}, (∀ x ∈ d, D.shp n x) → DPs K F v d → DpAll K H v (D.pys d)
  | [], _, _, _, h => by cases h; exact .nil
  | x :: xs, _, n, s, h => by
    cases h with
    | cons h t => exact .cons (shp_dp e (s x List.mem_cons_self) h) (shp_dps e (fun y hy => s y (List.mem_cons_of_mem _ hy)) t)
end
mutual
theorem shp_lay : ∀ {d : D} {n : Nat}, D.shp n d → d.py.canLay0 = true ∧ d.py.depth ≤ n
  | .non, _, _ => ⟨by simp [D.py, PyData.canLay0], by simp [D.py, PyData.depth]⟩
  | .bl b, _, _ => ⟨by simp [D.py, PyData.canLay0], by simp [D.py, PyData.depth]⟩
  | .int b, _, _ => ⟨by simp [D.py, PyData.canLay0], by simp [D.py, PyData.depth]⟩
  | .str b, n, s => ⟨by unfold D.shp at s; simpa [D.py, PyData.canLay0] using s, by simp [D.py, PyData.depth]⟩
  | .lst xs, 0, s => by unfold D.shp at s; exact s.elim
  | .lst xs, n + 1, s => by
    obtain ⟨h1, h2⟩ := shp_lays (d := xs) (n := n) s
    exact ⟨by simpa [D.py, PyData.canLay0] using h1, by simp only [D.py, PyData.depth]; omega⟩
  | .tup xs, 0, s => by unfold D.shp at s; exact s.elim
  | .tup xs, n + 1, s => by
    obtain ⟨h1, h2⟩ := shp_lays (d := xs) (n := n) s
    exact ⟨by simpa [D.py, PyData.canLay0] using h1, by simp only [D.py, PyData.depth]; omega⟩
  | .con v, n, s => by unfold D.shp at s; exact s.elim
  | .dK v, n, s => by unfold D.shp at s; exact s.elim
  | .dT v, n, s => by unfold D.shp at s; exact s.elim
  | .dN v, n, s => by unfold D.shp at s; exact s.elim
theorem shp_lays : ∀ {d : List D} {n : Nat}, (∀ x ∈ d, D.shp n x) → PyData.canLayAll0 (D.pys d) = true ∧ PyData.depthAll (D.pys d) ≤ n
  | [], _, _ => ⟨by simp [D.pys, PyData.canLayAll0], by simp [D.pys, PyData.depthAll]⟩
  | x :: xs, n, s => by
    obtain ⟨h1, h2⟩ := shp_lay (s x List.mem_cons_self)
    obtain ⟨h3, h4⟩ := shp_lays (d := xs) (n := n) (fun y hy => s y (List.mem_cons_of_mem _ hy))
    exact ⟨by simp [D.pys, PyData.canLayAll0, h1, h3], by simp only [D.pys, PyData.depthAll]; omega⟩
end
theorem shp_shaped {d : D} (h : D.shp 64 d) : SeqAt.shaped d.py = true := by
  obtain ⟨h1, h2⟩ := shp_lay h
  unfold SeqAt.shaped
  rw [h1, decide_eq_true h2]
  rfl
def eqD (d e : D) : Bool := PyData.eqv d.py e.py
def dEq : Op2 := fun d e Q => D.shp 64 d ∧ D.shp 64 e ∧ Q (.bl (eqD d e))
def dNe : Op2 := fun d e Q => D.shp 64 d ∧ D.shp 64 e ∧ Q (.bl (!eqD d e))
theorem opS_eq {K : PySem.W.Frag} : OpS K B (rEqD K) dEq := by
  intro F H ρ σ x y d e Q0 Q R p1 p2 q k
  obtain ⟨s1, s2, q⟩ := q
  exact ⟨d.py, e.py, shp_dp R.fz s1 p1, shp_dp R.fz s2 p2, shp_shaped s1, shp_shaped s2, k _ q _ F H R (Same.refl _) (.bl _)⟩
theorem opS_ne {K : PySem.W.Frag} : OpS K B (rNeD K) dNe := by
  intro F H ρ σ x y d e Q0 Q R p1 p2 q k
  obtain ⟨s1, s2, q⟩ := q
  exact ⟨d.py, e.py, shp_dp R.fz s1 p1, shp_dp R.fz s2 p2, shp_shaped s1, shp_shaped s2, k _ q _ F H R (Same.refl _) (.bl _)⟩
theorem se_eq {k : Nat} (hr : Room k X.A) (ha : SE X B W a ta) (hb : SE X B W b tb) : SE X B W (.Compare a [.Eq] [b] pos) (aBin dEq ta tb) := se_cmp (op_eqD hr.units) opS_eq ha hb (nomark _)
theorem se_ne {k : Nat} (hr : Room k X.A) (ha : SE X B W a ta) (hb : SE X B W b tb) : SE X B W (.Compare a [.NotEq] [b] pos) (aBin dNe ta tb) := se_cmp (op_neD hr.units) opS_ne ha hb (nomark _)

/-! ### is None -/
@[simp] def isNon : D → Bool
  | .non => true
  | _ => false
@[simp] def opaqueD : D → Bool
  | .con _ => true
  | _ => false
@[simp] def dIs : Op2 := fun d e Q => isNon e = true ∧ opaqueD d = false ∧ Q (.bl (isNon d))
@[simp] def dIsNot : Op2 := fun d e Q => isNon e = true ∧ opaqueD d = false ∧ Q (.bl (!isNon d))
theorem dp_isNon {K : PySem.W.Frag} {F : Hp} {v : V} {d : D} (h : DP K F v d) (o : opaqueD d = false) : decide (v = V.non) = isNon d := by
  cases h with
  | con v => cases o
  | _ => first | rfl | (simp [isNon])
theorem opS_is {K : PySem.W.Frag} : OpS K B (fun x y H Q => y = .non ∧ Q (.bl (decide (x = .non))) H) dIs := by
  intro F H ρ σ x y d e Q0 Q R p1 p2 q k
  obtain ⟨e1, e2, q⟩ := q
  cases e <;> first | cases e1 | skip
  refine ⟨dp_non p2, ?_⟩
  rw [dp_isNon p1 e2]
  exact k _ q _ F H R (Same.refl _) (.bl _)
theorem opS_isNot {K : PySem.W.Frag} : OpS K B (fun x y H Q => y = .non ∧ Q (.bl (!decide (x = .non))) H) dIsNot := by
  intro F H ρ σ x y d e Q0 Q R p1 p2 q k
  obtain ⟨e1, e2, q⟩ := q
  cases e <;> first | cases e1 | skip
  refine ⟨dp_non p2, ?_⟩
  rw [dp_isNon p1 e2]
  exact k _ q _ F H R (Same.refl _) (.bl _)
theorem se_is (ha : SE X B W a ta) (hb : SE X B W b tb) : SE X B W (.Compare a [.Is] [b] pos) (aBin dIs ta tb) := se_cmp op_isN opS_is ha hb (nomark _)
theorem se_isNot (ha : SE X B W a ta) (hb : SE X B W b tb) : SE X B W (.Compare a [.IsNot] [b] pos) (aBin dIsNot ta tb) := se_cmp op_notN opS_isNot ha hb (nomark _)
end
end PU
set_option Elab.async false
set_option linter.all false
set_option maxRecDepth 100000
namespace PU
open PySem PySem.Spec L2
set_option autoImplicit false

/-! ### dicts whose keys are numbers, or tuples of numbers and of such tuples: raw entries -/
mutual
theorem hash_tf (w w' : World) : ∀ k : NestedKey, ktf k = true → k.hash w = k.hash w'
  | .none, _ => rfl
  | .num _, _ => rfl
  | .text _, h => by cases h
  | .tup ks, h => by
    show reduceHash (Builtin.Tuple.tupleHashOf (NestedKey.hashes w ks)) = reduceHash (Builtin.Tuple.tupleHashOf (NestedKey.hashes w' ks))
    rw [hashes_tf w w' ks h]
theorem hashes_tf (w w' : World) : ∀ ks : List NestedKey, ktfs ks = true → NestedKey.hashes w ks = NestedKey.hashes w' ks
  | [], _ => rfl
  | k :: ks, h => by
    have h' : (ktf k && ktfs ks) = true := h
    rw [Bool.and_eq_true] at h'
    show k.hash w :: NestedKey.hashes w ks = k.hash w' :: NestedKey.hashes w' ks
    rw [hash_tf w w' k h'.1, hashes_tf w w' ks h'.2]
end
def tabD {κ : Type} [DecidableEq κ] (kvs : List (κ × D)) (k : κ) : Option D := (kvs.find? fun kv => decide (kv.1 = k)).map (·.2)
/-- in its place, or at the end -/
def putD {κ : Type} [DecidableEq κ] (kvs : List (κ × D)) (k : κ) (v : D) : List (κ × D) :=
  if (tabD kvs k).isSome = true then kvs.map (fun kv => if kv.1 = k then (kv.1, v) else kv) else kvs ++ [(k, v)]
theorem tabD_pos {κ : Type} [DecidableEq κ] {p : κ × D} {r : List (κ × D)} {k : κ} (e : p.1 = k) : tabD (p :: r) k = some p.2 := by simp [tabD, List.find?_cons, e]
theorem tabD_neg {κ : Type} [DecidableEq κ] {p : κ × D} {r : List (κ × D)} {k : κ} (e : ¬ p.1 = k) : tabD (p :: r) k = tabD r k := by simp [tabD, List.find?_cons, e]
theorem putD_len {κ : Type} [DecidableEq κ] (kvs : List (κ × D)) (k : κ) (v : D) : (putD kvs k v).length ≤ kvs.length + 1 := by
  unfold putD
  split
  · rw [List.length_map]; omega
  · simp
theorem tabD_none {κ : Type} [DecidableEq κ] {kvs : List (κ × D)} {k : κ} (h : tabD kvs k = none) : k ∉ kvs.map (·.1) := by
  induction kvs with
  | nil => simp
  | cons p r ih =>
    by_cases e : p.1 = k
    · rw [tabD_pos e] at h; cases h
    · rw [tabD_neg e] at h
      simp only [List.map_cons, List.mem_cons, not_or]
      exact ⟨fun z => e z.symm, ih h⟩
theorem putD_nodup {κ : Type} [DecidableEq κ] {kvs : List (κ × D)} {k : κ} {v : D} (h : (kvs.map (·.1)).Nodup) : ((putD kvs k v).map (·.1)).Nodup := by
  unfold putD
  split
  · rw [List.map_map]
    have : ((fun x : κ × D => x.1) ∘ fun kv => if kv.1 = k then (kv.1, v) else kv) = fun x => x.1 := by
      funext kv
      simp only [Function.comp]
      split <;> rfl
    rw [this]; exact h
  · rename_i hn
    have hn : tabD kvs k = none := by
      cases q : tabD kvs k with
      | none => rfl
      | some _ => rw [q] at hn; exact absurd rfl hn
    rw [List.map_append, List.nodup_append]
    refine ⟨h, by simp, fun a ha b hb => ?_⟩
    simp at hb
    subst hb
    rintro rfl
    exact tabD_none hn ha
def isTupK : NestedKey → Bool
  | .tup _ => true
  | _ => false
def numK : NestedKey → Option Int
  | .num i => some i
  | _ => none
section
variable {P : Program} {w : World} {H : Hp} {h : Heap} {a a0 : Addr} {es : Array DictEntry} {ep : Nat}
theorem nd_addr (ok : HOk P w H h) (e : H a = some (.ext (NDx a0 es ep))) : a0 = a := by
  obtain ⟨p, _, st⟩ := (show ObjOk P w H h a (.ext (NDx a0 es ep)) from ok a _ e)
  by_cases hn : a0 = a
  · exact hn
  exfalso
  obtain ⟨q1, q2, o, h1, h2, h3⟩ := id p
  have up : (h.update a0 (fun _ => { cls := .none, data := .fields #[] })).get? a0 = some { cls := .none, data := .fields #[] } := Heap.get?_update_self (fun _ => _) h1 rfl
  obtain ⟨_, _, o', h1', h2', h3'⟩ := st h (h.update a0 (fun _ => { cls := .none, data := .fields #[] })) p fun o ho => by
    rw [Heap.get?_update_ne _ _ _ _ (fun z => hn z.symm)]
    exact ho
  rw [up] at h1'
  cases h1'
  cases h3'
theorem nd_raw (ok : HOk P w H h) (e : H a = some (.ext (NDx a0 es ep))) : (a == sysModules) = false ∧ es.size ≤ sizeLine ∧ h.DictRaw a es ep := by
  have ea := nd_addr ok e
  subst ea
  obtain ⟨p, _⟩ := (show ObjOk P w H h _ (.ext (NDx _ es ep)) from ok _ _ e)
  exact p
theorem nd_ok {H : Hp} (hs : (a == sysModules) = false) (hz : es.size ≤ sizeLine) (r : h.DictRaw a es ep) : ObjOk P w H h a (.ext (NDx a es ep)) := by
  refine ⟨⟨hs, hz, r⟩, ?_, fun h1 h2 p k => ?_⟩
  · obtain ⟨o, h1, _⟩ := r
    exact ⟨o, h1⟩
  · obtain ⟨q1, q2, q3⟩ := p
    exact ⟨q1, q2, q3.at k⟩
end
section
variable {X : Cx} {pins : List (Addr × Obj)} {σ : L2.St} {F H : Hp} {s : Shared}
mutual
theorem nis (I : Inv X pins σ H s) (e : Same F H) : ∀ {k : NestedKey} {v : V} {u : Value}, ktf k = true → DP X.K F v (keyD k) → RelV v u → NestedIs s.heap k u
  | .none, v, u, _, p, r => by
    cases p
    obtain rfl : u = Value.none := r
    exact .none
  | .num i, v, u, _, p, r => by
    cases p
    obtain ⟨t, rfl⟩ : ∃ t, u = Value.int i t := r
    exact .int i t
  | .text x, v, u, h, p, r => by cases h
  | .tup ks, v, u, h, p, r => by
    cases p with
    | tup hq hs =>
      obtain rfl : u = Value.ref _ := r
      obtain ⟨its, rv, ⟨o, h1, h2, n, h3⟩, hz⟩ := I.tuple (same_tup e hq)
      exact .tup h1 h2 h3 (by simpa using niss I e h hs rv)
theorem niss (I : Inv X pins σ H s) (e : Same F H) : ∀ {ks : List NestedKey} {vs : List V} {us : List Value}, ktfs ks = true → DPs X.K F vs (keyDs ks) → Vals vs us → NestedAll s.heap ks us
  | [], vs, us, _, p, r => by
    cases p
    cases r
    exact .nil
  | k :: ks, vs, us, h, p, r => by
    have h' : (ktf k && ktfs ks) = true := h
    rw [Bool.and_eq_true] at h'
    cases p with
    | cons p1 p2 =>
      cases r with
      | cons r1 r2 => exact .cons (nis I e h'.1 p1 r1) (niss I e h'.2 p2 r2)
end
end

/-! tuples as keys -/
def XTr (K : PySem.W.Frag) (F : Hp) (x : NestedKey × Addr × Value) (p : NestedKey × D) : Prop :=
  x.1 = p.1 ∧ ktf p.1 = true ∧ p.1.depth ≤ 8 ∧ DP K F (.ref x.2.1) (keyD p.1) ∧ ∃ v, RelV v x.2.2 ∧ DP K F v p.2
abbrev XT (K : PySem.W.Frag) (F : Hp) : List (NestedKey × Addr × Value) → List (NestedKey × D) → Prop := Paired (XTr K F)
section
variable {K : PySem.W.Frag} {F : Hp} {P : Program} {w : World}
theorem xt_of (P : Program) (w : World) : ∀ {es : List DictEntry} {ds : List (NestedKey × D)}, DPn K F es ds → (∀ p ∈ ds, isTupK p.1 = true) → ∃ xs, es = xs.map (entryOfKey (nestedKind P w)) ∧ XT K F xs ds
  | _, _, .nil, _ => ⟨[], rfl, .nil⟩
  | _, _, .cons (e := e) (k := k) (kv := kv) (d := d) h1 h2 h3 h4 h5 h6 p q t, hk => by
    obtain ⟨xs, r1, r2⟩ := xt_of P w t fun p hp => hk p (List.mem_cons_of_mem _ hp)
    have hk := hk _ List.mem_cons_self
    cases k with
    | tup ks =>
      subst h6
      have p' : DP K F kv (.tup (keyDs ks)) := p
      cases p' with
      | tup a b =>
        obtain ⟨hash, key, val⟩ := e
        obtain rfl : key = Value.ref _ := h4
        refine ⟨(NestedKey.tup ks, _, val) :: xs, ?_, .cons ⟨rfl, h1, h2, p, _, h5, q⟩ r2⟩
        rw [List.map_cons, ← r1]
        congr 1
        show DictEntry.mk hash _ val = DictEntry.mk ((NestedKey.tup ks).hash w) _ val
        rw [show hash = _ from h3, hash_tf _ w _ h1]
    | _ => cases hk
theorem dpn_of (P : Program) (w : World) : ∀ {xs : List (NestedKey × Addr × Value)} {ds : List (NestedKey × D)}, XT K F xs ds → DPn K F (xs.map (entryOfKey (nestedKind P w))) ds
  | _, _, .nil => .nil
  | _, _, .cons h t => by
    obtain ⟨h1, h2, h3, h4, v, h5, h6⟩ := h
    refine .cons (w0 := w) h2 h3 ?_ (kv := .ref _) rfl h5 rfl h4 h6 (dpn_of P w t)
    rw [← h1]; rfl
theorem XT.keys : ∀ {xs : List (NestedKey × Addr × Value)} {ds : List (NestedKey × D)}, XT K F xs ds → xs.map (·.1) = ds.map (·.1)
  | _, _, .nil => rfl
  | _, _, .cons h t => by rw [List.map_cons, List.map_cons, h.1, XT.keys t]
theorem XT.some {k : NestedKey} {d : D} : ∀ {xs : List (NestedKey × Addr × Value)} {ds : List (NestedKey × D)}, XT K F xs ds → tabD ds k = some d → ∃ p v, atKey xs k = some p ∧ RelV v p.2 ∧ DP K F v d
  | _, _, .nil, h => by cases h
  | _, _, .cons (a := x) (b := p) h t, q => by
    by_cases e : p.1 = k
    · rw [tabD_pos e] at q
      cases q
      obtain ⟨h1, h2, h3, h4, v, h5, h6⟩ := h
      exact ⟨x.2, v, by simp [atKey, List.find?_cons, h1.trans e], h5, h6⟩
    · rw [tabD_neg e] at q
      obtain ⟨p', v, a, b⟩ := XT.some t q
      exact ⟨p', v, by rw [← a]; simp [atKey, List.find?_cons, show ¬ x.1 = k from fun z => e (h.1.symm.trans z)], b⟩
theorem XT.none {k : NestedKey} : ∀ {xs : List (NestedKey × Addr × Value)} {ds : List (NestedKey × D)}, XT K F xs ds → tabD ds k = none → atKey xs k = none
  | _, _, .nil, h => rfl
  | _, _, .cons (a := x) (b := p) h t, q => by
    by_cases e : p.1 = k
    · rw [tabD_pos e] at q; cases q
    · rw [tabD_neg e] at q
      rw [← XT.none t q]; simp [atKey, List.find?_cons, show ¬ x.1 = k from fun z => e (h.1.symm.trans z)]
theorem XT.repl {k : NestedKey} {v : V} {u : Value} {d : D} (ru : RelV v u) (pd : DP K F v d) : ∀ {xs : List (NestedKey × Addr × Value)} {ds : List (NestedKey × D)}, XT K F xs ds → XT K F (xs.map (putAt k u)) (ds.map fun kv => if kv.1 = k then (kv.1, d) else kv)
  | _, _, .nil => .nil
  | _, _, .cons (a := x) (b := p) h t => by
    rw [List.map_cons, List.map_cons]
    refine .cons ?_ (XT.repl ru pd t)
    obtain ⟨h1, h2, h3, h4, v', h5, h6⟩ := h
    by_cases e : p.1 = k
    · rw [if_pos e]
      unfold putAt
      rw [if_pos (h1.trans e)]
      exact ⟨h1, h2, h3, h4, v, ru, pd⟩
    · rw [if_neg e]
      unfold putAt
      rw [if_neg fun z => e (h1.symm.trans z)]
      exact ⟨h1, h2, h3, h4, v', h5, h6⟩
theorem XT.put {k : NestedKey} {b : Addr} {v : V} {u : Value} {d : D} (k1 : ktf k = true) (k2 : k.depth ≤ 8) (hb : DP K F (.ref b) (keyD k)) (ru : RelV v u) (pd : DP K F v d) {xs : List (NestedKey × Addr × Value)} {ds : List (NestedKey × D)} (t : XT K F xs ds) :
    XT K F (storedH xs k b u) (putD ds k d) := by
  unfold storedH putD
  cases q : tabD ds k with
  | none =>
    rw [t.none q]
    exact Paired.snoc t ⟨rfl, k1, k2, hb, v, ru, pd⟩
  | some d' =>
    obtain ⟨p, v', a, _⟩ := t.some q
    rw [a]
    exact t.repl ru pd
end
/-! numbers as keys -/
def XIr (K : PySem.W.Frag) (F : Hp) (x : Int × Value) (p : NestedKey × D) : Prop := p.1 = .num x.1 ∧ ∃ v, RelV v x.2 ∧ DP K F v p.2
abbrev XI (K : PySem.W.Frag) (F : Hp) : List (Int × Value) → List (NestedKey × D) → Prop := Paired (XIr K F)
section
variable {K : PySem.W.Frag} {F : Hp} {P : Program} {w : World}
theorem xi_of (P : Program) (w : World) : ∀ {es : List DictEntry} {ds : List (NestedKey × D)}, DPn K F es ds → (∀ p ∈ ds, (numK p.1).isSome = true) →
    ∃ xs, Pairs (intKind P w) es xs ∧ XI K F xs ds ∧ ∀ e ∈ es, ∃ k, (intKind P w).is k e.key = true ∧ e.hash = (intKind P w).hash k
  | _, _, .nil, _ => ⟨[], .nil, .nil, fun _ h => nomatch h⟩
  | _, _, .cons (e := e) (k := k) (kv := kv) (d := d) h1 h2 h3 h4 h5 h6 p q t, hk => by
    obtain ⟨xs, r1, r2, r3⟩ := xi_of P w t fun p hp => hk p (List.mem_cons_of_mem _ hp)
    have hk := hk _ List.mem_cons_self
    cases k with
    | num i =>
      subst h6
      have p' : DP K F kv (.int i) := p
      cases p'
      obtain ⟨hash, key, val⟩ := e
      obtain ⟨tk, rfl⟩ : ∃ t, key = Value.int i t := h4
      have is : (intKind P w).is i (Value.int i tk) = true := by show Value.isInt i (Value.int i tk) = true; simp [Value.isInt]
      refine ⟨(i, val) :: xs, .cons is rfl r1, .cons ⟨rfl, _, h5, q⟩ r2, fun e he => ?_⟩
      rcases List.mem_cons.mp he with rfl | he
      · exact ⟨i, is, h3⟩
      · exact r3 e he
    | _ => cases hk
theorem dpi_of (P : Program) (w : World) : ∀ {es : List DictEntry} {xs : List (Int × Value)} {ds : List (NestedKey × D)}, Pairs (intKind P w) es xs → XI K F xs ds → (∀ e ∈ es, ∃ k, (intKind P w).is k e.key = true ∧ e.hash = (intKind P w).hash k) → DPn K F es ds
  | _, _, _, .nil, .nil, _ => .nil
  | _, _, _, .cons (e := e) (kv := kv) a b t, .cons (b := p) h t', k => by
    obtain ⟨j, d⟩ := p
    obtain ⟨rfl, v, h1, h2⟩ := h
    obtain ⟨tk, ek⟩ := Value.isInt_shape (show Value.isInt kv.1 e.key = true from a)
    obtain ⟨k1, k2, k3⟩ := k e List.mem_cons_self
    have e1 : k1 = kv.1 := (intKind P w).inj e.key k1 kv.1 k2 a
    subst e1
    exact .cons (w0 := w) rfl (Nat.zero_le _) k3 (kv := .int kv.1) ⟨tk, ek⟩ (by rw [b]; exact h1) rfl (.int _) h2 (dpi_of P w t t' fun e he => k e (List.mem_cons_of_mem _ he))
theorem XI.keys : ∀ {xs : List (Int × Value)} {ds : List (NestedKey × D)}, XI K F xs ds → ds.map (·.1) = (xs.map (·.1)).map .num
  | _, _, .nil => rfl
  | _, _, .cons h t => by rw [List.map_cons, List.map_cons, List.map_cons, h.1, XI.keys t]
theorem XI.val {i : Int} : ∀ {xs : List (Int × Value)} {ds : List (NestedKey × D)}, XI K F xs ds → (∀ d, tabD ds (.num i) = some d → ∃ u v, valueAt xs i = some u ∧ RelV v u ∧ DP K F v d) ∧ (tabD ds (.num i) = none → valueAt xs i = none)
  | _, _, .nil => ⟨fun d h => (by cases h), fun _ => rfl⟩
  | _, _, .cons (a := x) (b := p) h t => by
    obtain ⟨ih1, ih2⟩ := XI.val (i := i) t
    by_cases e : x.1 = i
    · have e' : p.1 = .num i := by rw [h.1, e]
      rw [tabD_pos e']
      have va : ∀ r, valueAt (x :: r) i = some x.2 := fun r => by simp [valueAt, List.find?_cons, e]
      rw [va]
      refine ⟨fun d q => ?_, fun q => (by cases q)⟩
      cases q
      obtain ⟨_, v, h1, h2⟩ := h
      exact ⟨_, v, rfl, h1, h2⟩
    · have e' : ¬ p.1 = .num i := fun z => by rw [h.1] at z; injection z with z; exact e z
      rw [tabD_neg e']
      have va : ∀ r, valueAt (x :: r) i = valueAt r i := fun r => by simp [valueAt, List.find?_cons, e]
      rw [va]
      exact ⟨ih1, ih2⟩
theorem XI.repl {i : Int} {v : V} {u : Value} {d : D} (ru : RelV v u) (pd : DP K F v d) : ∀ {xs : List (Int × Value)} {ds : List (NestedKey × D)}, XI K F xs ds → XI K F (xs.map fun kv => if kv.1 = i then (kv.1, u) else kv) (ds.map fun kv => if kv.1 = NestedKey.num i then (kv.1, d) else kv)
  | _, _, .nil => .nil
  | _, _, .cons (a := x) (b := p) h t => by
    rw [List.map_cons, List.map_cons]
    refine .cons ?_ (XI.repl ru pd t)
    by_cases e : x.1 = i
    · rw [if_pos e, if_pos (by rw [h.1, e])]
      exact ⟨h.1, v, ru, pd⟩
    · rw [if_neg e, if_neg fun z => by rw [h.1] at z; injection z with z; exact e z]
      exact h
theorem any_valueAt (i : Int) : ∀ xs : List (Int × Value), (xs.any fun kv => decide (kv.1 = i)) = (valueAt xs i).isSome
  | [] => rfl
  | x :: r => by
    by_cases e : x.1 = i
    · simp [valueAt, List.find?_cons, e]
    · have := any_valueAt i r
      simp only [valueAt] at this
      simp [valueAt, List.find?_cons, e, this]
theorem XI.put {i : Int} {v : V} {u : Value} {d : D} (ru : RelV v u) (pd : DP K F v d) {xs : List (Int × Value)} {ds : List (NestedKey × D)} (t : XI K F xs ds) : XI K F (stored xs i u) (putD ds (.num i) d) := by
  unfold stored putD
  rw [any_valueAt]
  obtain ⟨h1, h2⟩ := t.val (i := i)
  cases q : tabD ds (.num i) with
  | none =>
    rw [h2 q]
    exact Paired.snoc t ⟨rfl, v, ru, pd⟩
  | some d' =>
    obtain ⟨u', v', a, _⟩ := h1 _ q
    rw [a]
    exact t.repl ru pd
end
/-- which keys a dict has -/
def KindN (ds : List (NestedKey × D)) (k : NestedKey) : Prop := (isTupK k = true ∧ ∀ p ∈ ds, isTupK p.1 = true) ∨ ((numK k).isSome = true ∧ ∀ p ∈ ds, (numK p.1).isSome = true)
/-- what the dict at a is -/
structure NAt (K : PySem.W.Frag) (F H : Hp) (a : Addr) (ds : List (NestedKey × D)) : Prop where
  ex : ∃ a0 es ep, H a = some (.ext (NDx a0 es ep)) ∧ (ds.map (·.1)).Nodup ∧ DPn K F es.toList ds
/-- a value is a key -/
structure IsKey (K : PySem.W.Frag) (F : Hp) (y : V) (k : NestedKey) : Prop where
  tf : ktf k = true
  dp : k.depth ≤ 8
  is : DP K F y (keyD k)
theorem key_ref {K : PySem.W.Frag} {F : Hp} {y : V} {k : NestedKey} (h : IsKey K F y k) (t : isTupK k = true) : ∃ b, y = .ref b := by
  cases k with
  | tup ks =>
    have p : DP K F y (.tup (keyDs ks)) := h.is
    cases p with
    | tup => exact ⟨_, rfl⟩
  | _ => cases t
theorem key_num {K : PySem.W.Frag} {F : Hp} {y : V} {k : NestedKey} (h : IsKey K F y k) (t : (numK k).isSome = true) : ∃ i, k = .num i ∧ y = .int i := by
  cases k with
  | num i =>
    have p : DP K F y (.int i) := h.is
    cases p
    exact ⟨i, rfl, rfl⟩
  | _ => cases t
section
variable {X : Cx} {pins : List (Addr × Obj)} {σ : L2.St} {F H : Hp} {s : Shared} {a : Addr} {y v : V} {u r : Value} {ds : List (NestedKey × D)} {k : NestedKey} {d : D} {A : Around} {E : Value → Shared → Prop}
theorem nat_len {K : PySem.W.Frag} {es : List DictEntry} (t : DPn K F es ds) : es.length = ds.length := by
  induction es generalizing ds with
  | nil => cases t; rfl
  | cons e es ih => cases t with | cons _ _ _ _ _ _ _ _ t => exact congrArg (· + 1) (ih t)
/-- the library's reading, tuples as keys -/
theorem n_tup (I : Inv X pins σ H s) (e : Same F H) {a0 : Addr} {es : Array DictEntry} {ep : Nat} (g : H a = some (.ext (NDx a0 es ep))) (nd : (ds.map (·.1)).Nodup) (t : DPn X.K F es.toList ds) (kt : ∀ p ∈ ds, isTupK p.1 = true) :
    (a == sysModules) = false ∧ es.size ≤ sizeLine ∧ ∃ xs, XT X.K F xs ds ∧ s.heap.DictOfH (nestedKind X.prog X.w) a xs := by
  obtain ⟨h1, h2, o, h3, h4, h5⟩ := nd_raw I.hok g
  obtain ⟨xs, e1, tx⟩ := xt_of X.prog X.w t kt
  refine ⟨h1, h2, xs, tx, o, es, ep, h3, h4, h5, e1, fun x hx => ?_, by rw [tx.keys]; exact nd⟩
  have all : ∀ {l m}, XT X.K F l m → ∀ x ∈ l, (nestedKind X.prog X.w).is s.heap x.1 x.2.1 := by
    intro l m q
    induction q with
    | nil => intro x hx; exact nomatch hx
    | cons hq t ih =>
      intro x hx
      rcases List.mem_cons.mp hx with z | hx
      · subst z
        obtain ⟨q1, q2, q3, q4, _⟩ := hq
        rw [q1]
        exact ⟨nis I e q2 q4 rfl, q3⟩
      · exact ih x hx
  exact all tx x hx
theorem n_int (I : Inv X pins σ H s) {a0 : Addr} {es : Array DictEntry} {ep : Nat} (g : H a = some (.ext (NDx a0 es ep))) (nd : (ds.map (·.1)).Nodup) (t : DPn X.K F es.toList ds) (kt : ∀ p ∈ ds, (numK p.1).isSome = true) :
    (a == sysModules) = false ∧ es.size ≤ sizeLine ∧ ∃ xs, XI X.K F xs ds ∧ s.heap.DictOf (intKind X.prog X.w) a xs := by
  obtain ⟨h1, h2, o, h3, h4, h5⟩ := nd_raw I.hok g
  obtain ⟨xs, e1, tx, kk⟩ := xi_of X.prog X.w t kt
  refine ⟨h1, h2, xs, tx, o, es, ep, h3, h4, h5, fun e he => kk e (by simpa using he), e1, ?_⟩
  rw [tx.keys] at nd
  exact (List.pairwise_map.mp nd).imp fun h z => h (by rw [z])
theorem nk_is (I : Inv X pins σ H s) (e : Same F H) (hk : IsKey X.K F (.ref a) k) : (nestedKind X.prog X.w).is s.heap k a := ⟨nis I e hk.tf hk.is rfl, hk.dp⟩
theorem isInt_rel {i : Int} (ry : RelV (.int i) u) : (intKind X.prog X.w).is i u = true := by
  obtain ⟨t, rfl⟩ : ∃ t, u = Value.int i t := ry
  show Value.isInt i (Value.int i t) = true
  simp [Value.isInt]
theorem n_getItem {Q : Value → Shared → Prop} (hu : A.units + 64 < cLine) (I : Inv X pins σ H s) (e : Same F H) (g : NAt X.K F H a ds) (hk : IsKey X.K F y k) (kn : KindN ds k) (hv : tabD ds k = some d) (ry : RelV y u)
    (h : ∀ v w' s', Inv X pins σ H s' → RelV v w' → DP X.K F v d → Q w' s') : wpAny (model X.prog X.w) A (getItem (.ref a) u) Q E s := by
  obtain ⟨a0, es, ep, g, nd, t⟩ := g.ex
  rcases kn with ⟨k1, k2⟩ | ⟨k1, k2⟩
  · obtain ⟨b, rfl⟩ := key_ref hk k1
    obtain rfl : u = Value.ref b := ry
    obtain ⟨_, _, xs, tx, dd⟩ := n_tup I e g nd t k2
    obtain ⟨p, v, e1, e2, e3⟩ := tx.some hv
    exact wpAny_getItem_heap (show A.units + 1 + 8 < cLine by omega) (nk_is I e hk) dd e1 (h v _ _ (I.tok _) e2 e3)
  · obtain ⟨i, rfl, rfl⟩ := key_num hk k1
    obtain ⟨_, _, xs, tx, dd⟩ := n_int I g nd t k2
    obtain ⟨w', v, e1, e2, e3⟩ := (tx.val (i := i)).1 d hv
    exact wpAny_getItem_of (isInt_rel ry) dd.mapOf e1 (h v _ _ (I.tok _) e2 e3)
theorem n_in {Q : Value → Shared → Prop} (hu : A.units + 64 < cLine) (I : Inv X pins σ H s) (e : Same F H) (g : NAt X.K F H a ds) (hk : IsKey X.K F y k) (kn : KindN ds k) (ry : RelV y u)
    (h : ∀ s', Inv X pins σ H s' → Q (.bool (tabD ds k).isSome) s') : wpAny (model X.prog X.w) A (compareOp .In u (.ref a)) Q E s := by
  obtain ⟨a0, es, ep, g, nd, t⟩ := g.ex
  rcases kn with ⟨k1, k2⟩ | ⟨k1, k2⟩
  · obtain ⟨b, rfl⟩ := key_ref hk k1
    obtain rfl : u = Value.ref b := ry
    obtain ⟨hs, _, xs, tx, dd⟩ := n_tup I e g nd t k2
    refine wpAny_in_heap (show A.units + 1 + 8 < cLine by omega) (nk_is I e hk) hs dd ?_
    have : (atKey xs k).isSome = (tabD ds k).isSome := by
      cases q : tabD ds k with
      | none => rw [tx.none q]; rfl
      | some d => obtain ⟨p, v, e1, _⟩ := tx.some q; rw [e1]; rfl
    rw [this]
    exact h _ (I.tok _)
  · obtain ⟨i, rfl, rfl⟩ := key_num hk k1
    obtain ⟨hs, _, xs, tx, dd⟩ := n_int I g nd t k2
    refine wpAny_in_of (isInt_rel ry) hs dd.mapOf ?_
    have : (valueAt xs i).isSome = (tabD ds (.num i)).isSome := by
      cases q : tabD ds (.num i) with
      | none => rw [(tx.val (i := i)).2 q]; rfl
      | some d => obtain ⟨p, v, e1, _⟩ := (tx.val (i := i)).1 d q; rw [e1]; rfl
    rw [this]
    exact h _ (I.tok _)
theorem n_notIn {Q : Value → Shared → Prop} (hu : A.units + 64 < cLine) (I : Inv X pins σ H s) (e : Same F H) (g : NAt X.K F H a ds) (hk : IsKey X.K F y k) (kn : KindN ds k) (ry : RelV y u)
    (h : ∀ s', Inv X pins σ H s' → Q (.bool (!(tabD ds k).isSome)) s') : wpAny (model X.prog X.w) A (compareOp .NotIn u (.ref a)) Q E s := by
  obtain ⟨a0, es, ep, g, nd, t⟩ := g.ex
  rcases kn with ⟨k1, k2⟩ | ⟨k1, k2⟩
  · obtain ⟨b, rfl⟩ := key_ref hk k1
    obtain rfl : u = Value.ref b := ry
    obtain ⟨hs, _, xs, tx, dd⟩ := n_tup I e g nd t k2
    refine PyProof.Rows.wpAny_notIn_heap (show A.units + 1 + 8 < cLine by omega) (nk_is I e hk) hs dd ?_
    have : (atKey xs k).isSome = (tabD ds k).isSome := by
      cases q : tabD ds k with
      | none => rw [tx.none q]; rfl
      | some d => obtain ⟨p, v, e1, _⟩ := tx.some q; rw [e1]; rfl
    rw [this]
    exact h _ (I.tok _)
  · obtain ⟨i, rfl, rfl⟩ := key_num hk k1
    obtain ⟨hs, _, xs, tx, dd⟩ := n_int I g nd t k2
    refine wpAny_notIn_of (isInt_rel ry) hs dd.mapOf ?_
    have : (valueAt xs i).isSome = (tabD ds (.num i)).isSome := by
      cases q : tabD ds (.num i) with
      | none => rw [(tx.val (i := i)).2 q]; rfl
      | some d => obtain ⟨p, v, e1, _⟩ := (tx.val (i := i)).1 d q; rw [e1]; rfl
    rw [this]
    exact h _ (I.tok _)
/-- d.get(k, x) -/
theorem n_getOr {Q : Value → Shared → Prop} {x : V} {z : D} (hu : A.units + 64 < cLine) (I : Inv X pins σ H s) (e : Same F H) (g : NAt X.K F H a ds) (hk : IsKey X.K F y k) (kn : KindN ds k) (ry : RelV y u) (rx : RelV x r) (px : DP X.K F x z)
    (h : ∀ v w' s', Inv X pins σ H s' → RelV v w' → DP X.K F v ((tabD ds k).getD z) → Q w' s') : wpAny (model X.prog X.w) A (call (.builtin "dict.get") [.ref a, u, r]) Q E s := by
  obtain ⟨a0, es, ep, g, nd, t⟩ := g.ex
  rcases kn with ⟨k1, k2⟩ | ⟨k1, k2⟩
  · obtain ⟨b, rfl⟩ := key_ref hk k1
    obtain rfl : u = Value.ref b := ry
    obtain ⟨hs, _, xs, tx, dd⟩ := n_tup I e g nd t k2
    have nd' : s.heap.DictKeyed (nestedKind X.prog X.w) a (pairsH xs) := ⟨xs, dd, rfl⟩
    refine getOr_keyed (show A.units + 1 + 8 < cLine by omega) (nk_is I e hk) hs nd' ?_
    rw [valueAt_pairsH]
    cases q : tabD ds k with
    | none =>
      rw [tx.none q]
      exact h x r _ (I.tok _) rx (by rw [q]; exact px)
    | some d =>
      obtain ⟨p, v, e1, e2, e3⟩ := tx.some q
      rw [e1]
      exact h v p.2 _ (I.tok _) e2 (by rw [q]; exact e3)
  · obtain ⟨i, rfl, rfl⟩ := key_num hk k1
    obtain ⟨hs, _, xs, tx, dd⟩ := n_int I g nd t k2
    obtain ⟨tk, rfl⟩ : ∃ t, u = Value.int i t := ry
    refine call_meetsIn PySem.F.slot_dict_get dd.typeIs PySem.F.entry_dict_get (PySem.F.args_dict_get_3 _ _ _) (meets_dict_get_default (intKind X.prog X.w) a (isInt_rel ⟨tk, rfl⟩) hs r) ⟨_, dd.mapOf, ?_⟩
    cases q : tabD ds (.num i) with
    | none =>
      rw [(tx.val (i := i)).2 q]
      exact h x r _ (I.tok _) rx (by rw [q]; exact px)
    | some d =>
      obtain ⟨w', v, e1, e2, e3⟩ := (tx.val (i := i)).1 d q
      rw [e1]
      exact h v w' _ (I.tok _) e2 (by rw [q]; exact e3)
/-- d[k] = v -/
theorem n_setItem {Q : Unit → Shared → Prop} (hu : A.units + 64 < cLine) (I : Inv X pins σ H s) (e : Same F H) (fa : F a = none) (g : NAt X.K F H a ds) (hk : IsKey X.K F y k) (kn : KindN ds k) (hz : ds.length < sizeLine) (ry : RelV y u) (rv : RelV v r) (pv : DP X.K F v d)
    (h : ∀ es' ep' s', Inv X pins σ (upd H a (.ext (NDx a es' ep'))) s' → DPn X.K F es'.toList (putD ds k d) → Q () s') : wpAny (model X.prog X.w) A (setItem (.ref a) u r) Q E s := by
  obtain ⟨a0, es, ep, g, nd, t⟩ := g.ex
  have mu : Mut (H a) := by rw [g]; exact True.intro
  have hl := nat_len t
  rw [Array.length_toList] at hl
  have fin : ∀ (h' : Heap) (tk : Nat) (es' : Array DictEntry) (ep' : Nat), Heap.SameBut a s.heap h' → h'.DictRaw a es' ep' → DPn X.K F es'.toList (putD ds k d) → (a == sysModules) = false → Q () { s with heap := h', toks := tk } := by
    intro h' tk es' ep' hs dr t' sm
    have z : es'.size ≤ sizeLine := by
      have := nat_len t'
      rw [Array.length_toList] at this
      have := putD_len ds k d
      omega
    have he : ∃ q, h'.get? a = some q := let ⟨o, h1, _⟩ := dr; ⟨o, h1⟩
    exact h es' ep' _ (d_write I mu hs he (nd_ok sm z dr)) t'
  rcases kn with ⟨k1, k2⟩ | ⟨k1, k2⟩
  · obtain ⟨b, rfl⟩ := key_ref hk k1
    obtain rfl : u = Value.ref b := ry
    obtain ⟨hs, _, xs, tx, dd⟩ := n_tup I e g nd t k2
    refine wpAny_setItem_heap (hsz := by have := Paired.length tx; omega) (show A.units + 1 + 8 < cLine by omega) (nk_is I e hk) dd fun h' dd' sb => ?_
    obtain ⟨o, es', ep', q1, q2, q3, q4, _, _⟩ := dd'
    refine fin h' _ es' ep' sb ⟨o, q1, q2, q3⟩ ?_ hs
    rw [q4]
    exact dpn_of X.prog X.w (tx.put hk.tf hk.dp hk.is rv pv)
  · obtain ⟨i, rfl, rfl⟩ := key_num hk k1
    obtain ⟨hs, _, xs, tx, dd⟩ := n_int I g nd t k2
    refine wpAny_setItem_pairs (hsz := by have := Paired.length tx; omega) (isInt_rel ry) dd fun h' dd' sb => ?_
    obtain ⟨o, es', ep', q1, q2, q3, q4, q5, _⟩ := dd'
    refine fin h' _ es' ep' sb ⟨o, q1, q2, q3⟩ ?_ hs
    exact dpi_of X.prog X.w q5 (tx.put rv pv) fun e he => q4 e (by simpa using he)
end
end PU
set_option Elab.async false
set_option linter.all false
set_option maxRecDepth 100000
namespace PU
open PySem PySem.Spec L2
set_option autoImplicit false

/-! ### walks of a dict by its raw entries -/
abbrev NH (H : Hp) (d a0 : Addr) (es : Array DictEntry) (ep : Nat) : Prop := H d = some (.ext (NDx a0 es ep))
/-- for k in d -/
def ItNk (d a0 : Addr) (es : Array DictEntry) (ep : Nat) (vs : List V) : It :=
  ⟨fun i H => NH H d a0 es ep ∧ i < es.size, fun i H x H' => H' = H ∧ vs[i]? = some x, fun i H => NH H d a0 es ep ∧ es.size ≤ i⟩
/-- for k, v in d.items() -/
def ItNi (d a0 : Addr) (es : Array DictEntry) (ep : Nat) (ks vs : List V) : It :=
  ⟨fun i H => NH H d a0 es ep ∧ i < es.size, fun i H x H' => ∃ p k v, ks[i]? = some k ∧ vs[i]? = some v ∧ x = .ref p ∧ H p = none ∧ H' = upd H p (.tup [k, v]), fun i H => NH H d a0 es ep ∧ es.size ≤ i⟩
abbrev KeysV (es : Array DictEntry) (vs : List V) : Prop := Vals vs (es.toList.map (·.key))
abbrev ValsV (es : Array DictEntry) (vs : List V) : Prop := Vals vs (es.toList.map (·.val))
theorem vals_at {f : DictEntry → Value} {es : Array DictEntry} {vs : List V} (h : Vals vs (es.toList.map f)) {i : Nat} (hi : i < es.size) : ∃ x, vs[i]? = some x ∧ RelV x (f es[i]) := by
  have l := h.length
  simp only [List.length_map, Array.length_toList] at l
  have hl : i < vs.length := by omega
  obtain ⟨u, h1, h2⟩ := h.get (i := i) (x := vs[i]) (by simp [hl])
  refine ⟨vs[i], by simp [hl], ?_⟩
  rw [List.getElem?_map, Array.getElem?_toList, Array.getElem?_eq_getElem hi] at h1
  cases h1
  exact h2
section
variable {P : Program} {w : World} {K : PySem.W.Frag} {tg : Expr} {d a0 : Addr} {es : Array DictEntry} {ep : Nat} {vs ks : List V}
theorem turn_nk (it : Addr) (hv : KeysV es vs) : Turn P w K tg (ItNk d a0 es ep vs) [it] it (fun i h => h.IsKeyIter it d i es.size ep) where
  mem := by simp
  obj := fun i h st b hb => by
    have e : b = it := by simpa using hb
    subst e
    obtain ⟨oi, e, c, dd⟩ := st
    exact ⟨oi, e, fun v z => by rw [dd] at z; cases z⟩
  keep := fun i h h' st k => by
    obtain ⟨o, e, r⟩ := st
    exact ⟨o, k it (by simp) o e, r⟩
  item := by
    intro X hP hw hK hc i pins s σ H E I hf st hg
    subst hP hw hK
    obtain ⟨hd, hi⟩ := hg
    obtain ⟨f0, f1, f2, f3, f4, f5⟩ := hf it (by simp)
    obtain ⟨hs, hz, o, ho, hx, hdt⟩ := nd_raw I.hok hd
    obtain ⟨x, hx1, hx2⟩ := vals_at hv hi
    refine next_key_item st ho hdt rfl (Array.getElem?_eq_getElem hi) fun h' st' sb => ?_
    have I1 : Inv X pins σ H { s with heap := h' } := I.turned (t' := s.toks) (fun b ob hb e => (sb.2 b hb).trans e) f0 f1 f3 f4 f5
    obtain ⟨oi, e, c, dd⟩ := id st'
    exact ⟨_, rfl, go_of (s := { s with heap := h' }) e c dd (by decide) ⟨x, H, I1, hx2, ⟨rfl, hx1⟩, st', fun b hb => (hf b hb).1⟩⟩
  done := by
    intro X hP hw hK hc i pins s σ H E I hf st hg
    subst hP hw hK
    obtain ⟨hd, hi⟩ := hg
    obtain ⟨f0, f1, f2, f3, f4, f5⟩ := hf it (by simp)
    obtain ⟨hs, hz, o, ho, hx, hdt⟩ := nd_raw I.hok hd
    exact next_key_end (I.ok.hd hc) st ho hdt rfl hi fun h' eb => ⟨rfl, I.turned (t' := s.toks) (fun b ob hb e => eb b ob hb e) f0 f1 f3 f4 f5⟩
  self := fun A i s Q E st h => wpAny_pyIter_keyiter st h
theorem turn_nv (it : Addr) (hv : ValsV es vs) : Turn P w K tg (ItNk d a0 es ep vs) [it] it (fun i h => h.IsValIter it d i es.size ep) where
  mem := by simp
  obj := fun i h st b hb => by
    have e : b = it := by simpa using hb
    subst e
    obtain ⟨oi, e, c, dd⟩ := st
    exact ⟨oi, e, fun v z => by rw [dd] at z; cases z⟩
  keep := fun i h h' st k => by
    obtain ⟨o, e, r⟩ := st
    exact ⟨o, k it (by simp) o e, r⟩
  item := by
    intro X hP hw hK hc i pins s σ H E I hf st hg
    subst hP hw hK
    obtain ⟨hd, hi⟩ := hg
    obtain ⟨f0, f1, f2, f3, f4, f5⟩ := hf it (by simp)
    obtain ⟨hs, hz, o, ho, hx, hdt⟩ := nd_raw I.hok hd
    obtain ⟨x, hx1, hx2⟩ := vals_at hv hi
    refine wpAny_pyNext_values_item_raw st ⟨o, ho, hx, hdt⟩ hi fun h' st' sb => ?_
    have I1 : Inv X pins σ H { s with heap := h' } := I.turned (t' := s.toks) (fun b ob hb e => (sb.2 b hb).trans e) f0 f1 f3 f4 f5
    obtain ⟨oi, e, c, dd⟩ := id st'
    exact ⟨_, rfl, go_of (s := { s with heap := h' }) e c dd (by decide) ⟨x, H, I1, hx2, ⟨rfl, hx1⟩, st', fun b hb => (hf b hb).1⟩⟩
  done := by
    intro X hP hw hK hc i pins s σ H E I hf st hg
    subst hP hw hK
    obtain ⟨hd, hi⟩ := hg
    obtain ⟨f0, f1, f2, f3, f4, f5⟩ := hf it (by simp)
    obtain ⟨hs, hz, o, ho, hx, hdt⟩ := nd_raw I.hok hd
    exact wpAny_pyNext_values_end_raw (I.ok.hd hc) st ⟨o, ho, hx, hdt⟩ hi fun h' eb => ⟨rfl, I.turned (t' := s.toks) (fun b ob hb e => eb b ob hb e) f0 f1 f3 f4 f5⟩
  self := fun A i s Q E st h => wpAny_pyIter_valiter st h
theorem turn_ni {elts : List Expr} {kk : Nat} {tpos : Pos} (it : Addr) (hk : KeysV es ks) (hv : ValsV es vs) : Turn P w K (.Tuple elts kk tpos) (ItNi d a0 es ep ks vs) [it] it (fun i h => ∃ ok ov, IsItemIter h it d i es.size ep ok ov) where
  mem := by simp
  obj := fun i h st b hb => by
    have e : b = it := by simpa using hb
    subst e
    obtain ⟨ok, ov, e⟩ := st
    exact ⟨_, e, fun v z => nomatch z⟩
  keep := fun i h h' st k => let ⟨ok, ov, e⟩ := st; ⟨ok, ov, k it (by simp) _ e⟩
  item := by
    intro X hP hw hK hc i pins s σ H E I hf st hg
    subst hP hw hK
    obtain ⟨hd, hi⟩ := hg
    obtain ⟨hs, hz, o, ho, hx, hdt⟩ := nd_raw I.hok hd
    obtain ⟨x, hx1, hx2⟩ := vals_at hk hi
    obtain ⟨y, hy1, hy2⟩ := vals_at hv hi
    obtain ⟨ok, ov, he⟩ := st
    have hlt : it < s.heap.objs.size := Heap.lt_size he
    refine wpAny_pyNext_items_item_raw he ⟨o, ho, hx, hdt⟩ hi fun h' ho hT hz hk => ?_
    refine ⟨_, rfl, wpAny_letOwnedTupleGo_items (s := { s with heap := h' }) ho fun h'' he' sb => ?_⟩
    have hT2 : h''.get? s.heap.objs.size = some { cls := .type "tuple", data := .seq #[es[i].key, es[i].val] } := (sb.2 _ (Nat.ne_of_gt hlt)).trans hT
    have new : ObjOk X.prog X.w (upd H s.heap.objs.size (.tup [x, y])) h'' s.heap.objs.size (.tup [x, y]) :=
      ⟨by show 2 ≤ sizeLine; decide, [es[i].key, es[i].val], .cons hx2 (.cons hy2 .nil), ⟨_, hT2, rfl, _, rfl⟩⟩
    have I1 : Inv X pins σ (upd H s.heap.objs.size (.tup [x, y])) { s with heap := h'' } :=
      I.turnedNew (t' := s.toks) (ch := [it]) (fun b ob hb e => (sb.2 b (by simpa using hb)).trans (hk b ob (by simpa using hb) e)) hf (Nat.le_refl _) new
    refine ⟨.ref s.heap.objs.size, _, I1, rfl, ⟨_, x, y, hx1, hy1, rfl, I.hok.fresh (Nat.le_refl _), rfl⟩, ⟨_, _, he'⟩, fun b hb => ?_⟩
    have e : b = it := by simpa using hb
    rw [e, upd_ne (Nat.ne_of_lt hlt)]
    exact (hf it (by simp)).1
  done := by
    intro X hP hw hK hc i pins s σ H E I hf st hg
    subst hP hw hK
    obtain ⟨hd, hi⟩ := hg
    obtain ⟨f0, f1, f2, f3, f4, f5⟩ := hf it (by simp)
    obtain ⟨hs, hz, o, ho, hx, hdt⟩ := nd_raw I.hok hd
    obtain ⟨ok, ov, he⟩ := st
    exact wpAny_pyNext_items_end_raw (I.ok.hd hc) he ⟨o, ho, hx, hdt⟩ hi fun h' eb => ⟨rfl, I.turned (t' := s.toks) (fun b ob hb e => eb b ob hb e) f0 f1 f3 f4 f5⟩
  self := fun A i s Q E st h => let ⟨_, _, e⟩ := st; PySem.W.kcp_self e h
end
section
variable {X : Cx} {tg e : Expr} {td : TE} {apos cpos : Pos} {pins : List (Addr × Obj)} {σ : L2.St} {H : Hp} {s : Shared} {R : It → Hp → Prop} {E : Value → Shared → Prop} {d a0 : Addr} {es : Array DictEntry} {ep : Nat} {vs ks : List V}
/-- iter(d) -/
theorem pie_nk (I : Inv X pins σ H s) (hd : NH H d a0 es ep) (hv : KeysV es vs) (q : R (ItNk d a0 es ep vs) H) : wpAny (model X.prog X.w) X.A (pyIter (.ref d)) (PIE X pins σ tg R) E s := by
  obtain ⟨hs, hz, o, ho, hx, hdt⟩ := nd_raw I.hok hd
  exact iter_keys hs ho hx hdt (pi_one (tk := s.toks) I _ (turn_nk _ hv) ⟨_, Heap.get?_push_size _ rfl, rfl, rfl⟩ q)
def iNV (td : TE) : TI := fun σ H R => td σ H fun x H1 => ∃ d a0 es ep vs, x = .ref d ∧ NH H1 d a0 es ep ∧ ValsV es vs ∧ R (ItNk d a0 es ep vs) H1
def iNI (td : TE) : TI := fun σ H R => td σ H fun x H1 => ∃ d a0 es ep ks vs, x = .ref d ∧ NH H1 d a0 es ep ∧ KeysV es ks ∧ ValsV es vs ∧ R (ItNi d a0 es ep ks vs) H1
theorem raw_noDict {h : Heap} {d : Addr} {es : Array DictEntry} {ep : Nat} (hm : h.DictRaw d es ep) : ∀ b, Value.ref d = .ref b → ∃ ob, h.get? b = some ob ∧ ob.dict = none := fun b e => by
  injection e with e
  subst e
  obtain ⟨o, h1, h2, _⟩ := hm
  exact ⟨o, h1, h2.2.1⟩
theorem pi_nv (he : PE X e td) (hbase : attributeBase e "values" X.env (eval e X.env) = eval e X.env := by rfl) (hline : (apos.endLine == cpos.line) = true := by rfl) : PI X tg (.Call (.Attribute e "values" apos) [] [] cpos) (iNV td) := by
  refine ⟨fun pins s σ H R I h => ?_⟩
  refine wpAny_Call_method (T := "dict") (id := "dict.values") hbase rfl hline F.plainAttrs_dict F.slot_dict_values F.type_dict_values (thn (he.run pins s σ H _ I h) fun u s1 ⟨x, H1, I1, rx, d, a0, es, ep, vs, ex, hd, hv, q⟩ => ?_)
  subst ex
  obtain rfl : u = Value.ref d := rx
  obtain ⟨hs, hz, raw⟩ := nd_raw I1.hok hd
  refine ⟨raw.typeIs, raw_noDict raw, ?_⟩
  have I2 : Inv X pins σ H1 { s1 with heap := s1.heap.push { cls := .type "dict_values", data := .fields #[.ref d] } } := I1.kept (t' := s1.toks) fun b ob q => Heap.get?_push_of_some _ q
  have raw2 : (s1.heap.push { cls := .type "dict_values", data := .fields #[.ref d] }).DictRaw d es ep := raw.at fun o q => Heap.get?_push_of_some _ q
  have fin : wpAny (model X.prog X.w) X.A (pyIter (.ref s1.heap.objs.size)) (PIE X pins σ tg R) X.xe { s1 with heap := s1.heap.push { cls := .type "dict_values", data := .fields #[.ref d] } } :=
    wpAny_pyIter_values_raw (d := d) ⟨_, Heap.get?_push_size _ rfl, rfl, rfl⟩ raw2 (pi_one (tk := s1.toks) I2 _ (turn_nv _ hv) ⟨_, Heap.get?_push_size _ rfl, rfl, rfl⟩ q)
  show wpAny _ _ (callWith cpos (.builtin "dict.values") [.ref d] [] []) _ X.xe s1
  exact method_meetsIn F.slot_dict_values F.entry_dict_values rfl (PySem.evalArgs_none ⟨rfl, raw.typeIs, F.args_dict_values_1 _, _, meets_dict_values_raw d hs, ⟨es, ep, raw⟩, fin⟩)
theorem pi_ni {elts : List Expr} {kk : Nat} {tpos : Pos} (he : PE X e td) (hbase : attributeBase e "items" X.env (eval e X.env) = eval e X.env := by rfl) (hline : (apos.endLine == cpos.line) = true := by rfl) :
    PI X (.Tuple elts kk tpos) (.Call (.Attribute e "items" apos) [] [] cpos) (iNI td) := by
  refine ⟨fun pins s σ H R I h => ?_⟩
  refine wpAny_Call_method (T := "dict") (id := "dict.items") hbase rfl hline F.plainAttrs_dict F.slot_dict_items F.type_dict_items (thn (he.run pins s σ H _ I h) fun u s1 ⟨x, H1, I1, rx, d, a0, es, ep, ks, vs, ex, hd, hk, hv, q⟩ => ?_)
  subst ex
  obtain rfl : u = Value.ref d := rx
  obtain ⟨hs, hz, raw⟩ := nd_raw I1.hok hd
  refine ⟨raw.typeIs, raw_noDict raw, ?_⟩
  have I2 : Inv X pins σ H1 { s1 with heap := s1.heap.push { cls := .type "dict_items", data := .fields #[.ref d] } } := I1.kept (t' := s1.toks) fun b ob q => Heap.get?_push_of_some _ q
  have raw2 : (s1.heap.push { cls := .type "dict_items", data := .fields #[.ref d] }).DictRaw d es ep := raw.at fun o q => Heap.get?_push_of_some _ q
  have fin : wpAny (model X.prog X.w) X.A (pyIter (.ref s1.heap.objs.size)) (PIE X pins σ (.Tuple elts kk tpos) R) X.xe { s1 with heap := s1.heap.push { cls := .type "dict_items", data := .fields #[.ref d] } } :=
    wpAny_pyIter_items_raw (d := d) ⟨_, Heap.get?_push_size _ rfl, rfl, rfl⟩ raw2 (pi_one (tk := s1.toks) I2 _ (turn_ni _ hk hv) ⟨.none, .none, Heap.get?_push_size _ rfl⟩ q)
  show wpAny _ _ (callWith cpos (.builtin "dict.items") [.ref d] [] []) _ X.xe s1
  exact method_meetsIn F.slot_dict_items F.entry_dict_items rfl (PySem.evalArgs_none ⟨rfl, raw.typeIs, F.args_dict_items_1 _, _, meets_dict_items_raw d hs, ⟨es, ep, raw⟩, fin⟩)
end
end PU
set_option Elab.async false
set_option linter.all false
set_option maxRecDepth 100000
namespace PU
open PySem PySem.Spec L2
set_option autoImplicit false

section
variable {X : Cx} {B : Bas} {W : WX} {a b c e : Expr} {es rest : List Expr} {ta tb tc te : AE} {t u : AT} {s : AA} {pos : Pos}

/-! ### truth, tests -/
@[simp] def truQ (d : D) (Q : Bool → Prop) : Prop := match d with
  | .non => Q false
  | .bl b => Q b
  | .int i => Q (i != 0)
  | .str x => x.length ≤ sizeLine ∧ Q ((x.length : Int) != 0)
  | .lst xs => Q (!xs.isEmpty)
  | .tup xs => Q (!xs.isEmpty)
  | _ => False
theorem DPs.isEmpty {K : PySem.W.Frag} {F : Hp} {v : List V} {d : List D} (h : DPs K F v d) : v.isEmpty = d.isEmpty := by cases h <;> rfl
theorem truQ_of {K : PySem.W.Frag} {F H : Hp} {v : V} {d : D} {Q : Bool → Prop} (e : Same F H) (h : DP K F v d) (q : truQ d Q) : ∃ k, TruV K v H k ∧ Q k := by
  cases h with
  | non => exact ⟨false, rfl, q⟩
  | bl b => exact ⟨b, rfl, q⟩
  | int i => exact ⟨_, rfl, q⟩
  | str x => exact ⟨_, ⟨q.1, rfl⟩, q.2⟩
  | lst h t => exact ⟨_, .inl ⟨_, SqL.of (e _ _ h), rfl⟩, by rw [t.isEmpty]; exact q⟩
  | tup h t => exact ⟨_, .inr (.inl ⟨_, same_tup e h, rfl⟩), by rw [t.isEmpty]; exact q⟩
  | con v => exact q.elim
  | dK h t => exact q.elim
  | dT h t => exact q.elim
  | dN h x n t => exact q.elim
@[simp] def aTest (te : AE) : AT := fun EX ρ Q => te EX ρ fun d ρ' => truQ d fun k => Q k ρ'
theorem st_of (h : SE X B W e te) (he : ∀ whole, isTrue e X.env whole = (do let v ← whole; standAt e.pos; holding [v] (truthy v)) := by intro _; rfl) : ST X B W e (aTest te) := by
  refine PT_imp (pt_truth h he) fun σ H Q q => ?_
  obtain ⟨ρ, F, EX, Q0, R, t, k, kx⟩ := q
  refine ⟨ρ, F, EX, _, R, t, fun d ρ1 t1 v F1 H1 R1 s1 p1 => ?_, kx⟩
  obtain ⟨j, h1, h2⟩ := truQ_of R1.fz p1 t1
  exact ⟨j, h1, k j ρ1 h2 F1 H1 R1 s1⟩
@[simp] def blQ (d : D) (Q : Bool → Prop) : Prop := match d with
  | .bl b => Q b
  | _ => False
@[simp] def aTestB (te : AE) : AT := fun EX ρ Q => te EX ρ fun d ρ' => blQ d fun k => Q k ρ'
theorem blQ_of {K : PySem.W.Frag} {F : Hp} {v : V} {d : D} {Q : Bool → Prop} (h : DP K F v d) (q : blQ d Q) : ∃ k, v = .bl k ∧ Q k := by
  cases h with
  | bl b => exact ⟨b, rfl, q⟩
  | _ => exact q.elim
theorem st_cmp {o : CmpOp} {r : R2} {op : Op2} (ho : OpR X (compareOp o) r) (hs : OpS X.K B r op) (ha : SE X B W a ta) (hb : SE X B W b tb) (hm : behindInMarks o b = false) : ST X B W (.Compare a [o] [b] pos) (aTestB (aBin op ta tb)) := by
  refine PT_imp (pt_cmpR ho ha hb hm) fun σ H Q q => ?_
  obtain ⟨ρ, F, EX, Q0, R, t, k, kx⟩ := q
  refine cBin hs ⟨ρ, F, EX, _, R, t, fun d ρ1 t1 v F1 H1 R1 s1 p1 => ?_, kx⟩
  obtain ⟨j, h1, h2⟩ := blQ_of p1 t1
  exact ⟨j, h1, k j ρ1 h2 F1 H1 R1 s1⟩
theorem st_lt (ha : SE X B W a ta) (hb : SE X B W b tb) : ST X B W (.Compare a [.Lt] [b] pos) (aTestB (aBin dLt ta tb)) := st_cmp op_lt opS_lt ha hb (nomark _)
theorem st_le (ha : SE X B W a ta) (hb : SE X B W b tb) : ST X B W (.Compare a [.LtE] [b] pos) (aTestB (aBin dLe ta tb)) := st_cmp op_le opS_le ha hb (nomark _)
theorem st_gt (ha : SE X B W a ta) (hb : SE X B W b tb) : ST X B W (.Compare a [.Gt] [b] pos) (aTestB (aBin dGt ta tb)) := st_cmp op_gt opS_gt ha hb (nomark _)
theorem st_ge (ha : SE X B W a ta) (hb : SE X B W b tb) : ST X B W (.Compare a [.GtE] [b] pos) (aTestB (aBin dGe ta tb)) := st_cmp op_ge opS_ge ha hb (nomark _)
theorem st_eq {k : Nat} (hr : Room k X.A) (ha : SE X B W a ta) (hb : SE X B W b tb) : ST X B W (.Compare a [.Eq] [b] pos) (aTestB (aBin dEq ta tb)) := st_cmp (op_eqD hr.units) opS_eq ha hb (nomark _)
theorem st_ne {k : Nat} (hr : Room k X.A) (ha : SE X B W a ta) (hb : SE X B W b tb) : ST X B W (.Compare a [.NotEq] [b] pos) (aTestB (aBin dNe ta tb)) := st_cmp (op_neD hr.units) opS_ne ha hb (nomark _)
theorem st_is (ha : SE X B W a ta) (hb : SE X B W b tb) : ST X B W (.Compare a [.Is] [b] pos) (aTestB (aBin dIs ta tb)) := st_cmp op_isN opS_is ha hb (nomark _)
theorem st_isNot (ha : SE X B W a ta) (hb : SE X B W b tb) : ST X B W (.Compare a [.IsNot] [b] pos) (aTestB (aBin dIsNot ta tb)) := st_cmp op_notN opS_isNot ha hb (nomark _)
@[simp] def aNot (t : AT) : AT := fun EX ρ Q => t EX ρ fun k ρ' => Q (!k) ρ'
theorem st_not (h : ST X B W e t) : ST X B W (.UnaryOp .Not e pos) (aNot t) := by
  refine PT_imp (pt_not h) fun σ H Q q => ?_
  obtain ⟨ρ, F, EX, Q0, R, t, k, kx⟩ := q
  exact ⟨ρ, F, EX, _, R, t, fun d ρ1 t1 F1 H1 R1 s1 => k _ ρ1 t1 F1 H1 R1 s1, kx⟩
@[simp] def aAnd (t u : AT) : AT := fun EX ρ Q => t EX ρ fun k ρ' => if k = true then u EX ρ' Q else Q false ρ'
@[simp] def aOr (t u : AT) : AT := fun EX ρ Q => t EX ρ fun k ρ' => if k = true then Q true ρ' else u EX ρ' Q
theorem sw_and1 (h : ST X B W a t) : SW X B W (.BoolOp .And [a] pos) t := pw_and1 h
theorem sw_or1 (h : ST X B W a t) : SW X B W (.BoolOp .Or [a] pos) t := pw_or1 h
theorem sw_and (h : ST X B W a t) (h' : SW X B W (.BoolOp .And (b :: rest) pos) u) : SW X B W (.BoolOp .And (a :: b :: rest) pos) (aAnd t u) := by
  refine PW_imp (pw_and h h') fun σ H Q q => ?_
  obtain ⟨ρ, F, EX, Q0, R, t, k, kx⟩ := q
  refine ⟨ρ, F, EX, _, R, t, fun d ρ1 t1 F1 H1 R1 s1 => ?_, kx⟩
  cases d with
  | true => exact ⟨ρ1, F1, EX, Q0, R1, t1, fun d ρ2 t2 F2 H2 R2 s2 => k _ ρ2 t2 F2 H2 R2 (s1.trans s2), kx⟩
  | false => exact k _ ρ1 t1 F1 H1 R1 s1
theorem sw_or (h : ST X B W a t) (h' : SW X B W (.BoolOp .Or (b :: rest) pos) u) : SW X B W (.BoolOp .Or (a :: b :: rest) pos) (aOr t u) := by
  refine PW_imp (pw_or h h') fun σ H Q q => ?_
  obtain ⟨ρ, F, EX, Q0, R, t, k, kx⟩ := q
  refine ⟨ρ, F, EX, _, R, t, fun d ρ1 t1 F1 H1 R1 s1 => ?_, kx⟩
  cases d with
  | false => exact ⟨ρ1, F1, EX, Q0, R1, t1, fun d ρ2 t2 F2 H2 R2 s2 => k _ ρ2 t2 F2 H2 R2 (s1.trans s2), kx⟩
  | true => exact k _ ρ1 t1 F1 H1 R1 s1
theorem st_bool (h : SW X B W e t) : ST X B W e t := PW.pt h
/-! .. as values -/
@[simp] def aOrV (ta tb : AE) : AE := fun EX ρ Q => ta EX ρ fun d ρ' => truQ d fun k => if k = true then Q d ρ' else tb EX ρ' Q
@[simp] def aAndV (ta tb : AE) : AE := fun EX ρ Q => ta EX ρ fun d ρ' => truQ d fun k => if k = true then tb EX ρ' Q else Q d ρ'
@[simp] def aNotV (ta : AE) : AE := fun EX ρ Q => ta EX ρ fun d ρ' => truQ d fun k => Q (.bl (!k)) ρ'
theorem se_one {op : BoolOp} (h : SE X B W a ta) : SE X B W (.BoolOp op [a] pos) ta := pe_one h
theorem se_or (ha : SE X B W a ta) (hb : SE X B W (.BoolOp .Or (b :: rest) pos) tb) : SE X B W (.BoolOp .Or (a :: b :: rest) pos) (aOrV ta tb) := by
  refine PE_imp (pe_orT ha hb) fun σ H Q q => ?_
  obtain ⟨ρ, F, EX, Q0, R, t, k, kx⟩ := q
  refine ⟨ρ, F, EX, _, R, t, fun d ρ1 t1 v F1 H1 R1 s1 p1 => ?_, kx⟩
  obtain ⟨j, h1, h2⟩ := truQ_of R1.fz p1 t1
  refine ⟨j, h1, ?_⟩
  cases j with
  | true => exact k d ρ1 h2 v F1 H1 R1 s1 p1
  | false => exact ⟨ρ1, F1, EX, Q0, R1, h2, fun d ρ2 t2 v F2 H2 R2 s2 p2 => k _ ρ2 t2 v F2 H2 R2 (s1.trans s2) p2, kx⟩
theorem se_and (ha : SE X B W a ta) (hb : SE X B W (.BoolOp .And (b :: rest) pos) tb) : SE X B W (.BoolOp .And (a :: b :: rest) pos) (aAndV ta tb) := by
  refine PE_imp (pe_andT ha hb) fun σ H Q q => ?_
  obtain ⟨ρ, F, EX, Q0, R, t, k, kx⟩ := q
  refine ⟨ρ, F, EX, _, R, t, fun d ρ1 t1 v F1 H1 R1 s1 p1 => ?_, kx⟩
  obtain ⟨j, h1, h2⟩ := truQ_of R1.fz p1 t1
  refine ⟨j, h1, ?_⟩
  cases j with
  | false => exact k d ρ1 h2 v F1 H1 R1 s1 p1
  | true => exact ⟨ρ1, F1, EX, Q0, R1, h2, fun d ρ2 t2 v F2 H2 R2 s2 p2 => k _ ρ2 t2 v F2 H2 R2 (s1.trans s2) p2, kx⟩
theorem se_not (ha : SE X B W a ta) : SE X B W (.UnaryOp .Not a pos) (aNotV ta) := by
  refine PE_imp (pe_notT ha) fun σ H Q q => ?_
  obtain ⟨ρ, F, EX, Q0, R, t, k, kx⟩ := q
  refine ⟨ρ, F, EX, _, R, t, fun d ρ1 t1 v F1 H1 R1 s1 p1 => ?_, kx⟩
  obtain ⟨j, h1, h2⟩ := truQ_of R1.fz p1 t1
  exact ⟨j, h1, k _ ρ1 h2 _ F1 H1 R1 s1 (.bl _)⟩
@[simp] def aIf (t : AT) (ta tb : AE) : AE := fun EX ρ Q => t EX ρ fun k ρ' => if k = true then ta EX ρ' Q else tb EX ρ' Q
theorem se_if (h : ST X B W c t) (ha : SE X B W a ta) (hb : SE X B W b tb) : SE X B W (.IfExp c a b pos) (aIf t ta tb) := by
  refine PE_imp (pe_ifExp h ha hb) fun σ H Q q => ?_
  obtain ⟨ρ, F, EX, Q0, R, t, k, kx⟩ := q
  refine ⟨ρ, F, EX, _, R, t, fun d ρ1 t1 F1 H1 R1 s1 => ?_, kx⟩
  cases d with
  | true => exact ⟨ρ1, F1, EX, Q0, R1, t1, fun d ρ2 t2 v F2 H2 R2 s2 p2 => k _ ρ2 t2 v F2 H2 R2 (s1.trans s2) p2, kx⟩
  | false => exact ⟨ρ1, F1, EX, Q0, R1, t1, fun d ρ2 t2 v F2 H2 R2 s2 p2 => k _ ρ2 t2 v F2 H2 R2 (s1.trans s2) p2, kx⟩

/-! ### -a -/
@[simp] def aNeg (ta : AE) : AE := fun EX ρ Q => ta EX ρ fun d ρ' => match d with
  | .int i => Q (.int (-i)) ρ'
  | _ => False
theorem se_neg (ha : SE X B W a ta) : SE X B W (.UnaryOp .USub a pos) (aNeg ta) := by
  refine PE_imp (pe_un un_neg ha) fun σ H Q q => ?_
  obtain ⟨ρ, F, EX, Q0, R, t, k, kx⟩ := q
  refine ⟨ρ, F, EX, _, R, t, fun d ρ1 t1 v F1 H1 R1 s1 p1 => ?_, kx⟩
  cases p1 <;> first | exact (show False from t1).elim | skip
  exact ⟨_, rfl, k _ ρ1 t1 _ F1 H1 R1 s1 (.int _)⟩

/-! ### a op1 b op2 c -/
@[simp] def aChain (op op' : Op2) (ta tb tc : AE) : AE := fun EX ρ Q => ta EX ρ fun d ρ1 => tb EX ρ1 fun e ρ2 => op d e fun z => blQ z fun k => if k = true then tc EX ρ2 fun f ρ3 => op' e f fun y => Q y ρ3 else Q (.bl false) ρ2
theorem cChain {K : PySem.W.Frag} {r r' : R2} {op op' : Op2} (hs : OpS K B r op) (hs' : OpS K B r' op') {σ : L2.St} {H : Hp} {Q : VK} (q : cE K B W (aChain op op' ta tb tc) σ H Q) : tChain r r' (cE K B W ta) (cE K B W tb) (cE K B W tc) σ H Q := by
  obtain ⟨ρ, F, EX, Q0, R, t, k, kx⟩ := q
  refine ⟨ρ, F, EX, _, R, t, fun d ρ1 t1 x F1 H1 R1 s1 p1 => ?_, kx⟩
  refine ⟨ρ1, F1, EX, _, R1, t1, fun e ρ2 t2 y F2 H2 R2' s2 p2 => ?_, kx⟩
  refine hs F2 H2 ρ2 σ x y d e _ _ R2' (p1.mono s2) p2 t2 fun z hz v F' H' R' s' p' => ?_
  obtain ⟨j, rfl, h2⟩ := blQ_of p' hz
  refine ⟨j, rfl, ?_⟩
  cases j with
  | false => exact k _ ρ2 h2 _ F' H' R' ((s1.trans s2).trans s') (.bl _)
  | true =>
    refine ⟨ρ2, F', EX, _, R', h2, fun f ρ3 t3 w F3 H3 R3 s3 p3 => ?_, kx⟩
    exact hs' F3 H3 ρ3 σ y w e f _ Q R3 ((p2.mono s').mono s3) p3 t3 fun z hz v F4 H4 R4 s4 p4 => k z ρ3 hz v F4 H4 R4 ((((s1.trans s2).trans s').trans s3).trans s4) p4
theorem se_chain {o o' : CmpOp} {r r' : R2} {op op' : Op2} (ho : OpR X (compareOp o) r) (ho' : OpR X (compareOp o') r') (hs : OpS X.K B r op) (hs' : OpS X.K B r' op') (ha : SE X B W a ta) (hb : SE X B W b tb) (hc : SE X B W c tc)
    (hm : lastMarks [o, o'] [b, c] = false := by with_unfolding_all rfl) : SE X B W (.Compare a [o, o'] [b, c] pos) (aChain op op' ta tb tc) :=
  PE_imp (pe_chain ho ho' ha hb hc hm) fun _ _ _ q => cChain hs hs' q
theorem st_chain {o o' : CmpOp} {r r' : R2} {op op' : Op2} (ho : OpR X (compareOp o) r) (ho' : OpR X (compareOp o') r') (hs : OpS X.K B r op) (hs' : OpS X.K B r' op') (ha : SE X B W a ta) (hb : SE X B W b tb) (hc : SE X B W c tc)
    (hm : lastMarks [o, o'] [b, c] = false := by with_unfolding_all rfl) : ST X B W (.Compare a [o, o'] [b, c] pos) (aTestB (aChain op op' ta tb tc)) := by
  refine PT_imp (pt_chain ho ho' ha hb hc hm) fun σ H Q q => ?_
  obtain ⟨ρ, F, EX, Q0, R, t, k, kx⟩ := q
  refine cChain hs hs' ⟨ρ, F, EX, _, R, t, fun d ρ1 t1 v F1 H1 R1 s1 p1 => ?_, kx⟩
  obtain ⟨j, h1, h2⟩ := blQ_of p1 t1
  exact ⟨j, h1, k j ρ1 h2 F1 H1 R1 s1⟩

/-! ### argument lists, displays -/
@[simp] def aNil : AA := fun _ ρ Q => Q [] ρ
@[simp] def aCons (te : AE) (s : AA) : AA := fun EX ρ Q => te EX ρ fun d ρ1 => s EX ρ1 fun ds ρ2 => Q (d :: ds) ρ2
theorem sa_nil : SA X B W [] aNil := by
  refine PA_imp pa_nil fun σ H Q q => ?_
  obtain ⟨ρ, F, EX, Q0, R, t, k, kx⟩ := q
  exact k _ ρ t [] F H R (Same.refl _) .nil
theorem sa_cons (h : SE X B W e te) (h' : SA X B W es s) (hs : starEach (e :: es) X.env = (false, eval e X.env) :: starEach es X.env := by rfl) : SA X B W (e :: es) (aCons te s) := by
  refine PA_imp (pa_cons h h' hs) fun σ H Q q => ?_
  obtain ⟨ρ, F, EX, Q0, R, t, k, kx⟩ := q
  refine ⟨ρ, F, EX, _, R, t, fun d ρ1 t1 v F1 H1 R1 s1 p1 => ?_, kx⟩
  refine ⟨ρ1, F1, EX, _, R1, t1, fun ds ρ2 t2 vs F2 H2 R2 s2 p2 => ?_, kx⟩
  exact k _ ρ2 t2 _ F2 H2 R2 (s1.trans s2) (.cons (p1.mono s2) p2)
@[simp] def aTup (s : AA) : AE := fun EX ρ Q => s EX ρ fun ds ρ' => ds.length ≤ sizeLine ∧ Q (.tup ds) ρ'
theorem se_tup {x1 : Nat} (h : SA X B W es s) : SE X B W (.Tuple es x1 pos) (aTup s) := by
  refine PE_imp (pe_tup h) fun σ H Q q => ?_
  obtain ⟨ρ, F, EX, Q0, R, t, k, kx⟩ := q
  refine ⟨ρ, F, EX, _, R, t, fun ds ρ1 t1 vs F1 H1 R1 s1 p1 => ⟨by rw [p1.length]; exact t1.1, fun p hp => ?_⟩, kx⟩
  have sm : ∀ o, Same F1 (upd F1 p o) := fun o => same_upd (R1.freeF hp)
  exact k _ ρ1 t1.2 _ _ _ (R1.alloc hp) (s1.trans (sm _)) (.tup (SqT.of upd_same) (p1.mono (sm _)))

/-! ### fresh objects -/
def FreshAt (B : Bas) (F H : Hp) (ρ : List AV) (σ : L2.St) (a : Addr) (o : HO) : Prop :=
  F a = none ∧ B.H0 a = none ∧ B.P a = none ∧ H a = some o ∧ ∀ (j : Nat) (e : D), ρ[j]? = some (.own e) → σ[j]? ≠ some (some (.ref a))
def cF (K : PySem.W.Frag) (B : Bas) (W : WX) (t : AE) : TE := fun σ H Q => ∃ ρ F EX Q0, Rel K B F H ρ σ ∧ t EX ρ Q0 ∧
  (∀ d ρ', Q0 d ρ' → ∀ a o F' H', Rel K B F' H' ρ' σ → Same F F' → FreshAt B F' H' ρ' σ a o → OwnP K F' o d → Q (.ref a) H') ∧ cX K B W σ EX
def SF (X : Cx) (B : Bas) (W : WX) (e : Expr) (t : AE) : Prop := PE X e (cF X.K B W t)
theorem own_dp {K : PySem.W.Frag} {F : Hp} {a : Addr} {ho : HO} {d : D} (h2 : F a = none) (h5 : OwnP K F ho d) : DP K (upd F a ho) (.ref a) d := by
  have sm : Same F (upd F a ho) := same_upd h2
  cases h5 with
  | lst q => exact .lst upd_same (q.mono sm)
  | dK q => exact .dK (.inl upd_same) (q.mono sm)
  | dT q => exact .dT (.inl upd_same) (q.mono sm)
  | dN n q => exact .dN upd_same rfl n (q.mono sm)
theorem Rel.freezeX {K : PySem.W.Frag} {F H : Hp} {ρ : List AV} {σ : L2.St} (R : Rel K B F H ρ σ) {a : Addr} {o : HO} (f : FreshAt B F H ρ σ a o) : Rel K B (upd F a o) H ρ σ := by
  obtain ⟨f1, f2, fP, f3, f4⟩ := f
  have sm : Same F (upd F a o) := same_upd f1
  refine ⟨R.toBse.freeze f3 f1 f2 fP, R.len, fun j e q => ?_, fun j e q => ?_, R.so, R.ap⟩
  · obtain ⟨v, x1, x2⟩ := R.sl j e q
    exact ⟨v, x1, x2.mono sm⟩
  · obtain ⟨b, o', x1, x2, x3, xP, x4, x5⟩ := R.ow j e q
    have nb : b ≠ a := fun z => f4 j e q (z ▸ x1)
    exact ⟨b, o', x1, by rw [upd_ne nb]; exact x2, x3, xP, x4, x5.mono sm⟩
theorem se_of_sf (h : SF X B W e te) : SE X B W e te := by
  refine PE_imp h fun σ H Q q => ?_
  obtain ⟨ρ, F, EX, Q0, R, t, k, kx⟩ := q
  refine ⟨ρ, F, EX, _, R, t, fun d ρ1 t1 a o F1 H1 R1 s1 f p1 => ?_, kx⟩
  exact k d ρ1 t1 _ _ H1 (R1.freezeX f) (s1.trans (same_upd f.1)) (own_dp f.1 p1)
theorem freshAt_new {K : PySem.W.Frag} {F H : Hp} {ρ : List AV} {σ : L2.St} (R : Rel K B F H ρ σ) {p : Addr} {o : HO} (hp : H p = none) : FreshAt B F (upd H p o) ρ σ p o :=
  ⟨R.freeF hp, R.toBse.free0 hp, R.toBse.freeP hp, upd_same, fun j e q z => by
    obtain ⟨a, o', x1, x2, x3, xP, x4, x5⟩ := R.ow j e q
    rw [x1] at z
    cases z
    rw [hp] at x4
    cases x4⟩
@[simp] def aLst (s : AA) : AE := fun EX ρ Q => s EX ρ fun ds ρ' => ds.length ≤ sizeLine ∧ Q (.lst ds) ρ'
theorem sf_lst (h : SA X B W es s) : SF X B W (.List es pos) (aLst s) := by
  refine PE_imp (pe_lst h) fun σ H Q q => ?_
  obtain ⟨ρ, F, EX, Q0, R, t, k, kx⟩ := q
  refine ⟨ρ, F, EX, _, R, t, fun ds ρ1 t1 vs F1 H1 R1 s1 p1 => ⟨by rw [p1.length]; exact t1.1, fun p hp => ?_⟩, kx⟩
  exact k _ ρ1 t1.2 _ _ _ _ (R1.allocO hp) s1 (freshAt_new R1 hp) (.lst p1)
def aNewK : AE := fun _ ρ Q => Q (.dK []) ρ
theorem sf_newK : SF X B W (.Dict [] [] pos) aNewK := by
  refine PE_imp pe_dnewK fun σ H Q q => ?_
  obtain ⟨ρ, F, EX, Q0, R, t, k, kx⟩ := q
  intro p hp
  exact k _ ρ t _ _ _ _ (R.allocO hp) (Same.refl _) (freshAt_new R hp) (.dK .nil)
def aNewT : AE := fun _ ρ Q => Q (.dT []) ρ
theorem sf_newT : SF X B W (.Dict [] [] pos) aNewT := by
  refine PE_imp pe_dnewT fun σ H Q q => ?_
  obtain ⟨ρ, F, EX, Q0, R, t, k, kx⟩ := q
  intro p hp
  exact k _ ρ t _ _ _ _ (R.allocO hp) (Same.refl _) (freshAt_new R hp) (.dT .nil)

/-- {} with numbers or tuples as keys -/
def tDNewN : TE := fun _ H Q => ∀ p, H p = none → Q (.ref p) (upd H p (.ext (NDx p #[] 0)))
theorem pe_dnewN : PE X (.Dict [] [] pos) tDNewN := ⟨fun pins s σ H Q I h =>
  wpAny_Dict_empty ⟨.ref s.heap.objs.size, _, I.laid (a := s.heap.objs.size) (o := .ext (NDx s.heap.objs.size #[] 0)) (t' := s.toks) (fun _ _ q => Heap.get?_push_of_some _ q) (Nat.le_refl _)
    (nd_ok (beq_eq_false_iff_ne.mpr (Ne.symm (Nat.ne_of_lt I.big))) (Nat.zero_le _) ⟨_, Heap.get?_push_size _ rfl, ⟨rfl, rfl, rfl⟩, rfl⟩), rfl, h _ (I.hok.fresh (Nat.le_refl _))⟩⟩
@[simp] def aNewN : AE := fun _ ρ Q => Q (.dN []) ρ
theorem sf_newN : SF X B W (.Dict [] [] pos) aNewN := by
  refine PE_imp pe_dnewN fun σ H Q q => ?_
  obtain ⟨ρ, F, EX, Q0, R, t, k, kx⟩ := q
  intro p hp
  exact k _ ρ t _ _ _ _ (R.allocO hp) (Same.refl _) (freshAt_new R hp) (.dN (by simp) .nil)

/-! ### subscripts -/
/-- data is a key of a dict -/
def QKey (kvs : List (NestedKey × D)) (e : D) (k : NestedKey) : Prop := e = keyD k ∧ ktf k = true ∧ k.depth ≤ 8 ∧ KindN kvs k
theorem QKey.is {K : PySem.W.Frag} {F : Hp} {kvs : List (NestedKey × D)} {e : D} {k : NestedKey} {v : V} (h : QKey kvs e k) (p : DP K F v e) : IsKey K F v k := ⟨h.2.1, h.2.2.1, h.1 ▸ p⟩
def valD {κ : Type} [DecidableEq κ] (kvs : List (κ × D)) (k : κ) : Option D := (kvs.find? fun kv => decide (kv.1 = k)).map (·.2)
theorem DPk.val {K : PySem.W.Frag} {F : Hp} {k : Key} {d : D} : ∀ {vs : List (Key × V)} {ds : List (Key × D)}, DPk K F vs ds → valD ds k = some d → ∃ v, valV vs k = some v ∧ DP K F v d
  | _, _, .nil, h => by cases h
  | _, _, .cons (k := j) (d := e) h t, q => by
    by_cases hk : j = k
    · have e1 : ∀ r, valD ((j, e) :: r) k = some e := fun r => by simp [valD, List.find?_cons, hk]
      rw [e1] at q
      cases q
      exact ⟨_, valV_pos hk, h⟩
    · have e1 : ∀ r, valD ((j, e) :: r) k = valD r k := fun r => by simp [valD, List.find?_cons, hk]
      rw [e1] at q
      obtain ⟨v, h1, h2⟩ := DPk.val t q
      exact ⟨v, (valV_neg hk).trans h1, h2⟩
theorem DPk.valN {K : PySem.W.Frag} {F : Hp} {k : Key} : ∀ {vs : List (Key × V)} {ds : List (Key × D)}, DPk K F vs ds → valD ds k = none → valV vs k = none
  | _, _, .nil, h => rfl
  | _, _, .cons (k := j) (d := e) h t, q => by
    by_cases hk : j = k
    · have e1 : ∀ r, valD ((j, e) :: r) k = some e := fun r => by simp [valD, List.find?_cons, hk]
      rw [e1] at q
      cases q
    · have e1 : ∀ r, valD ((j, e) :: r) k = valD r k := fun r => by simp [valD, List.find?_cons, hk]
      rw [e1] at q
      exact (valV_neg hk).trans (DPk.valN t q)
def keyOf : D → Option Key
  | .int i => some (.inl i)
  | .str x => some (.inr x)
  | _ => none
theorem keyOf_dp {K : PySem.W.Frag} {F : Hp} {v : V} {d : D} {k : Key} (h : DP K F v d) (q : keyOf d = some k) : v = kV k := by
  cases h <;> first | cases q | skip
  · rfl
  · rfl
def dIdx : Op2 := fun d e Q => match d with
  | .lst xs => ∃ i x, e = .int i ∧ atI xs i = some x ∧ Q x
  | .tup xs => ∃ i x, e = .int i ∧ atI xs i = some x ∧ Q x
  | .str z => ∃ i c, e = .int i ∧ z.length ≤ sizeLine ∧ atI z.cps.toList i = some c ∧ Q (.str ⟨#[c]⟩)
  | .dK kvs => ∃ k x, keyOf e = some k ∧ valD kvs k = some x ∧ Q x
  | .dN kvs => ∃ k x, QKey kvs e k ∧ tabD kvs k = some x ∧ Q x
  | _ => False
def rIxN (K : PySem.W.Frag) : R2 := fun x y H Q => ∃ a F ds k d, x = .ref a ∧ Same F H ∧ NAt K F H a ds ∧ IsKey K F y k ∧ KindN ds k ∧ tabD ds k = some d ∧ ∀ v, DP K F v d → Q v H
theorem nat_typeIs {pins : List (Addr × Obj)} {σ : L2.St} {H F : Hp} {s : Shared} {K : PySem.W.Frag} {a : Addr} {ds : List (NestedKey × D)} (I : Inv X pins σ H s) (g : NAt K F H a ds) : s.TypeIs (.ref a) "dict" := by
  obtain ⟨a0, es, ep, g, _⟩ := g.ex
  exact (nd_raw I.hok g).2.2.typeIs
theorem ix_n (hu : X.A.units + 64 < cLine) : IxR X (rIxN X.K) := by
  intro value slice pins s σ H x y v u Q I rx ry h hs
  obtain ⟨a, F, ds, k, d, rfl, sm, g, hk, kn, hv, q⟩ := h
  cases rx
  exact PyProof.Rows.tail_any (ops := [.ref a, u]) (nat_typeIs I g) PySem.F.slot_dict_getitem.lookup (n_getItem hu I sm g hk kn hv ry fun v w' s3 I3 rw' pv => ⟨v, H, I3, rw', q v pv⟩) hs
def rIxD : R2 := fun x y H Q => ∃ a v, x = .ref a ∧ DGet H a y (some v) ∧ Q v H
theorem ix_dict (hu : X.A.units + 1 < cLine) : IxR X rIxD := by
  intro value slice pins s σ H x y v u Q I rx ry h hs
  obtain ⟨a, w, rfl, g, q⟩ := h
  cases rx
  exact PyProof.Rows.tail_any (ops := [.ref a, u]) (dict_typeIs I g) PySem.F.slot_dict_getitem.lookup (d_getItem hu I g ry fun w' s3 I3 rw' => ⟨w, H, I3, rw', q⟩) hs
def rIxAll (K : PySem.W.Frag) : R2 := fun x y H Q => (rIx K x y H Q ∨ rIxD x y H Q) ∨ rIxN K x y H Q
theorem ix_all {k : Nat} (hr : Room k X.A) : IxR X (rIxAll X.K) := IxR.or (IxR.or ix_seq (ix_dict (hu_of hr))) (ix_n hr.units)
theorem DPs.at {K : PySem.W.Frag} {F : Hp} {v : List V} {d : List D} (h : DPs K F v d) {i : Int} {x : D} (q : atI d i = some x) : ∃ y, atI v i = some y ∧ DP K F y x := by
  unfold atI at q ⊢
  rw [h.length]
  cases e : ixN d.length i with
  | none => rw [e] at q; cases q
  | some j =>
    rw [e] at q
    obtain ⟨y, h1, h2⟩ := h.get (i := j) q
    exact ⟨y, h1, h2⟩
theorem rd_same {F H : Hp} {a : Addr} {u : HO} (e : Same F H) (h : Rd F a u) : Rd H a u := same_rd e h
theorem opS_idx {K : PySem.W.Frag} : OpS K B (rIxAll K) dIdx := by
  intro F H ρ σ x y d e Q0 Q R p1 p2 q k
  cases p1 with
  | lst h t =>
    obtain ⟨i, z, rfl, e1, q⟩ := q
    obtain ⟨v, e2, p⟩ := t.at e1
    exact .inl (.inl (.inl ⟨_, _, i, v, rfl, dp_int p2, SqL.of (R.fz _ _ h), e2, k _ q _ F H R (Same.refl _) p⟩))
  | tup h t =>
    obtain ⟨i, z, rfl, e1, q⟩ := q
    obtain ⟨v, e2, p⟩ := t.at e1
    exact .inl (.inl (.inr (.inl ⟨_, _, i, v, rfl, dp_int p2, same_tup R.fz h, e2, k _ q _ F H R (Same.refl _) p⟩)))
  | str z =>
    obtain ⟨i, c, rfl, hz, e1, q⟩ := q
    exact .inl (.inl (.inr (.inr ⟨z, i, c, rfl, dp_int p2, hz, e1, k _ q _ F H R (Same.refl _) (.str _)⟩)))
  | dK h t =>
    obtain ⟨j, z, e0, e1, q⟩ := q
    obtain ⟨v, e2, p⟩ := t.val e1
    exact .inl (.inr ⟨_, v, rfl, .inl ⟨_, j, rd_same R.fz h, keyOf_dp p2 e0, e2.symm⟩, k _ q _ F H R (Same.refl _) p⟩)
  | dN h e n t =>
    subst e
    obtain ⟨j, z, hj, e1, q⟩ := q
    exact .inr ⟨_, F, _, j, z, rfl, R.fz, ⟨_, _, _, R.fz _ _ h, n, t⟩, hj.is p2, hj.2.2.2, e1, fun v pv => k _ q _ F H R (Same.refl _) pv⟩
  | _ => exact q.elim
theorem se_ix {k : Nat} (hr : Room k X.A) (ha : SE X B W a ta) (hb : SE X B W b tb) (hs : PlainIx b := by exact fun _ _ => rfl) : SE X B W (.Subscript a b pos) (aBin dIdx ta tb) :=
  PE_imp (pe_ix (ix_all hr) ha hb hs) fun _ _ _ q => cBin opS_idx q

/-! ### slices -/
abbrev AO := EK → List AV → (Option Int → List AV → Prop) → Prop
def cO (K : PySem.W.Frag) (B : Bas) (W : WX) (t : AO) : TO := fun σ H Q => ∃ ρ F EX Q0, Rel K B F H ρ σ ∧ t EX ρ Q0 ∧ (∀ d ρ', Q0 d ρ' → ∀ F' H', Rel K B F' H' ρ' σ → Same F F' → Q d H') ∧ cX K B W σ EX
def SO (X : Cx) (B : Bas) (W : WX) (e : Option Expr) (t : AO) : Prop := PO X e (cO X.K B W t)
@[simp] def aNoPart : AO := fun _ ρ Q => Q none ρ
@[simp] def aPart (te : AE) : AO := fun EX ρ Q => te EX ρ fun d ρ' => match d with
  | .int i => Q (some i) ρ'
  | _ => False
theorem PO_imp {X : Cx} {e : Option Expr} {T T' : TO} (h : PO X e T) (i : ∀ σ H Q, T' σ H Q → T σ H Q) : PO X e T' := ⟨fun pins s σ H Q I q => h.run pins s σ H Q I (i _ _ _ q)⟩
theorem so_none : SO X B W none aNoPart := by
  refine PO_imp po_none fun σ H Q q => ?_
  obtain ⟨ρ, F, EX, Q0, R, t, k, kx⟩ := q
  exact k _ ρ t F H R (Same.refl _)
theorem so_some (h : SE X B W e te) : SO X B W (some e) (aPart te) := by
  refine PO_imp (po_some h) fun σ H Q q => ?_
  obtain ⟨ρ, F, EX, Q0, R, t, k, kx⟩ := q
  refine ⟨ρ, F, EX, _, R, t, fun d ρ1 t1 v F1 H1 R1 s1 p1 => ?_, kx⟩
  cases p1 <;> first | exact (show False from t1).elim | skip
  exact ⟨_, rfl, k _ ρ1 t1 F1 H1 R1 s1⟩
def cutD {α : Type} (xs : List α) (lo hi : Option Int) : List α := (xs.drop (HT.sIx xs.length 0 lo)).take (HT.sIx xs.length xs.length hi - HT.sIx xs.length 0 lo)
theorem DPs.take {K : PySem.W.Frag} {F : Hp} : ∀ {v : List V} {d : List D} (n : Nat), DPs K F v d → DPs K F (v.take n) (d.take n)
  | _, _, 0, _ => .nil
  | _, _, _ + 1, .nil => .nil
  | _, _, n + 1, .cons h t => .cons h (DPs.take n t)
theorem DPs.drop {K : PySem.W.Frag} {F : Hp} : ∀ {v : List V} {d : List D} (n : Nat), DPs K F v d → DPs K F (v.drop n) (d.drop n)
  | _, _, 0, h => h
  | _, _, _ + 1, .nil => .nil
  | _, _, n + 1, .cons h t => DPs.drop n t
theorem DPs.cut {K : PySem.W.Frag} {F : Hp} {v : List V} {d : List D} (h : DPs K F v d) (lo hi : Option Int) : DPs K F (cutV v lo hi) (cutD d lo hi) := by
  unfold cutV cutD
  rw [h.length]
  exact (h.drop _).take _
def dCut (d : D) (lo hi : Option Int) (Q : D → Prop) : Prop := match d with
  | .lst xs => Q (.lst (cutD xs lo hi))
  | .tup xs => Q (.tup (cutD xs lo hi))
  | .str z => z.length ≤ sizeLine ∧ Q (.str (cutS z lo hi))
  | _ => False
@[simp] def aSl (te : AE) (tl th : AO) : AE := fun EX ρ Q => te EX ρ fun d ρ1 => tl EX ρ1 fun lo ρ2 => th EX ρ2 fun hi ρ3 => dCut d lo hi fun z => Q z ρ3
def rSlAll (K : PySem.W.Frag) : V → Option Int → Option Int → Hp → VK → Prop := fun x lo hi H Q => (rSlL K x lo hi H Q ∨ rSlA K x lo hi H Q) ∨ rSlS x lo hi H Q
theorem sl_all : SlR X (rSlAll X.K) := (sl_list.or sl_tupA).or sl_str
theorem se_sl {tl th : AO} {lo hi : Option Expr} {p2 : Pos} (he : SE X B W e te) (hl : SO X B W lo tl) (hu : SO X B W hi th) : SE X B W (.Subscript e (.Slice lo hi none p2) pos) (aSl te tl th) := by
  refine PE_imp (pe_slice sl_all he hl hu) fun σ H Q q => ?_
  obtain ⟨ρ, F, EX, Q0, R, t, k, kx⟩ := q
  refine ⟨ρ, F, EX, _, R, t, fun d ρ1 t1 v F1 H1 R1 s1 p1 => ?_, kx⟩
  refine ⟨ρ1, F1, EX, _, R1, t1, fun l ρ2 t2 F2 H2 R2 s2 => ?_, kx⟩
  refine ⟨ρ2, F2, EX, _, R2, t2, fun h ρ3 t3 F3 H3 R3 s3 => ?_, kx⟩
  have p3 := (p1.mono s2).mono s3
  have s13 := (s1.trans s2).trans s3
  have sm : ∀ p o, H3 p = none → Same F3 (upd F3 p o) := fun p o hp => same_upd (R3.freeF hp)
  cases p3 with
  | lst a b => exact .inl (.inl ⟨_, _, rfl, SqL.of (R3.fz _ _ a), fun p hp => k _ ρ3 t3 _ _ _ (R3.alloc hp) (s13.trans (sm p _ hp)) (.lst upd_same ((b.cut l h).mono (sm p _ hp)))⟩)
  | tup a b =>
    refine .inl (.inr ⟨_, _, rfl, same_tup R3.fz a, fun z => ?_, fun z p hp => k _ ρ3 t3 _ _ _ (R3.alloc hp) (s13.trans (sm p _ hp)) (.tup (SqT.of upd_same) ((b.cut l h).mono (sm p _ hp)))⟩)
    have e := b.cut l h
    rename_i x1 a1 xs ds
    have ew : cutV xs l h = xs := by
      unfold cutV
      rw [z.1, z.2]
      simp
    rw [ew] at e
    exact k _ ρ3 t3 _ _ _ R3 s13 (.tup a e)
  | str z => exact .inr ⟨z, rfl, t3.1, k _ ρ3 t3.2 _ _ _ R3 s13 (.str _)⟩
  | _ => exact (show False from t3).elim
/-- xs[::-1] of a list -/
@[simp] def aRevL (te : AE) : AE := fun EX ρ Q => te EX ρ fun d ρ' => match d with
  | .lst xs => Q (.lst xs.reverse) ρ'
  | _ => False
theorem DPs.reverse {K : PySem.W.Frag} {F : Hp} : ∀ {v : List V} {d : List D}, DPs K F v d → DPs K F v.reverse d.reverse
  | _, _, .nil => .nil
  | _, _, .cons h t => by
    rw [List.reverse_cons, List.reverse_cons]
    exact (DPs.reverse t).append (.cons h .nil)
theorem sf_revL {k : Nat} {p1 p2 p3 : Pos} (he : SE X B W e te) : SF X B W (.Subscript e (.Slice none none (some (.UnaryOp .USub (.Constant (.int 1) k p1) p2)) p3) pos) (aRevL te) := by
  refine PE_imp (pe_revL he) fun σ H Q q => ?_
  obtain ⟨ρ, F, EX, Q0, R, t, k, kx⟩ := q
  refine ⟨ρ, F, EX, _, R, t, fun d ρ1 t1 v F1 H1 R1 s1 p1 => ?_, kx⟩
  cases p1 with
  | lst a b => exact ⟨_, _, rfl, SqL.of (R1.fz _ _ a), fun p hp => k _ ρ1 t1 _ _ _ _ (R1.allocO hp) s1 (freshAt_new R1 hp) (.lst b.reverse)⟩
  | _ => exact (show False from t1).elim
end
end PU
set_option Elab.async false
set_option linter.all false
set_option maxRecDepth 100000
namespace PU
open PySem PySem.Spec L2
set_option autoImplicit false

/-! ### what a def does: to data, by the wished end and the wished exception -/
abbrev AF := List D → (D → Prop) → (XE → Prop) → Prop
def spOf (K : PySem.W.Frag) (ec : Str → Option Addr) (n : Nat) (A : AF) : Sp := fun vs H Q E => ∃ (F : Hp) (ds : List D) (Q0 : D → Prop) (E0 : XE → Prop),
  ds.length = n ∧ Bse ⟨ec, none, fun _ => none, F, H⟩ F H ∧ DPs K F vs ds ∧ A ds Q0 E0 ∧ (∀ d, Q0 d → ∀ v F' H', Bse ⟨ec, none, fun _ => none, F, H⟩ F' H' → DP K F' v d → Q v H') ∧
  (∀ x, E0 x → ∀ cls d F' H', Bse ⟨ec, none, fun _ => none, F, H⟩ F' H' → XP K ec x cls d F' H' → E cls d H')
/-- .. whose first argument is the source -/
def spOfZ (K : PySem.W.Frag) (ec : Str → Option Addr) (n : Nat) (A : AF) : Sp := fun vs H Q E => ∃ (s c : Addr) (vs' : List V) (F : Hp) (ds : List D) (Q0 : D → Prop) (E0 : XE → Prop),
  vs = .ref s :: vs' ∧ ds.length = n ∧ Bse ⟨ec, some (s, c), fun _ => none, F, H⟩ F H ∧ DPs K F vs' ds ∧ A ds Q0 E0 ∧ (∀ d, Q0 d → ∀ v F' H', Bse ⟨ec, some (s, c), fun _ => none, F, H⟩ F' H' → DP K F' v d → Q v H') ∧
  (∀ x, E0 x → ∀ cls d F' H', Bse ⟨ec, some (s, c), fun _ => none, F, H⟩ F' H' → XP K ec x cls d F' H' → E cls d H')
/-- room for calls, no display under way -/
structure RoomG (k : Nat) (A : Around) : Prop extends L2.Room k A where
  gd : A.guards = some []
theorem RoomG.down {i k : Nat} {A : Around} (r : RoomG k A) (h : i ≤ k) : RoomG i A := ⟨r.toRoom.mono h, r.gd⟩
theorem RoomG.into {k : Nat} {A : Around} (r : RoomG (k + 1) A) (env : Env) : RoomG k (A.deeper env) := ⟨r.toRoom.deeper env, r.gd⟩
/-- a def's promise, where no display is under way -/
structure FnG (P : Program) (w : World) (K : PySem.W.Frag) (mg : Str → Option Value) (base : Heap) (k : Nat) (f : Addr) (fd : FuncData) (ps : List Str) (sp : Sp) : Prop where
  len : ∀ vs H Q E, sp vs H Q E → vs.length = ps.length
  go : ∀ (A : Around) (outer : List Env) (s : Shared) (H : Hp) (args : Args) (us : List Value) (vs : List V) (Q : VK) (E : XK), RoomG k A → Env0 P w K mg base A outer s H → BindsTo s fd args (ps.zip us) → Vals vs us → sp vs H Q E →
    codeAny (model P w) A (.call (.ref f) args) (CR (L2.CX P w) outer P w H s Q E) s
theorem FnG.weak {P : Program} {w : World} {K : PySem.W.Frag} {mg : Str → Option Value} {base : Heap} {k : Nat} {f : Addr} {fd : FuncData} {ps : List Str} {sp sp' : Sp} (d : FnG P w K mg base k f fd ps sp) (h : ∀ vs H Q E, sp' vs H Q E → sp vs H Q E) :
    FnG P w K mg base k f fd ps sp' := ⟨fun vs H Q E q => d.len vs H Q E (h _ _ _ _ q), fun A outer s H args us vs Q E r e b v q => d.go A outer s H args us vs Q E r e b v (h _ _ _ _ q)⟩
section
open PySem.W PySem.Calls PyProof.Rows
variable {P : Program} {w : World} {K : PySem.W.Frag} {mg : Str → Option Value} {base : Heap}
theorem fnG_of {k : Nat} {f : Addr} {name qual : Str} {params : Arguments} {body : List Stmt} {scope : Scope} {dV kV doc pm cdv ct oc : Value} {an od : Option Addr} {osl : Array (Option Value)} {N ps : List Str} {sp : Sp}
    (lk : K.lookup f = some ⟨oc, od, .func (PySem.W.fnOf name qual params body scope dV kV doc pm an cdv ct), osl⟩) (hcd : PySem.W.codeIn K cdv qual = true) (S : FnScope N ps scope) (len : ∀ vs H Q E, sp vs H Q E → vs.length = ps.length)
    (body_ok : ∀ (A : Around) (outer : List Env) (s : Shared) (H : Hp) (vs : List V) (Q : VK) (E : XK), RoomG k (A.deeper (envOfC qual scope s.heap.objs.size f cdv)) → sp vs H Q E →
      ∃ t, PSs (cxOf (L2.CX P w) P w K mg base N qual scope f cdv A outer s H E) body t ∧ t { nx := fun _ H' => Q .non H', rt := Q } (L2.start N vs) H) : FnG P w K mg base (k + 1) f (PySem.W.fnOf name qual params body scope dV kV doc pm an cdv ct) ps sp := by
  refine ⟨len, fun A outer s H args us vs Q E room env bind vals promise => ?_⟩
  have count := len _ _ _ _ promise
  have held : ∀ b o, base.get? b = some o → s.heap.get? b = some o := fun b o z => (env.bs b o z).1
  have inK : K.In s.heap := env.mod.kin.keeps held
  have kinds : ∀ y ∈ ps.zip us, scope.names.lookup y.1 = some .local ∨ (scope.names.lookup y.1 = some .cell ∧ ((cellsFrom (s.heap.objs.size + 1) scope.names []).lookup y.1).isSome = true) := by
    rintro ⟨n, v⟩ hy
    cases S.par n (List.of_mem_zip hy).1 with
    | inl z => exact .inl z
    | inr z => exact .inr ⟨z, PySem.W.cellsFrom_some _ _ _ (.inl z)⟩
  refine codeAny_call_function room.toRoom.depth (inK _ _ lk) rfl S.co S.gen rfl (codeRec_of inK hcd) (bind _ _ _ _ (wpAny_newFunctionEnv_cells S.kind kinds fun env' he s1 x => ?_))
  subst he
  obtain ⟨t, ht, hq⟩ := body_ok A outer s H vs Q E (room.into _) promise
  have I := inv_start (CX := L2.CX P w) (E := E) S room.hd env count vals x
  refine ⟨(env.mod.nolimit.keeps held).keeps x.toInCall.keep, codeAny_func (wpAny_mono (ht.run [] s1 _ H _ I hq) (fun fl s' hs => ?_) fun e s' z => z)⟩
  cases fl with
  | ret u =>
    obtain ⟨v, σ', H', J, rv, q⟩ := hs
    exact ⟨v, H', J.os, J.bare, J.base, J.hok, rv, q⟩
  | next =>
    obtain ⟨σ', H', J, q⟩ := hs
    exact ⟨V.non, H', J.os, J.bare, J.base, J.hok, rfl, q⟩
  | brk => exact hs.elim fun _ z => z.elim fun _ z => z.2.elim
  | cont => exact hs.elim fun _ z => z.elim fun _ z => z.2.elim
end
section
variable {X : Cx} {k : Nat} {f : Addr} {fd : FuncData} {ps : List Str} {sp : Sp} {E : L2.St → XK} {x : Str} {p pos : Pos} {e : Expr} {es : List Expr} {t : TA}
theorem goG {pins : List (Addr × Obj)} {σ : L2.St} {H : Hp} {s : Shared} {Q : VK} {us : List Value} {vs : List V} (d : FnG X.prog X.w X.K X.mg X.base k f fd ps sp) (hr : RoomG k X.A) (hb : Binds X.K fd ps []) (hx : PassesAt (L2.CX X.prog X.w) X σ (E σ))
    (I : Inv X pins σ H s) (r : Vals vs us) (h : sp vs H Q (E σ)) : wpAny (model X.prog X.w) X.A (call (.ref f) us) (EP X pins σ Q) X.xe s := by
  have n : us.length = ps.length := r.length ▸ d.len _ _ _ _ h
  have b := hb s us I.kIn (by simpa using n)
  rw [List.append_nil] at b
  refine wpAny_call (codeAny_mono (d.go X.A X.stack s H ⟨us, []⟩ us vs Q (E σ) hr I.env0 b r h) fun r s' z => ?_)
  match r, z with
  | .error e, z => exact hx pins H s e s' I z
  | .ok (.ret u), z => exact I.after z
  | .ok .next, z => exact z.elim
  | .ok .brk, z => exact z.elim
  | .ok .cont, z => exact z.elim
theorem pe_callG (d : FnG X.prog X.w X.K X.mg X.base k f fd ps sp) (hr : RoomG k X.A) (hg : Gl X x) (hm : X.mg x = some (.ref f)) (hk : PySem.W.keepIn X.K (.ref f) = true) (hb : Binds X.K fd ps []) (hx : ∀ σ, PassesAt (L2.CX X.prog X.w) X σ (E σ)) (ha : PA X (e :: es) t)
    (hdb : (x == ("__debug__" : Str)) = false := by decide) (he : starEach (e :: es) X.env = (false, eval e X.env) :: starEach es X.env := by rfl) (hpl : (backTo pos (starEach es X.env)).any (·.1) = false := by rfl) : PE X (.Call (.Name x p) (e :: es) [] pos) (tCallS sp E t) :=
  ⟨fun pins s σ H Q I h => wpAny_Call_Name_kw (ld_glob I hg hm (PySem.W.callWith_K (h₀ := X.base) I.ok.mod.kin hk (thn (ha.run pos pins s σ H _ I h) fun us s1 ⟨vs, H1, J, r, q⟩ => ⟨J.kIn, goG d hr hb (hx σ) J r q⟩) he hpl) hdb)⟩
theorem pe_callG0 (d : FnG X.prog X.w X.K X.mg X.base k f fd ps sp) (hr : RoomG k X.A) (hg : Gl X x) (hm : X.mg x = some (.ref f)) (hk : PySem.W.keepIn X.K (.ref f) = true) (hb : Binds X.K fd ps []) (hx : ∀ σ, PassesAt (L2.CX X.prog X.w) X σ (E σ))
    (hdb : (x == ("__debug__" : Str)) = false := by decide) : PE X (.Call (.Name x p) [] [] pos) (tCallS sp E tNil) :=
  ⟨fun pins s σ H Q I h => wpAny_Call_Name_kw (ld_glob I hg hm (PySem.W.callWith_K0 I.kIn hk (goG (us := []) d hr hb (hx σ) I .nil h)) hdb)⟩
end
/-- a def of the text that keeps a promise -/
structure DefOk (P : Program) (w : World) (K : PySem.W.Frag) (mg : Str → Option Value) (base : Heap) (nm : Str) (k : Nat) (sp : Sp) : Prop where
  ex : ∃ f fd ps, mg nm = some (.ref f) ∧ PySem.W.keepIn K (.ref f) = true ∧ Binds K fd ps [] ∧ FnG P w K mg base k f fd ps sp
theorem DefOk.imp {P : Program} {w : World} {K : PySem.W.Frag} {mg : Str → Option Value} {base : Heap} {nm : Str} {k : Nat} {sp sp' : Sp} (d : DefOk P w K mg base nm k sp) (h : ∀ vs H Q E, sp' vs H Q E → sp vs H Q E) : DefOk P w K mg base nm k sp' := by
  obtain ⟨f, fd, ps, h1, h2, h3, h4⟩ := d.ex
  exact ⟨f, fd, ps, h1, h2, h3, h4.weak h⟩
theorem spOf_imp {K : PySem.W.Frag} {ec : Str → Option Addr} {n : Nat} {A A' : AF} (h : ∀ ds Q E, A' ds Q E → A ds Q E) : ∀ vs H Q E, spOf K ec n A' vs H Q E → spOf K ec n A vs H Q E :=
  fun _ _ _ _ ⟨F, ds, Q0, E0, h1, h2, h3, h4, h5⟩ => ⟨F, ds, Q0, E0, h1, h2, h3, h _ _ _ h4, h5⟩
theorem spOfZ_imp {K : PySem.W.Frag} {ec : Str → Option Addr} {n : Nat} {A A' : AF} (h : ∀ ds Q E, A' ds Q E → A ds Q E) : ∀ vs H Q E, spOfZ K ec n A' vs H Q E → spOfZ K ec n A vs H Q E :=
  fun _ _ _ _ ⟨s, c, vs', F, ds, Q0, E0, h0, h1, h2, h3, h4, h5⟩ => ⟨s, c, vs', F, ds, Q0, E0, h0, h1, h2, h3, h _ _ _ h4, h5⟩

section
variable {X : Cx} {B : Bas} {W : WX} {a b c e : Expr} {es rest : List Expr} {ta tb tc te : AE} {t u : AT} {s : AA} {pos p : Pos} {A : AF} {n k : Nat} {x : Str}
@[simp] def aCall (n : Nat) (A : AF) (s : AA) : AE := fun EX ρ Q => s EX ρ fun ds ρ' => ds.length = n ∧ A ds (fun d => Q d ρ') fun x => EX x ρ'
theorem se_call {ec : Str → Option Addr} (hec : B.ec = ec) (d : DefOk X.prog X.w X.K X.mg X.base x k (spOf X.K ec n A)) (tk : Takes X W) (hr : RoomG k X.A) (hg : Gl X x) (ha : SA X B W (e :: es) s) (hdb : (x == ("__debug__" : Str)) = false := by decide)
    (he : starEach (e :: es) X.env = (false, eval e X.env) :: starEach es X.env := by rfl) (hpl : (backTo pos (starEach es X.env)).any (·.1) = false := by rfl) : SE X B W (.Call (.Name x p) (e :: es) [] pos) (aCall n A s) := by
  subst hec
  obtain ⟨f, fd, ps, h1, h2, h3, h4⟩ := d.ex
  refine PE_imp (pe_callG h4 hr hg h1 h2 h3 (fun σ => passAt tk σ) ha hdb he hpl) fun σ H Q q => ?_
  obtain ⟨ρ, F, EX, Q0, R, t, k, kx⟩ := q
  refine ⟨ρ, F, EX, _, R, t, fun ds ρ1 t1 vs F1 H1 R1 s1 p1 => ?_, kx⟩
  refine ⟨F1, ds, _, _, t1.1, R1.toCall (.inr rfl), p1, t1.2, fun d hd v F' H' P pd => ?_, fun x hx cls d F' H' P px => ?_⟩
  · exact k _ ρ1 hd v F' H' (R1.call (.inr rfl) P) (s1.trans P.f0) pd
  · exact kx x ρ1 hx cls d F' H' (R1.call (.inr rfl) P) px
/-- f() -/
@[simp] def aCall0 (A : AF) : AE := fun EX ρ Q => A [] (fun d => Q d ρ) fun x => EX x ρ
theorem se_call0 {ec : Str → Option Addr} (hec : B.ec = ec) (d : DefOk X.prog X.w X.K X.mg X.base x k (spOf X.K ec 0 A)) (tk : Takes X W) (hr : RoomG k X.A) (hg : Gl X x) (hdb : (x == ("__debug__" : Str)) = false := by decide) : SE X B W (.Call (.Name x p) [] [] pos) (aCall0 A) := by
  subst hec
  obtain ⟨f, fd, ps, h1, h2, h3, h4⟩ := d.ex
  refine PE_imp (pe_callG0 h4 hr hg h1 h2 h3 (fun σ => passAt tk σ) hdb) fun σ H Q q => ?_
  obtain ⟨ρ, F, EX, Q0, R, t, k, kx⟩ := q
  refine ⟨F, [], _, _, rfl, R.toCall (.inr rfl), .nil, t, fun d hd v F' H' P pd => ?_, fun x hx cls d F' H' P px => ?_⟩
  · exact k _ ρ hd v F' H' (R.call (.inr rfl) P) P.f0 pd
  · exact kx x ρ hx cls d F' H' (R.call (.inr rfl) P) px
/-- f(source, ..) -/
@[simp] def aCallZ (i n : Nat) (A : AF) (s : AA) : AE := fun EX ρ Q => (∃ u, ρ[i]? = some u ∧ u = .src) ∧ s EX ρ fun ds ρ' => ds.length = n ∧ A ds (fun d => Q d ρ') fun x => EX x ρ'
theorem se_callZ {y : Str} {q : Pos} {ec : Str → Option Addr} (i : Nat) (hec : B.ec = ec) (d : DefOk X.prog X.w X.K X.mg X.base x k (spOfZ X.K ec n A)) (tk : Takes X W) (hr : RoomG k X.A) (hg : Gl X x) (hy : PE X (.Name y q) (tVar i)) (ha : SA X B W es s) (hdb : (x == ("__debug__" : Str)) = false := by decide)
    (he : starEach (.Name y q :: es) X.env = (false, eval (.Name y q) X.env) :: starEach es X.env := by rfl) (hpl : (backTo pos (starEach es X.env)).any (·.1) = false := by rfl) : SE X B W (.Call (.Name x p) (.Name y q :: es) [] pos) (aCallZ i n A s) := by
  subst hec
  obtain ⟨f, fd, ps, h1, h2, h3, h4⟩ := d.ex
  refine PE_imp (pe_callG h4 hr hg h1 h2 h3 (fun σ => passAt tk σ) (pa_cons hy ha he) hdb he hpl) fun σ H Q q => ?_
  obtain ⟨ρ, F, EX, Q0, R, ⟨⟨_, hs, rfl⟩, t⟩, k, kx⟩ := q
  obtain ⟨s, c, eZ, es⟩ := R.so i hs
  refine ⟨_, es, ρ, F, EX, _, R, t, fun ds ρ1 t1 vs F1 H1 R1 s1 p1 => ?_, kx⟩
  refine ⟨s, c, vs, F1, ds, _, _, rfl, t1.1, R1.toCall (.inl eZ.symm), p1, t1.2, fun d hd v F' H' P pd => ?_, fun x hx cls d F' H' P px => ?_⟩
  · exact k _ ρ1 hd v F' H' (R1.call (.inl eZ.symm) P) (s1.trans P.f0) pd
  · exact kx x ρ1 hx cls d F' H' (R1.call (.inl eZ.symm) P) px

/-! ### built-ins -/
abbrev OpN := List D → (D → Prop) → Prop
def OpNS (K : PySem.W.Frag) (B : Bas) (r : List V → Hp → VK → Prop) (op : OpN) : Prop :=
  ∀ (F H : Hp) (ρ : List AV) (σ : L2.St) (xs : List V) (ds : List D) (Q0 : D → Prop) (Q : VK), Rel K B F H ρ σ → DPs K F xs ds → op ds Q0 →
    (∀ z, Q0 z → ∀ v F' H', Rel K B F' H' ρ σ → Same F F' → DP K F' v z → Q v H') → r xs H Q
/-- .. that make a new object -/
def OpNF (K : PySem.W.Frag) (B : Bas) (r : List V → Hp → VK → Prop) (op : OpN) : Prop :=
  ∀ (F H : Hp) (ρ : List AV) (σ : L2.St) (xs : List V) (ds : List D) (Q0 : D → Prop) (Q : VK), Rel K B F H ρ σ → DPs K F xs ds → op ds Q0 →
    (∀ z, Q0 z → ∀ a o F' H', Rel K B F' H' ρ σ → Same F F' → FreshAt B F' H' ρ σ a o → OwnP K F' o z → Q (.ref a) H') → r xs H Q
@[simp] def aOp (op : OpN) (s : AA) : AE := fun EX ρ Q => s EX ρ fun ds ρ' => op ds fun z => Q z ρ'
theorem cOp {K : PySem.W.Frag} {r : List V → Hp → VK → Prop} {op : OpN} (hs : OpNS K B r op) {σ : L2.St} {H : Hp} {Q : VK} (q : cE K B W (aOp op s) σ H Q) : tCB r (cA K B W s) σ H Q := by
  obtain ⟨ρ, F, EX, Q0, R, t, k, kx⟩ := q
  refine ⟨ρ, F, EX, _, R, t, fun ds ρ1 t1 vs F1 H1 R1 s1 p1 => ?_, kx⟩
  exact hs F1 H1 ρ1 σ vs ds _ Q R1 p1 t1 fun z hz v F' H' R' s' p' => k z ρ1 hz v F' H' R' (s1.trans s') p'
theorem cOpF {K : PySem.W.Frag} {r : List V → Hp → VK → Prop} {op : OpN} (hs : OpNF K B r op) {σ : L2.St} {H : Hp} {Q : VK} (q : cF K B W (aOp op s) σ H Q) : tCB r (cA K B W s) σ H Q := by
  obtain ⟨ρ, F, EX, Q0, R, t, k, kx⟩ := q
  refine ⟨ρ, F, EX, _, R, t, fun ds ρ1 t1 vs F1 H1 R1 s1 p1 => ?_, kx⟩
  exact hs F1 H1 ρ1 σ vs ds _ Q R1 p1 t1 fun z hz a o F' H' R' s' f p' => k z ρ1 hz a o F' H' R' (s1.trans s') f p'
theorem se_B {id : String} {r : List V → Hp → VK → Prop} {op : OpN} (hc : CallR X (.builtin id) r) (hs : OpNS X.K B r op) (hg : Gl X x) (hm : X.mg x = none) (hv : bootBuiltins x = some (.builtin id)) (ha : SA X B W (e :: es) s) (hn : x ≠ "__name__" := by decide) (hdb : (x == ("__debug__" : Str)) = false := by decide)
    (he : starEach (e :: es) X.env = (false, eval e X.env) :: starEach es X.env := by rfl) (hpl : (backTo pos (starEach es X.env)).any (·.1) = false := by rfl) : SE X B W (.Call (.Name x p) (e :: es) [] pos) (aOp op s) :=
  PE_imp (pe_callB hc hg hm hv ha hn hdb he hpl) fun _ _ _ q => cOp hs q
theorem sf_B {id : String} {r : List V → Hp → VK → Prop} {op : OpN} (hc : CallR X (.builtin id) r) (hs : OpNF X.K B r op) (hg : Gl X x) (hm : X.mg x = none) (hv : bootBuiltins x = some (.builtin id)) (ha : SA X B W (e :: es) s) (hn : x ≠ "__name__" := by decide) (hdb : (x == ("__debug__" : Str)) = false := by decide)
    (he : starEach (e :: es) X.env = (false, eval e X.env) :: starEach es X.env := by rfl) (hpl : (backTo pos (starEach es X.env)).any (·.1) = false := by rfl) : SF X B W (.Call (.Name x p) (e :: es) [] pos) (aOp op s) :=
  PE_imp (pe_callB hc hg hm hv ha hn hdb he hpl) fun _ _ _ q => cOpF hs q
theorem se_Ty {T : String} {r : List V → Hp → VK → Prop} {op : OpN} (hc : CallR X (.type T) r) (hs : OpNS X.K B r op) (hg : Gl X x) (hm : X.mg x = none) (hv : bootBuiltins x = some (.type T)) (ha : SA X B W (e :: es) s) (hn : x ≠ "__name__" := by decide) (hdb : (x == ("__debug__" : Str)) = false := by decide)
    (he : starEach (e :: es) X.env = (false, eval e X.env) :: starEach es X.env := by rfl) (hpl : (backTo pos (starEach es X.env)).any (·.1) = false := by rfl) : SE X B W (.Call (.Name x p) (e :: es) [] pos) (aOp op s) :=
  PE_imp (pe_callTy hc hg hm hv ha hn hdb he hpl) fun _ _ _ q => cOp hs q
theorem sf_Ty {T : String} {r : List V → Hp → VK → Prop} {op : OpN} (hc : CallR X (.type T) r) (hs : OpNF X.K B r op) (hg : Gl X x) (hm : X.mg x = none) (hv : bootBuiltins x = some (.type T)) (ha : SA X B W (e :: es) s) (hn : x ≠ "__name__" := by decide) (hdb : (x == ("__debug__" : Str)) = false := by decide)
    (he : starEach (e :: es) X.env = (false, eval e X.env) :: starEach es X.env := by rfl) (hpl : (backTo pos (starEach es X.env)).any (·.1) = false := by rfl) : SF X B W (.Call (.Name x p) (e :: es) [] pos) (aOp op s) :=
  PE_imp (pe_callTy hc hg hm hv ha hn hdb he hpl) fun _ _ _ q => cOpF hs q
theorem se_Bfun {id : String} {r : List V → Hp → VK → Prop} {op : OpN} (hc : CallR X (.builtin id) r) (hs : OpNS X.K B r op) (hg : Gl X x) (hm : X.mg x = some (.builtin id)) (ha : SA X B W (e :: es) s) (hdb : (x == ("__debug__" : Str)) = false := by decide)
    (he : starEach (e :: es) X.env = (false, eval e X.env) :: starEach es X.env := by rfl) (hpl : (backTo pos (starEach es X.env)).any (·.1) = false := by rfl) : SE X B W (.Call (.Name x p) (e :: es) [] pos) (aOp op s) :=
  PE_imp (pe_callBfun hc hg hm ha hdb he hpl) fun _ _ _ q => cOp hs q
theorem CallR.or {f : Value} {r r' : List V → Hp → VK → Prop} (h : CallR X f r) (h' : CallR X f r') : CallR X f (fun xs H Q => r xs H Q ∨ r' xs H Q) := by
  intro pins s σ H xs us Q I r q
  rcases q with q | q
  · exact h pins s σ H xs us Q I r q
  · exact h' pins s σ H xs us Q I r q
theorem dps1 {K : PySem.W.Frag} {F : Hp} {xs : List V} {d : D} (h : DPs K F xs [d]) : ∃ v, xs = [v] ∧ DP K F v d := by
  cases h with
  | cons h t => cases t; exact ⟨_, rfl, h⟩
theorem dps2 {K : PySem.W.Frag} {F : Hp} {xs : List V} {d e : D} (h : DPs K F xs [d, e]) : ∃ v w, xs = [v, w] ∧ DP K F v d ∧ DP K F w e := by
  cases h with
  | cons h t =>
    cases t with
    | cons h' t => cases t; exact ⟨_, _, rfl, h, h'⟩

/-! len -/
@[simp] def dLen : OpN := fun ds Q => match ds with
  | [.lst xs] => Q (.int xs.length)
  | [.tup xs] => Q (.int xs.length)
  | [.str x] => x.length ≤ sizeLine ∧ Q (.int x.length)
  | [.dK kvs] => Q (.int kvs.length)
  | _ => False
def rLenD : List V → Hp → VK → Prop := fun xs H Q => ∃ a kvs, xs = [V.ref a] ∧ Rd H a (.dK kvs) ∧ Q (.int kvs.length) H
theorem call_lenRd : CallR X (.builtin "len") rLenD := by
  intro pins s σ H xs us Q I r h
  obtain ⟨a, kvs, rfl, e, q⟩ := h
  obtain ⟨u, rfl, r1⟩ := vals1 r
  cases r1
  exact d_len I e fun t s' I' => ⟨.int kvs.length, H, I', ⟨_, rfl⟩, q⟩
theorem DPk.length {K : PySem.W.Frag} {F : Hp} : ∀ {v : List (Key × V)} {d : List (Key × D)}, DPk K F v d → v.length = d.length
  | _, _, .nil => rfl
  | _, _, .cons _ t => congrArg (· + 1) t.length
theorem opN_len {K : PySem.W.Frag} : OpNS K B (fun xs H Q => (∃ x n, xs = [x] ∧ LenV K x H n ∧ Q (.int n) H) ∨ rLenD xs H Q) dLen := by
  intro F H ρ σ xs ds Q0 Q R p q k
  unfold dLen at q
  split at q
  · obtain ⟨v, rfl, h⟩ := dps1 p
    cases h with
    | lst h t => exact .inl ⟨_, _, rfl, .inl ⟨_, SqL.of (R.fz _ _ h), rfl⟩, k _ q _ F H R (Same.refl _) (by rw [t.length]; exact .int _)⟩
  · obtain ⟨v, rfl, h⟩ := dps1 p
    cases h with
    | tup h t => exact .inl ⟨_, _, rfl, .inr ⟨_, same_tup R.fz h, rfl⟩, k _ q _ F H R (Same.refl _) (by rw [t.length]; exact .int _)⟩
  · obtain ⟨v, rfl, h⟩ := dps1 p
    cases h with
    | str h => exact .inl ⟨_, _, rfl, ⟨q.1, rfl⟩, k _ q.2 _ F H R (Same.refl _) (.int _)⟩
  · obtain ⟨v, rfl, h⟩ := dps1 p
    cases h with
    | dK h t => exact .inr ⟨_, _, rfl, rd_same R.fz h, k _ q _ F H R (Same.refl _) (by rw [t.length]; exact .int _)⟩
  · exact q.elim
theorem se_len (hg : Gl X "len") (hm : X.mg "len" = none) (ha : SA X B W (e :: es) s)
    (he : starEach (e :: es) X.env = (false, eval e X.env) :: starEach es X.env := by rfl) (hpl : (backTo pos (starEach es X.env)).any (·.1) = false := by rfl) : SE X B W (.Call (.Name "len" p) (e :: es) [] pos) (aOp dLen s) :=
  se_B (CallR.or call_len call_lenRd) opN_len hg hm PySem.boot_len ha (by decide) (by decide) he hpl
/-! abs, max, min, int -/
@[simp] def dAbs : OpN := fun ds Q => match ds with
  | [.int i] => Q (.int (if i < 0 then -i else i))
  | _ => False
theorem opN_abs {K : PySem.W.Frag} : OpNS K B (fun xs H Q => ∃ i, xs = [.int i] ∧ Q (.int (if i < 0 then -i else i)) H) dAbs := by
  intro F H ρ σ xs ds Q0 Q R p q k
  unfold dAbs at q
  split at q
  · obtain ⟨v, rfl, h⟩ := dps1 p
    rw [dp_int h]
    exact ⟨_, rfl, k _ q _ F H R (Same.refl _) (.int _)⟩
  · exact q.elim
theorem se_abs (hg : Gl X "abs") (hm : X.mg "abs" = none) (ha : SA X B W (e :: es) s)
    (he : starEach (e :: es) X.env = (false, eval e X.env) :: starEach es X.env := by rfl) (hpl : (backTo pos (starEach es X.env)).any (·.1) = false := by rfl) : SE X B W (.Call (.Name "abs" p) (e :: es) [] pos) (aOp dAbs s) :=
  se_B call_abs opN_abs hg hm (by decide +kernel) ha (by decide) (by decide) he hpl
@[simp] def dMax2 : OpN := fun ds Q => match ds with
  | [.int i, .int j] => Q (.int (max i j))
  | _ => False
@[simp] def dMin2 : OpN := fun ds Q => match ds with
  | [.int i, .int j] => Q (.int (min i j))
  | _ => False
theorem opN_max2 {K : PySem.W.Frag} : OpNS K B (fun xs H Q => ∃ i j, xs = [.int i, .int j] ∧ Q (.int (if j > i then j else i)) H) dMax2 := by
  intro F H ρ σ xs ds Q0 Q R p q k
  unfold dMax2 at q
  split at q
  · rename_i i j
    obtain ⟨v, w, rfl, h, h'⟩ := dps2 p
    rw [dp_int h, dp_int h']
    refine ⟨_, _, rfl, k _ q _ F H R (Same.refl _) ?_⟩
    have e : (if j > i then j else i) = max i j := by split <;> omega
    rw [e]
    exact .int _
  · exact q.elim
theorem opN_min2 {K : PySem.W.Frag} : OpNS K B (fun xs H Q => ∃ i j, xs = [.int i, .int j] ∧ Q (.int (if j < i then j else i)) H) dMin2 := by
  intro F H ρ σ xs ds Q0 Q R p q k
  unfold dMin2 at q
  split at q
  · rename_i i j
    obtain ⟨v, w, rfl, h, h'⟩ := dps2 p
    rw [dp_int h, dp_int h']
    refine ⟨_, _, rfl, k _ q _ F H R (Same.refl _) ?_⟩
    have e : (if j < i then j else i) = min i j := by split <;> omega
    rw [e]
    exact .int _
  · exact q.elim
theorem se_max2 (hc : X.calm = true) (hg : Gl X "max") (hm : X.mg "max" = none) (ha : SA X B W (a :: b :: []) s)
    (he : starEach (a :: b :: []) X.env = (false, eval a X.env) :: starEach (b :: []) X.env := by rfl) (hpl : (backTo pos (starEach (b :: []) X.env)).any (·.1) = false := by rfl) : SE X B W (.Call (.Name "max" p) (a :: b :: []) [] pos) (aOp dMax2 s) :=
  se_B (call_max2 hc) opN_max2 hg hm (by decide +kernel) ha (by decide) (by decide) he hpl
theorem se_min2 (hc : X.calm = true) (hg : Gl X "min") (hm : X.mg "min" = none) (ha : SA X B W (a :: b :: []) s)
    (he : starEach (a :: b :: []) X.env = (false, eval a X.env) :: starEach (b :: []) X.env := by rfl) (hpl : (backTo pos (starEach (b :: []) X.env)).any (·.1) = false := by rfl) : SE X B W (.Call (.Name "min" p) (a :: b :: []) [] pos) (aOp dMin2 s) :=
  se_B (call_min2 hc) opN_min2 hg hm (by decide +kernel) ha (by decide) (by decide) he hpl
@[simp] def dInt : OpN := fun ds Q => match ds with
  | [.int i] => Q (.int i)
  | [.bl b] => Q (.int (if b then 1 else 0))
  | _ => False
theorem opN_int {K : PySem.W.Frag} : OpNS K B (fun xs H Q => (∃ i, xs = [.int i] ∧ Q (.int i) H) ∨ ∃ k, xs = [.bl k] ∧ Q (.int (if k then 1 else 0)) H) dInt := by
  intro F H ρ σ xs ds Q0 Q R p q k
  unfold dInt at q
  split at q
  · obtain ⟨v, rfl, h⟩ := dps1 p
    rw [dp_int h]
    exact .inl ⟨_, rfl, k _ q _ F H R (Same.refl _) (.int _)⟩
  · obtain ⟨v, rfl, h⟩ := dps1 p
    rw [dp_bl h]
    exact .inr ⟨_, rfl, k _ q _ F H R (Same.refl _) (.int _)⟩
  · exact q.elim
theorem se_intc (hg : Gl X "int") (hm : X.mg "int" = none) (ha : SA X B W (e :: es) s)
    (he : starEach (e :: es) X.env = (false, eval e X.env) :: starEach es X.env := by rfl) (hpl : (backTo pos (starEach es X.env)).any (·.1) = false := by rfl) : SE X B W (.Call (.Name "int" p) (e :: es) [] pos) (aOp dInt s) :=
  se_Ty call_int1 opN_int hg hm (by decide +kernel) ha (by decide) (by decide) he hpl
def dStrI : OpN := fun ds Q => match ds with
  | [.int i] => i.natAbs.log2 < 1920 ∧ Q (.str (toString i))
  | _ => False
theorem opN_strI {K : PySem.W.Frag} : OpNS K B (fun xs H Q => ∃ i, xs = [.int i] ∧ i.natAbs.log2 < 1920 ∧ Q (.str (toString i)) H) dStrI := by
  intro F H ρ σ xs ds Q0 Q R p q k
  unfold dStrI at q
  split at q
  · obtain ⟨v, rfl, h⟩ := dps1 p
    rw [dp_int h]
    exact ⟨_, rfl, q.1, k _ q.2 _ F H R (Same.refl _) (.str _)⟩
  · exact q.elim
theorem se_strI (hg : Gl X "str") (hm : X.mg "str" = none) (ha : SA X B W (e :: es) s)
    (he : starEach (e :: es) X.env = (false, eval e X.env) :: starEach es X.env := by rfl) (hpl : (backTo pos (starEach es X.env)).any (·.1) = false := by rfl) : SE X B W (.Call (.Name "str" p) (e :: es) [] pos) (aOp dStrI s) :=
  se_Ty call_str_int opN_strI hg hm (by decide +kernel) ha (by decide) (by decide) he hpl
def dGcd : OpN := fun ds Q => match ds with
  | [.int i, .int j] => Q (.int ((Nat.gcd i.natAbs j.natAbs : Nat) : Int))
  | _ => False
theorem opN_gcd {K : PySem.W.Frag} : OpNS K B rGcd dGcd := by
  intro F H ρ σ xs ds Q0 Q R p q k
  unfold dGcd at q
  split at q
  · obtain ⟨v, w, rfl, h, h'⟩ := dps2 p
    rw [dp_int h, dp_int h']
    exact ⟨_, _, rfl, k _ q _ F H R (Same.refl _) (.int _)⟩
  · exact q.elim
theorem se_gcd (hg : Gl X "gcd") (hm : X.mg "gcd" = some (.builtin "math.gcd")) (ha : SA X B W (e :: es) s)
    (he : starEach (e :: es) X.env = (false, eval e X.env) :: starEach es X.env := by rfl) (hpl : (backTo pos (starEach es X.env)).any (·.1) = false := by rfl) : SE X B W (.Call (.Name "gcd" p) (e :: es) [] pos) (aOp dGcd s) :=
  se_Bfun cr_gcd opN_gcd hg hm ha (by decide) he hpl
/-! tuple(..), list(..) -/
def dSeq : D → Option (List D)
  | .lst xs => some xs
  | .tup xs => some xs
  | _ => none
@[simp] def dTuple : OpN := fun ds Q => match ds with
  | [.lst xs] => Q (.tup xs)
  | [.tup xs] => Q (.tup xs)
  | _ => False
theorem opN_tuple {K : PySem.W.Frag} : OpNS K B (fun xs H Q => ∃ p ys, xs = [.ref p] ∧ ((SqL K H p ys ∧ ∀ l, H l = none → Q (.ref l) (upd H l (.tup ys))) ∨ (SqT K H p ys ∧ Q (.ref p) H))) dTuple := by
  intro F H ρ σ xs ds Q0 Q R p q k
  unfold dTuple at q
  split at q
  · obtain ⟨v, rfl, h⟩ := dps1 p
    cases h with
    | lst h t =>
      refine ⟨_, _, rfl, .inl ⟨SqL.of (R.fz _ _ h), fun l hl => ?_⟩⟩
      have sm : ∀ o, Same F (upd F l o) := fun o => same_upd (R.freeF hl)
      exact k _ q _ _ _ (R.alloc hl) (sm _) (.tup (SqT.of upd_same) (t.mono (sm _)))
  · obtain ⟨v, rfl, h⟩ := dps1 p
    cases h with
    | tup h t => exact ⟨_, _, rfl, .inr ⟨same_tup R.fz h, k _ q _ F H R (Same.refl _) (.tup h t)⟩⟩
  · exact q.elim
theorem se_tuplec (hg : Gl X "tuple") (hm : X.mg "tuple" = none) (ha : SA X B W (e :: es) s)
    (he : starEach (e :: es) X.env = (false, eval e X.env) :: starEach es X.env := by rfl) (hpl : (backTo pos (starEach es X.env)).any (·.1) = false := by rfl) : SE X B W (.Call (.Name "tuple" p) (e :: es) [] pos) (aOp dTuple s) :=
  se_Ty call_tuple_of opN_tuple hg hm (by decide +kernel) ha (by decide) (by decide) he hpl
@[simp] def dList : OpN := fun ds Q => match ds with
  | [.lst xs] => Q (.lst xs)
  | [.tup xs] => Q (.lst xs)
  | _ => False
theorem opN_list {K : PySem.W.Frag} : OpNF K B (fun xs H Q => ∃ p ys, xs = [.ref p] ∧ (SqL K H p ys ∨ SqT K H p ys) ∧ ∀ l, H l = none → Q (.ref l) (upd H l (.lst ys))) dList := by
  intro F H ρ σ xs ds Q0 Q R p q k
  unfold dList at q
  split at q
  · obtain ⟨v, rfl, h⟩ := dps1 p
    cases h with
    | lst h t => exact ⟨_, _, rfl, .inl (SqL.of (R.fz _ _ h)), fun l hl => k _ q _ _ _ _ (R.allocO hl) (Same.refl _) (freshAt_new R hl) (.lst t)⟩
  · obtain ⟨v, rfl, h⟩ := dps1 p
    cases h with
    | tup h t => exact ⟨_, _, rfl, .inr (same_tup R.fz h), fun l hl => k _ q _ _ _ _ (R.allocO hl) (Same.refl _) (freshAt_new R hl) (.lst t)⟩
  · exact q.elim
theorem sf_listc (hg : Gl X "list") (hm : X.mg "list" = none) (ha : SA X B W (e :: es) s)
    (he : starEach (e :: es) X.env = (false, eval e X.env) :: starEach es X.env := by rfl) (hpl : (backTo pos (starEach es X.env)).any (·.1) = false := by rfl) : SF X B W (.Call (.Name "list" p) (e :: es) [] pos) (aOp dList s) :=
  sf_Ty call_list_of opN_list hg hm (by decide +kernel) ha (by decide) (by decide) he hpl
end
end PU
set_option Elab.async false
set_option linter.all false
set_option maxRecDepth 100000
namespace PU
open PySem PySem.Spec L2
set_option autoImplicit false

/-! ### statements -/
structure AEnds where
  nx : List AV → Prop
  rt : D → Prop
  bk : List AV → Prop := fun _ => False
  ct : List AV → Prop := fun _ => False
  ex : EK := fun _ _ => False
abbrev AS := AEnds → List AV → Prop
section
variable (K : PySem.W.Frag) (B : Bas) (W : WX)
def cN (F : Hp) (P : List AV → Prop) (N : L2.St → Hp → Prop) : Prop := ∀ ρ' σ' F' H', P ρ' → Rel K B F' H' ρ' σ' → Same F F' → N σ' H'
def cR (P : D → Prop) (N : VK) : Prop := ∀ d, P d → ∀ v F' H', Bse B F' H' → DP K F' v d → N v H'
structure cEnds (F : Hp) (A : AEnds) (D : Ends) : Prop where
  nx : cN K B F A.nx D.nx
  rt : cR K B A.rt D.rt
  bk : cN K B F A.bk D.bk
  ct : cN K B F A.ct D.ct
  ex : ∀ σ, cX K B W σ A.ex
def cS (t : AS) : TS := fun D σ H => ∃ ρ F A, Rel K B F H ρ σ ∧ t A ρ ∧ cEnds K B W F A D
end
def SS (X : Cx) (B : Bas) (W : WX) (st : Stmt) (t : AS) : Prop := PS X st (cS X.K B W t)
def SSs (X : Cx) (B : Bas) (W : WX) (st : List Stmt) (t : AS) : Prop := PSs X st (cS X.K B W t)

section
variable {X : Cx} {B : Bas} {W : WX} {a b c e : Expr} {es : List Expr} {sts sts' : List Stmt} {st : Stmt} {ta tb tc te : AE} {t u : AS} {tt : AT} {s : AA} {pos p : Pos}
theorem cN.mono {K : PySem.W.Frag} {F F' : Hp} {P : List AV → Prop} {N : L2.St → Hp → Prop} (h : cN K B F P N) (s : Same F F') : cN K B F' P N := fun ρ' σ' F2 H2 q R s2 => h ρ' σ' F2 H2 q R (s.trans s2)
theorem cEnds.mono {K : PySem.W.Frag} {F F' : Hp} {A : AEnds} {D : Ends} (h : cEnds K B W F A D) (s : Same F F') : cEnds K B W F' A D := ⟨h.nx.mono s, h.rt, h.bk.mono s, h.ct.mono s, h.ex⟩
@[simp] def aSkip : AS := fun A ρ => A.nx ρ
@[simp] def aSeq (t u : AS) : AS := fun A ρ => t { A with nx := u A } ρ
theorem ss_nil : SSs X B W [] aSkip := by
  refine PSs_imp pss_nil fun D σ H q => ?_
  obtain ⟨ρ, F, A, R, t, k⟩ := q
  exact k.nx ρ σ F H t R (Same.refl _)
theorem ss_cons (h : SS X B W st t) (h' : SSs X B W sts u) : SSs X B W (st :: sts) (aSeq t u) := by
  refine PSs_imp (pss_cons h h') fun D σ H q => ?_
  obtain ⟨ρ, F, A, R, t, k⟩ := q
  exact ⟨ρ, F, _, R, t, ⟨fun ρ' σ' F' H' q' R' s' => ⟨ρ', F', A, R', q', k.mono s'⟩, k.rt, k.bk, k.ct, k.ex⟩⟩
theorem ss_one (h : SS X B W st t) : SSs X B W [st] t := pss_one h
theorem ss_pass : SS X B W (.Pass pos) aSkip := by
  refine PS_imp ps_pass fun D σ H q => ?_
  obtain ⟨ρ, F, A, R, t, k⟩ := q
  exact k.nx ρ σ F H t R (Same.refl _)
@[simp] def aBreak : AS := fun A ρ => A.bk ρ
@[simp] def aCont : AS := fun A ρ => A.ct ρ
theorem ss_break : SS X B W (.Break pos) aBreak := by
  refine PS_imp ps_break fun D σ H q => ?_
  obtain ⟨ρ, F, A, R, t, k⟩ := q
  exact k.bk ρ σ F H t R (Same.refl _)
theorem ss_continue : SS X B W (.Continue pos) aCont := by
  refine PS_imp ps_continue fun D σ H q => ?_
  obtain ⟨ρ, F, A, R, t, k⟩ := q
  exact k.ct ρ σ F H t R (Same.refl _)
@[simp] def aDrop (te : AE) : AS := fun A ρ => te A.ex ρ fun _ ρ' => A.nx ρ'
theorem ss_expr (h : SE X B W e te) (hs : swapsWith e none pos.line X.env = pure false := by rfl) : SS X B W (.Expr e pos) (aDrop te) := by
  refine PS_imp (ps_expr h hs) fun D σ H q => ?_
  obtain ⟨ρ, F, A, R, t, k⟩ := q
  exact ⟨ρ, F, A.ex, _, R, t, fun d ρ' t' v F' H' R' s' p' => k.nx ρ' σ F' H' t' R' s', k.ex σ⟩
@[simp] def aRet (te : AE) : AS := fun A ρ => te A.ex ρ fun d _ => A.rt d
theorem ss_ret (h : SE X B W e te) : SS X B W (.Return (some e) pos) (aRet te) := by
  refine PS_imp (ps_ret h) fun D σ H q => ?_
  obtain ⟨ρ, F, A, R, t, k⟩ := q
  exact ⟨ρ, F, A.ex, _, R, t, fun d ρ' t' v F' H' R' s' p' => k.rt d t' v F' H' R'.toBse p', k.ex σ⟩
@[simp] def aIfS (tt : AT) (t u : AS) : AS := fun A ρ => tt A.ex ρ fun b ρ' => if b = true then t A ρ' else u A ρ'
theorem ss_if (h : ST X B W c tt) (h1 : SSs X B W sts t) (h2 : SSs X B W sts' u) : SS X B W (.If c sts sts' pos) (aIfS tt t u) := by
  refine PS_imp (ps_if h h1 h2) fun D σ H q => ?_
  obtain ⟨ρ, F, A, R, t, k⟩ := q
  refine ⟨ρ, F, A.ex, _, R, t, fun d ρ' t' F' H' R' s' => ?_, k.ex σ⟩
  cases d with
  | true => exact ⟨ρ', F', A, R', t', k.mono s'⟩
  | false => exact ⟨ρ', F', A, R', t', k.mono s'⟩

/-! ### stores -/
@[simp] def aSet (i : Nat) (te : AE) : AS := fun A ρ => te A.ex ρ fun d ρ' => A.nx (ρ'.set i (.dat d))
theorem cSet {K : PySem.W.Frag} {i : Nat} {D : Ends} {σ : L2.St} {H : Hp} (q : cS K B W (aSet i te) D σ H) : tAsg (cE K B W te) (gName i) D σ H := by
  obtain ⟨ρ, F, A, R, t, k⟩ := q
  exact ⟨ρ, F, A.ex, _, R, t, fun d ρ' t' v F' H' R' s' p' => k.nx _ _ F' H' t' (R'.store p') s', k.ex σ⟩
theorem ss_set {i : Nat} {x : Str} {pos' : Pos} (hN : X.N.Nodup) (hi : X.N[i]? = some x) (hx : Loc X.env.scope x) (h : SE X B W e te) (hs : swapsWith e (some (.Name x pos')) pos.line X.env = pure false := by rfl)
    (hf : X.fn x = true ∨ X.env.scope.names.lookup x = some .local := by first | exact .inl rfl | exact .inr rfl | assumption) : SS X B W (.Assign [.Name x pos'] e pos) (aSet i te) :=
  PS_imp (ps_set hN hi hx h hs hf) fun _ _ _ q => cSet q
/-- a new object of one's own -/
@[simp] def aSetO (i : Nat) (te : AE) : AS := fun A ρ => te A.ex ρ fun d ρ' => A.nx (ρ'.set i (.own d))
theorem cSetO {K : PySem.W.Frag} {i : Nat} {D : Ends} {σ : L2.St} {H : Hp} (q : cS K B W (aSetO i te) D σ H) : tAsg (cF K B W te) (gName i) D σ H := by
  obtain ⟨ρ, F, A, R, t, k⟩ := q
  refine ⟨ρ, F, A.ex, _, R, t, fun d ρ' t' a o F' H' R' s' f p' => ?_, k.ex σ⟩
  obtain ⟨f1, f2, fP, f3, f4⟩ := f
  exact k.nx _ _ F' H' t' (R'.storeO f1 f2 fP f3 p' fun j e _ => f4 j e) s'
theorem ss_setO {i : Nat} {x : Str} {pos' : Pos} (hN : X.N.Nodup) (hi : X.N[i]? = some x) (hx : Loc X.env.scope x) (h : SF X B W e te) (hs : swapsWith e (some (.Name x pos')) pos.line X.env = pure false := by rfl)
    (hf : X.fn x = true ∨ X.env.scope.names.lookup x = some .local := by first | exact .inl rfl | exact .inr rfl | assumption) : SS X B W (.Assign [.Name x pos'] e pos) (aSetO i te) :=
  PS_imp (ps_set hN hi hx h hs hf) fun _ _ _ q => cSetO q
/-- a, b = x, y -/
def aPar (i j : Nat) (s : AA) : AS := fun A ρ => s A.ex ρ fun ds ρ' => match ds with
  | [d, e] => A.nx ((ρ'.set i (.dat d)).set j (.dat e))
  | _ => False
theorem ss_par {i j : Nat} {x y : Str} {px py pt : Pos} {kt k2 : Nat} {pt2 : Pos} (hc : X.calm = true) (hN : X.N.Nodup) (hi : X.N[i]? = some x) (hj : X.N[j]? = some y) (hij : i ≠ j)
    (hx : X.env.scope.names.lookup x = some .local) (hy : X.env.scope.names.lookup y = some .local) (ha : SA X B W [a, b] s)
    (hw : swappedStores [.Tuple [.Name x px, .Name y py] kt pt] (.Tuple [a, b] k2 pt2) X.env = pure (some [x, y]) := by rfl)
    (hs : swapsWithSole [.Tuple [.Name x px, .Name y py] kt pt] (.Tuple [a, b] k2 pt2) pos.line X.env = pure false := by rfl) :
    SS X B W (.Assign [.Tuple [.Name x px, .Name y py] kt pt] (.Tuple [a, b] k2 pt2) pos) (aPar i j s) := by
  refine PS_imp (ps_par hc hN hi hj hij hx hy ha hw hs) fun D σ H q => ?_
  obtain ⟨ρ, F, A, R, t, k⟩ := q
  refine ⟨ρ, F, A.ex, _, R, t, fun ds ρ' t' vs F' H' R' s' p' => ?_, k.ex σ⟩
  split at t'
  · obtain ⟨v, w, rfl, h1, h2⟩ := dps2 p'
    exact ⟨v, w, rfl, k.nx _ _ F' H' t' ((R'.store h1).store h2) s'⟩
  · exact t'.elim

/-! ### targets -/
abbrev AG := D → List AV → (List AV → Prop) → Prop
abbrev AGs := List D → List AV → (List AV → Prop) → Prop
def Only (vs : List Nat) (σ σ' : L2.St) : Prop := σ'.length = σ.length ∧ ∀ j, j ∉ vs → σ'[j]? = σ[j]?
theorem Only.refl {vs : List Nat} {σ : L2.St} : Only vs σ σ := ⟨rfl, fun _ _ => rfl⟩
theorem Only.trans {vs : List Nat} {σ σ1 σ2 : L2.St} (h : Only vs σ σ1) (h' : Only vs σ1 σ2) : Only vs σ σ2 := ⟨h'.1.trans h.1, fun j hj => (h'.2 j hj).trans (h.2 j hj)⟩
def cG (K : PySem.W.Frag) (B : Bas) (vs : List Nat) (g : AG) : TG := fun v σ H Q => ∃ ρ F d N, Rel K B F H ρ σ ∧ DP K F v d ∧ g d ρ N ∧ ∀ ρ' σ' F' H', N ρ' → Rel K B F' H' ρ' σ' → Same F F' → Only vs σ σ' → Q σ' H'
def cGs (K : PySem.W.Frag) (B : Bas) (vs : List Nat) (g : AGs) : TGs := fun us σ H Q => ∃ ρ F ds N, Rel K B F H ρ σ ∧ DPs K F us ds ∧ g ds ρ N ∧ ∀ ρ' σ' F' H', N ρ' → Rel K B F' H' ρ' σ' → Same F F' → Only vs σ σ' → Q σ' H'
def SG (X : Cx) (B : Bas) (vs : List Nat) (e : Expr) (g : AG) : Prop := PG X e (cG X.K B vs g)
def SGs (X : Cx) (B : Bas) (vs : List Nat) (e : List Expr) (g : AGs) : Prop := PGs X e (cGs X.K B vs g)
@[simp] def gSet (i : Nat) : AG := fun d ρ N => N (ρ.set i (.dat d))
theorem sg_of {vs : List Nat} {i : Nat} (h : PG X e (gName i)) (hv : i ∈ vs) : SG X B vs e (gSet i) := by
  refine PG_imp h fun v σ H Q q => ?_
  obtain ⟨ρ, F, d, N, R, p, t, k⟩ := q
  refine k _ _ F H t (R.store p) (Same.refl _) ⟨by rw [List.length_set], fun j hj => ?_⟩
  rw [List.getElem?_set_ne]
  rintro rfl
  exact hj hv
theorem PGs_imp {X : Cx} {e : List Expr} {T T' : TGs} (h : PGs X e T) (i : ∀ v σ H Q, T' v σ H Q → T v σ H Q) : PGs X e T' := ⟨fun pins s σ H v u Q I r q => h.run pins s σ H v u Q I r (i _ _ _ _ q)⟩
@[simp] def gsNil : AGs := fun ds ρ N => match ds with
  | [] => N ρ
  | _ => False
@[simp] def gsCons (g : AG) (r : AGs) : AGs := fun ds ρ N => match ds with
  | d :: ds => g d ρ fun ρ' => r ds ρ' N
  | _ => False
theorem sgs_nil {vs : List Nat} : SGs X B vs [] gsNil := by
  refine PGs_imp pgs_nil fun v σ H Q q => ?_
  obtain ⟨ρ, F, d, N, R, p, t, k⟩ := q
  cases p with
  | nil => exact ⟨rfl, k _ _ F H t R (Same.refl _) Only.refl⟩
  | cons => exact t.elim
theorem sgs_cons {vs : List Nat} {g : AG} {r : AGs} (h : SG X B vs e g) (h' : SGs X B vs es r) (hs : (assignEach (e :: es) X.env).map (·.2) = assign e X.env :: (assignEach es X.env).map (·.2) := by rfl) : SGs X B vs (e :: es) (gsCons g r) := by
  refine PGs_imp (pgs_cons h h' hs) fun v σ H Q q => ?_
  obtain ⟨ρ, F, d, N, R, p, t, k⟩ := q
  cases p with
  | nil => exact t.elim
  | cons p1 p2 =>
    refine ⟨_, _, rfl, ρ, F, _, _, R, p1, t, fun ρ1 σ1 F1 H1 t1 R1 s1 o1 => ?_⟩
    exact ⟨ρ1, F1, _, N, R1, p2.mono s1, t1, fun ρ2 σ2 F2 H2 t2 R2 s2 o2 => k ρ2 σ2 F2 H2 t2 R2 (s1.trans s2) (o1.trans o2)⟩
/-- (a, b, ..) of a tuple or a list of that length -/
@[simp] def gTupA (n : Nat) (r : AGs) : AG := fun d ρ N => match d with
  | .tup ds => ds.length = n ∧ r ds ρ N
  | .lst ds => ds.length = n ∧ r ds ρ N
  | _ => False
theorem PG_or {X : Cx} {e : Expr} {T T' : TG} (h : PG X e T) (h' : PG X e T') : PG X e (fun v σ H Q => T v σ H Q ∨ T' v σ H Q) := ⟨fun pins s σ H v u Q I r q => q.elim (h.run pins s σ H v u Q I r) (h'.run pins s σ H v u Q I r)⟩
theorem sg_tup {vs : List Nat} {n k : Nat} {r : AGs} (hc : X.calm = true) (h : SGs X B vs es r) (hn : (assignEach es X.env).length = n := by rfl) (hst : (assignEach es X.env).findIdx? (·.1) = none := by rfl) : SG X B vs (.Tuple es k pos) (gTupA n r) := by
  refine PG_imp (PG_or (pg_tup hc h hn hst) (pg_lst hc h hn hst)) fun v σ H Q q => ?_
  obtain ⟨ρ, F, d, N, R, p, t, k⟩ := q
  cases p with
  | tup h1 h2 => exact .inl ⟨_, _, rfl, same_tup R.fz h1, h2.length.trans t.1, ρ, F, _, N, R, h2, t.2, k⟩
  | lst h1 h2 => exact .inr ⟨_, _, rfl, SqL.of (R.fz _ _ h1), h2.length.trans t.1, ρ, F, _, N, R, h2, t.2, k⟩
  | _ => exact t.elim
@[simp] def aAsg (te : AE) (g : AG) : AS := fun A ρ => te A.ex ρ fun d ρ' => g d ρ' A.nx
theorem ss_asg {vs : List Nat} {tg : Expr} {g : AG} (h : SE X B W e te) (hg : SG X B vs tg g) (hs : swapsWithSole [tg] e pos.line X.env = pure false := by rfl) (hw : swappedStores [tg] e X.env = pure none := by rfl)
    (h1 : (assignEach [tg] X.env).map (·.2) = [assign tg X.env] := by rfl) : SS X B W (.Assign [tg] e pos) (aAsg te g) := by
  refine PS_imp (ps_asg h hg hs hw h1) fun D σ H q => ?_
  obtain ⟨ρ, F, A, R, t, k⟩ := q
  refine ⟨ρ, F, A.ex, _, R, t, fun d ρ' t' v F' H' R' s' p' => ?_, k.ex σ⟩
  exact ⟨ρ', F', d, _, R', p', t', fun ρ2 σ2 F2 H2 t2 R2 s2 _ => k.nx ρ2 σ2 F2 H2 t2 R2 (s'.trans s2)⟩
/-- name op= e, by the operator's plain form -/
@[simp] def aAug (i : Nat) (op : Op2) (te : AE) : AS := fun A ρ => match ρ[i]? with
  | some (.dat d) => te A.ex ρ fun e ρ' => op d e fun z => A.nx (ρ'.set i (.dat z))
  | _ => False
theorem ss_aug {i : Nat} {x : Str} {o : Operator} {r : R2} {op : Op2} {pos' : Pos} (hN : X.N.Nodup) (hi : X.N[i]? = some x) (hx : Loc X.env.scope x) (h : SE X B W e te) (ho : OpR X (inplaceOp o) r) (hs : OpS X.K B r op)
    (hf : X.fn x = true ∨ X.env.scope.names.lookup x = some .local := by first | exact .inl rfl | exact .inr rfl | assumption) : SS X B W (.AugAssign (.Name x pos') o e pos) (aAug i op te) := by
  refine PS_imp (ps_aug (ti := r) hN hi hx h (fun pins s σ H x y v u Q I r1 r2 q => ho pins s σ H x y v u Q I r1 r2 q) hf) fun D σ H q => ?_
  obtain ⟨ρ, F, A, R, t, k⟩ := q
  unfold aAug at t
  split at t
  · rename_i d hd
    obtain ⟨v, h1, h2⟩ := R.sl i d hd
    refine ⟨v, h1, ρ, F, A.ex, _, R, t, fun e ρ' t' w F' H' R' s' p' => ?_, k.ex σ⟩
    exact hs F' H' ρ' σ v w d e _ _ R' (h2.mono s') p' t' fun z hz y F2 H2 R2 s2 p2 => k.nx _ _ F2 H2 hz (R2.store p2) (s'.trans s2)
  · exact t.elim
def rIAdd : R2 := fun x y H Q => (rI0 fun i j => .int (i + j)) x y H Q ∨ (∃ i j, x = .str i ∧ y = .str j ∧ i.length + j.length ≤ sizeLine ∧ Q (.str (i ++ j)) H)
def dIAdd : Op2 := fun d e Q => match d, e with
  | .int i, .int j => Q (.int (i + j))
  | .str x, .str y => x.length + y.length ≤ sizeLine ∧ Q (.str (x ++ y))
  | _, _ => False
theorem opS_iadd {K : PySem.W.Frag} : OpS K B rIAdd dIAdd := by
  intro F H ρ σ x y d e Q0 Q R p1 p2 q k
  unfold dIAdd at q
  split at q
  · rename_i i j
    exact .inl ⟨i, j, dp_int p1, dp_int p2, k _ q _ F H R (Same.refl _) (.int _)⟩
  · rename_i i j
    exact .inr ⟨i, j, dp_str p1, dp_str p2, q.1, k _ q.2 _ F H R (Same.refl _) (.str _)⟩
  · exact q.elim
theorem ss_iadd {i : Nat} {x : Str} {pos' : Pos} (hN : X.N.Nodup) (hi : X.N[i]? = some x) (hx : Loc X.env.scope x) (h : SE X B W e te)
    (hf : X.fn x = true ∨ X.env.scope.names.lookup x = some .local := by first | exact .inl rfl | exact .inr rfl | assumption) : SS X B W (.AugAssign (.Name x pos') .Add e pos) (aAug i dIAdd te) := ss_aug hN hi hx h (iop_add.or iop_add_str) opS_iadd hf
theorem iop_mulW : OpR X (inplaceOp .Mult) (rI CMulW fun i j => .int (i * j)) := opI fun _ _ _ _ _ _ _ hc q => PyProof.Rows.imul_int q hc.ok
def rIMul : R2 := fun x y H Q => (rI CMul fun i j => .int (i * j)) x y H Q ∨ (rI CMulW fun i j => .int (i * j)) x y H Q
def dIMul : Op2 := dI MulOk fun i j => .int (i * j)
theorem opS_imul {K : PySem.W.Frag} : OpS K B rIMul dIMul := by
  intro F H ρ σ x y d e Q0 Q R p1 p2 q k
  unfold dIMul dI at q
  split at q
  · rename_i i j
    rcases q with ⟨q1 | q1, q⟩
    · exact .inl ⟨i, j, dp_int p1, dp_int p2, q1, k _ q _ F H R (Same.refl _) (.int _)⟩
    · exact .inr ⟨i, j, dp_int p1, dp_int p2, q1, k _ q _ F H R (Same.refl _) (.int _)⟩
  · exact q.elim
theorem ss_imul {i : Nat} {x : Str} {pos' : Pos} (hN : X.N.Nodup) (hi : X.N[i]? = some x) (hx : Loc X.env.scope x) (h : SE X B W e te)
    (hf : X.fn x = true ∨ X.env.scope.names.lookup x = some .local := by first | exact .inl rfl | exact .inr rfl | assumption) : SS X B W (.AugAssign (.Name x pos') .Mult e pos) (aAug i dIMul te) := ss_aug hN hi hx h (iop_mul.or iop_mulW) opS_imul hf

/-! ### an own list or dict at a slot: looked at, changed -/
/-- the slot's value without letting go of it -/
@[simp] def lookA (ρ : List AV) (i : Nat) (Q : D → Prop) : Prop := match ρ[i]? with
  | some (.dat d) => Q d
  | some (.own d) => Q d
  | _ => False
/-- a value seen: a reading that is good for the moment -/
def Seen (K : PySem.W.Frag) (F H : Hp) (v : V) (d : D) : Prop := DP K F v d ∨ ∃ a o, v = .ref a ∧ H a = some o ∧ OwnP K F o d
theorem Rel.look {K : PySem.W.Frag} {F H : Hp} {ρ : List AV} {σ : L2.St} (R : Rel K B F H ρ σ) {i : Nat} {Q : D → Prop} (h : lookA ρ i Q) : ∃ v d, σ[i]? = some (some v) ∧ Seen K F H v d ∧ Q d := by
  unfold lookA at h
  split at h
  · rename_i d hd
    obtain ⟨v, h1, h2⟩ := R.sl i d hd
    exact ⟨v, d, h1, .inl h2, h⟩
  · rename_i d hd
    obtain ⟨a, o, h1, h2, h3, hP, h4, h5⟩ := R.ow i d hd
    exact ⟨_, d, h1, .inr ⟨a, o, rfl, h4, h5⟩, h⟩
  · exact h.elim
theorem Seen.lst {K : PySem.W.Frag} {F H : Hp} {v : V} {ds : List D} (e : Same F H) (h : Seen K F H v (.lst ds)) : ∃ a vs, v = .ref a ∧ H a = some (.lst vs) ∧ DPs K F vs ds := by
  rcases h with h | ⟨a, o, rfl, h1, h2⟩
  · cases h with
    | lst h t => exact ⟨_, _, rfl, e _ _ h, t⟩
  · cases h2 with
    | lst t => exact ⟨_, _, rfl, h1, t⟩
theorem Seen.dK {K : PySem.W.Frag} {F H : Hp} {v : V} {ds : List (Key × D)} (e : Same F H) (h : Seen K F H v (.dK ds)) : ∃ a vs, v = .ref a ∧ Rd H a (.dK vs) ∧ DPk K F vs ds := by
  rcases h with h | ⟨a, o, rfl, h1, h2⟩
  · cases h with
    | dK h t => exact ⟨_, _, rfl, rd_same e h, t⟩
  · cases h2 with
    | dK t => exact ⟨_, _, rfl, .inl h1, t⟩
/-- len(x), x a name -/
@[simp] def aLenN (i : Nat) : AE := fun _ ρ Q => lookA ρ i fun d => dLen [d] fun z => Q z ρ
theorem se_lenN {y : Str} {q : Pos} (i : Nat) (hg : Gl X "len") (hm : X.mg "len" = none) (hy : PE X (.Name y q) (tVar i))
    (he : starEach (.Name y q :: []) X.env = (false, eval (.Name y q) X.env) :: starEach [] X.env := by rfl) (hpl : (backTo pos (starEach [] X.env)).any (·.1) = false := by rfl) : SE X B W (.Call (.Name "len" p) (.Name y q :: []) [] pos) (aLenN i) := by
  refine PE_imp (pe_callB (CallR.or call_len call_lenRd) hg hm PySem.boot_len (pa_cons hy pa_nil) (by decide) (by decide) he hpl) fun σ H Q q => ?_
  obtain ⟨ρ, F, EX, Q0, R, t, k, kx⟩ := q
  obtain ⟨v, d, h1, h2, t⟩ := R.look t
  refine ⟨v, h1, ?_⟩
  unfold dLen at t
  split at t
  · rename_i xs e
    cases e
    obtain ⟨a, vs, rfl, h3, h4⟩ := h2.lst R.fz
    exact .inl ⟨_, _, rfl, .inl ⟨_, SqL.of h3, rfl⟩, k _ _ t _ F H R (Same.refl _) (by rw [h4.length]; exact .int _)⟩
  · rename_i xs e
    cases e
    rcases h2 with h2 | ⟨_, _, _, _, h2⟩
    · cases h2 with
      | tup h3 h4 => exact .inl ⟨_, _, rfl, .inr ⟨_, same_tup R.fz h3, rfl⟩, k _ _ t _ F H R (Same.refl _) (by rw [h4.length]; exact .int _)⟩
    · cases h2
  · rename_i xs e
    cases e
    rcases h2 with h2 | ⟨_, _, _, _, h2⟩
    · cases h2 with
      | str x => exact .inl ⟨_, _, rfl, ⟨t.1, rfl⟩, k _ _ t.2 _ F H R (Same.refl _) (.int _)⟩
    · cases h2
  · rename_i xs e
    cases e
    obtain ⟨a, vs, rfl, h3, h4⟩ := h2.dK R.fz
    exact .inr ⟨_, _, rfl, h3, k _ _ t _ F H R (Same.refl _) (by rw [h4.length]; exact .int _)⟩
  · exact t.elim
/-- x[e], x a name -/
@[simp] def aIxN (i : Nat) (te : AE) : AE := fun EX ρ Q => (∃ v, ρ[i]? = some v ∧ v ≠ .un ∧ v ≠ .src) ∧ te EX ρ fun e ρ' => lookA ρ' i fun d => dIdx d e fun z => Q z ρ'
theorem Rel.slotV {K : PySem.W.Frag} {F H : Hp} {ρ : List AV} {σ : L2.St} (R : Rel K B F H ρ σ) {i : Nat} {u : AV} (h : ρ[i]? = some u) (h1 : u ≠ .un) : ∃ v, σ[i]? = some (some v) := by
  cases u with
  | un => exact absurd rfl h1
  | dat d => obtain ⟨v, q, _⟩ := R.sl i d h; exact ⟨v, q⟩
  | own d => obtain ⟨a, o, q, _⟩ := R.ow i d h; exact ⟨_, q⟩
  | src => obtain ⟨s, c, _, q⟩ := R.so i h; exact ⟨_, q⟩
theorem se_ixN {k : Nat} {y : Str} {q : Pos} (i : Nat) (hr : Room k X.A) (hy : PE X (.Name y q) (tVar i)) (hb : SE X B W b tb) (hs : PlainIx b := by exact fun _ _ => rfl) : SE X B W (.Subscript (.Name y q) b pos) (aIxN i tb) := by
  refine PE_imp (pe_ix (ix_all hr) hy hb hs) fun σ H Q q => ?_
  obtain ⟨ρ, F, EX, Q0, R, ⟨⟨u, hu, hu1, _⟩, t⟩, k, kx⟩ := q
  obtain ⟨v, hv⟩ := R.slotV hu hu1
  refine ⟨v, hv, ρ, F, EX, _, R, t, fun e ρ' t' w F' H' R' s' p2 => ?_, kx⟩
  obtain ⟨v', d, h1, h2, t'⟩ := R'.look t'
  have ev : v' = v := by rw [hv] at h1; cases h1; rfl
  rw [ev] at h2
  rcases h2 with h2 | ⟨a, o, ea, h3, h4⟩
  · exact opS_idx F' H' ρ' σ v w d e _ Q R' h2 p2 t' fun z hz y F2 H2 R2 s2 p2 => k z ρ' hz y F2 H2 R2 (s'.trans s2) p2
  · rw [ea]
    cases h4 with
    | lst t4 =>
      obtain ⟨j, x, rfl, e1, t'⟩ := t'
      obtain ⟨y, e2, p⟩ := t4.at e1
      exact .inl (.inl (.inl ⟨_, _, j, y, rfl, dp_int p2, SqL.of h3, e2, k _ _ t' _ F' H' R' s' p⟩))
    | dK t4 =>
      obtain ⟨j, x, e0, e1, t'⟩ := t'
      obtain ⟨y, e2, p⟩ := t4.val e1
      exact .inl (.inr ⟨_, y, rfl, .inl ⟨_, j, .inl h3, keyOf_dp p2 e0, e2.symm⟩, k _ _ t' _ F' H' R' s' p⟩)
    | dT t4 => exact t'.elim
    | dN n t4 =>
      obtain ⟨j, x, hj, e1, t'⟩ := t'
      exact .inr ⟨_, F', _, j, x, rfl, R'.fz, ⟨_, _, _, h3, n, t4⟩, hj.is p2, hj.2.2.2, e1, fun v pv => k _ _ t' v F' H' R' s' pv⟩
/-- the own list at a slot -/
@[simp] def ownL (ρ : List AV) (i : Nat) (Q : List D → Prop) : Prop := match ρ[i]? with
  | some (.own (.lst ds)) => Q ds
  | _ => False
theorem Rel.ownL {K : PySem.W.Frag} {F H : Hp} {ρ : List AV} {σ : L2.St} (R : Rel K B F H ρ σ) {i : Nat} {Q : List D → Prop} (h : PU.ownL ρ i Q) : ∃ a vs ds, ρ[i]? = some (.own (.lst ds)) ∧ σ[i]? = some (some (.ref a)) ∧ H a = some (.lst vs) ∧ DPs K F vs ds ∧ Q ds := by
  unfold PU.ownL at h
  split at h
  · rename_i ds hd
    obtain ⟨a, o, h1, h2, h3, hP, h4, h5⟩ := R.ow i _ hd
    cases h5 with
    | lst t => exact ⟨a, _, ds, hd, h1, h4, t, h⟩
  · exact h.elim
/-- x.append(e) -/
@[simp] def aAppend (i : Nat) (te : AE) : AE := fun EX ρ Q => (PU.ownL ρ i fun _ => True) ∧ te EX ρ fun e ρ' => PU.ownL ρ' i fun ds => ds.length < sizeLine ∧ Q .non (ρ'.set i (.own (.lst (ds ++ [e]))))
theorem se_append {y : Str} {q apos : Pos} (i : Nat) (hy : PE X (.Name y q) (tVar i)) (hb : SE X B W b tb)
    (hbase : attributeBase (.Name y q) "append" X.env (eval (.Name y q) X.env) = eval (.Name y q) X.env := by rfl)
    (hfew : ((backTo pos (starEach (b :: []) X.env)).all (fun x => !x.1) && (backToKw pos (keywordEach [] X.env)).all (fun x => x.1.isSome)
      && decide ((b :: []).length + ([] : List Keyword).length + (if ([] : List Keyword).isEmpty then 0 else 1) < 30)) = true := by rfl)
    (hline : (apos.endLine == pos.line) = true := by rfl) (hs : starEach (b :: []) X.env = (false, eval b X.env) :: starEach [] X.env := by rfl) (hplain : (backTo pos (starEach [] X.env)).any (·.1) = false := by rfl) :
    SE X B W (.Call (.Attribute (.Name y q) "append" apos) (b :: []) [] pos) (aAppend i tb) := by
  refine PE_imp (pe_bm PySem.F.plainAttrs_list PySem.F.slot_list_append PySem.F.type_list_append mt_append hy (pa_cons hb pa_nil hs) hbase hfew hline hs hplain) fun σ H Q q => ?_
  obtain ⟨ρ, F, EX, Q0, R, ⟨t0, t⟩, k, kx⟩ := q
  obtain ⟨a, vs, ds, h1, h2, h3, h4, _⟩ := R.ownL t0
  refine ⟨_, h2, .inl ⟨rfl, _, SqL.of h3⟩, ρ, F, EX, _, R, t, fun e ρ' t' w F' H' R' s' p2 => ?_, kx⟩
  obtain ⟨a', vs', ds', g1, g2, g3, g4, t', t''⟩ := R'.ownL t'
  have ea : a' = a := by rw [h2] at g2; cases g2; rfl
  subst ea
  refine ⟨_, _, _, rfl, rfl, g3, by rw [g4.length]; exact t', ?_⟩
  exact k _ _ t'' _ F' _ (R'.writeO g1 g2 (.lst (g4.append (.cons p2 .nil)))) s' .non
/-- x.pop() -/
@[simp] def aPop (i : Nat) : AE := fun EX ρ Q => PU.ownL ρ i fun ds => ∃ y, ds[ds.length - 1]? = some y ∧ Q y (ρ.set i (.own (.lst ds.dropLast)))
theorem DPs.dropLast {K : PySem.W.Frag} {F : Hp} {v : List V} {d : List D} (h : DPs K F v d) : DPs K F v.dropLast d.dropLast := by
  rw [List.dropLast_eq_take, List.dropLast_eq_take, h.length]
  exact h.take _
theorem se_pop {y : Str} {q apos : Pos} (i : Nat) (hy : PE X (.Name y q) (tVar i))
    (hbase : attributeBase (.Name y q) "pop" X.env (eval (.Name y q) X.env) = eval (.Name y q) X.env := by rfl) (hline : (apos.endLine == pos.line) = true := by rfl) : SE X B W (.Call (.Attribute (.Name y q) "pop" apos) [] [] pos) (aPop i) := by
  refine PE_imp (pe_bm0 PySem.F.plainAttrs_list PySem.F.slot_list_pop PySem.F.type_list_pop mt_pop hy hbase hline) fun σ H Q q => ?_
  obtain ⟨ρ, F, EX, Q0, R, t, k, kx⟩ := q
  obtain ⟨a, vs, ds, h1, h2, h3, h4, y, e1, t⟩ := R.ownL t
  obtain ⟨v, e2, p⟩ := h4.get e1
  refine ⟨_, h2, .inl ⟨rfl, _, SqL.of h3⟩, _, _, v, rfl, rfl, h3, by rw [h4.length]; exact e2, ?_⟩
  exact k _ _ t _ F _ (R.writeO h1 h2 (.lst h4.dropLast)) (Same.refl _) p
/-- x.pop(e) -/
@[simp] def aPopAt (i : Nat) (te : AE) : AE := fun EX ρ Q => (PU.ownL ρ i fun _ => True) ∧ te EX ρ fun e ρ' => PU.ownL ρ' i fun ds => ∃ (j : Nat) (y : D), e = .int j ∧ ds.length ≤ 2 ^ 62 ∧ ds[j]? = some y ∧ Q y (ρ'.set i (.own (.lst (ds.eraseIdx j))))
theorem DPs.eraseIdx {K : PySem.W.Frag} {F : Hp} : ∀ {v : List V} {d : List D} (n : Nat), DPs K F v d → DPs K F (v.eraseIdx n) (d.eraseIdx n)
  | _, _, _, .nil => .nil
  | _, _, 0, .cons _ t => t
  | _, _, n + 1, .cons h t => .cons h (DPs.eraseIdx n t)
theorem se_popAt {y : Str} {q apos : Pos} (i : Nat) (hy : PE X (.Name y q) (tVar i)) (hb : SE X B W b tb)
    (hbase : attributeBase (.Name y q) "pop" X.env (eval (.Name y q) X.env) = eval (.Name y q) X.env := by rfl)
    (hfew : ((backTo pos (starEach (b :: []) X.env)).all (fun x => !x.1) && (backToKw pos (keywordEach [] X.env)).all (fun x => x.1.isSome)
      && decide ((b :: []).length + ([] : List Keyword).length + (if ([] : List Keyword).isEmpty then 0 else 1) < 30)) = true := by rfl)
    (hline : (apos.endLine == pos.line) = true := by rfl) (hs : starEach (b :: []) X.env = (false, eval b X.env) :: starEach [] X.env := by rfl) (hplain : (backTo pos (starEach [] X.env)).any (·.1) = false := by rfl) :
    SE X B W (.Call (.Attribute (.Name y q) "pop" apos) (b :: []) [] pos) (aPopAt i tb) := by
  refine PE_imp (pe_bm PySem.F.plainAttrs_list PySem.F.slot_list_pop PySem.F.type_list_pop mt_popAt hy (pa_cons hb pa_nil hs) hbase hfew hline hs hplain) fun σ H Q q => ?_
  obtain ⟨ρ, F, EX, Q0, R, ⟨t0, t⟩, k, kx⟩ := q
  obtain ⟨a, vs, ds, h1, h2, h3, h4, _⟩ := R.ownL t0
  refine ⟨_, h2, .inl ⟨rfl, _, SqL.of h3⟩, ρ, F, EX, _, R, t, fun e ρ' t' w F' H' R' s' p2 => ?_, kx⟩
  obtain ⟨a', vs', ds', g1, g2, g3, g4, j, y, rfl, hlt, e1, t'⟩ := R'.ownL t'
  have ea : a' = a := by rw [h2] at g2; cases g2; rfl
  subst ea
  rw [dp_int p2]
  obtain ⟨v, e2, p⟩ := g4.get e1
  have hj : j < ds'.length := (List.getElem?_eq_some_iff.mp e1).1
  refine ⟨_, _, (j : Int), j, v, rfl, rfl, g3, by omega, by omega, ?_, e2, ?_⟩
  · exact PySem.StrLaws.seqIndex_nonneg (by omega) (by rw [g4.length]; omega)
  · exact k _ _ t' _ F' _ (R'.writeO g1 g2 (.lst (g4.eraseIdx j))) s' p
/-- x.extend(e) -/
@[simp] def aExtend (i : Nat) (te : AE) : AE := fun EX ρ Q => (PU.ownL ρ i fun _ => True) ∧ te EX ρ fun e ρ' => PU.ownL ρ' i fun ds => match e with
  | .lst es => ds.length + es.length ≤ sizeLine ∧ Q .non (ρ'.set i (.own (.lst (ds ++ es))))
  | _ => False
theorem se_extend {y : Str} {q apos : Pos} (i : Nat) (hy : PE X (.Name y q) (tVar i)) (hb : SE X B W b tb)
    (hbase : attributeBase (.Name y q) "extend" X.env (eval (.Name y q) X.env) = eval (.Name y q) X.env := by rfl)
    (hfew : ((backTo pos (starEach (b :: []) X.env)).all (fun x => !x.1) && (backToKw pos (keywordEach [] X.env)).all (fun x => x.1.isSome)
      && decide ((b :: []).length + ([] : List Keyword).length + (if ([] : List Keyword).isEmpty then 0 else 1) < 30)) = true := by rfl)
    (hline : (apos.endLine == pos.line) = true := by rfl) (hs : starEach (b :: []) X.env = (false, eval b X.env) :: starEach [] X.env := by rfl) (hplain : (backTo pos (starEach [] X.env)).any (·.1) = false := by rfl) :
    SE X B W (.Call (.Attribute (.Name y q) "extend" apos) (b :: []) [] pos) (aExtend i tb) := by
  refine PE_imp (pe_bm PySem.F.plainAttrs_list PySem.F.slot_list_extend PySem.F.type_list_extend mt_extend hy (pa_cons hb pa_nil hs) hbase hfew hline hs hplain) fun σ H Q q => ?_
  obtain ⟨ρ, F, EX, Q0, R, ⟨t0, t⟩, k, kx⟩ := q
  obtain ⟨a, vs, ds, h1, h2, h3, h4, _⟩ := R.ownL t0
  refine ⟨_, h2, .inl ⟨rfl, _, SqL.of h3⟩, ρ, F, EX, _, R, t, fun e ρ' t' w F' H' R' s' p2 => ?_, kx⟩
  obtain ⟨a', vs', ds', g1, g2, g3, g4, t'⟩ := R'.ownL t'
  have ea : a' = a := by rw [h2] at g2; cases g2; rfl
  subst ea
  cases p2 with
  | lst g5 g6 =>
    refine ⟨_, _, _, _, rfl, rfl, g3, R'.fz _ _ g5, by rw [g4.length, g6.length]; exact t'.1, ?_⟩
    exact k _ _ t'.2 _ F' _ (R'.writeO g1 g2 (.lst (g4.append g6))) s' .non
  | _ => exact t'.elim
/-- x[e1] = e2, x an own list -/
def aPut (i : Nat) (te ti : AE) : AS := fun A ρ => te A.ex ρ fun z ρ1 => (PU.ownL ρ1 i fun _ => True) ∧ ti A.ex ρ1 fun e ρ2 => PU.ownL ρ2 i fun ds => ∃ (k : Int) (j : Nat), e = .int k ∧ ixN ds.length k = some j ∧ A.nx (ρ2.set i (.own (.lst (ds.set j z))))
theorem DPs.set {K : PySem.W.Frag} {F : Hp} {x : V} {y : D} (h : DP K F x y) : ∀ {v : List V} {d : List D} (n : Nat), DPs K F v d → DPs K F (v.set n x) (d.set n y)
  | _, _, _, .nil => .nil
  | _, _, 0, .cons _ t => .cons h t
  | _, _, n + 1, .cons g t => .cons g (DPs.set h n t)
theorem ss_put {y : Str} {q pt : Pos} {ti : AE} (i : Nat) (hv : SE X B W e te) (hy : PE X (.Name y q) (tVar i)) (hi : SE X B W b ti)
    (hs : swapsWithSole [.Subscript (.Name y q) b pt] e pos.line X.env = pure false := by rfl) (hw : swappedStores [.Subscript (.Name y q) b pt] e X.env = pure none := by rfl)
    (h1 : (assignEach [.Subscript (.Name y q) b pt] X.env).map (·.2) = [assign (.Subscript (.Name y q) b pt) X.env] := by rfl)
    (ha : ∀ v, assign (.Subscript (.Name y q) b pt) X.env v = (do
      let ov ← holding [v] (eval (.Name y q) X.env)
      let iv ← holding [v, ov] (eval b X.env)
      standAt pt
      holding [v, ov, iv] (setItem ov iv v)
      release [v, ov, iv] []) := by intro _; rfl) : SS X B W (.Assign [.Subscript (.Name y q) b pt] e pos) (aPut i te ti) := by
  refine PS_imp (ps_asg hv (pg_sub hy hi set_list ha) hs hw h1) fun D σ H q => ?_
  obtain ⟨ρ, F, A, R, t, k⟩ := q
  refine ⟨ρ, F, A.ex, _, R, t, fun z ρ1 t1 v F1 H1 R1 s1 p1 => ?_, k.ex σ⟩
  obtain ⟨t0, t1⟩ := t1
  obtain ⟨a, vs, ds, h1, h2, h3, h4, _⟩ := R1.ownL t0
  refine ⟨_, h2, ρ1, F1, A.ex, _, R1, t1, fun e ρ2 t2 w F2 H2 R2 s2 p2 => ?_, k.ex σ⟩
  obtain ⟨a', vs', ds', g1, g2, g3, g4, kk, j, rfl, ej, t2⟩ := R2.ownL t2
  have ea : a' = a := by rw [h2] at g2; cases g2; rfl
  subst ea
  rw [dp_int p2]
  refine ⟨_, _, kk, j, rfl, rfl, g3, by rw [g4.length]; exact ej, ?_⟩
  exact k.nx _ _ F2 _ t2 (R2.writeO g1 g2 (.lst (g4.set (p1.mono s2) j))) (s1.trans s2)
end
end PU
set_option Elab.async false
set_option linter.all false
set_option maxRecDepth 100000
namespace PU
open PySem PySem.Spec L2
set_option autoImplicit false

/-! ### dicts whose keys are numbers or tuples: d[k] = v, d.get(k, x) -/
/-- the own dict at a slot -/
@[simp] def ownN (ρ : List AV) (i : Nat) (Q : List (NestedKey × D) → Prop) : Prop := match ρ[i]? with
  | some (.own (.dN ds)) => Q ds
  | _ => False
@[simp] def lookN (ρ : List AV) (i : Nat) (Q : List (NestedKey × D) → Prop) : Prop := match ρ[i]? with
  | some (.own (.dN ds)) => Q ds
  | some (.dat (.dN ds)) => Q ds
  | _ => False
def IsN (H : Hp) (a : Addr) : Prop := ∃ a0 es ep, H a = some (.ext (NDx a0 es ep))
section
variable {X : Cx} {B : Bas} {W : WX} {a b c e : Expr} {ta tb tc te ti tx : AE} {pos p : Pos}
theorem Rel.ownN {K : PySem.W.Frag} {F H : Hp} {ρ : List AV} {σ : L2.St} (R : Rel K B F H ρ σ) {i : Nat} {Q : List (NestedKey × D) → Prop} (h : PU.ownN ρ i Q) : ∃ a ds, ρ[i]? = some (.own (.dN ds)) ∧ σ[i]? = some (some (.ref a)) ∧ F a = none ∧ NAt K F H a ds ∧ Q ds := by
  unfold PU.ownN at h
  split at h
  · rename_i ds hd
    obtain ⟨a, o, h1, h2, h3, hP, h4, h5⟩ := R.ow i _ hd
    cases h5 with
    | dN n t => exact ⟨a, ds, hd, h1, h2, ⟨_, _, _, h4, n, t⟩, h⟩
  · exact h.elim
theorem Rel.lookN {K : PySem.W.Frag} {F H : Hp} {ρ : List AV} {σ : L2.St} (R : Rel K B F H ρ σ) {i : Nat} {Q : List (NestedKey × D) → Prop} (h : PU.lookN ρ i Q) : ∃ a ds, σ[i]? = some (some (.ref a)) ∧ NAt K F H a ds ∧ Q ds := by
  unfold PU.lookN at h
  split at h
  · rename_i ds hd
    obtain ⟨a, o, h1, h2, h3, hP, h4, h5⟩ := R.ow i _ hd
    cases h5 with
    | dN n t => exact ⟨a, ds, h1, ⟨_, _, _, h4, n, t⟩, h⟩
  · rename_i ds hd
    obtain ⟨v, h1, h2⟩ := R.sl i _ hd
    cases h2 with
    | dN h0 e n t =>
      subst e
      exact ⟨_, ds, h1, ⟨_, _, _, R.fz _ _ h0, n, t⟩, h⟩
  · exact h.elim
theorem NAt.isN {K : PySem.W.Frag} {F H : Hp} {a : Addr} {ds : List (NestedKey × D)} (h : NAt K F H a ds) : IsN H a := let ⟨a0, es, ep, e, _⟩ := h.ex; ⟨a0, es, ep, e⟩
/-- o[i] = v -/
def rSetN (K : PySem.W.Frag) : TSet := fun o i v H Q => ∃ a F ds k d, o = .ref a ∧ Same F H ∧ F a = none ∧ NAt K F H a ds ∧ IsKey K F i k ∧ KindN ds k ∧ ds.length < sizeLine ∧ DP K F v d ∧
  ∀ es ep, DPn K F es.toList (putD ds k d) → Q (upd H a (.ext (NDx a es ep)))
theorem set_n (hu : X.A.units + 64 < cLine) : PSet X (rSetN X.K) := by
  intro pins s σ H o i v ov iv u Q I ro ri rv h
  obtain ⟨a, F, ds, k, d, eo, sm, fa, g, hk, kn, hz, pv, q⟩ := h
  subst eo
  cases (show ov = Value.ref a from ro)
  exact n_setItem hu I sm fa g hk kn hz ri rv pv fun es ep s' I' t => ⟨_, I', q es ep t⟩
/-- x[e1] = e2, x an own dict -/
@[simp] def aPutN (i : Nat) (te ti : AE) : AS := fun A ρ => te A.ex ρ fun z ρ1 => (PU.ownN ρ1 i fun _ => True) ∧ ti A.ex ρ1 fun e ρ2 => PU.ownN ρ2 i fun ds => ∃ k, QKey ds e k ∧ ds.length < sizeLine ∧ A.nx (ρ2.set i (.own (.dN (putD ds k z))))
theorem ss_putN {k : Nat} {y : Str} {q pt : Pos} (i : Nat) (hr : Room k X.A) (hv : SE X B W e te) (hy : PE X (.Name y q) (tVar i)) (hi : SE X B W b ti)
    (hs : swapsWithSole [.Subscript (.Name y q) b pt] e pos.line X.env = pure false := by rfl) (hw : swappedStores [.Subscript (.Name y q) b pt] e X.env = pure none := by rfl)
    (h1 : (assignEach [.Subscript (.Name y q) b pt] X.env).map (·.2) = [assign (.Subscript (.Name y q) b pt) X.env] := by rfl)
    (ha : ∀ v, assign (.Subscript (.Name y q) b pt) X.env v = (do
      let ov ← holding [v] (eval (.Name y q) X.env)
      let iv ← holding [v, ov] (eval b X.env)
      standAt pt
      holding [v, ov, iv] (setItem ov iv v)
      release [v, ov, iv] []) := by intro _; rfl) : SS X B W (.Assign [.Subscript (.Name y q) b pt] e pos) (aPutN i te ti) := by
  refine PS_imp (ps_asg hv (pg_sub hy hi (set_n hr.units) ha) hs hw h1) fun D σ H q => ?_
  obtain ⟨ρ, F, A, R, t, k⟩ := q
  refine ⟨ρ, F, A.ex, _, R, t, fun z ρ1 t1 v F1 H1 R1 s1 p1 => ?_, k.ex σ⟩
  obtain ⟨t0, t1⟩ := t1
  obtain ⟨a, ds, h1, h2, h3, h4, _⟩ := R1.ownN t0
  refine ⟨_, h2, ρ1, F1, A.ex, _, R1, t1, fun e ρ2 t2 w F2 H2 R2 s2 p2 => ?_, k.ex σ⟩
  obtain ⟨a', ds', g1, g2, g3, g4, kk, hk, hz, t2⟩ := R2.ownN t2
  have ea : a' = a := by rw [h2] at g2; cases g2; rfl
  subst ea
  refine ⟨_, F2, _, kk, _, rfl, R2.fz, g3, g4, hk.is p2, hk.2.2.2, hz, p1.mono s2, fun es ep t => ?_⟩
  obtain ⟨_, _, _, _, nd, _⟩ := g4.ex
  exact k.nx _ _ F2 _ t2 (R2.writeO g1 g2 (.dN (putD_nodup nd) t)) (s1.trans s2)
/-- x.get(e1, e2) -/
def tNGet (K : PySem.W.Frag) (td ty tx : TE) : TE := fun σ H Q => td σ H fun x H1 => ∃ a, x = .ref a ∧ IsN H1 a ∧ ty σ H1 fun y H2 => tx σ H2 fun z H3 =>
  ∃ F ds k d0, Same F H3 ∧ NAt K F H3 a ds ∧ IsKey K F y k ∧ KindN ds k ∧ DP K F z d0 ∧ ∀ v, DP K F v ((tabD ds k).getD d0) → Q v H3
theorem pe_nget {td ty tx : TE} {apos cpos : Pos} (hu : X.A.units + 64 < cLine) (ho : PE X a td) (he : PE X b ty) (hf : PE X c tx) (m : M2 X a "get" apos b c cpos) : PE X (.Call (.Attribute a "get" apos) [b, c] [] cpos) (tNGet X.K td ty tx) := by
  refine ⟨fun pins s σ H Q I h => ?_⟩
  refine wpAny_Call_method m.base m.few m.line PySem.F.plainAttrs_dict PySem.F.slot_dict_get PySem.F.type_dict_get (thn (ho.run pins s σ H _ I h) fun u s1 ⟨x, H1, I1, rx, a, ex, d, q1⟩ => ?_)
  subst ex
  obtain rfl : u = Value.ref a := rx
  obtain ⟨a0, es, ep, hd⟩ := d
  obtain ⟨_, _, raw⟩ := nd_raw I1.hok hd
  refine ⟨raw.typeIs, raw_noDict raw, ?_⟩
  rw [m.trees]
  refine Calls.callWith_builtin rfl (Calls.evalArgs_plain (Calls.spliced_cons (thn (he.run pins s1 σ H1 _ I1 q1) fun iv s2 ⟨y, H2, I2, ry, q2⟩ =>
    Calls.spliced_cons (thn (hf.run pins s2 σ H2 _ I2 q2) fun fv s3 ⟨z, H3, I3, rz, F, ds, k, d0, sm, g, hk, kn, pz, q3⟩ => Calls.spliced_nil ?_))))
  exact n_getOr hu I3 sm g hk kn ry rz pz fun v w' s4 I4 rw' pv => ⟨v, H3, I4, rw', q3 v pv⟩
@[simp] def aGetN (i : Nat) (ti tx : AE) : AE := fun EX ρ Q => (PU.lookN ρ i fun _ => True) ∧ ti EX ρ fun e ρ1 => tx EX ρ1 fun z ρ2 => PU.lookN ρ2 i fun ds => ∃ k, QKey ds e k ∧ Q ((tabD ds k).getD z) ρ2
theorem se_getN {k : Nat} {y : Str} {q apos cpos : Pos} (i : Nat) (hr : Room k X.A) (hy : PE X (.Name y q) (tVar i)) (hi : SE X B W b ti) (hx : SE X B W c tx) (m : M2 X (.Name y q) "get" apos b c cpos := by exact ⟨rfl, rfl, rfl, rfl⟩) :
    SE X B W (.Call (.Attribute (.Name y q) "get" apos) [b, c] [] cpos) (aGetN i ti tx) := by
  refine PE_imp (pe_nget hr.units hy hi hx m) fun σ H Q q => ?_
  obtain ⟨ρ, F, EX, Q0, R, ⟨t0, t⟩, k, kx⟩ := q
  obtain ⟨a, ds, h1, h2, _⟩ := R.lookN t0
  refine ⟨_, h1, a, rfl, h2.isN, ρ, F, EX, _, R, t, fun e ρ1 t1 v F1 H1 R1 s1 p1 => ?_, kx⟩
  refine ⟨ρ1, F1, EX, _, R1, t1, fun z ρ2 t2 w F2 H2 R2 s2 p2 => ?_, kx⟩
  obtain ⟨a', ds', g2, g4, kk, hk, t2⟩ := R2.lookN t2
  have ea : a' = a := by rw [h1] at g2; cases g2; rfl
  subst ea
  exact ⟨F2, _, kk, z, R2.fz, g4, hk.is (p1.mono s2), hk.2.2.2, p2, fun v pv => k _ ρ2 t2 v F2 H2 R2 (s1.trans s2) pv⟩
end
end PU
set_option Elab.async false
set_option linter.all false
set_option maxRecDepth 100000
namespace PU
open PySem PySem.Spec L2
set_option autoImplicit false

/-! ### what is walked -/
structure WalksD (K : PySem.W.Frag) (F : Hp) (J : It) (ds : List D) : Prop where
  go : ∀ i F1 H, Same F F1 → Same F1 H → i < ds.length → J.go i H
  stop : ∀ i F1 H, Same F F1 → Same F1 H → ds.length ≤ i → J.stop i H
  yld : ∀ i F1 H x H', Same F F1 → Same F1 H → i < ds.length → J.yld i H x H' → ∃ d, ds[i]? = some d ∧ ((H' = H ∧ DP K F1 x d) ∨ ∃ p o, H p = none ∧ H' = upd H p o ∧ DP K (upd F1 p o) x d)
theorem WalksD.mono {K : PySem.W.Frag} {F F' : Hp} {J : It} {ds : List D} (h : WalksD K F J ds) (s : Same F F') : WalksD K F' J ds :=
  ⟨fun i F1 H a b c => h.go i F1 H (s.trans a) b c, fun i F1 H a b c => h.stop i F1 H (s.trans a) b c, fun i F1 H x H' a b c e => h.yld i F1 H x H' (s.trans a) b c e⟩
abbrev AI := EK → List AV → (List D → List AV → Prop) → Prop
def cI (K : PySem.W.Frag) (B : Bas) (W : WX) (t : AI) : TI := fun σ H R => ∃ ρ F EX Q0, Rel K B F H ρ σ ∧ t EX ρ Q0 ∧ (∀ ds ρ', Q0 ds ρ' → ∀ J F' H', Rel K B F' H' ρ' σ → Same F F' → WalksD K F' J ds → R J H') ∧ cX K B W σ EX
def SI (X : Cx) (B : Bas) (W : WX) (tg it : Expr) (t : AI) : Prop := PI X tg it (cI X.K B W t)
theorem PI_imp {X : Cx} {tg e : Expr} {T T' : TI} (h : PI X tg e T) (i : ∀ σ H Q, T' σ H Q → T σ H Q) : PI X tg e T' := ⟨fun pins s σ H Q I q => h.run pins s σ H Q I (i _ _ _ q)⟩
theorem walks_lst {K : PySem.W.Frag} {F : Hp} {a : Addr} {vs : List V} {ds : List D} (h : F a = some (.lst vs)) (p : DPs K F vs ds) : WalksD K F (Itl K a) ds where
  go := fun i F1 H s s' l => by
    have l' : i < vs.length := by rw [p.length]; exact l
    exact ⟨vs, vs[i], SqL.of (s' _ _ (s _ _ h)), by simp [l']⟩
  stop := fun i F1 H s s' l => ⟨vs, SqL.of (s' _ _ (s _ _ h)), by rw [p.length]; exact l⟩
  yld := fun i F1 H x H' s s' l y => by
    obtain ⟨rfl, y⟩ := y
    have e := y vs (SqL.of (s' _ _ (s _ _ h)))
    obtain ⟨d, e1, e2⟩ := p.get' e
    exact ⟨d, e1, .inl ⟨rfl, e2.mono s⟩⟩
theorem walks_tup {K : PySem.W.Frag} {F : Hp} {a : Addr} {vs : List V} {ds : List D} (h : SqT K F a vs) (p : DPs K F vs ds) : WalksD K F (Itt K a) ds where
  go := fun i F1 H s s' l => by
    have l' : i < vs.length := by rw [p.length]; exact l
    exact ⟨vs, vs[i], same_tup (s.trans s') h, by simp [l']⟩
  stop := fun i F1 H s s' l => ⟨vs, same_tup (s.trans s') h, by rw [p.length]; exact l⟩
  yld := fun i F1 H x H' s s' l y => by
    obtain ⟨rfl, y⟩ := y
    have e := y vs (same_tup (s.trans s') h)
    obtain ⟨d, e1, e2⟩ := p.get' e
    exact ⟨d, e1, .inl ⟨rfl, e2.mono s⟩⟩
theorem dpn_keys {K : PySem.W.Frag} {F : Hp} : ∀ {es : List DictEntry} {ds : List (NestedKey × D)}, DPn K F es ds → ∃ vs, Vals vs (es.map (·.key)) ∧ DPs K F vs (ds.map fun p => keyD p.1)
  | _, _, .nil => ⟨[], .nil, .nil⟩
  | _, _, .cons (kv := kv) h1 h2 h3 h4 h5 h6 p q t => by
    obtain ⟨vs, r1, r2⟩ := dpn_keys t
    subst h6
    exact ⟨kv :: vs, .cons h4 r1, .cons p r2⟩
theorem dpn_vals {K : PySem.W.Frag} {F : Hp} : ∀ {es : List DictEntry} {ds : List (NestedKey × D)}, DPn K F es ds → ∃ vs, Vals vs (es.map (·.val)) ∧ DPs K F vs (ds.map (·.2))
  | _, _, .nil => ⟨[], .nil, .nil⟩
  | _, _, .cons (v := v) h1 h2 h3 h4 h5 h6 p q t => by
    obtain ⟨vs, r1, r2⟩ := dpn_vals t
    exact ⟨v :: vs, .cons h5 r1, .cons q r2⟩
theorem walks_nk {K : PySem.W.Frag} {F : Hp} {a a0 : Addr} {es : Array DictEntry} {ep : Nat} {ds : List (NestedKey × D)} {vs : List V} {xs : List D} {f : DictEntry → Value} (h : F a = some (.ext (NDx a0 es ep))) (n : (ds.map (·.1)).Nodup) (t : DPn K F es.toList ds) (hv : Vals vs (es.toList.map f)) (hp : DPs K F vs xs) :
    WalksD K F (ItNk a a0 es ep vs) xs where
  go := fun i F1 H s s' l => by
    have e1 := hv.length
    have e2 := hp.length
    simp only [List.length_map, Array.length_toList] at e1
    exact ⟨s' _ _ (s _ _ h), by omega⟩
  stop := fun i F1 H s s' l => by
    have e1 := hv.length
    have e2 := hp.length
    simp only [List.length_map, Array.length_toList] at e1
    exact ⟨s' _ _ (s _ _ h), by omega⟩
  yld := fun i F1 H x H' s s' l y => by
    obtain ⟨rfl, e⟩ := y
    obtain ⟨d, e1, e2⟩ := hp.get' e
    exact ⟨d, e1, .inl ⟨rfl, e2.mono s⟩⟩
theorem zip_at {ds : List (NestedKey × D)} {i : Nat} {k v : D} (h1 : (ds.map fun p => keyD p.1)[i]? = some k) (h2 : (ds.map (·.2))[i]? = some v) : (ds.map fun p => D.tup [keyD p.1, p.2])[i]? = some (.tup [k, v]) := by
  rw [List.getElem?_map] at h1 h2 ⊢
  cases e : ds[i]? with
  | none => rw [e] at h1; cases h1
  | some p =>
    rw [e] at h1 h2
    cases h1
    cases h2
    rfl
theorem walks_ni {K : PySem.W.Frag} {F : Hp} {a a0 : Addr} {es : Array DictEntry} {ep : Nat} {ds : List (NestedKey × D)} {ks vs : List V} (h : F a = some (.ext (NDx a0 es ep))) (t : DPn K F es.toList ds)
    (hk : KeysV es ks) (hpk : DPs K F ks (ds.map fun p => keyD p.1)) (hv : ValsV es vs) (hpv : DPs K F vs (ds.map (·.2))) : WalksD K F (ItNi a a0 es ep ks vs) (ds.map fun p => .tup [keyD p.1, p.2]) where
  go := fun i F1 H s s' l => by
    have e1 := nat_len t
    simp only [List.length_map, Array.length_toList] at e1 l
    exact ⟨s' _ _ (s _ _ h), by omega⟩
  stop := fun i F1 H s s' l => by
    have e1 := nat_len t
    simp only [List.length_map, Array.length_toList] at e1 l
    exact ⟨s' _ _ (s _ _ h), by omega⟩
  yld := fun i F1 H x H' s s' l y => by
    obtain ⟨p, k, v, h1, h2, rfl, hp, rfl⟩ := y
    obtain ⟨dk, e1, e2⟩ := hpk.get' h1
    obtain ⟨dv, e3, e4⟩ := hpv.get' h2
    refine ⟨_, zip_at e1 e3, .inr ⟨p, _, hp, rfl, ?_⟩⟩
    have fp : F1 p = none := by
      cases q : F1 p with
      | none => rfl
      | some o => rw [s' _ _ q] at hp; cases hp
    have sm : ∀ o, Same F1 (upd F1 p o) := fun o => same_upd fp
    exact .tup (SqT.of upd_same) (.cons ((e2.mono s).mono (sm _)) (.cons ((e4.mono s).mono (sm _)) .nil))
def chars (x : Str) : List D := x.cps.toList.map fun c => .str ⟨#[c]⟩
theorem walks_str {K : PySem.W.Frag} {F : Hp} {x : Str} : WalksD K F (Its x) (chars x) where
  go := fun i F1 H s s' l => by
    show i < x.cps.size
    simpa [chars] using l
  stop := fun i F1 H s s' l => by
    show x.cps.size ≤ i
    simpa [chars] using l
  yld := fun i F1 H y H' s s' l h => by
    obtain ⟨rfl, c, e, rfl⟩ := h
    refine ⟨.str ⟨#[c]⟩, ?_, .inl ⟨rfl, .str _⟩⟩
    unfold chars
    rw [List.getElem?_map, Array.getElem?_toList, e]
    rfl
def upto (lo : Int) (n : Nat) : List D := (List.range n).map fun i => .int (lo + (i : Nat))
theorem walks_rng {K : PySem.W.Frag} {F : Hp} {lo : Int} {n : Nat} : WalksD K F (Itr lo n) (upto lo n) where
  go := fun i F1 H s s' l => by
    show i < n
    simpa [upto] using l
  stop := fun i F1 H s s' l => by
    show n ≤ i
    simpa [upto] using l
  yld := fun i F1 H y H' s s' l h => by
    obtain ⟨rfl, rfl⟩ := h
    have l' : i < n := by simpa [upto] using l
    refine ⟨.int (lo + (i : Nat)), ?_, .inl ⟨rfl, .int _⟩⟩
    unfold upto
    rw [List.getElem?_map, List.getElem?_range l']
    rfl

section
variable {X : Cx} {B : Bas} {W : WX} {a b c e tg iter : Expr} {es : List Expr} {sts sts' : List Stmt} {ta tb tc te : AE} {t u : AS} {tt : AT} {s : AA} {pos p : Pos}
/-- an expression whose value is walked: a list, a tuple, a text -/
@[simp] def iterD (d : D) (Q : List D → Prop) : Prop := match d with
  | .lst xs => Q xs
  | .tup xs => Q xs
  | .str x => Q (chars x)
  | .dN kvs => Q (kvs.map fun p => keyD p.1)
  | _ => False
@[simp] def aIt (te : AE) : AI := fun EX ρ Q => te EX ρ fun d ρ' => iterD d fun xs => Q xs ρ'
def iAny (K : PySem.W.Frag) (tl : TE) : TI := fun σ H R => tl σ H fun x H1 => (∃ a, x = .ref a ∧ (∃ xs, SqL K H1 a xs) ∧ R (Itl K a) H1) ∨ (∃ a, x = .ref a ∧ (∃ xs, SqT K H1 a xs) ∧ R (Itt K a) H1) ∨ (∃ z, x = .str z ∧ R (Its z) H1) ∨ ∃ d a0 es ep vs, x = .ref d ∧ NH H1 d a0 es ep ∧ KeysV es vs ∧ R (ItNk d a0 es ep vs) H1
theorem pi_any {l : Expr} {tl : TE} (hl : PE X l tl) : PI X tg l (iAny X.K tl) := by
  refine ⟨fun pins s σ H R I h => ?_⟩
  refine thn (hl.run pins s σ H _ I h) fun v s1 ⟨x, H1, I1, r1, q1⟩ => ?_
  rcases q1 with ⟨a, e, ⟨xs, hq⟩, q⟩ | ⟨a, e, ⟨xs, hq⟩, q⟩ | ⟨z, e, q⟩ | ⟨d, a0, es, ep, vs, e, hd, hv, q⟩
  · subst e
    cases r1
    obtain ⟨its, rv, p, hz⟩ := I1.list hq
    refine PySem.wpAny_pyIter_list p.isList ?_
    refine ⟨s1.heap.objs.size, [s1.heap.objs.size], _, _, H1, rfl, I1.kept (t' := s1.toks) fun b o e => Heap.get?_push_of_some _ e, turn_list a _, ⟨_, Heap.get?_push_size _ rfl, rfl, rfl⟩, fun b hb => ?_, q⟩
    have e : b = s1.heap.objs.size := by simpa using hb
    subst e
    exact I1.fpOk (Nat.le_refl _) (I1.hok.fresh (Nat.le_refl _))
  · subst e
    cases r1
    obtain ⟨its, rv, p, hz⟩ := I1.tuple hq
    refine PySem.wpAny_pyIter_tuple (show s1.heap.IsTuple a its.toArray from p) ?_
    refine ⟨s1.heap.objs.size, [s1.heap.objs.size], _, _, H1, rfl, I1.kept (t' := s1.toks) fun b o e => Heap.get?_push_of_some _ e, turn_tuple a _, ⟨_, Heap.get?_push_size _ rfl, rfl, rfl⟩, fun b hb => ?_, q⟩
    have e : b = s1.heap.objs.size := by simpa using hb
    subst e
    exact I1.fpOk (Nat.le_refl _) (I1.hok.fresh (Nat.le_refl _))
  · subst e
    obtain ⟨t, rfl⟩ := r1
    cases ha : z.cps.all (· < 128)
    · exact wpAny_pyIter_wide ha (pi_one (tk := s1.toks) I1 _ (turn_str _ z t "str_iterator" (.inr rfl)) ⟨_, Heap.get?_push_size _ rfl, rfl, rfl⟩ q)
    · exact wpAny_pyIter_ascii ha (pi_one (tk := s1.toks) I1 _ (turn_str _ z t "str_ascii_iterator" (.inl rfl)) ⟨_, Heap.get?_push_size _ rfl, rfl, rfl⟩ q)
  · subst e
    cases r1
    exact pie_nk I1 hd hv q
theorem si_of (h : SE X B W e te) : SI X B W tg e (aIt te) := by
  refine PI_imp (pi_any h) fun σ H Q q => ?_
  obtain ⟨ρ, F, EX, Q0, R, t, k, kx⟩ := q
  refine ⟨ρ, F, EX, _, R, t, fun d ρ1 t1 v F1 H1 R1 s1 p1 => ?_, kx⟩
  cases p1 with
  | lst h1 h2 => exact .inl ⟨_, rfl, ⟨_, SqL.of (R1.fz _ _ h1)⟩, k _ ρ1 t1 _ F1 H1 R1 s1 (walks_lst h1 h2)⟩
  | tup h1 h2 => exact .inr (.inl ⟨_, rfl, ⟨_, same_tup R1.fz h1⟩, k _ ρ1 t1 _ F1 H1 R1 s1 (walks_tup h1 h2)⟩)
  | str x => exact .inr (.inr (.inl ⟨x, rfl, k _ ρ1 t1 _ F1 H1 R1 s1 walks_str⟩))
  | dN h e n t =>
    subst e
    obtain ⟨vs, hv, hp⟩ := dpn_keys t
    exact .inr (.inr (.inr ⟨_, _, _, _, vs, rfl, R1.fz _ _ h, hv, k _ ρ1 t1 _ F1 H1 R1 s1 (walks_nk h n t hv hp)⟩))
  | _ => exact t1.elim
/-- d.values(), d.items() -/
@[simp] def aValsD (te : AE) : AI := fun EX ρ Q => te EX ρ fun d ρ' => match d with
  | .dN kvs => Q (kvs.map (·.2)) ρ'
  | _ => False
@[simp] def aItemsD (te : AE) : AI := fun EX ρ Q => te EX ρ fun d ρ' => match d with
  | .dN kvs => Q (kvs.map fun p => .tup [keyD p.1, p.2]) ρ'
  | _ => False
theorem si_vals {apos cpos : Pos} (h : SE X B W e te) (hbase : attributeBase e "values" X.env (eval e X.env) = eval e X.env := by rfl) (hline : (apos.endLine == cpos.line) = true := by rfl) : SI X B W tg (.Call (.Attribute e "values" apos) [] [] cpos) (aValsD te) := by
  refine PI_imp (pi_nv h hbase hline) fun σ H Q q => ?_
  obtain ⟨ρ, F, EX, Q0, R, t, k, kx⟩ := q
  refine ⟨ρ, F, EX, _, R, t, fun d ρ1 t1 v F1 H1 R1 s1 p1 => ?_, kx⟩
  cases p1 with
  | dN h e n t =>
    subst e
    obtain ⟨vs, hv, hp⟩ := dpn_vals t
    exact ⟨_, _, _, _, vs, rfl, R1.fz _ _ h, hv, k _ ρ1 t1 _ F1 H1 R1 s1 (walks_nk h n t hv hp)⟩
  | _ => exact t1.elim
theorem si_items {apos cpos : Pos} {elts : List Expr} {kk : Nat} {tpos : Pos} (h : SE X B W e te) (hbase : attributeBase e "items" X.env (eval e X.env) = eval e X.env := by rfl) (hline : (apos.endLine == cpos.line) = true := by rfl) : SI X B W (.Tuple elts kk tpos) (.Call (.Attribute e "items" apos) [] [] cpos) (aItemsD te) := by
  refine PI_imp (pi_ni h hbase hline) fun σ H Q q => ?_
  obtain ⟨ρ, F, EX, Q0, R, t, k, kx⟩ := q
  refine ⟨ρ, F, EX, _, R, t, fun d ρ1 t1 v F1 H1 R1 s1 p1 => ?_, kx⟩
  cases p1 with
  | dN h e n t =>
    subst e
    obtain ⟨ks, hk, hpk⟩ := dpn_keys t
    obtain ⟨vs, hv, hpv⟩ := dpn_vals t
    exact ⟨_, _, _, _, ks, vs, rfl, R1.fz _ _ h, hk, hv, k _ ρ1 t1 _ F1 H1 R1 s1 (walks_ni h t hk hpk hv hpv)⟩
  | _ => exact t1.elim
def Small (i : Int) : Prop := -(2 ^ 62) ≤ i ∧ i < 2 ^ 62
@[simp] def aRng1 (s : AA) : AI := fun EX ρ Q => s EX ρ fun ds ρ' => match ds with
  | [.int j] => Small j ∧ Q (upto 0 j.toNat) ρ'
  | _ => False
theorem si_range1 (hg : Gl X "range") (hm : X.mg "range" = none) (ha : SA X B W [a] s) (hs : starEach [a] X.env = [(false, eval a X.env)] := by rfl) : SI X B W tg (.Call (.Name "range" p) [a] [] pos) (aRng1 s) := by
  refine PI_imp (pi_range1 hg hm ha hs) fun σ H Q q => ?_
  obtain ⟨ρ, F, EX, Q0, R, t, k, kx⟩ := q
  refine ⟨ρ, F, EX, _, R, t, fun ds ρ1 t1 vs F1 H1 R1 s1 p1 => ?_, kx⟩
  split at t1
  · obtain ⟨v, rfl, h⟩ := dps1 p1
    exact ⟨_, by rw [dp_int h], t1.1.1, t1.1.2, k _ ρ1 t1.2 _ F1 H1 R1 s1 walks_rng⟩
  · exact t1.elim
@[simp] def aRng2 (s : AA) : AI := fun EX ρ Q => s EX ρ fun ds ρ' => match ds with
  | [.int i, .int j] => Small i ∧ Small j ∧ Q (upto i (j - i).toNat) ρ'
  | _ => False
theorem si_range2 (hg : Gl X "range") (hm : X.mg "range" = none) (ha : SA X B W [a, b] s) (hs : starEach [a, b] X.env = [(false, eval a X.env), (false, eval b X.env)] := by rfl) (hs2 : starEach [b] X.env = [(false, eval b X.env)] := by rfl) :
    SI X B W tg (.Call (.Name "range" p) [a, b] [] pos) (aRng2 s) := by
  refine PI_imp (pi_range2 hg hm ha hs hs2) fun σ H Q q => ?_
  obtain ⟨ρ, F, EX, Q0, R, t, k, kx⟩ := q
  refine ⟨ρ, F, EX, _, R, t, fun ds ρ1 t1 vs F1 H1 R1 s1 p1 => ?_, kx⟩
  split at t1
  · obtain ⟨v, w, rfl, h, h'⟩ := dps2 p1
    exact ⟨_, _, by rw [dp_int h, dp_int h'], ⟨t1.1.1, t1.1.2, t1.2.1.1, t1.2.1.2⟩, k _ ρ1 t1.2.2 _ F1 H1 R1 s1 walks_rng⟩
  · exact t1.elim

/-! ### for -/
def aForL (g : AG) (body : AS) : List D → AEnds → List AV → Prop
  | [], A, ρ => A.nx ρ
  | d :: ds, A, ρ => g d ρ fun ρ' => body { A with nx := aForL g body ds A, ct := aForL g body ds A, bk := A.nx } ρ'
@[simp] def aFor (ti : AI) (g : AG) (body : AS) : AS := fun A ρ => ti A.ex ρ fun ds ρ' => aForL g body ds A ρ'
/-- a turn's item, frozen -/
theorem WalksD.item {K : PySem.W.Frag} {F F1 H H' : Hp} {J : It} {ds : List D} (w : WalksD K F J ds) {ρ : List AV} {σ : L2.St} (R : Rel K B F1 H ρ σ) (s : Same F F1) {i : Nat} {d : D} {x : V} (hi : ds[i]? = some d) (y : J.yld i H x H') :
    ∃ F2, Rel K B F2 H' ρ σ ∧ Same F1 F2 ∧ DP K F2 x d := by
  have l : i < ds.length := (List.getElem?_eq_some_iff.mp hi).1
  obtain ⟨d', e, h⟩ := w.yld i F1 H x H' s R.fz l y
  rw [hi] at e
  cases e
  rcases h with ⟨rfl, h⟩ | ⟨p, o, hp, rfl, h⟩
  · exact ⟨F1, R, Same.refl _, h⟩
  · exact ⟨_, R.alloc hp, same_upd (R.freeF hp), h⟩
theorem drop_cons {α : Type} {l : List α} {i : Nat} {d : α} (h : l[i]? = some d) : l.drop i = d :: l.drop (i + 1) := by
  obtain ⟨h1, h2⟩ := List.getElem?_eq_some_iff.mp h
  rw [List.drop_eq_getElem_cons h1, h2]
theorem ss_for {vs : List Nat} {ti : AI} {g : AG} (hp : PassesOwn (model X.prog X.w) X.A X.env X.xe) (hc : X.calm = true) (hi : SI X B W tg iter ti) (hg : SG X B vs tg g) (hb : SSs X B W sts t)
    (hs : ∀ x, foldedSetIterable iter X.env x = pure x := by intro _; rfl) : SS X B W (.For tg iter sts [] pos) (aFor ti g t) := by
  refine PS_imp (ps_for hp hc hi hg hb hs) fun D σ H q => ?_
  obtain ⟨ρ, F, A, R, t0, k⟩ := q
  refine ⟨ρ, F, A.ex, _, R, t0, fun ds ρ1 t1 J F1 H1 R1 s1 w1 => ?_, k.ex σ⟩
  refine ⟨fun i m σ H => m = ds.length - i ∧ i ≤ ds.length ∧ ∃ ρ F2, Rel X.K B F2 H ρ σ ∧ Same F1 F2 ∧ aForL g t (ds.drop i) A ρ, ⟨_, rfl, Nat.zero_le _, ρ1, F1, R1, Same.refl _, t1⟩, ?_⟩
  rintro i m σ' H' ⟨rfl, hi, ρ2, F2, R2, s2, t2⟩
  by_cases hlt : i < ds.length
  · obtain ⟨d, hd⟩ : ∃ d, ds[i]? = some d := ⟨ds[i], by simp [hlt]⟩
    rw [drop_cons hd] at t2
    refine .inr ⟨w1.go i F2 H' s2 R2.fz hlt, fun σ3 H3 => ∃ ρ3 F3, Rel X.K B F3 H3 ρ3 σ3 ∧ Same F1 F3 ∧ aForL g t (ds.drop (i + 1)) A ρ3, fun σ3 H3 ⟨ρ3, F3, R3, s3, t3⟩ => ⟨_, by omega, rfl, hlt, ρ3, F3, R3, s3, t3⟩, fun x H4 y => ?_⟩
    obtain ⟨F4, R4, s4, p4⟩ := w1.item R2 s2 hd y
    refine ⟨ρ2, F4, d, _, R4, p4, t2, fun ρ5 σ5 F5 H5 n5 R5 s5 _ => ⟨ρ5, F5, _, R5, n5, ?_⟩⟩
    have s15 : Same F1 F5 := (s2.trans s4).trans s5
    have k5 := k.mono (s1.trans s15)
    exact ⟨fun ρ6 σ6 F6 H6 q6 R6 s6 => ⟨ρ6, F6, R6, s15.trans s6, q6⟩, k5.rt, k5.nx, fun ρ6 σ6 F6 H6 q6 R6 s6 => ⟨ρ6, F6, R6, s15.trans s6, q6⟩, k5.ex⟩
  · have e : i = ds.length := by omega
    subst e
    rw [List.drop_length] at t2
    exact .inl ⟨w1.stop _ F2 H' s2 R2.fz (Nat.le_refl _), k.nx ρ2 σ' F2 H' t2 R2 (s1.trans s2)⟩

/-! ### while -/
def aWhile (tt : AT) (t : AS) : AS := fun A ρ => ∃ Wm : Nat → List AV → Prop, (∃ m, Wm m ρ) ∧ ∀ m ρ, Wm m ρ → tt A.ex ρ fun b ρ' => if b = true then t { A with nx := fun ρ2 => ∃ m', m' < m ∧ Wm m' ρ2, ct := fun ρ2 => ∃ m', m' < m ∧ Wm m' ρ2, bk := A.nx } ρ' else A.nx ρ'
theorem ss_while (hp : PassesOwn (model X.prog X.w) X.A X.env X.xe) (hc : ST X B W c tt) (hb : SSs X B W sts t) : SS X B W (.While c sts [] pos) (aWhile tt t) := by
  refine PS_imp (ps_while hp hc hb) fun D σ H q => ?_
  obtain ⟨ρ, F, A, R, ⟨Wm, ⟨m0, w0⟩, turn⟩, k⟩ := q
  refine ⟨fun m σ H => ∃ ρ F2, Rel X.K B F2 H ρ σ ∧ Same F F2 ∧ Wm m ρ, ⟨m0, ρ, F, R, Same.refl _, w0⟩, ?_⟩
  rintro m σ' H' ⟨ρ2, F2, R2, s2, w2⟩
  refine ⟨ρ2, F2, A.ex, _, R2, turn m ρ2 w2, fun b ρ3 t3 F3 H3 R3 s3 => ?_, k.ex σ'⟩
  have k3 := k.mono (s2.trans s3)
  cases b with
  | false => exact k3.nx ρ3 σ' F3 H3 t3 R3 (Same.refl _)
  | true =>
    refine ⟨fun σ4 H4 => ∃ m', m' < m ∧ ∃ ρ4 F4, Rel X.K B F4 H4 ρ4 σ4 ∧ Same F F4 ∧ Wm m' ρ4, fun σ4 H4 q => q, ρ3, F3, _, R3, t3, ?_⟩
    refine ⟨fun ρ4 σ4 F4 H4 q4 R4 s4 => ?_, k3.rt, k3.nx, fun ρ4 σ4 F4 H4 q4 R4 s4 => ?_, k3.ex⟩
    · obtain ⟨m', hm, w4⟩ := q4
      exact ⟨m', hm, ρ4, F4, R4, (s2.trans s3).trans s4, w4⟩
    · obtain ⟨m', hm, w4⟩ := q4
      exact ⟨m', hm, ρ4, F4, R4, (s2.trans s3).trans s4, w4⟩
/-- while, by a word and a measure -/
theorem aWhile_by {tt : AT} {t : AS} {A : AEnds} {ρ : List AV} (I : List AV → Prop) (μ : List AV → Nat) (h0 : I ρ)
    (h : ∀ ρ, I ρ → tt A.ex ρ fun b ρ' => if b = true then t { A with nx := fun ρ2 => ∃ m', m' < μ ρ ∧ m' = μ ρ2 ∧ I ρ2, ct := fun ρ2 => ∃ m', m' < μ ρ ∧ m' = μ ρ2 ∧ I ρ2, bk := A.nx } ρ' else A.nx ρ') : aWhile tt t A ρ := by
  refine ⟨fun m ρ => m = μ ρ ∧ I ρ, ⟨_, rfl, h0⟩, ?_⟩
  rintro m ρ ⟨rfl, i⟩
  exact h ρ i
end
end PU
set_option Elab.async false
set_option linter.all false
set_option maxRecDepth 100000
namespace PU
open PySem PySem.Spec L2
set_option autoImplicit false

/-! ### comprehensions -/
@[simp] def wipeA (ρ : List AV) : List Nat → List AV
  | [] => ρ
  | v :: vs => (wipeA ρ vs).set v .un
@[simp] def keepV : Option AV → AV
  | some (.dat d) => .dat d
  | some .src => .src
  | _ => .un
@[simp] def unw (ρ ρ3 : List AV) : List Nat → List AV
  | [] => ρ3
  | v :: vs => (unw ρ ρ3 vs).set v (keepV ρ[v]?)
abbrev Bas.wP (B : Bas) (P : Hp) : Bas := { B with P := P }
section
variable {K : PySem.W.Frag} {B : Bas} {F F' H H' : Hp} {ρ ρ' : List AV} {σ σ' : L2.St}
theorem wipeA_len : ∀ vs : List Nat, (wipeA ρ vs).length = ρ.length
  | [] => rfl
  | v :: vs => by unfold wipeA; rw [List.length_set, wipeA_len vs]
theorem wipeA_get : ∀ {vs : List Nat} {i : Nat} {v : AV}, (wipeA ρ vs)[i]? = some v → v ≠ .un → i ∉ vs ∧ ρ[i]? = some v
  | [], _, _, h, _ => ⟨by simp, h⟩
  | v :: vs, i, x, h, n => by
    unfold wipeA at h
    rcases set_get h with ⟨rfl, z⟩ | ⟨m, z⟩
    · exact absurd z n
    · obtain ⟨h1, h2⟩ := wipeA_get z n
      exact ⟨by simp only [List.mem_cons, not_or]; exact ⟨m, h1⟩, h2⟩
theorem wipe_get : ∀ {vs : List Nat} {i : Nat}, i ∉ vs → (wipe σ vs)[i]? = σ[i]?
  | [], _, _ => rfl
  | v :: vs, i, h => by
    simp only [List.mem_cons, not_or] at h
    unfold wipe
    rw [List.getElem?_set_ne (Ne.symm h.1)]
    exact wipe_get h.2
theorem wipe_only : ∀ {vs : List Nat}, (∀ j, j ∉ vs → σ'[j]? = σ[j]?) → σ'.length = σ.length → wipe σ' vs = wipe σ vs := fun {vs} h hl => by
  have e : ∀ (τ : L2.St) (vs : List Nat) (i : Nat), i ∈ vs → (wipe τ vs)[i]? = if i < τ.length then some none else none := by
    intro τ vs
    induction vs with
    | nil => intro i hi; simp at hi
    | cons v vs ih =>
      intro i hi
      unfold wipe
      by_cases hv : v = i
      · subst hv
        by_cases hl : v < τ.length
        · rw [if_pos hl, List.getElem?_set_self (by rw [wipe_length]; exact hl)]
        · rw [if_neg hl, List.getElem?_eq_none (by rw [List.length_set, wipe_length]; omega)]
      · rw [List.getElem?_set_ne hv]
        exact ih i (by simpa [Ne.symm hv] using hi)
  apply List.ext_getElem?
  intro i
  by_cases hi : i ∈ vs
  · rw [e _ _ _ hi, e _ _ _ hi, hl]
  · rw [wipe_get hi, wipe_get hi, h i hi]
theorem Rel.wiped (R : Rel K B F H ρ σ) (vs : List Nat) : Rel K B F H (wipeA ρ vs) (wipe σ vs) := by
  refine ⟨R.toBse, by rw [wipeA_len, wipe_length]; exact R.len, fun i d e => ?_, fun i d e => ?_, fun i e => ?_, fun i j d e a n q q' r => ?_⟩
  · obtain ⟨h1, h2⟩ := wipeA_get e (fun z => nomatch z)
    rw [wipe_get h1]; exact R.sl i d h2
  · obtain ⟨h1, h2⟩ := wipeA_get e (fun z => nomatch z)
    rw [wipe_get h1]; exact R.ow i d h2
  · obtain ⟨h1, h2⟩ := wipeA_get e (fun z => nomatch z)
    rw [wipe_get h1]; exact R.so i h2
  · obtain ⟨h1, h2⟩ := wipeA_get q (fun z => nomatch z)
    obtain ⟨h3, h4⟩ := wipeA_get q' (fun z => nomatch z)
    rw [wipe_get h1] at r
    rw [wipe_get h3]
    exact R.ap i j d e a n h2 h4 r
theorem unw_len {ρ3 : List AV} : ∀ vs : List Nat, (unw ρ ρ3 vs).length = ρ3.length
  | [] => rfl
  | v :: vs => by unfold unw; rw [List.length_set, unw_len vs]
theorem unw_get {ρ3 : List AV} : ∀ {vs : List Nat} {i : Nat} {v : AV}, (unw ρ ρ3 vs)[i]? = some v → v ≠ .un → (i ∉ vs ∧ ρ3[i]? = some v) ∨ (ρ[i]? = some v ∧ (v = .src ∨ ∃ d, v = .dat d))
  | [], _, _, h, _ => .inl ⟨by simp, h⟩
  | v :: vs, i, x, h, n => by
    unfold unw at h
    rcases set_get h with ⟨rfl, z⟩ | ⟨m, z⟩
    · refine .inr ?_
      unfold keepV at z
      split at z
      · rename_i d hd
        exact ⟨by rw [hd, z], .inr ⟨d, z⟩⟩
      · rename_i hd
        exact ⟨by rw [hd, z], .inl z⟩
      · exact absurd z n
    · rcases unw_get z n with ⟨h1, h2⟩ | h2
      · exact .inl ⟨by simp only [List.mem_cons, not_or]; exact ⟨m, h1⟩, h2⟩
      · exact .inr h2
/-- back from a block -/
theorem Rel.unwiped {σ2 : L2.St} {ρ3 : List AV} {vs : List Nat} (R0 : Rel K B F H ρ σ) {B' : Bas} (hZ : B'.Z = B.Z) (R : Rel K B' F' H' ρ3 σ2) (s : Same F F') (o : ∀ j, j ∉ vs → σ2[j]? = σ[j]?) (ol : σ2.length = σ.length) : Rel K B' F' H' (unw ρ ρ3 vs) σ := by
  refine ⟨R.toBse, by rw [unw_len, ← R.len]; exact ol.symm, fun i d e => ?_, fun i d e => ?_, fun i e => ?_, fun i j d e a n q q' r => ?_⟩
  · rcases unw_get e (fun z => nomatch z) with ⟨h1, h2⟩ | ⟨h2, _⟩
    · rw [← o i h1]; exact R.sl i d h2
    · obtain ⟨v, x1, x2⟩ := R0.sl i d h2
      exact ⟨v, x1, x2.mono s⟩
  · rcases unw_get e (fun z => nomatch z) with ⟨h1, h2⟩ | ⟨h2, h3⟩
    · rw [← o i h1]; exact R.ow i d h2
    · rcases h3 with h3 | ⟨_, h3⟩ <;> cases h3
  · rcases unw_get e (fun z => nomatch z) with ⟨h1, h2⟩ | ⟨h2, h3⟩
    · rw [← o i h1]; exact R.so i h2
    · obtain ⟨s, c, x1, x2⟩ := R0.so i h2
      exact ⟨s, c, hZ.trans x1, x2⟩
  · rcases unw_get q (fun z => nomatch z) with ⟨h1, h2⟩ | ⟨h2, h3⟩
    · rcases unw_get q' (fun z => nomatch z) with ⟨h1', h2'⟩ | ⟨h2', h3'⟩
      · rw [← o i h1] at r
        rw [← o j h1']
        exact R.ap i j d e a n h2 h2' r
      · rcases h3' with h3 | ⟨_, h3⟩ <;> cases h3
    · rcases h3 with h3 | ⟨_, h3⟩ <;> cases h3
/-- a new object under protection -/
theorem Rel.protect (R : Rel K B F H ρ σ) {p : Addr} {o : HO} (h : H p = none) : Rel K (B.wP (upd B.P p o)) F (upd H p o) ρ σ := by
  have R' := R.allocO (o := o) h
  refine ⟨⟨R'.fz, R'.f0, R'.nf, R'.kp, R'.sr, fun b x e => ?_⟩, R'.len, R'.sl, fun i d e => ?_, R'.so, R'.ap⟩
  · have e : upd B.P p o b = some x := e
    by_cases hb : b = p
    · subst hb
      rw [upd_same] at e
      cases e
      exact ⟨upd_same, R.freeF h, R.toBse.free0 h⟩
    · rw [upd_ne hb] at e
      exact R'.pr b x e
  · obtain ⟨a, ho, h1, h2, h3, hP, h4, h5⟩ := R.ow i d e
    have n : a ≠ p := ne_of_none h4 h
    exact ⟨a, ho, h1, h2, h3, by show upd B.P p o a = none; rw [upd_ne n]; exact hP, by rw [upd_ne n]; exact h4, h5⟩
theorem Rel.reprotect {P : Hp} {p : Addr} {o o' : HO} (hP : P p = none) (R : Rel K (B.wP (upd P p o)) F H ρ σ) : Rel K (B.wP (upd P p o')) F (upd H p o') ρ σ := by
  obtain ⟨h1, h2, h3⟩ := R.pr p o upd_same
  have ns : NotSrc B.Z p := fun s c e => by
    obtain ⟨_, _, _, _, r1, r2⟩ := R.sr s c e
    exact ⟨fun z => r1 (z ▸ h3), fun z => r2 (z ▸ h3)⟩
  refine ⟨⟨fun b x e => ?_, R.f0, R.nf, fun b x e n => ?_, fun s c e => ?_, fun b x e => ?_⟩, R.len, R.sl, fun i d e => ?_, R.so, R.ap⟩
  · rw [upd_ne (ne_of_none e h2)]; exact R.fz b x e
  · rw [upd_ne (ne_of_none e h3)]; exact R.kp b x e n
  · obtain ⟨a, fs, fc, ne, r1, r2⟩ := R.sr s c e
    obtain ⟨n1, n2⟩ := ns s c e
    exact ⟨a.at (upd_ne (Ne.symm n1)) (upd_ne (Ne.symm n2)), fs, fc, ne, r1, r2⟩
  · have e : upd P p o' b = some x := e
    by_cases hb : b = p
    · subst hb
      rw [upd_same] at e
      cases e
      exact ⟨upd_same, h2, h3⟩
    · rw [upd_ne hb] at e
      obtain ⟨g1, g2, g3⟩ := R.pr b x (by show upd P p o b = some x; rw [upd_ne hb]; exact e)
      exact ⟨by rw [upd_ne hb]; exact g1, g2, g3⟩
  · obtain ⟨a, ho, g1, g2, g3, gP, g4, g5⟩ := R.ow i d e
    have n : a ≠ p := fun z => by
      have gP : upd P p o a = none := gP
      rw [z, upd_same] at gP
      cases gP
    have gP : upd P p o a = none := gP
    rw [upd_ne n] at gP
    exact ⟨a, ho, g1, g2, g3, by show upd P p o' a = none; rw [upd_ne n]; exact gP, by rw [upd_ne n]; exact g4, g5⟩
theorem Rel.release {p : Addr} {o : HO} (hP : B.P p = none) (R : Rel K (B.wP (upd B.P p o)) F H ρ σ) : Rel K B F H ρ σ ∧ FreshAt B F H ρ σ p o := by
  obtain ⟨h1, h2, h3⟩ := R.pr p o upd_same
  have own : ∀ (i : Nat) (d : D), ρ[i]? = some (.own d) → ∃ a ho, σ[i]? = some (some (.ref a)) ∧ F a = none ∧ B.H0 a = none ∧ B.P a = none ∧ H a = some ho ∧ OwnP K F ho d ∧ a ≠ p := fun i d e => by
    obtain ⟨a, ho, g1, g2, g3, gP, g4, g5⟩ := R.ow i d e
    have n : a ≠ p := fun z => by
      have gP : upd B.P p o a = none := gP
      rw [z, upd_same] at gP
      cases gP
    have gP : upd B.P p o a = none := gP
    rw [upd_ne n] at gP
    exact ⟨a, ho, g1, g2, g3, gP, g4, g5, n⟩
  refine ⟨⟨⟨R.fz, R.f0, R.nf, R.kp, R.sr, fun b x e => ?_⟩, R.len, R.sl, fun i d e => ?_, R.so, R.ap⟩, h2, h3, hP, h1, fun j e q z => ?_⟩
  · have n : b ≠ p := ne_of_none e hP
    exact R.pr b x (by show upd B.P p o b = some x; rw [upd_ne n]; exact e)
  · obtain ⟨a, ho, g1, g2, g3, gP, g4, g5, _⟩ := own i d e
    exact ⟨a, ho, g1, g2, g3, gP, g4, g5⟩
  · obtain ⟨a, ho, g1, g2, g3, gP, g4, g5, n⟩ := own j e q
    rw [g1] at z
    cases z
    exact n rfl
end
abbrev ownS (own : List (Str × Nat)) : List Nat := own.map (·.2)
def noEX : EK := fun _ _ => False
def W0 : WX := fun _ _ _ _ => False
def aLcL (g : AG) (tt : AT) (te : AE) (vs : List Nat) : List D → List D → List AV → (List D → List AV → Prop) → Prop
  | [], acc, ρ, Q => Q acc ρ
  | d :: ds, acc, ρ, Q => g d (wipeA ρ vs) fun ρ1 => tt noEX ρ1 fun b ρ2 => if b = true then te noEX ρ2 fun y ρ3 => acc.length < sizeLine ∧ aLcL g tt te vs ds (acc ++ [y]) (unw ρ ρ3 vs) Q else aLcL g tt te vs ds acc (unw ρ ρ2 vs) Q
@[simp] def aLc (ti : AI) (g : AG) (tt : AT) (te : AE) (vs : List Nat) : AE := fun EX ρ Q => ti EX ρ fun ds ρ' => aLcL g tt te vs ds [] ρ' fun acc ρ2 => Q (.lst acc) ρ2
@[simp] def aYes : AT := fun _ ρ Q => Q true ρ
def uE (K : PySem.W.Frag) (B : Bas) (t : AE) : TE := fun σ H Q => ∃ P, cE K (B.wP P) W0 t σ H Q
def uT (K : PySem.W.Frag) (B : Bas) (t : AT) : TT := fun σ H Q => ∃ P, cT K (B.wP P) W0 t σ H Q
def uG (K : PySem.W.Frag) (B : Bas) (vs : List Nat) (t : AG) : TG := fun v σ H Q => ∃ P, cG K (B.wP P) vs t v σ H Q
def STs (X : Cx) (B : Bas) (W : WX) (ifs : List Expr) (t : AT) : Prop := PTs X ifs (cT X.K B W t)
section
variable {X : Cx} {B : Bas} {W : WX} {a b c e tg iter elt : Expr} {es ifs : List Expr} {ta tb tc te : AE} {t u : AS} {tt : AT} {s : AA} {pos p : Pos} {ti : AI} {g : AG}
theorem sts_nil : STs X B W [] aYes := by
  refine ⟨fun pins s σ H Q I q => pts_nil.run pins s σ H Q I ?_⟩
  obtain ⟨ρ, F, EX, Q0, R, t, k, kx⟩ := q
  exact k _ ρ t F H R (Same.refl _)
theorem sts_one (h : ST X B W c tt) : STs X B W [c] tt := pts_one h
theorem PE_ex {T : Hp → TE} (h : ∀ P, PE X e (T P)) : PE X e (fun σ H Q => ∃ P, T P σ H Q) := ⟨fun pins s σ H Q I ⟨P, q⟩ => (h P).run pins s σ H Q I q⟩
theorem PG_ex {T : Hp → TG} (h : ∀ P, PG X e (T P)) : PG X e (fun v σ H Q => ∃ P, T P v σ H Q) := ⟨fun pins s σ H v u Q I r ⟨P, q⟩ => (h P).run pins s σ H v u Q I r q⟩
theorem PTs_ex {T : Hp → TT} (h : ∀ P, PTs X ifs (T P)) : PTs X ifs (fun σ H Q => ∃ P, T P σ H Q) := ⟨fun pins s σ H Q I ⟨P, q⟩ => (h P).run pins s σ H Q I q⟩

/-- the comprehension's concrete reading from its abstract one -/
theorem cLc {K : PySem.W.Frag} {vs : List Nat} {σ : L2.St} {H : Hp} {Q : VK} (q : cF K B W (aLc ti g tt te vs) σ H Q) : tLc (cI K B W ti) (uG K B vs g) (uT K B tt) (uE K B te) vs σ H Q := by
  obtain ⟨ρ, F, EX, Q0, R, t0, k, kx⟩ := q
  refine ⟨ρ, F, EX, _, R, t0, fun ds ρ1 t1 J F1 H1 R1 s1 w1 => ?_, kx⟩
  intro D hD
  have hP : B.P D = none := R1.toBse.freeP hD
  refine ⟨fun i m H => m = ds.length - i ∧ i ≤ ds.length ∧ ∃ ρ F2 av acc, Rel K (B.wP (upd B.P D (.lst av))) F2 H ρ σ ∧ Same F1 F2 ∧ DPs K F2 av acc ∧ aLcL g tt te vs (ds.drop i) acc ρ (fun acc ρ2 => Q0 (.lst acc) ρ2),
    ⟨_, rfl, Nat.zero_le _, ρ1, F1, [], [], R1.protect hD, Same.refl _, .nil, t1⟩, ?_⟩
  rintro i m H' ⟨rfl, hi, ρ2, F2, av, acc, R2, s2, p2, t2⟩
  by_cases hlt : i < ds.length
  · obtain ⟨d, hd⟩ : ∃ d, ds[i]? = some d := ⟨ds[i], by simp [hlt]⟩
    rw [drop_cons hd] at t2
    refine .inr ⟨w1.go i F2 H' s2 R2.fz hlt, fun H3 => ∃ ρ3 F3 av3 acc3, Rel K (B.wP (upd B.P D (.lst av3))) F3 H3 ρ3 σ ∧ Same F1 F3 ∧ DPs K F3 av3 acc3 ∧ aLcL g tt te vs (ds.drop (i + 1)) acc3 ρ3 (fun acc ρ2 => Q0 (.lst acc) ρ2),
      fun H3 ⟨ρ3, F3, av3, acc3, R3, s3, p3, t3⟩ => ⟨_, by omega, rfl, hlt, ρ3, F3, av3, acc3, R3, s3, p3, t3⟩, fun x H4 y => ?_⟩
    obtain ⟨F4, R4, s4, q4⟩ := w1.item R2 s2 hd y
    refine ⟨_, wipeA ρ2 vs, F4, d, _, R4.wiped vs, q4, t2, fun ρ5 σ5 F5 H5 n5 R5 s5 o5 => ?_⟩
    have o5' : ∀ j, j ∉ vs → σ5[j]? = σ[j]? := fun j hj => (o5.2 j hj).trans (wipe_get hj)
    have l5 : σ5.length = σ.length := o5.1.trans (wipe_length _ _)
    refine ⟨?_, ?_⟩
    · exact wipe_only o5' l5
    refine ⟨_, ρ5, F5, _, _, R5, n5, fun b ρ6 t6 F6 H6 R6 s6 => ?_, fun _ _ z => z.elim⟩
    have s16 : Same F1 F6 := ((s2.trans s4).trans s5).trans s6
    cases b with
    | false => exact ⟨_, F6, av, acc, R2.unwiped (B' := B.wP (upd B.P D (.lst av))) rfl R6 ((s4.trans s5).trans s6) o5' l5, s16, p2.mono ((s4.trans s5).trans s6), t6⟩
    | true =>
      refine ⟨_, ρ6, F6, _, _, R6, t6, fun y ρ7 t7 v F7 H7 R7 s7 q7 => ?_, fun _ _ z => z.elim⟩
      have s27 : Same F2 F7 := ((s4.trans s5).trans s6).trans s7
      have p7 := p2.mono s27
      refine ⟨av, (R7.pr D (.lst av) upd_same).1, by rw [p7.length]; exact t7.1, ?_⟩
      refine ⟨_, F7, av ++ [v], acc ++ [y], ?_, s2.trans s27, p7.append (.cons q7 .nil), t7.2⟩
      exact (R2.unwiped (B' := B.wP (upd B.P D (.lst av))) rfl R7 s27 o5' l5).reprotect hP
  · have e : i = ds.length := by omega
    subst e
    rw [List.drop_length] at t2
    obtain ⟨R3, f3⟩ := R2.release hP
    exact .inl ⟨w1.stop _ F2 H' s2 R2.fz (Nat.le_refl _), k _ ρ2 t2 D _ F2 H' R3 (s1.trans s2) f3 (.lst p2)⟩
theorem sf_lc {scope : Scope} {own : List (Str × Nat)} (hc : X.calm = true) (hN : X.N.Nodup) (hi : SI X B W tg iter ti) (ok : BlkOk X.N X.env.scope scope own)
    (hg : ∀ (s : Shared) (H : Hp) (C : Addr) (cl : List (Str × Addr)) (fp : List Addr) (P : Hp), SG (X.blk s H scope (compEnvC scope cl C X.env) fp) (B.wP P) (ownS own) tg g)
    (ht : ∀ (s : Shared) (H : Hp) (C : Addr) (cl : List (Str × Addr)) (fp : List Addr) (P : Hp), STs (X.blk s H scope (compEnvC scope cl C X.env) fp) (B.wP P) W0 ifs tt)
    (he : ∀ (s : Shared) (H : Hp) (C : Addr) (cl : List (Str × Addr)) (fp : List Addr) (P : Hp), SE (X.blk s H scope (compEnvC scope cl C X.env) fp) (B.wP P) W0 elt te) (hs : ∀ x, foldedSetIterable iter X.env x = pure x := by intro _; rfl) :
    SF X B W (.ListComp elt [⟨tg, iter, ifs, 0⟩] scope pos) (aLc ti g tt te (ownS own)) :=
  PE_imp (pe_lc (g := uG X.K B (ownS own) g) (tt := uT X.K B tt) (te := uE X.K B te) hc hN hi ok (fun s H C cl fp => PG_ex (T := fun P => cG X.K (B.wP P) (ownS own) g) fun P => hg s H C cl fp P) (fun s H C cl fp => PTs_ex (T := fun P => cT X.K (B.wP P) W0 tt) fun P => ht s H C cl fp P) (fun s H C cl fp => PE_ex (T := fun P => cE X.K (B.wP P) W0 te) fun P => he s H C cl fp P) hs) fun _ _ _ q => cLc q
/-- y = [..], y a local on the same row -/
theorem ps_lcS {i : Nat} {y : Str} {py : Pos} {scope : Scope} {own : List (Str × Nat)} {spos : Pos} (hc : X.calm = true) (hN : X.N.Nodup) (hy : X.N[i]? = some y) (hyl : X.env.scope.names.lookup y = some .local)
    (hsw : swapsWith (.ListComp elt [⟨tg, iter, ifs, 0⟩] scope pos) (some (.Name y py)) spos.line X.env = pure true) (hi : SI X B W tg iter ti) (ok : BlkOk X.N X.env.scope scope own)
    (hg : ∀ (s : Shared) (H : Hp) (C : Addr) (cl : List (Str × Addr)) (fp : List Addr) (P : Hp), SG (X.blk s H scope (compEnvC scope cl C X.env) fp) (B.wP P) (ownS own) tg g)
    (ht : ∀ (s : Shared) (H : Hp) (C : Addr) (cl : List (Str × Addr)) (fp : List Addr) (P : Hp), STs (X.blk s H scope (compEnvC scope cl C X.env) fp) (B.wP P) W0 ifs tt)
    (he : ∀ (s : Shared) (H : Hp) (C : Addr) (cl : List (Str × Addr)) (fp : List Addr) (P : Hp), SE (X.blk s H scope (compEnvC scope cl C X.env) fp) (B.wP P) W0 elt te) (hs : ∀ x, foldedSetIterable iter X.env x = pure x := by intro _; rfl) :
    PS X (.Assign [.Name y py] (.ListComp elt [⟨tg, iter, ifs, 0⟩] scope pos) spos) (tAsg (tLc (cI X.K B W ti) (uG X.K B (ownS own) g) (uT X.K B tt) (uE X.K B te) (ownS own)) (gName i)) :=
  ps_setLc hc hN hy hyl hsw hi ok (fun s H C cl fp => PG_ex (T := fun P => cG X.K (B.wP P) (ownS own) g) fun P => hg s H C cl fp P) (fun s H C cl fp => PTs_ex (T := fun P => cT X.K (B.wP P) W0 tt) fun P => ht s H C cl fp P) (fun s H C cl fp => PE_ex (T := fun P => cE X.K (B.wP P) W0 te) fun P => he s H C cl fp P) hs
theorem tLc_mono {wi : TI} {g : TG} {tt : TT} {te : TE} {vs : List Nat} {σ : L2.St} {H : Hp} {Q Q' : VK} (hw : ∀ R R' : It → Hp → Prop, (∀ J H, R J H → R' J H) → wi σ H R → wi σ H R') (hq : ∀ v H, Q v H → Q' v H) (h : tLc wi g tt te vs σ H Q) : tLc wi g tt te vs σ H Q' := by
  refine hw _ _ (fun J H1 h1 D hD => ?_) h
  obtain ⟨Wm, h0, turn⟩ := h1 D hD
  refine ⟨Wm, h0, fun i m H w => ?_⟩
  rcases turn i m H w with ⟨a, b⟩ | b
  · exact .inl ⟨a, hq _ _ b⟩
  · exact .inr b
theorem cI_mono {K : PySem.W.Frag} {σ : L2.St} {H : Hp} : ∀ R R' : It → Hp → Prop, (∀ J H, R J H → R' J H) → cI K B W ti σ H R → cI K B W ti σ H R' := by
  rintro R R' h ⟨ρ, F, EX, Q0, r, t, k, kx⟩
  exact ⟨ρ, F, EX, Q0, r, t, fun ds ρ' q J F' H' r' s' w' => h _ _ (k ds ρ' q J F' H' r' s' w'), kx⟩
theorem ss_setLcO {i : Nat} {y : Str} {py : Pos} {scope : Scope} {own : List (Str × Nat)} {spos : Pos} (hc : X.calm = true) (hN : X.N.Nodup) (hy : X.N[i]? = some y) (hyl : X.env.scope.names.lookup y = some .local)
    (hsw : swapsWith (.ListComp elt [⟨tg, iter, ifs, 0⟩] scope pos) (some (.Name y py)) spos.line X.env = pure true) (hi : SI X B W tg iter ti) (ok : BlkOk X.N X.env.scope scope own)
    (hg : ∀ (s : Shared) (H : Hp) (C : Addr) (cl : List (Str × Addr)) (fp : List Addr) (P : Hp), SG (X.blk s H scope (compEnvC scope cl C X.env) fp) (B.wP P) (ownS own) tg g)
    (ht : ∀ (s : Shared) (H : Hp) (C : Addr) (cl : List (Str × Addr)) (fp : List Addr) (P : Hp), STs (X.blk s H scope (compEnvC scope cl C X.env) fp) (B.wP P) W0 ifs tt)
    (he : ∀ (s : Shared) (H : Hp) (C : Addr) (cl : List (Str × Addr)) (fp : List Addr) (P : Hp), SE (X.blk s H scope (compEnvC scope cl C X.env) fp) (B.wP P) W0 elt te) (hs : ∀ x, foldedSetIterable iter X.env x = pure x := by intro _; rfl) :
    SS X B W (.Assign [.Name y py] (.ListComp elt [⟨tg, iter, ifs, 0⟩] scope pos) spos) (aSetO i (aLc ti g tt te (ownS own))) :=
  PS_imp (ps_lcS hc hN hy hyl hsw hi ok hg ht he hs) fun D σ H q => cLc (cSetO q)
theorem ss_setLc {i : Nat} {y : Str} {py : Pos} {scope : Scope} {own : List (Str × Nat)} {spos : Pos} (hc : X.calm = true) (hN : X.N.Nodup) (hy : X.N[i]? = some y) (hyl : X.env.scope.names.lookup y = some .local)
    (hsw : swapsWith (.ListComp elt [⟨tg, iter, ifs, 0⟩] scope pos) (some (.Name y py)) spos.line X.env = pure true) (hi : SI X B W tg iter ti) (ok : BlkOk X.N X.env.scope scope own)
    (hg : ∀ (s : Shared) (H : Hp) (C : Addr) (cl : List (Str × Addr)) (fp : List Addr) (P : Hp), SG (X.blk s H scope (compEnvC scope cl C X.env) fp) (B.wP P) (ownS own) tg g)
    (ht : ∀ (s : Shared) (H : Hp) (C : Addr) (cl : List (Str × Addr)) (fp : List Addr) (P : Hp), STs (X.blk s H scope (compEnvC scope cl C X.env) fp) (B.wP P) W0 ifs tt)
    (he : ∀ (s : Shared) (H : Hp) (C : Addr) (cl : List (Str × Addr)) (fp : List Addr) (P : Hp), SE (X.blk s H scope (compEnvC scope cl C X.env) fp) (B.wP P) W0 elt te) (hs : ∀ x, foldedSetIterable iter X.env x = pure x := by intro _; rfl) :
    SS X B W (.Assign [.Name y py] (.ListComp elt [⟨tg, iter, ifs, 0⟩] scope pos) spos) (aSet i (aLc ti g tt te (ownS own))) := by
  refine PS_imp (ps_lcS hc hN hy hyl hsw hi ok hg ht he hs) fun D σ H q => ?_
  obtain ⟨ρ, F, A, R, t, k⟩ := q
  refine cLc (Q := fun x H1 => gName i x σ H1 D.nx) ⟨ρ, F, A.ex, _, R, t, fun d ρ1 t1 a o F1 H1 R1 s1 f p1 => ?_, k.ex σ⟩
  exact k.nx _ _ _ H1 t1 ((R1.freezeX f).store (own_dp f.1 p1)) (s1.trans (same_upd f.1))
end
end PU
set_option Elab.async false
set_option linter.all false
set_option maxRecDepth 100000
namespace PU
open PySem PySem.Spec L2
set_option autoImplicit false

/-! ### a def by its body -/
@[simp] def startA (N : List Str) (ds : List D) : List AV := ds.map .dat ++ List.replicate (N.length - ds.length) .un
@[simp] def startZ (N : List Str) (ds : List D) : List AV := .src :: (ds.map .dat ++ List.replicate (N.length - (ds.length + 1)) .un)
@[simp] def runA (N : List Str) (t : AS) : AF := fun ds Q E => t { nx := fun _ => Q .non, rt := Q, ex := fun x _ => E x } (startA N ds)
@[simp] def runZ (N : List Str) (t : AS) : AF := fun ds Q E => t { nx := fun _ => Q .non, rt := Q, ex := fun x _ => E x } (startZ N ds)
theorem startA_get {N : List Str} {ds : List D} {i : Nat} {u : AV} (h : (startA N ds)[i]? = some u) : (i < ds.length ∧ ∃ d, ds[i]? = some d ∧ u = .dat d) ∨ u = .un := by
  unfold startA at h
  by_cases hi : i < ds.length
  · rw [List.getElem?_append_left (by simpa using hi), List.getElem?_map] at h
    cases e : ds[i]? with
    | none => rw [e] at h; cases h
    | some d => rw [e] at h; cases h; exact .inl ⟨hi, d, rfl, rfl⟩
  · rw [List.getElem?_append_right (by simpa using hi), List.getElem?_replicate] at h
    split at h
    · cases h; exact .inr rfl
    · cases h
theorem start_get {N : List Str} {vs : List V} {i : Nat} {v : V} (h : vs[i]? = some v) : (L2.start N vs)[i]? = some (some v) := by
  have hi : i < vs.length := (List.getElem?_eq_some_iff.mp h).1
  unfold L2.start
  rw [List.getElem?_append_left (by simpa using hi), List.getElem?_map, h]
  rfl
theorem rel_start {K : PySem.W.Frag} {ec : Str → Option Addr} {F H : Hp} {N : List Str} {vs : List V} {ds : List D} (b : Bse ⟨ec, none, fun _ => none, F, H⟩ F H) (p : DPs K F vs ds) (hl : ds.length ≤ N.length) :
    Rel K ⟨ec, none, fun _ => none, F, H⟩ F H (startA N ds) (L2.start N vs) := by
  refine ⟨b, ?_, fun i d e => ?_, fun i d e => ?_, fun i e => ?_, fun i j d e a n q q' r => ?_⟩
  · unfold L2.start startA
    simp [p.length]
  · rcases startA_get e with ⟨hi, d', h1, h2⟩ | h
    · cases h2
      obtain ⟨v, h3, h4⟩ := p.get h1
      exact ⟨v, start_get h3, h4⟩
    · cases h
  · rcases startA_get e with ⟨hi, d', h1, h2⟩ | h
    · cases h2
    · cases h
  · rcases startA_get e with ⟨hi, d', h1, h2⟩ | h
    · cases h2
    · cases h
  · rcases startA_get q with ⟨hi, d', h1, h2⟩ | h
    · cases h2
    · cases h
theorem startZ_get {N : List Str} {ds : List D} {i : Nat} {u : AV} (h : (startZ N ds)[i]? = some u) : (i = 0 ∧ u = .src) ∨ (∃ j, i = j + 1 ∧ j < ds.length ∧ ∃ d, ds[j]? = some d ∧ u = .dat d) ∨ u = .un := by
  unfold startZ at h
  cases i with
  | zero => simp at h; exact .inl ⟨rfl, h.symm⟩
  | succ j =>
    rw [List.getElem?_cons_succ] at h
    by_cases hi : j < ds.length
    · rw [List.getElem?_append_left (by simpa using hi), List.getElem?_map] at h
      cases e : ds[j]? with
      | none => rw [e] at h; cases h
      | some d => rw [e] at h; cases h; exact .inr (.inl ⟨j, rfl, hi, d, e, rfl⟩)
    · rw [List.getElem?_append_right (by simpa using hi), List.getElem?_replicate] at h
      split at h
      · cases h; exact .inr (.inr rfl)
      · cases h
theorem rel_startZ {K : PySem.W.Frag} {ec : Str → Option Addr} {F H : Hp} {N : List Str} {vs : List V} {ds : List D} {s c : Addr} (b : Bse ⟨ec, some (s, c), fun _ => none, F, H⟩ F H) (p : DPs K F vs ds) (hl : ds.length + 1 ≤ N.length) :
    Rel K ⟨ec, some (s, c), fun _ => none, F, H⟩ F H (startZ N ds) (L2.start N (.ref s :: vs)) := by
  refine ⟨b, ?_, fun i d e => ?_, fun i d e => ?_, fun i e => ?_, fun i j d e a n q q' r => ?_⟩
  · unfold L2.start startZ
    simp [p.length]
  · rcases startZ_get e with ⟨_, h⟩ | ⟨j, rfl, hj, d', h1, h2⟩ | h
    · cases h
    · cases h2
      obtain ⟨v, h3, h4⟩ := p.get h1
      exact ⟨v, start_get (by rw [List.getElem?_cons_succ]; exact h3), h4⟩
    · cases h
  · rcases startZ_get e with ⟨_, h⟩ | ⟨j, rfl, hj, d', h1, h2⟩ | h
    · cases h
    · cases h2
    · cases h
  · rcases startZ_get e with ⟨rfl, h⟩ | ⟨j, rfl, hj, d', h1, h2⟩ | h
    · exact ⟨s, c, rfl, start_get rfl⟩
    · cases h2
    · cases h
  · rcases startZ_get q with ⟨_, h⟩ | ⟨j, rfl, hj, d', h1, h2⟩ | h
    · cases h
    · cases h2
    · cases h
section
variable {P : Program} {w : World} {K : PySem.W.Frag} {mg : Str → Option Value} {base : Heap}
/-- what a body is asked to show -/
def BodyOk (P : Program) (w : World) (K : PySem.W.Frag) (mg : Str → Option Value) (base : Heap) (ec : Str → Option Addr) (qual : Str) (st : Stmt) (f : Addr) (N : List Str) (k : Nat) (t : AS) : Prop :=
  ∀ (cdv : Value) (A : Around) (outer : List Env) (s : Shared) (H : Hp) (E : XK) (B : Bas) (W : WX), B.ec = ec → RoomG k (A.deeper (PyProof.Rows.envOfC qual (defScope st) s.heap.objs.size f cdv)) →
    Takes (cxOf (L2.CX P w) P w K mg base N qual (defScope st) f cdv A outer s H E) W →
    SSs (cxOf (L2.CX P w) P w K mg base N qual (defScope st) f cdv A outer s H E) B W (defBody st) t
theorem okG_of {x qual : Str} {st : Stmt} {f : Addr} {fd : FuncData} {N ps : List Str} {k : Nat} {sp : Sp} (F : L2.Fun K x qual st f fd) (S : FnScope N ps (defScope st)) (len : ∀ vs H Q E, sp vs H Q E → vs.length = ps.length)
    (body_ok : ∀ (cdv : Value) (A : Around) (outer : List Env) (s : Shared) (H : Hp) (vs : List V) (Q : VK) (E : XK), RoomG k (A.deeper (PyProof.Rows.envOfC qual (defScope st) s.heap.objs.size f cdv)) → sp vs H Q E →
      ∃ t, PSs (cxOf (L2.CX P w) P w K mg base N qual (defScope st) f cdv A outer s H E) (defBody st) t ∧ t { nx := fun _ H' => Q .non H', rt := Q } (L2.start N vs) H) : FnG P w K mg base (k + 1) f fd ps sp := by
  obtain ⟨oc, od, kV, doc, pm, an, cdv, ct, osl, rfl, lk, hcd⟩ := F.ex
  exact fnG_of lk hcd S len fun A outer s H vs Q E hr hsp => body_ok cdv A outer s H vs Q E hr hsp
theorem def_ok {x qual : Str} {st : Stmt} {f : Addr} {fd : FuncData} {N ps : List Str} {k : Nat} {ec : Str → Option Addr} {t : AS} (F : Fun K x qual st f fd) (S : FnScope N ps (defScope st)) (hm : mg x = some (.ref f)) (bd : Binds K fd ps [])
    (body : BodyOk P w K mg base ec qual st f N k t) : DefOk P w K mg base x (k + 1) (spOf K ec ps.length (runA N t)) := by
  have hpl : ps.length ≤ N.length := by have := congrArg List.length S.pre; rw [List.length_take] at this; omega
  refine ⟨f, fd, ps, hm, F.kp, bd, okG_of F S (fun vs H Q E h => ?_) (fun cdv A outer s H vs Q E hr h => ?_)⟩
  · obtain ⟨F0, ds, Q0, E0, h1, h2, h3, _⟩ := h
    rw [h3.length, h1]
  · obtain ⟨F0, ds, Q0, E0, h1, h2, h3, h4, h5, h6⟩ := h
    refine ⟨_, body cdv A outer s H E ⟨ec, none, fun _ => none, F0, H⟩ (fun cls d _ H => E cls d H) rfl hr (takes_of rfl rfl rfl rfl), startA N ds, F0, _, rel_start h2 h3 (by omega), h4, ?_⟩
    refine ⟨fun ρ' σ' F' H' q R s' => h5 .non q .non F' H' R.toBse .non, h5, fun _ _ _ _ q => q.elim, fun _ _ _ _ q => q.elim, fun σ x ρ' q cls d F' H' R xp => h6 x q cls d F' H' R.toBse xp⟩
theorem def_okZ {x qual : Str} {st : Stmt} {f : Addr} {fd : FuncData} {N ps : List Str} {k n : Nat} {ec : Str → Option Addr} {t : AS} (F : Fun K x qual st f fd) (S : FnScope N ps (defScope st)) (hm : mg x = some (.ref f)) (bd : Binds K fd ps [])
    (hn : ps.length = n + 1) (body : BodyOk P w K mg base ec qual st f N k t) : DefOk P w K mg base x (k + 1) (spOfZ K ec n (runZ N t)) := by
  have hpl : ps.length ≤ N.length := by have := congrArg List.length S.pre; rw [List.length_take] at this; omega
  refine ⟨f, fd, ps, hm, F.kp, bd, okG_of F S (fun vs H Q E h => ?_) (fun cdv A outer s H vs Q E hr h => ?_)⟩
  · obtain ⟨s, c, vs', F0, ds, Q0, E0, rfl, h1, h2, h3, _⟩ := h
    rw [List.length_cons, h3.length, h1, hn]
  · obtain ⟨sa, c, vs', F0, ds, Q0, E0, rfl, h1, h2, h3, h4, h5, h6⟩ := h
    refine ⟨_, body cdv A outer s H E ⟨ec, some (sa, c), fun _ => none, F0, H⟩ (fun cls d _ H => E cls d H) rfl hr (takes_of rfl rfl rfl rfl), startZ N ds, F0, _, rel_startZ h2 h3 (by omega), h4, ?_⟩
    refine ⟨fun ρ' σ' F' H' q R s' => h5 .non q .non F' H' R.toBse .non, h5, fun _ _ _ _ q => q.elim, fun _ _ _ _ q => q.elim, fun σ x ρ' q cls d F' H' R xp => h6 x q cls d F' H' R.toBse xp⟩
theorem mod_const {X : Cx} {B : Bas} {W : WX} {x : Str} {v : V} {u : Value} {d : D} {pos : Pos} (hg : Gl X x) (hm : X.mg x = some u) (r : RelV v u) (h : ∀ F, DP X.K F v d) (hd : (x == ("__debug__" : Str)) = false := by decide) : SE X B W (.Name x pos) (aC d) :=
  se_c (pe_glob hg hm r hd) h
end
end PU
set_option Elab.async false
set_option linter.all false
set_option maxRecDepth 100000
namespace PU
open PySem PySem.Spec L2
set_option autoImplicit false

/-! ### exceptions with super().__init__(f); self.f = f -/
/-- the text of such an __init__ -/
def supB (f : Str) (a1 a2 a3 a4 a5 a6 b1 b2 b3 b4 : Pos) : List Stmt :=
  [.Expr (.Call (.Attribute (.Call (.Name "super" a1) [] [] a2) "__init__" a3) [.Name f a4] [] a5) a6, .Assign [.Attribute (.Name "self" b1) f b2] (.Name f b3) b4]
/-- what the written part says of the class at C, of its __init__ at fI (its code at cda, the cell of the class at cc) -/
structure ExcT (P : Program) (K : PySem.W.Frag) (mg : Str → Option Value) (C fI cda cc : Addr) (qual : Str) (pa : Arguments) (body : List Stmt) (sc : Scope) : Prop where
  cls : ∃ nm q N bs bm sn sub ab col dd k0 k1 k2 k3 k5, K.lookup C = some (excClassObj nm q C N bs bm true sn sub ab col dd k0 k1 k2 k3 k5 "ValueError.__new__") ∧ PySem.HandSPX.refsVE bm = true
  sa : PySem.W.findIn K (.ref C) "__setattr__" = some (some (.builtin "object.__setattr__"))
  ga : PySem.W.findIn K (.ref C) "__getattribute__" = some (some (.builtin "BaseException.__getattribute__"))
  gg : PySem.W.findIn K (.ref C) "__getattr__" = some none
  iC : PySem.W.findIn K (.ref C) "__init__" = some (some (.ref fI))
  tI : PySem.W.typeIn K (.ref fI) = some (.type "function")
  kC : PySem.W.keepIn K (.ref C) = true
  exC : PySem.W.subIn K (.ref C) (.type "BaseException") = some true
  tyC : PySem.W.typeIn K (.ref C) = some (.type "type")
  hdC : PySem.W.hasDictIn K C = true
  exi : PySem.W.excInitIn K C PySem.HandSPX.veTail "ValueError.__new__" = true
  sup : PySem.W.ks_superIn K C C "__init__" = some (some (.builtin "ValueError.__init__"))
  sbV : PySem.W.subIn K (.ref C) (.type "ValueError") = some true
  sbC : PySem.W.mroIn K C (.ref C) = some true
  opq : PySem.W.nsIn K cStatics "thirdparty.any" = some none
  fn : ∃ (oc : Value) (od : Option Addr) (kV doc pm : Value) (an : Option Addr) (ct : Value) (osl : Array (Option Value)), K.lookup fI = some ⟨oc, od, .func (PySem.W.ksFn "__init__" qual pa body sc .none kV doc pm an (.ref cda) ct cc), osl⟩
  cod : PySem.W.codeIn K (.ref cda) qual = true
  fil : ∃ ccl cdd vs ccs file tf, K.lookup cda = some ⟨ccl, cdd, .fields vs, ccs⟩ ∧ vs[2]? = some (.str file tf) ∧ ((P.main.file : Str) == file) = true
  cel : ∃ cl cld csl, K.lookup cc = some ⟨cl, cld, .cell (some (.ref C)), csl⟩
  top : (P.main.scope.names.lookup ("super" : Str)).isSome = false
  msup : mg "super" = none
/-- its scope, its parameters -/
structure IniS (f : Str) (pa : Arguments) (sc : Scope) (a1 a2 a3 a4 a5 a6 b1 b2 b3 b4 : Pos) : Prop where
  inter : ∀ qual L fI cdv cc, interactive (PySem.W.ksEnv qual sc L fI cdv cc) = false
  sw1 : ∀ qual L fI cdv cc, swapsWith (.Call (.Attribute (.Call (.Name "super" a1) [] [] a2) "__init__" a3) [.Name f a4] [] a5) none a6.line (PySem.W.ksEnv qual sc L fI cdv cc) = pure false
  sw2 : ∀ qual L fI cdv cc, swapsWith (.Name f b3) (some (.Attribute (.Name "self" b1) f b2)) b4.line (PySem.W.ksEnv qual sc L fI cdv cc) = pure false
  evl : ∀ qual L fI cdv cc, ∃ pl : Sem Bool, eval (.Call (.Attribute (.Call (.Name "super" a1) [] [] a2) "__init__" a3) [.Name f a4] [] a5) (PySem.W.ksEnv qual sc L fI cdv cc) = (do
    let ov ← attributeBase (.Call (.Name "super" a1) [] [] a2) "__init__" (PySem.W.ksEnv qual sc L fI cdv cc) (eval (.Call (.Name "super" a1) [] [] a2) (PySem.W.ksEnv qual sc L fI cdv cc))
    standAt a3.atName
    let (g, first) ← holding [ov] (getMethod ov "__init__" pl)
    callWith a5 g first (backTo a5 (starEach [.Name f a4] (PySem.W.ksEnv qual sc L fI cdv cc))) [])
  kd : sc.kind = .function
  co : sc.isCoroutine = false
  ge : sc.isGenerator = false
  nocell : ∀ x ∈ sc.names, x.2 ≠ .cell
  lself : sc.names.lookup ("self" : Str) = some .local
  lf : sc.names.lookup f = some .local
  lsup : sc.names.lookup ("super" : Str) = some .globalImplicit
  lcls : sc.names.lookup ("__class__" : Str) = some .free
  ne : f ≠ ("self" : Str)
  nd : (f == ("__debug__" : Str)) = false
  hd : ∃ ar, (pa.posonlyargs ++ pa.args).head? = some ar ∧ ar.arg = ("self" : Str)
  bnd : ∀ (q : Str) (body : List Stmt) (dV kV doc pm : Value) (an : Option Addr) (cdv ct : Value) (cc : Addr) (s : Shared) (x v : Value), BindsTo s (PySem.W.ksFn "__init__" q pa body sc .none kV doc pm an cdv ct cc) ⟨[x, v], []⟩ [(("self" : Str), x), (f, v)]
structure Ini1 (h₀ h' : Heap) (x C dx t1 : Addr) (f : Str) (v : Value) : Prop where
  keep : ∀ b o, h₀.get? b = some o → h'.get? b = some o
  obj : h'.get? x = some { cls := .ref C, dict := some dx, data := .fields #[.ref t1, .none, .none, .none, .bool false, .none] }
  dbig : h₀.objs.size ≤ dx
  dne : dx ≠ x
  ns : h'.Ns1 dx (fun y => if y = f then some v else none)
section
open PySem.W PySem.Calls PyProof.Rows PySem.HandSPX
variable {P : Program} {w : World} {A : Around} {E : Value → Shared → Prop} {R : Result → Shared → Prop} {s : Shared} {K : Frag} {mg : Str → Option Value} {base : Heap} {C fI cda cc : Addr} {qual f : Str} {pa : Arguments} {sc : Scope} {a1 a2 a3 a4 a5 a6 b1 b2 b3 b4 : Pos}
theorem ldK {M : Model} {env : Env} {m : Str → Option Value} {y : Str} {pos : Pos} {v : Value} {Q : Value → Shared → Prop} (hn : s.heap.Ns env.locals m) (hk : env.scope.kind = .function) (hl : env.kindOf y = some .local) (hd : (y == ("__debug__" : Str)) = false) (hv : m y = some v) (q : Q v s) :
    wpAny M A (eval (.Name y pos) env) Q E s := wpAny_Name (wpAny_loadName_local hk hl hn hv q) hd
theorem ini1 (T : ExcT P K mg C fI cda cc qual pa (supB f a1 a2 a3 a4 a5 a6 b1 b2 b3 b4) sc) (S : IniS f pa sc a1 a2 a3 a4 a5 a6 b1 b2 b3 b4) (Mo : L2.Mod K mg base) (noF : findIn K (.ref C) f = some none) {h₀ : Heap} {x t0 : Addr} {v : Value} (X0 : K.In h₀) (bk : ∀ b o, base.get? b = some o → h₀.get? b = some o)
    (k0 : ∀ b o, h₀.get? b = some o → s.heap.get? b = some o) (sz : h₀.objs.size ≤ s.heap.objs.size) (hlim : s.heap.NoLimit) (hx : s.heap.get? x = some (excO C t0)) (hx0 : h₀.get? x = none) (hroom : A.depth < recursionLimit)
    (hq : ∀ h' tk dx t1, Ini1 h₀ h' x C dx t1 f v → R (.ok (.ret .none)) { s with heap := h', toks := tk }) :
    codeAny (model P w) A (.call (.ref fI) ⟨[.ref x, v], []⟩) R s := by
  obtain ⟨oc, od, kV, doc, pm, an, ct, osl, ho⟩ := T.fn
  obtain ⟨ccl, cdd, vs, ccs, file, tf, hcode, hvs, hfile⟩ := T.fil
  obtain ⟨cl, cld, csl, hcel⟩ := T.cel
  obtain ⟨ar, har, hself⟩ := S.hd
  obtain ⟨nm, q, N, bs, bm, sn, sub, ab, col, dd, k1, k2, k3, k4, k5, hC, hbm⟩ := T.cls
  have hcl : clsIn K C = some { name := nm, bases := bs, mro := .ref C :: bm, ns := N, qualname := q, hasDict := true, slotNames := sn, subclasses := sub, abstract := ab, collection := col, hasDel := false } := by
    unfold clsIn
    rw [hC] <;> rfl
  refine ks_codeAny_call_defAt (fd := ksFn "__init__" qual pa _ sc .none kV doc pm an (.ref cda) ct cc) (body := supB f a1 a2 a3 a4 a5 a6 b1 b2 b3 b4) (binds := [(("self" : Str), .ref x), (f, v)]) hroom (k0 _ _ (X0 _ _ ho)) rfl hlim
    (codeRec_of (X0.keeps k0) T.cod) rfl (S.bnd _ _ .none _ _ _ _ _ _ _ _ _ _) S.nocell ?_ (fun h₁ hns hk₁ => ?_) S.co S.ge S.kd
  · intro y hy
    rcases List.mem_cons.mp hy with rfl | hy
    · exact S.lself
    · rcases List.mem_cons.mp hy with rfl | hy
      · exact S.lf
      · cases hy
  obtain ⟨L, eL⟩ : ∃ L, L = s.heap.objs.size := ⟨_, rfl⟩
  obtain ⟨m, em⟩ : ∃ m : Str → Option Value, m = fun y => [(("self" : Str), Value.ref x), (f, v)].reverse.lookup y := ⟨_, rfl⟩
  rw [← eL] at hns ⊢
  rw [← em] at hns
  have mself : m "self" = some (.ref x) := by
    rw [em]
    have e : (("self" : Str) == f) = false := by simpa using Ne.symm S.ne
    simp [List.lookup, e]
  have mf : m f = some v := by
    rw [em]
    simp [List.lookup]
  have hxL : x ≠ L := by rw [eL]; exact Nat.ne_of_lt (Heap.lt_size hx)
  have Fr1 : Fr h₀ L h₁ m := ⟨hns, fun b o e => hk₁ b o (k0 b o e), by rw [eL]; exact sz⟩
  have N1 : News h₀ L h₁ [(x, excObj C t0 none .none)] := fun p hp => by
    rcases List.mem_cons.mp hp with rfl | hp
    · exact ⟨hk₁ _ _ hx, hxL, hx0⟩
    · cases hp
  have X1 : K.In h₁ := X0.keeps Fr1.keep
  show _root_.PySem.wpAt (model P w) (A.deeper (ksEnv qual sc L fI (.ref cda) cc)) (.func (supB f a1 a2 a3 a4 a5 a6 b1 b2 b3 b4) (ksEnv qual sc L fI (.ref cda) cc)) (execs _ (ksEnv qual sc L fI (.ref cda) cc)) _ _ _
  obtain ⟨mb, hb1, hb2⟩ := Mo.blt
  have bk1 : ∀ b o, base.get? b = some o → h₁.get? b = some o := fun b o e => Fr1.keep b o (bk b o e)
  have hboot : bootBuiltins "super" = some (.type "super") := by decide +kernel
  obtain ⟨pl, hev⟩ := S.evl qual L fI (.ref cda) cc
  refine ks_wpAt_execs_cons (ks_wpAt_Expr_any (ks_wpAt_MethodCall (pl := pl) ?_ hev) (S.inter _ _ _ _ _) (S.sw1 _ _ _ _ _))
  refine ks_wpAt_super_base (env := ksEnv qual sc L fI (.ref cda) cc) (f := fI) (cc := cda) (ar := ar) S.lsup S.lcls (by decide +kernel) rfl (X1 _ _ ho) rfl har rfl (X1 _ _ hcode) rfl hvs hfile T.top ?_
  refine ks_loadName_global S.kd S.lsup (loadGlobal_builtin (env := ksEnv qual sc L fI (.ref cda) cc) (Mo.glob.keeps bk1) T.msup (hb1.keeps bk1) ((hb2 _ (by decide +kernel)).trans hboot) ⟨rfl, ?_⟩)
  refine wpAny_loadName_free S.kd S.lcls rfl ⟨_, X1 _ _ hcel, rfl⟩ ?_
  rw [hself]
  refine wpAny_loadName_local S.kd S.lself hns mself ?_
  refine ks_wpAny_isType_cls (X1 _ _ hC) rfl ⟨rfl, ?_⟩
  refine ks_wpAny_call_super (X1 _ _ hC) rfl (N1 _ List.mem_cons_self).1 rfl (fun c z => nomatch z) (looks_mroIn X1 T.sbC) (fun h2 e2 k2' => ?_)
  obtain ⟨Fr2, N2, _⟩ := ks_newsPush (s := { s with heap := h₁ }) Fr1 N1 rfl e2 k2'
  refine kxs_method kxs_ValueError (s := ⟨h2, _, _, _, _⟩) Fr2 X0 N2 List.mem_cons_self (InstAt.of_exc0 N2 (List.mem_cons_of_mem _ List.mem_cons_self)) T.opq T.sup T.sbV (by decide +kernel) (fun u h3 Fr3 N3 _ => ?_)
  refine kxs_callWith1 (i := "ValueError.__init__") N3 List.mem_cons_self (spliced_more (ldK (env := ksEnv qual sc L fI (.ref cda) cc) Fr3.ns S.kd S.lf S.nd mf (spliced_none ⟨kxs_at N3 List.mem_cons_self, ?_⟩)))
  have sol : [v].length ≤ sizeLine := by rw [sizeLine_eq]; exact (by decide : 1 ≤ 16777216)
  have nx : ∀ p ∈ [(x, excObj C t0 none .none)], p.1 ≠ x ∨ True := fun _ _ => .inr trivial
  have hu1 := (N3 _ List.mem_cons_self).1
  have hs1 := (N3 _ (List.mem_cons_of_mem _ List.mem_cons_self)).1
  have hx1 := (N3 _ (List.mem_cons_of_mem _ (List.mem_cons_of_mem _ List.mem_cons_self))).1
  have nu : u ≠ x := fun z => by
    rw [z, hx1] at hu1
    exact absurd (congrArg (fun o : Obj => o.cls) (Option.some.inj hu1)) (by simp)
  have ns : h₁.objs.size ≠ x := fun z => by
    rw [show (h₁.objs.size, ks_superObj C x C).1 = x from z, hx1] at hs1
    exact absurd (congrArg (fun o : Obj => o.cls) (Option.some.inj hs1)) (by simp)
  refine kxs_call (nw := fun o => [(u, kxs_mw "ValueError.__init__" x), (h₁.objs.size, ks_superObj C x C), (x, o)]) (s := ⟨h3, _, _, _, _⟩) Fr3 X0 N3 PySem.F.excBase_ValueError T.exi List.mem_cons_self (.tail nu (.tail ns (.head fun _ z => nomatch z))) sol (fun t1 h4 Fr4 N4 _ => ?_)
  have hx4 := (N4 (x, excObj C t1 none .none) (by simp)).1
  have X4 : K.In h4 := X0.keeps Fr4.keep
  show _root_.PySem.wpAt _ _ _ (execs _ _) _ _ _
  refine wpAt_of_wpAny (wpAny_execs_cons (plainObj_wpAny_Assign_Attribute ?_ (S.sw2 _ _ _ _ _)))
  refine ldK (env := ksEnv qual sc L fI (.ref cda) cc) Fr4.ns S.kd S.lf S.nd mf (ldK (env := ksEnv qual sc L fI (.ref cda) cc) Fr4.ns S.kd S.lself (by decide) mself ?_)
  refine set_plain (s := ⟨h4, _, _, _, _⟩) X4 (ox := excO C t1) (od := none) ⟨hx4, rfl, rfl, trivial⟩ T.sa ?_
  refine exc_osa X4 hx4 hcl (show refsVE (.ref C :: bm) = true from hbm) rfl noF (fun h5 tk5 dx k5' dn dne hx5 hn5 => ?_)
  show wpAny _ _ (execs _ _) _ _ _
  have z4 : L < h4.objs.size := Fr4.ns.lt
  refine wpAny_execs_nil (hq h5 tk5 dx t1 ⟨fun b o e => ?_, hx5, Nat.le_trans Fr4.above (Nat.le_of_lt (Nat.lt_of_lt_of_le z4 dn)), dne, hn5⟩)
  exact k5' b o (fun z => by rw [z, hx0] at e; cases e) (Fr4.keep b o e)
end

/-- a made exception -/
structure MadeX (h h' : Heap) (e C d : Addr) (f : Str) (v : Value) : Prop where
  keep : ∀ b o, h.get? b = some o → h'.get? b = some o
  new : h.objs.size ≤ e
  obj : ∃ oe vs, h'.get? e = some oe ∧ oe.cls = .ref C ∧ oe.dict = some d ∧ oe.data = .fields vs ∧ vs[1]? = some .none
  dbig : h.objs.size ≤ d
  dne : d ≠ e
  ns : h'.Ns1 d (fun y => if y = f then some v else none)
section
open PySem.W PySem.Calls PyProof.Rows PySem.HandSPX
variable {P : Program} {w : World} {A : Around} {E : Value → Shared → Prop} {R : Result → Shared → Prop} {s : Shared} {K : Frag} {mg : Str → Option Value} {base : Heap} {C fI cda cc : Addr} {qual f : Str} {pa : Arguments} {sc : Scope} {a1 a2 a3 a4 a5 a6 b1 b2 b3 b4 : Pos}
theorem made1 (T : ExcT P K mg C fI cda cc qual pa (supB f a1 a2 a3 a4 a5 a6 b1 b2 b3 b4) sc) (S : IniS f pa sc a1 a2 a3 a4 a5 a6 b1 b2 b3 b4) (Mo : L2.Mod K mg base) (noF : findIn K (.ref C) f = some none) {v : Value} (X : K.In s.heap) (bk : ∀ b o, base.get? b = some o → s.heap.get? b = some o) (hlim : s.heap.NoLimit) (hroom : A.depth + 1 < recursionLimit)
    (hq : ∀ h' tk e d, MadeX s.heap h' e C d f v → R (.ok (.ret (.ref e))) { s with heap := h', toks := tk }) : codeAny (model P w) A (.call (.ref C) ⟨[v], []⟩) R s := by
  obtain ⟨nm, q, N, bs, bm, sn, sub, ab, col, dd, k0, k1, k2, k3, k5, hC, hbm⟩ := T.cls
  obtain ⟨hp, g, dr, tk, os⟩ := s
  have k : ∀ b o, hp.get? b = some o → ((hp.push (kdv_tup [v])).push (excO C hp.objs.size)).get? b = some o := fun b o e => Heap.get?_push_of_some _ (Heap.get?_push_of_some _ e)
  have hget : ((hp.push (kdv_tup [v])).push (excO C hp.objs.size)).get? (hp.objs.size + 1) = some (excO C hp.objs.size) := by heap_get
  have hnx : hp.get? (hp.objs.size + 1) = none := by
    cases e : hp.get? (hp.objs.size + 1) with
    | none => rfl
    | some o => exact absurd (Nat.lt_of_succ_lt (Heap.lt_size e)) (Nat.lt_irrefl _)
  have sol : [v].length ≤ sizeLine := by rw [sizeLine_eq]; exact (by decide : 1 ≤ 16777216)
  refine call_own F.excBase_ValueError (fun X => refsVE_contains X bm hbm) (X _ _ hC) (looks_findIn X T.iC) (fun self => bind_fn X self T.tI) sol ?_
  refine ini1 (s := ⟨(hp.push (kdv_tup [v])).push (excO C hp.objs.size), g, dr, tk, os⟩) T S Mo noF (h₀ := hp) X bk k ?_ (hlim.keeps k) hget hnx ?_ fun h' tk' dx t1 I => ?_
  · rw [Heap.size_push, Heap.size_push]; omega
  · show A.depth + 1 < recursionLimit
    exact hroom
  · exact ⟨rfl, hq h' tk' (hp.objs.size + 1) dx ⟨I.keep, Nat.le_succ _, ⟨_, _, I.obj, rfl, rfl, rfl, rfl⟩, I.dbig, I.dne, I.ns⟩⟩
end
section
open PyProof.Rows
theorem relO_one {v : V} {v' : Value} {y : Str} (r : RelV v v') (f : Str) : RelO (List.lookup f [(y, v)]) (if f = y then some v' else none) := by
  by_cases hw : f = y
  · subst hw
    rw [if_pos rfl]
    have q : List.lookup f [(f, v)] = some v := by simp [List.lookup]
    rw [q]
    exact r
  · rw [if_neg hw]
    have qw : (f == y) = false := by simpa using hw
    have q2 : List.lookup f [(y, v)] = none := by simp [List.lookup, qw]
    rw [q2]
    trivial
variable {X : Cx} {C fI cda cc : Addr} {qual f cn : Str} {pa : Arguments} {sc : Scope} {body : List Stmt} {a1 a2 a3 a4 a5 a6 b1 b2 b3 b4 : Pos}
/-- cn(e): the class's facts, its room -/
structure Exc1 (P : Program) (K : PySem.W.Frag) (mg : Str → Option Value) (base : Heap) (cn f : Str) (C : Addr) : Prop where
  gC : mg cn = some (.ref C)
  noF : PySem.W.findIn K (.ref C) f = some none
  te : PySem.W.exmOne K (.ref C) (.ref C) = some true
  made : ∃ fI cda cc qual pa sc a1 a2 a3 a4 a5 a6 b1 b2 b3 b4, ExcT P K mg C fI cda cc qual pa (supB f a1 a2 a3 a4 a5 a6 b1 b2 b3 b4) sc ∧ IniS f pa sc a1 a2 a3 a4 a5 a6 b1 b2 b3 b4
/-- cn(e) -/
def tMk1 (f : Str) (C : Addr) (ta : TA) : L2.St → Hp → XK → Prop := fun σ H Q => ta σ H fun vs H1 => ∃ v, vs = [v] ∧ ∀ d, H1 d = none → Q (.ref C) (some d) (upd H1 d (.xd [(f, v)]))
theorem pmk1 {a : Expr} {ta : TA} {p pos : Pos} {k : Nat} (T : Exc1 X.prog X.K X.mg X.base cn f C) (hr : Room k X.A) (ha : PA X [a] ta) (hg : Gl X cn) (hdb : (cn == ("__debug__" : Str)) = false := by decide)
    (he : starEach (a :: []) X.env = (false, eval a X.env) :: starEach [] X.env := by rfl) (hpl : (backTo pos (starEach [] X.env)).any (·.1) = false := by rfl) :
    PMk X (.Call (.Name cn p) [a] [] pos) (tMk1 f C ta) := by
  intro pins s σ H Q I h
  obtain ⟨fI, cda, cc, qual, pa, sc, a1, a2, a3, a4, a5, a6, b1, b2, b3, b4, T1, S1⟩ := T.made
  refine wpAny_Call_Name_kw (ld_glob I hg T.gC ?_ hdb)
  refine PySem.W.callWith_K (h₀ := X.base) I.ok.mod.kin T1.kC (thn (ha.run pos pins s σ H _ I h) fun us s1 hh => ?_) he hpl
  obtain ⟨vs, H1, I1, r1, v, ev, q1⟩ := hh
  subst ev
  refine ⟨I1.kIn, ?_⟩
  cases r1 with
  | cons rv rn =>
    rename_i v' us'
    cases rn
    show wpAny _ _ (call (.ref C) [v']) _ _ _
    have hlim := I1.nolimit
    have hbk := I1.bk
    obtain ⟨hp, g, dr, tk, os⟩ := s1
    refine wpAny_call (made1 T1 S1 I1.ok.mod T.noF I1.kIn hbk hlim (by have := hr.dp; omega) fun h' tk' e d M => ?_)
    show MkP X pins σ Q (.ref e) ⟨h', g, dr, tk', os⟩
    obtain ⟨oe, fv, hoe, hc, hd, hdat, h1⟩ := M.obj
    have hns := M.ns
    obtain ⟨G', g1, g2⟩ := restrict h' fun b => decide (b ≠ e)
    have gk : ∀ b, b ≠ e → G'.get? b = h'.get? b := fun b hb => g1 b (decide_eq_true hb)
    have ge : G'.get? e = none := g2 e (by simp)
    have old : ∀ b o, hp.get? b = some o → G'.get? b = some o := fun b o q => (gk b (Nat.ne_of_lt (Nat.lt_of_lt_of_le (Heap.lt_size q) M.new))).trans (M.keep b o q)
    have ob : ObjOk X.prog X.w (upd H1 d (.xd [(f, v)])) G' d (.xd [(f, v)]) := ⟨_, hns.at (fun o q => (gk d M.dne).trans q), fun g => relO_one rv g⟩
    have J : Inv X pins σ (upd H1 d (.xd [(f, v)])) ⟨G', g, dr, tk', os⟩ := I1.laid (t' := tk') old M.dbig ob
    refine ⟨e, oe, fv, ⟨G', g, dr, tk', os⟩, _, .ref C, some d, rfl, J, fun b o q => ?_, ge, hoe, ⟨hc, hd⟩, hdat, h1, ?_, rfl, I1.bare, raises_own T1.exC T1.tyC, q1 d (I1.hok.fresh M.dbig)⟩
    · by_cases hb : b = e
      · have q' : G'.get? b = some o := q
        rw [hb, ge] at q'; cases q'
      · exact (gk b hb).symm.trans q
    · rw [upd_ne (Ne.symm M.dne)]
      exact I1.hok.fresh M.new
/-- e.f in the suite that holds the exception at a -/
def tField (f : Str) (C : Addr) (a : Addr) (cls : Value) (d : Option Addr) (te : TE) : TE := fun σ H Q => te σ H fun x H1 => x = .ref a ∧ cls = .ref C ∧ ∃ (dd : Addr) (vs : List (Str × V)) (v : V), d = some dd ∧ H1 dd = some (.xd vs) ∧ List.lookup f vs = some v ∧ Q v H1
theorem pe_field {a : Addr} {oe : Obj} {cls : Value} {d : Option Addr} {pn : List (Addr × Obj)} {e : Expr} {te : TE} {pos : Pos} (T : Exc1 X.prog X.K X.mg X.base cn f C) (hz : Zc cls d oe) (hf : ∃ vs, oe.data = .fields vs) (he : PE (X.suite a ((a, oe) :: pn)) e te)
    (hb : attributeBase e f X.env (eval e X.env) = eval e X.env := by rfl) : PE (X.suite a ((a, oe) :: pn)) (.Attribute e f pos) (tField f C a cls d te) := by
  refine ⟨fun pins s σ H Q I h => ?_⟩
  obtain ⟨fI, cda, cc, qual, pa, sc, a1, a2, a3, a4, a5, a6, b1, b2, b3, b4, T1, S1⟩ := T.made
  refine attr_of hb (thn (he.run pins s σ H _ I h) fun u s1 hh => ?_)
  obtain ⟨x, H1, I1, rx, ex, ec, dd, vl, v, ed, ea, l, q⟩ := hh
  subst ex
  obtain rfl : u = Value.ref a := rx
  subst ec
  subst ed
  obtain ⟨ha, _⟩ := I1.pin (a, oe) (List.mem_append_left _ List.mem_cons_self)
  obtain ⟨vs, hd⟩ := hf
  have hx : ObjOk X.prog X.w H1 s1.heap dd (.xd vl) := I1.hok dd _ ea
  obtain ⟨mA, hns, hr⟩ := hx
  obtain ⟨od, ho, hl⟩ := lookIn_ns hns
  obtain ⟨u, hu, ru⟩ := RelO.some_of (v := v) (o := mA f) (by rw [← l]; exact hr f)
  have J : PySem.W.InstAt s1.heap a oe C (some od) := ⟨ha, hz.1, by unfold PySem.W.notCls; rw [hd] <;> rfl, by rw [hz.2]; exact ho⟩
  exact HandSPX.exc_get I1.kIn J T1.ga T1.gg T1.exC (PySem.W.findObj_own T1.hdC T.noF rfl (by rw [hl, hu])) (handed_of ru) ⟨v, H1, I1.tok _, ru, q⟩
end

/-! ### raise -/
section
variable {X : Cx} {B : Bas} {W : WX} {a : Expr} {s : AA} {C : Addr} {cn f : Str}
@[simp] def aRaise1 (cn f : Str) (s : AA) : AS := fun A ρ => s A.ex ρ fun ds ρ' => ∃ d, ds = [d] ∧ A.ex ⟨cn, [(f, d)]⟩ ρ'
theorem ss_raise1 {p pos pos2 : Pos} {k : Nat} {ec : Str → Option Addr} (hB : B.ec = ec) (hc : X.calm = true) (T : Exc1 X.prog X.K X.mg X.base cn f C) (hec : ec cn = some C) (hr : Room k X.A) (tk : Takes X W) (ha : SA X B W [a] s) (hg : Gl X cn) (hdb : (cn == ("__debug__" : Str)) = false := by decide)
    (he : starEach (a :: []) X.env = (false, eval a X.env) :: starEach [] X.env := by rfl) (hpl : (backTo pos (starEach [] X.env)).any (·.1) = false := by rfl) : SS X B W (.Raise (some (.Call (.Name cn p) [a] [] pos)) none pos2) (aRaise1 cn f s) := by
  subst hB
  refine PS_imp (ps_raise hc tk (pmk1 T hr ha hg hdb he hpl)) fun D σ H q => ?_
  obtain ⟨ρ, F, A, R, t, k⟩ := q
  refine ⟨ρ, F, A.ex, _, R, t, fun ds ρ1 t1 vs F1 H1 R1 s1 p1 => ?_, k.ex σ⟩
  obtain ⟨d, rfl, t1⟩ := t1
  obtain ⟨v, rfl, pv⟩ := dps1 p1
  refine ⟨v, rfl, fun dd hd => ?_⟩
  have sm : ∀ o, Same F1 (upd F1 dd o) := fun o => same_upd (R1.freeF hd)
  exact k.ex σ _ ρ1 t1 _ _ _ _ (R1.alloc hd) ⟨C, hec, rfl, .inr ⟨dd, _, rfl, upd_same, .cons (pv.mono (sm _)) .nil⟩⟩
end
end PU
set_option Elab.async false
set_option linter.all false
set_option maxRecDepth 100000
namespace PU
open PySem PySem.Spec L2
set_option autoImplicit false

/-! ### try: .. except n as e: .. -/
abbrev Bas.upF (B : Bas) (F : Hp) : Bas := { B with F0 := F }
section
variable {K : PySem.W.Frag} {B : Bas} {F F' H H' : Hp} {ρ ρ' : List AV} {σ σ' : L2.St}
theorem Bse.up (R : Bse B F H) : Bse (B.upF F) F H := ⟨R.fz, Same.refl _, fun b h => .inl h, R.kp, R.sr, R.pr⟩
theorem Bse.down (R : Bse B F H) (S : Bse (B.upF F) F' H') : Bse B F' H' :=
  ⟨S.fz, R.f0.trans S.f0, fun b h => (S.nf b h).elim (fun z => R.nf b z) .inr, S.kp, S.sr, S.pr⟩
theorem Rel.up (R : Rel K B F H ρ σ) : Rel K (B.upF F) F H ρ σ := ⟨R.toBse.up, R.len, R.sl, R.ow, R.so, R.ap⟩
theorem Rel.down (R : Bse B F H) (S : Rel K (B.upF F) F' H' ρ' σ') : Rel K B F' H' ρ' σ' := ⟨R.down S.toBse, S.len, S.sl, S.ow, S.so, S.ap⟩
/-- a slot is emptied -/
theorem Rel.forget (R : Rel K B F H ρ σ) (i : Nat) : Rel K B F H (ρ.set i .un) (σ.set i none) := by
  refine ⟨R.toBse, by rw [List.length_set, List.length_set]; exact R.len, fun j d q => ?_, fun j d q => ?_, fun j q => ?_, fun j k d e a n q q' r => ?_⟩
  · rcases set_get q with ⟨rfl, z⟩ | ⟨n, z⟩
    · cases z
    · rw [List.getElem?_set_ne (Ne.symm n)]; exact R.sl j d z
  · rcases set_get q with ⟨rfl, z⟩ | ⟨n, z⟩
    · cases z
    · rw [List.getElem?_set_ne (Ne.symm n)]; exact R.ow j d z
  · rcases set_get q with ⟨rfl, z⟩ | ⟨n, z⟩
    · cases z
    · rw [List.getElem?_set_ne (Ne.symm n)]; exact R.so j z
  · rcases set_get q with ⟨rfl, z⟩ | ⟨m, z⟩
    · cases z
    · rcases set_get q' with ⟨rfl, z'⟩ | ⟨m', z'⟩
      · cases z'
      · rw [List.getElem?_set_ne (Ne.symm m)] at r
        rw [List.getElem?_set_ne (Ne.symm m')]
        exact R.ap j k d e a n z z' r
end
/-- what the suite knows of its exception -/
def HoldX (K : PySem.W.Frag) (B : Bas) (x : XE) (cls : Value) (d : Option Addr) : Prop := ∃ H, XP K B.ec x cls d B.F0 H
/-- the clause asked of the classes that may come -/
def XmOk (K : PySem.W.Frag) (ec : Str → Option Addr) (c : Value) (m : Str → Bool) : Prop := ∀ n C, ec n = some C → PySem.W.exmOne K (.ref C) c = some (m n)
theorem PSs_ex {α : Type} {X : Cx} {st : List Stmt} {T : α → TS} {P : α → Prop} (h : ∀ a, P a → PSs X st (T a)) : PSs X st (fun D σ H => ∃ a, P a ∧ T a D σ H) :=
  ⟨fun pins s σ H D I q => let ⟨a, p, q⟩ := q; (h a p).run pins s σ H D I q⟩
theorem DPf.lookup {K : PySem.W.Frag} {F : Hp} {f : Str} {d : D} : ∀ {vs : List (Str × V)} {ds : List (Str × D)}, DPf K F vs ds → ds.lookup f = some d → ∃ v, vs.lookup f = some v ∧ DP K F v d
  | _, _, .nil, h => by cases h
  | _, _, .cons (k := k) h t, q => by
    by_cases e : (f == k) = true
    · simp only [List.lookup, e] at q ⊢
      cases q
      exact ⟨_, rfl, h⟩
    · have e' : (f == k) = false := by simpa using e
      simp only [List.lookup, e'] at q ⊢
      exact DPf.lookup t q
theorem DPf.mono {K : PySem.W.Frag} {F F' : Hp} (e : Same F F') : ∀ {vs : List (Str × V)} {ds : List (Str × D)}, DPf K F vs ds → DPf K F' vs ds
  | _, _, .nil => .nil
  | _, _, .cons h t => .cons (h.mono e) (DPf.mono e t)
theorem dp_con {K : PySem.W.Frag} {F : Hp} {x v : V} (h : DP K F x (.con v)) : x = v := by cases h; rfl
section
variable {X : Cx} {B : Bas} {W : WX} {body suite : List Stmt} {b₀ : Stmt} {t : AS} {su : XE → Addr → AS} {C : Addr} {cn f : Str}
@[simp] def aTry (m : Str → Bool) (i : Nat) (t : AS) (su : XE → Addr → AS) : AS := fun A ρ =>
  t { A with ex := fun x ρ' => if m x.cls = true then ∀ a, su x a { nx := fun ρ2 => A.nx (ρ2.set i .un), rt := A.rt, bk := fun ρ2 => A.bk (ρ2.set i .un), ct := fun ρ2 => A.ct (ρ2.set i .un) } (ρ'.set i (.dat (.con (.ref a)))) else A.ex x ρ' } ρ
theorem ss_try {x n : Str} {c : Value} {i : Nat} {m : Str → Bool} {np pos pos' : Pos} {ec : Str → Option Addr} (hB : B.ec = ec) (hs : X.stack = X.env :: X.outer) (hf : X.env.frame = some X.env.locals) (hN : X.N.Nodup) (hi : X.N[i]? = some n) (hln : X.env.kindOf n = some .local) (hc : Names X x c) (tk : Takes X W) (hm : XmOk X.K ec c m)
    (hb : ∀ (B' : Bas) (W' : WX) (pn : List (Addr × Obj)) (xe : Value → Shared → Prop), B'.ec = ec → Takes (X.tr pn xe) W' → PassesOwn (model X.prog X.w) X.A X.env xe → SSs (X.tr pn xe) B' W' body t)
    (hsu : ∀ (x : XE) (B' : Bas) (a : Addr) (oe : Obj) (cls : Value) (d : Option Addr) (pn : List (Addr × Obj)), B'.ec = ec → m x.cls = true → HoldX X.K B' x cls d → Zc cls d oe → (∃ vs, oe.data = .fields vs) → SSs (X.suite a ((a, oe) :: pn)) B' W0 (b₀ :: suite) (su x a)) :
    SS X B W (.Try body [.ExceptHandler (some (.Name x np)) (some n) (b₀ :: suite) pos'] [] [] pos) (aTry m i t su) := by
  subst hB
  refine PS_imp (ps_try_as (i := i) (tb := fun W' D σ H => ∃ B' : Bas, B'.ec = B.ec ∧ cS X.K B' W' t D σ H) (ts := fun a cls d D σ H => ∃ p : XE × Bas, (p.2.ec = B.ec ∧ m p.1.cls = true ∧ HoldX X.K p.2 p.1 cls d) ∧ cS X.K p.2 W0 (su p.1 a) D σ H) (Wout := W) hs hf hN hi hln hc tk
    (fun W' pn xe tk' po => PSs_ex fun B' hB' => hb B' W' pn xe hB' tk' po) (fun a oe cls d pn hz hd => PSs_ex fun p hp => hsu p.1 p.2 a oe cls d pn hp.1 hp.2.1 hp.2.2 hz hd)) fun D σ H q => ?_
  obtain ⟨ρ, F, A, R, t0, k⟩ := q
  have RB := R.toBse
  refine ⟨B.upF F, rfl, ρ, F, _, R.up, t0, ⟨fun ρ2 σ2 F2 H2 q2 R2 s2 => k.nx ρ2 σ2 F2 H2 q2 (R2.down RB) s2, fun d2 q2 v2 F2 H2 R2 p2 => k.rt d2 q2 v2 F2 H2 (RB.down R2) p2,
    fun ρ2 σ2 F2 H2 q2 R2 s2 => k.bk ρ2 σ2 F2 H2 q2 (R2.down RB) s2, fun ρ2 σ2 F2 H2 q2 R2 s2 => k.ct ρ2 σ2 F2 H2 q2 (R2.down RB) s2, fun σ1 y ρ1 hy cls d F1 H1 R1 hx => ?_⟩⟩
  have s1 : Same F F1 := R1.f0
  have RB1 : Bse B F1 H1 := RB.down R1.toBse
  obtain ⟨Cy, hCy, rfl, hfs⟩ := hx
  refine ⟨m y.cls, hm _ _ hCy, fun hmt a ha => ?_, fun hmf => ?_⟩
  · have hy' := hy
    simp only [hmt, if_true] at hy'
    refine ⟨(y, B.upF F1), ⟨rfl, hmt, H1, Cy, hCy, rfl, hfs⟩, _, F1, _, ((R1.down RB).up).store (.con _), hy' a, ?_⟩
    refine ⟨fun ρ2 σ2 F2 H2 q2 R2 s2 => k.nx _ _ F2 H2 q2 ((R2.down RB1).forget i) (s1.trans s2), fun d2 q2 v2 F2 H2 R2 p2 => k.rt d2 q2 v2 F2 H2 (RB1.down R2) p2,
      fun ρ2 σ2 F2 H2 q2 R2 s2 => k.bk _ _ F2 H2 q2 ((R2.down RB1).forget i) (s1.trans s2), fun ρ2 σ2 F2 H2 q2 R2 s2 => k.ct _ _ F2 H2 q2 ((R2.down RB1).forget i) (s1.trans s2), fun _ _ _ z => z.elim⟩
  · have hy' := hy
    simp only [hmf, Bool.false_eq_true, if_false] at hy'
    exact k.ex σ1 y ρ1 hy' _ d F1 H1 (R1.down RB) ⟨Cy, hCy, rfl, hfs⟩
/-- e.f, e the exception that the suite holds -/
@[simp] def aFld (i : Nat) (f : Str) (x : XE) (a : Addr) : AE := fun _ ρ Q => (∃ u, ρ[i]? = some u ∧ u = .dat (.con (.ref a))) ∧ ∃ d, x.fs.lookup f = some d ∧ Q d ρ
theorem se_fld {i : Nat} {x : XE} {a : Addr} {oe : Obj} {cls : Value} {d : Option Addr} {pn : List (Addr × Obj)} {n g : Str} {pos p : Pos} {ec : Str → Option Addr} (hB : B.ec = ec) (T : Exc1 X.prog X.K X.mg X.base cn g C) (hec : ec cn = some C) (hx : HoldX X.K B x cls d) (hcn : x.cls = cn) (noF : f = g)
    (hz : Zc cls d oe) (hf : ∃ vs, oe.data = .fields vs) (hy : PE (X.suite a ((a, oe) :: pn)) (.Name n p) (tVar i))
    (hb : attributeBase (.Name n p) f X.env (eval (.Name n p) X.env) = eval (.Name n p) X.env := by rfl) : SE (X.suite a ((a, oe) :: pn)) B W (.Attribute (.Name n p) f pos) (aFld i f x a) := by
  subst hB noF
  refine PE_imp (pe_field T hz hf hy hb) fun σ H Q q => ?_
  obtain ⟨ρ, F, EX, Q0, R, ⟨⟨_, hs, rfl⟩, d0, hl, t⟩, k, kx⟩ := q
  obtain ⟨v, h1, h2⟩ := R.sl i _ hs
  rw [dp_con h2] at h1
  obtain ⟨H', Cy, hCy, rfl, hfs⟩ := hx
  rw [hcn, hec] at hCy
  cases hCy
  rcases hfs with ⟨e, _⟩ | ⟨dd, vs, rfl, h3, h4⟩
  · rw [e] at hl; cases hl
  · obtain ⟨u, h5, h6⟩ := h4.lookup hl
    exact ⟨_, h1, rfl, rfl, dd, vs, u, rfl, R.fz _ _ (R.f0 _ _ h3), h5, k _ ρ t u F H R (Same.refl _) (h6.mono R.f0)⟩
end
end PU
set_option Elab.async false
set_option linter.all false
set_option maxRecDepth 100000
namespace PU
open PySem PySem.Spec L2
set_option autoImplicit false

section
variable {X : Cx} {B : Bas} {W : WX} {a b c e e2 tg : Expr} {es : List Expr} {ta tb tc te : AE} {s : AA} {pos p : Pos}

/-! ### repr -/
def dRepr : OpN := fun ds Q => match ds with
  | [d] => D.shp 64 d ∧ d.py.showable = true ∧ d.py.shown.length ≤ sizeLine ∧ Q (.str d.py.shown)
  | _ => False
def rRepr (K : PySem.W.Frag) : List V → Hp → VK → Prop := fun xs H Q => ∃ x d, xs = [x] ∧ Dp K H x d ∧ d.canLay0 = true ∧ d.depth ≤ 64 ∧ d.showable = true ∧ d.shown.length ≤ sizeLine ∧ Q (.str d.shown) H
theorem call_reprG {k : Nat} (hr : RoomG k X.A) : CallR X (.builtin "repr") (rRepr X.K) := by
  intro pins s σ H xs us Q I r h
  obtain ⟨x, d, rfl, hd, hc, hz, hsh, hl, q⟩ := h
  obtain ⟨u, rfl, rx⟩ := vals1 r
  obtain ⟨as, hrd⟩ := Dp.reads I d x u hd rx
  have hu : X.A.units + (d.depth + 1) < cLine := by have := hr.un; omega
  have fin : ∀ h' t tk, (∀ b o, s.heap.get? b = some o → h'.get? b = some o) → EP X pins σ Q (.str d.shown t) { s with heap := h', toks := tk } := fun h' t tk k => ⟨.str d.shown, H, I.kept (t' := tk) k, ⟨_, rfl⟩, q⟩
  have fin0 : ∀ t tk, EP X pins σ Q (.str d.shown t) { s with toks := tk } := fun t tk => ⟨.str d.shown, H, I.tok _, ⟨_, rfl⟩, q⟩
  cases hrd with
  | none => exact PySem.P.repr_of_none (fin0 _ _)
  | bool b => exact PySem.P.repr_of_bool (by cases b <;> exact fin0 _ _)
  | int i t => exact PySem.P.repr_of_int (by simpa [PyData.showable] using hsh) (fin0 _ _)
  | str z t => exact PySem.P.repr_of_str (fin0 _ _) hl
  | list h1 h2 h3 h4 => exact PySem.repr_of_reads' (.list h1 h2 h3 h4) hsh (PyData.noDict_hsm (PyData.hasDict_of_canLay _ hc)) hr.gd hu (fun _ _ z => z) (fun h' t tk k => fin h' t tk k) hl
  | tuple h1 h2 h3 h4 => exact PySem.repr_of_reads' (.tuple h1 h2 h3 h4) hsh (PyData.noDict_hsm (PyData.hasDict_of_canLay _ hc)) hr.gd hu (fun _ _ z => z) (fun h' t tk k => fin h' t tk k) hl
  | dict h1 h2 h3 h4 h5 => exact absurd hc (by simp [PyData.canLay0])
theorem opN_repr {K : PySem.W.Frag} : OpNS K B (rRepr K) dRepr := by
  intro F H ρ σ xs ds Q0 Q R p q k
  unfold dRepr at q
  split at q
  · obtain ⟨v, rfl, h⟩ := dps1 p
    obtain ⟨q1, q2, q3, q4⟩ := q
    obtain ⟨l1, l2⟩ := shp_lay q1
    exact ⟨v, _, rfl, shp_dp R.fz q1 h, l1, l2, q2, q3, k _ q4 _ F H R (Same.refl _) (.str _)⟩
  · exact q.elim
theorem se_repr {k : Nat} (hr : RoomG k X.A) (hg : Gl X "repr") (hm : X.mg "repr" = none) (ha : SA X B W (e :: es) s)
    (he : starEach (e :: es) X.env = (false, eval e X.env) :: starEach es X.env := by rfl) (hpl : (backTo pos (starEach es X.env)).any (·.1) = false := by rfl) : SE X B W (.Call (.Name "repr" p) (e :: es) [] pos) (aOp dRepr s) :=
  se_B (call_reprG hr) opN_repr hg hm (by decide +kernel) ha (by decide) (by decide) he hpl

/-! ### ==, texts at once -/
@[simp] def dEq2 : Op2 := fun d e Q => match d, e with
  | .str x, .str y => Q (.bl (decide (x = y)))
  | d, e => dEq d e Q
@[simp] def dNe2 : Op2 := fun d e Q => match d, e with
  | .str x, .str y => Q (.bl (!decide (x = y)))
  | d, e => dNe d e Q
theorem dec_str {x y : Str} : decide (V.str x = V.str y) = decide (x = y) := by
  rw [Bool.eq_iff_iff]; simp
theorem opS_eq2 {K : PySem.W.Frag} : OpS K B (fun x y H Q => rEq x y H Q ∨ rEqD K x y H Q) dEq2 := by
  intro F H ρ σ x y d e Q0 Q R p1 p2 q k
  unfold dEq2 at q
  split at q
  · rw [dp_str p1, dp_str p2]
    refine .inl ⟨rfl, ?_⟩
    rw [dec_str]
    exact k _ q _ F H R (Same.refl _) (.bl _)
  · exact .inr (opS_eq F H ρ σ x y _ _ _ Q R p1 p2 q k)
theorem opS_ne2 {K : PySem.W.Frag} : OpS K B (fun x y H Q => rNe x y H Q ∨ rNeD K x y H Q) dNe2 := by
  intro F H ρ σ x y d e Q0 Q R p1 p2 q k
  unfold dNe2 at q
  split at q
  · rw [dp_str p1, dp_str p2]
    refine .inl ⟨rfl, ?_⟩
    rw [dec_str]
    exact k _ q _ F H R (Same.refl _) (.bl _)
  · exact .inr (opS_ne F H ρ σ x y _ _ _ Q R p1 p2 q k)
theorem se_eq2 {k : Nat} (hr : Room k X.A) (ha : SE X B W a ta) (hb : SE X B W b tb) : SE X B W (.Compare a [.Eq] [b] pos) (aBin dEq2 ta tb) := se_cmp (op_eq.or (op_eqD hr.units)) opS_eq2 ha hb (nomark _)
theorem se_ne2 {k : Nat} (hr : Room k X.A) (ha : SE X B W a ta) (hb : SE X B W b tb) : SE X B W (.Compare a [.NotEq] [b] pos) (aBin dNe2 ta tb) := se_cmp (op_ne.or (op_neD hr.units)) opS_ne2 ha hb (nomark _)

/-! ### in -/
/-- behind the in stands no display that the machine folds -/
def inD (d : D) (xs : List D) : Bool := xs.any fun z => eqD z d
def dIn (neg : Bool) : Op2 := fun d e Q => match e with
  | .lst xs => D.shp 63 d ∧ (∀ x ∈ xs, D.shp 63 x) ∧ Q (.bl (neg ^^ inD d xs))
  | .tup xs => D.shp 63 d ∧ (∀ x ∈ xs, D.shp 63 x) ∧ Q (.bl (neg ^^ inD d xs))
  | .dN kvs => ∃ k, QKey kvs d k ∧ Q (.bl (neg ^^ (tabD kvs k).isSome))
  | _ => False
def rInN (K : PySem.W.Frag) (neg : Bool) : R2 := fun x y H Q => ∃ a F ds k, y = .ref a ∧ Same F H ∧ NAt K F H a ds ∧ IsKey K F x k ∧ KindN ds k ∧ Q (.bl (neg ^^ (tabD ds k).isSome)) H
theorem op_inN {k : Nat} (hr : Room k X.A) : OpR X (compareOp .In) (rInN X.K false) := by
  intro pins s σ H x y v u Q I rx ry h
  obtain ⟨a, F, ds, k, rfl, sm, g, hk, kn, q⟩ := h
  cases (show u = Value.ref a from ry)
  exact n_in hr.units I sm g hk kn rx fun s' I' => ⟨.bl _, H, I', rfl, by simpa using q⟩
theorem op_notInN {k : Nat} (hr : Room k X.A) : OpR X (compareOp .NotIn) (rInN X.K true) := by
  intro pins s σ H x y v u Q I rx ry h
  obtain ⟨a, F, ds, k, rfl, sm, g, hk, kn, q⟩ := h
  cases (show u = Value.ref a from ry)
  exact n_notIn hr.units I sm g hk kn rx fun s' I' => ⟨.bl _, H, I', rfl, by simpa using q⟩
def rInG (K : PySem.W.Frag) (neg : Bool) : R2 := fun x y H Q =>
  (∃ d ds, Dp K H x d ∧ (Dp K H y (.list ds) ∨ Dp K H y (.tuple ds)) ∧ d.canLay0 = true ∧ d.depth ≤ 63 ∧ PyData.canLayAll0 ds = true ∧ Q (.bl (neg ^^ ds.any fun z => PyData.eqv z d)) H)
theorem op_inG {k : Nat} (hr : Room k X.A) : OpR X (compareOp .In) (rInG X.K false) := by
  intro pins s σ H x y v u Q I rx ry h
  obtain ⟨d, ds, hd, he, cd, zd, ce, q⟩ := h
  obtain ⟨as, r1⟩ := Dp.reads I d x v hd rx
  have hu : X.A.units + 1 + min (PyData.depthAll ds) d.depth < cLine := by have := hr.un; omega
  rw [Bool.false_xor] at q
  rcases he with he | he
  · obtain ⟨bs, r2⟩ := Dp.reads I (.list ds) y u he ry
    exact SeqAt.in_list_reads r2 r1 ce cd hu ⟨.bl _, H, I, rfl, q⟩
  · obtain ⟨bs, r2⟩ := Dp.reads I (.tuple ds) y u he ry
    exact SeqAt.in_tuple_reads r2 r1 ce cd hu ⟨.bl _, H, I, rfl, q⟩
theorem op_notInG {k : Nat} (hr : Room k X.A) : OpR X (compareOp .NotIn) (rInG X.K true) := by
  intro pins s σ H x y v u Q I rx ry h
  obtain ⟨d, ds, hd, he, cd, zd, ce, q⟩ := h
  obtain ⟨as, r1⟩ := Dp.reads I d x v hd rx
  have hu : X.A.units + 1 + min (PyData.depthAll ds) d.depth < cLine := by have := hr.un; omega
  rw [Bool.true_xor] at q
  rcases he with he | he
  · obtain ⟨bs, r2⟩ := Dp.reads I (.list ds) y u he ry
    exact SeqAt.notIn_list_reads r2 r1 ce cd hu ⟨.bl _, H, I, rfl, q⟩
  · obtain ⟨bs, r2⟩ := Dp.reads I (.tuple ds) y u he ry
    exact SeqAt.notIn_tuple_reads r2 r1 ce cd hu ⟨.bl _, H, I, rfl, q⟩
theorem any_pys (d : D) : ∀ xs : List D, ((D.pys xs).any fun z => PyData.eqv z d.py) = inD d xs
  | [] => rfl
  | x :: xs => by
    show ((x.py :: D.pys xs).any _) = ((x :: xs).any _)
    rw [List.any_cons, List.any_cons]
    exact congrArg (eqD x d || ·) (any_pys d xs)
theorem len_depth {n : Nat} : ∀ {ds : List D}, (∀ x ∈ ds, D.shp n x) → PyData.canLayAll0 (D.pys ds) = true := fun h => (shp_lays h).1
theorem opS_in {K : PySem.W.Frag} {neg : Bool} : OpS K B (fun x y H Q => rInG K neg x y H Q ∨ rInN K neg x y H Q) (dIn neg) := by
  intro F H ρ σ x y d e Q0 Q R p1 p2 q k
  unfold dIn at q
  split at q
  · rename_i xs
    obtain ⟨q1, q2, q⟩ := q
    cases p2 with
    | lst h2 t2 =>
      obtain ⟨l1, l2⟩ := shp_lay q1
      refine .inl ⟨d.py, D.pys xs, shp_dp R.fz q1 p1, .inl (.lst (SqL.of (R.fz _ _ h2)) (shp_dps R.fz q2 t2)), l1, l2, len_depth q2, ?_⟩
      rw [any_pys]
      exact k _ q _ F H R (Same.refl _) (.bl _)
  · rename_i xs
    obtain ⟨q1, q2, q⟩ := q
    cases p2 with
    | tup h2 t2 =>
      obtain ⟨l1, l2⟩ := shp_lay q1
      refine .inl ⟨d.py, D.pys xs, shp_dp R.fz q1 p1, .inr (.tup (same_tup R.fz h2) (shp_dps R.fz q2 t2)), l1, l2, len_depth q2, ?_⟩
      rw [any_pys]
      exact k _ q _ F H R (Same.refl _) (.bl _)
  · obtain ⟨kk, hk, q⟩ := q
    cases p2 with
    | dN h e n t =>
      subst e
      exact .inr ⟨_, F, _, kk, rfl, R.fz, ⟨_, _, _, R.fz _ _ h, n, t⟩, hk.is p1, hk.2.2.2, k _ q _ F H R (Same.refl _) (.bl _)⟩
  · exact q.elim
theorem se_in {k : Nat} (hr : Room k X.A) (ha : SE X B W a ta) (hb : SE X B W b tb) (hm : behindInMarks .In b = false := by rfl) : SE X B W (.Compare a [.In] [b] pos) (aBin (dIn false) ta tb) := se_cmp ((op_inG hr).or (op_inN hr)) opS_in ha hb hm
theorem se_notIn {k : Nat} (hr : Room k X.A) (ha : SE X B W a ta) (hb : SE X B W b tb) (hm : behindInMarks .NotIn b = false := by rfl) : SE X B W (.Compare a [.NotIn] [b] pos) (aBin (dIn true) ta tb) := se_cmp ((op_notInG hr).or (op_notInN hr)) opS_in ha hb hm

/-! ### sorted, of a list -/
abbrev leD : D → D → Bool := PySem.W.dataLe false D.py
def dSorted : OpN := fun ds Q => match ds with
  | [.lst xs] => (∀ x ∈ xs, D.shp 63 x) ∧ PySem.W.AllAlike (xs.map D.py) ∧ PySem.W.Sortable (xs.map D.py) ∧ Q (.lst (xs.mergeSort leD))
  | _ => False
def rSortD (K : PySem.W.Frag) : List V → Hp → VK → Prop := fun vs H Q => ∃ (a : Addr) (xs : List (V × PyData)), vs = [V.ref a] ∧ SqL K H a (xs.map (·.1)) ∧ (∀ x ∈ xs, Dp K H x.1 x.2 ∧ x.2.depth ≤ 63) ∧ PySem.W.AllAlike (xs.map (·.2)) ∧ PySem.W.Sortable (xs.map (·.2)) ∧
  ∀ p, H p = none → Q (.ref p) (upd H p (.lst ((xs.mergeSort (PySem.W.dataLe false (·.2))).map (·.1))))
theorem each_of {α : Type} {R : Value → α → Prop} {f : α → V} : ∀ {xs : List α} {us : List Value}, Vals (xs.map f) us → (∀ x ∈ xs, ∀ u, RelV (f x) u → R u x) → PySem.W.EachIs R us xs
  | [], _, r, _ => by
    cases r
    exact .nil
  | x :: xs, _, r, h => by
    cases r with
    | cons r1 r2 => exact .cons (h x List.mem_cons_self _ r1) (each_of r2 fun y hy => h y (List.mem_cons_of_mem _ hy))
theorem vals_of_each {α : Type} {f : α → V} : ∀ {xs : List α} {us : List Value}, PySem.W.EachIs (fun u x => RelV (f x) u) us xs → Vals (xs.map f) us
  | _, _, .nil => .nil
  | _, _, .cons h t => .cons h (vals_of_each t)
theorem cr_sortD {k : Nat} (hr : Room k X.A) : CallR X (.builtin "sorted") (rSortD X.K) := by
  intro pins s σ H vs us Q I r h
  obtain ⟨a, xs, rfl, hs, hd, hal, hso, q⟩ := h
  obtain ⟨its, rv, hl, hz⟩ := I.list hs
  obtain ⟨u, rfl, ru⟩ := vals1 r
  obtain rfl : u = Value.ref a := ru
  have hz' : xs.length ≤ sizeLine := by simpa using hz
  have hlen : its.length = xs.length := by simpa using rv.length.symm
  refine PySem.W.sorted_data (β := V × PyData) (R := fun u x => RelV x.1 u) (enc := (·.2)) (bs := xs) hl.isList (each_of (f := (·.1)) rv fun x _ u ru => ru) (each_of (f := (·.1)) rv fun x hx u ru => Dp.reads I x.2 x.1 u (hd x hx).1 ru) hal hso hz' (fun b hb => ?_) fun out hout he => ?_
  · have := (hd b hb).2
    have := hr.un
    omega
  · obtain ⟨ep, he'⟩ := PyProof.Rows.sortedAll_at s.heap its (List.toArray out)
    have hlen2 : ((xs.mergeSort (PySem.W.dataLe false (·.2))).map (·.1)).length ≤ sizeLine := by simpa using hz'
    exact ⟨.ref _, upd H (s.heap.objs.size + 1) (.lst _), I.laid (t' := s.toks) (fun _ _ => PyProof.Rows.sortedAll_old) (Nat.le_succ _) ⟨hlen2, out, ep, vals_of_each he, he'⟩, rfl, q _ (I.hok.fresh (Nat.le_succ _))⟩
theorem zip_fst {K : PySem.W.Frag} {F : Hp} : ∀ {vs : List V} {ds : List D}, DPs K F vs ds → (vs.zip ds).map (·.1) = vs ∧ (vs.zip ds).map (·.2) = ds ∧ ∀ p ∈ vs.zip ds, DP K F p.1 p.2
  | _, _, .nil => ⟨rfl, rfl, fun _ h => nomatch h⟩
  | _, _, .cons h t => by
    obtain ⟨h1, h2, h3⟩ := zip_fst t
    refine ⟨by simpa using h1, by simpa using h2, fun p hp => ?_⟩
    rcases List.mem_cons.mp hp with rfl | hp
    · exact h
    · exact h3 p hp
theorem dps_of {K : PySem.W.Frag} {F : Hp} : ∀ {ps : List (V × D)}, (∀ p ∈ ps, DP K F p.1 p.2) → DPs K F (ps.map (·.1)) (ps.map (·.2))
  | [], _ => .nil
  | p :: ps, h => .cons (h p List.mem_cons_self) (dps_of fun q hq => h q (List.mem_cons_of_mem _ hq))
theorem opN_sorted {K : PySem.W.Frag} : OpNF K B (rSortD K) dSorted := by
  intro F H ρ σ xs ds Q0 Q R p q k
  unfold dSorted at q
  split at q
  · rename_i zs
    obtain ⟨v, rfl, h⟩ := dps1 p
    obtain ⟨q1, q2, q3, q⟩ := q
    cases h with
    | lst h t =>
      rename_i a vs
      obtain ⟨e1, e2, e3⟩ := zip_fst t
      have g1 : ((vs.zip zs).map fun p => (p.1, p.2.py)).map (·.1) = vs := by rw [List.map_map]; exact e1
      have g2 : ((vs.zip zs).map fun p => (p.1, p.2.py)).map (·.2) = zs.map D.py := by
        rw [List.map_map]
        have : (fun p : V × D => p.2.py) = D.py ∘ (·.2) := rfl
        show (vs.zip zs).map (fun p : V × D => p.2.py) = _
        rw [this, ← List.map_map, e2]
      refine ⟨a, (vs.zip zs).map fun p => (p.1, p.2.py), rfl, by rw [g1]; exact SqL.of (R.fz _ _ h), fun x hx => ?_, by rw [g2]; exact q2, by rw [g2]; exact q3, fun p hp => ?_⟩
      · obtain ⟨y, hy, rfl⟩ := List.mem_map.mp hx
        have hm : y.2 ∈ zs := by rw [← e2]; exact List.mem_map.mpr ⟨y, hy, rfl⟩
        exact ⟨shp_dp R.fz (q1 _ hm) (e3 y hy), (shp_lay (q1 _ hm)).2⟩
      · have m1 : (((vs.zip zs).map fun p => (p.1, p.2.py)).mergeSort (PySem.W.dataLe false (·.2))).map (·.1) = ((vs.zip zs).mergeSort (PySem.W.dataLe false fun p => p.2.py)).map (·.1) := by
          rw [← List.map_mergeSort (s := PySem.W.dataLe false (·.2)) (f := fun p : V × D => (p.1, p.2.py)) (fun a _ b _ => rfl), List.map_map]
          rfl
        have m2 : ((vs.zip zs).mergeSort (PySem.W.dataLe false fun p => p.2.py)).map (·.2) = zs.mergeSort leD := by
          rw [List.map_mergeSort (r := PySem.W.dataLe false fun p : V × D => p.2.py) (s := leD) (f := fun p : V × D => p.2) (fun a _ b _ => rfl), e2]
        rw [m1]
        refine k _ q _ _ _ _ (R.allocO hp) (Same.refl _) (freshAt_new R hp) (.lst ?_)
        rw [← m2]
        exact dps_of fun p hp => e3 p (List.mem_mergeSort.mp hp)
  · exact q.elim
theorem sf_sorted {k : Nat} (hr : Room k X.A) (hg : Gl X "sorted") (hm : X.mg "sorted" = none) (ha : SA X B W (e :: es) s)
    (he : starEach (e :: es) X.env = (false, eval e X.env) :: starEach es X.env := by rfl) (hpl : (backTo pos (starEach es X.env)).any (·.1) = false := by rfl) : SF X B W (.Call (.Name "sorted" p) (e :: es) [] pos) (aOp dSorted s) :=
  sf_B (cr_sortD hr) opN_sorted hg hm (by decide +kernel) ha (by decide) (by decide) he hpl
end
end PU
set_option Elab.async false
set_option linter.all false
set_option maxRecDepth 100000
namespace PU
open PySem PySem.Spec L2 StX RZ
set_option autoImplicit false
section
variable {X : Cx} {B : Bas} {W : WX} {a b c e e2 tg : Expr} {es : List Expr} {ta tb tc te : AE} {s : AA} {pos p : Pos}

/-! ### lists of ints, of truths -/
def intsOf : List D → Option (List Int)
  | [] => some []
  | .int i :: xs => (intsOf xs).map (i :: ·)
  | _ => none
def blsOf : List D → Option (List Bool)
  | [] => some []
  | .bl i :: xs => (blsOf xs).map (i :: ·)
  | _ => none
theorem intsOf_dp {K : PySem.W.Frag} {F : Hp} : ∀ {vs : List V} {ds : List D} {ns : List Int}, DPs K F vs ds → intsOf ds = some ns → vs = ns.map V.int
  | _, _, _, .nil, h => by cases h; rfl
  | _, _, ns, .cons (d := d) h t, q => by
    cases d <;> first | cases q | skip
    rename_i ds i
    have q' : (intsOf ds).map (i :: ·) = some ns := q
    obtain ⟨l, h1, rfl⟩ := Option.map_eq_some_iff.mp q'
    rw [dp_int h, intsOf_dp t h1]
    rfl
theorem blsOf_dp {K : PySem.W.Frag} {F : Hp} : ∀ {vs : List V} {ds : List D} {ns : List Bool}, DPs K F vs ds → blsOf ds = some ns → vs = ns.map V.bl
  | _, _, _, .nil, h => by cases h; rfl
  | _, _, ns, .cons (d := d) h t, q => by
    cases d <;> first | cases q | skip
    rename_i ds i
    have q' : (blsOf ds).map (i :: ·) = some ns := q
    obtain ⟨l, h1, rfl⟩ := Option.map_eq_some_iff.mp q'
    rw [dp_bl h, blsOf_dp t h1]
    rfl
theorem intsOf_map (ns : List Int) : intsOf (ns.map .int) = some ns := by
  induction ns with
  | nil => rfl
  | cons n ns ih =>
    show (intsOf (ns.map .int)).map (n :: ·) = _
    rw [ih]; rfl
theorem blsOf_map (ns : List Bool) : blsOf (ns.map .bl) = some ns := by
  induction ns with
  | nil => rfl
  | cons n ns ih =>
    show (blsOf (ns.map .bl)).map (n :: ·) = _
    rw [ih]; rfl
def dMaxL : OpN := fun ds Q => match ds with
  | [.lst xs] => ∃ ns, intsOf xs = some ns ∧ ns ≠ [] ∧ ∀ m, m ∈ ns → (∀ y, y ∈ ns → y ≤ m) → Q (.int m)
  | _ => False
def dMinL : OpN := fun ds Q => match ds with
  | [.lst xs] => ∃ ns, intsOf xs = some ns ∧ ns ≠ [] ∧ ∀ m, m ∈ ns → (∀ y, y ∈ ns → m ≤ y) → Q (.int m)
  | _ => False
def dSumL : OpN := fun ds Q => match ds with
  | [.lst xs] => ∃ ns, intsOf xs = some ns ∧ Q (.int ns.sum)
  | _ => False
def dAnyL : OpN := fun ds Q => match ds with
  | [.lst xs] => ∃ ns, blsOf xs = some ns ∧ Q (.bl (ns.any id))
  | _ => False
def dAllL : OpN := fun ds Q => match ds with
  | [.lst xs] => ∃ ns, blsOf xs = some ns ∧ Q (.bl (ns.all id))
  | _ => False
theorem ne_nil_len {α : Type} {l : List α} (h : l ≠ []) : 0 < l.length := List.length_pos_iff.mpr h
theorem opN_maxL {K : PySem.W.Frag} : OpNS K B (rMax K) dMaxL := by
  intro F H ρ σ xs ds Q0 Q R p q k
  unfold dMaxL at q
  split at q
  · obtain ⟨v, rfl, h⟩ := dps1 p
    obtain ⟨ns, h1, h2, q⟩ := q
    cases h with
    | lst h t => exact ⟨_, ns, rfl, by rw [← intsOf_dp t h1]; exact SqL.of (R.fz _ _ h), ne_nil_len h2, fun m m1 m2 => k _ (q m m1 m2) _ F H R (Same.refl _) (.int _)⟩
  · exact q.elim
theorem opN_minL {K : PySem.W.Frag} : OpNS K B (rMin K) dMinL := by
  intro F H ρ σ xs ds Q0 Q R p q k
  unfold dMinL at q
  split at q
  · obtain ⟨v, rfl, h⟩ := dps1 p
    obtain ⟨ns, h1, h2, q⟩ := q
    cases h with
    | lst h t => exact ⟨_, ns, rfl, by rw [← intsOf_dp t h1]; exact SqL.of (R.fz _ _ h), ne_nil_len h2, fun m m1 m2 => k _ (q m m1 m2) _ F H R (Same.refl _) (.int _)⟩
  · exact q.elim
theorem opN_sumL {K : PySem.W.Frag} : OpNS K B (rSum K) dSumL := by
  intro F H ρ σ xs ds Q0 Q R p q k
  unfold dSumL at q
  split at q
  · obtain ⟨v, rfl, h⟩ := dps1 p
    obtain ⟨ns, h1, q⟩ := q
    cases h with
    | lst h t => exact ⟨_, ns, rfl, by rw [← intsOf_dp t h1]; exact SqL.of (R.fz _ _ h), k _ q _ F H R (Same.refl _) (.int _)⟩
  · exact q.elim
theorem opN_anyL {K : PySem.W.Frag} : OpNS K B (rAny K) dAnyL := by
  intro F H ρ σ xs ds Q0 Q R p q k
  unfold dAnyL at q
  split at q
  · obtain ⟨v, rfl, h⟩ := dps1 p
    obtain ⟨ns, h1, q⟩ := q
    cases h with
    | lst h t => exact ⟨_, ns, rfl, by rw [← blsOf_dp t h1]; exact SqL.of (R.fz _ _ h), k _ q _ F H R (Same.refl _) (.bl _)⟩
  · exact q.elim
theorem opN_allL {K : PySem.W.Frag} : OpNS K B (rAll K) dAllL := by
  intro F H ρ σ xs ds Q0 Q R p q k
  unfold dAllL at q
  split at q
  · obtain ⟨v, rfl, h⟩ := dps1 p
    obtain ⟨ns, h1, q⟩ := q
    cases h with
    | lst h t => exact ⟨_, ns, rfl, by rw [← blsOf_dp t h1]; exact SqL.of (R.fz _ _ h), k _ q _ F H R (Same.refl _) (.bl _)⟩
  · exact q.elim
theorem se_maxL (hc : X.calm = true) (hg : Gl X "max") (hm : X.mg "max" = none) (ha : SA X B W (e :: es) s)
    (he : starEach (e :: es) X.env = (false, eval e X.env) :: starEach es X.env := by rfl) (hpl : (backTo pos (starEach es X.env)).any (·.1) = false := by rfl) : SE X B W (.Call (.Name "max" p) (e :: es) [] pos) (aOp dMaxL s) :=
  se_B (cr_max hc) opN_maxL hg hm (by decide +kernel) ha (by decide) (by decide) he hpl
theorem se_minL (hc : X.calm = true) (hg : Gl X "min") (hm : X.mg "min" = none) (ha : SA X B W (e :: es) s)
    (he : starEach (e :: es) X.env = (false, eval e X.env) :: starEach es X.env := by rfl) (hpl : (backTo pos (starEach es X.env)).any (·.1) = false := by rfl) : SE X B W (.Call (.Name "min" p) (e :: es) [] pos) (aOp dMinL s) :=
  se_B (cr_min hc) opN_minL hg hm (by decide +kernel) ha (by decide) (by decide) he hpl
theorem se_sumL (hc : X.calm = true) (hg : Gl X "sum") (hm : X.mg "sum" = none) (ha : SA X B W (e :: es) s)
    (he : starEach (e :: es) X.env = (false, eval e X.env) :: starEach es X.env := by rfl) (hpl : (backTo pos (starEach es X.env)).any (·.1) = false := by rfl) : SE X B W (.Call (.Name "sum" p) (e :: es) [] pos) (aOp dSumL s) :=
  se_B (cr_sum hc) opN_sumL hg hm (by decide +kernel) ha (by decide) (by decide) he hpl
theorem se_anyL (hc : X.calm = true) (hg : Gl X "any") (hm : X.mg "any" = none) (ha : SA X B W (e :: es) s)
    (he : starEach (e :: es) X.env = (false, eval e X.env) :: starEach es X.env := by rfl) (hpl : (backTo pos (starEach es X.env)).any (·.1) = false := by rfl) : SE X B W (.Call (.Name "any" p) (e :: es) [] pos) (aOp dAnyL s) :=
  se_B (cr_any hc) opN_anyL hg hm (by decide +kernel) ha (by decide) (by decide) he hpl
theorem se_allL (hc : X.calm = true) (hg : Gl X "all") (hm : X.mg "all" = none) (ha : SA X B W (e :: es) s)
    (he : starEach (e :: es) X.env = (false, eval e X.env) :: starEach es X.env := by rfl) (hpl : (backTo pos (starEach es X.env)).any (·.1) = false := by rfl) : SE X B W (.Call (.Name "all" p) (e :: es) [] pos) (aOp dAllL s) :=
  se_B (cr_all hc) opN_allL hg hm (by decide +kernel) ha (by decide) (by decide) he hpl

/-! ### int(text), text * int, bit_length -/
def dIntS : OpN := fun ds Q => match ds with
  | [.str x] => ∃ n, PySem.intText? x = some n ∧ x.length ≤ 640 ∧ Q (.int n)
  | _ => False
theorem opN_intS {K : PySem.W.Frag} : OpNS K B (fun xs H Q => ∃ a n, xs = [.str a] ∧ PySem.intText? a = some n ∧ a.length ≤ 640 ∧ Q (.int n) H) dIntS := by
  intro F H ρ σ xs ds Q0 Q R p q k
  unfold dIntS at q
  split at q
  · obtain ⟨v, rfl, h⟩ := dps1 p
    obtain ⟨n, h1, h2, q⟩ := q
    rw [dp_str h]
    exact ⟨_, n, rfl, h1, h2, k _ q _ F H R (Same.refl _) (.int _)⟩
  · exact q.elim
theorem se_intS (hg : Gl X "int") (hm : X.mg "int" = none) (ha : SA X B W (e :: es) s)
    (he : starEach (e :: es) X.env = (false, eval e X.env) :: starEach es X.env := by rfl) (hpl : (backTo pos (starEach es X.env)).any (·.1) = false := by rfl) : SE X B W (.Call (.Name "int" p) (e :: es) [] pos) (aOp dIntS s) :=
  se_Ty call_int_str opN_intS hg hm (by decide +kernel) ha (by decide) (by decide) he hpl
@[simp] def aBits (te : AE) : AE := fun EX ρ Q => te EX ρ fun d ρ' => match d with
  | .int i => Q (.int (Builtin.Int.intBits i : Nat)) ρ'
  | _ => False
theorem se_bits {apos : Pos} (ho : SE X B W e te) (hbase : attributeBase e "bit_length" X.env (eval e X.env) = eval e X.env := by rfl) (hline : (apos.endLine == pos.line) = true := by rfl) : SE X B W (.Call (.Attribute e "bit_length" apos) [] [] pos) (aBits te) := by
  refine PE_imp (pe_bits ho hbase hline) fun σ H Q q => ?_
  obtain ⟨ρ, F, EX, Q0, R, t, k, kx⟩ := q
  refine ⟨ρ, F, EX, _, R, t, fun d ρ1 t1 v F1 H1 R1 s1 p1 => ?_, kx⟩
  split at t1
  · exact ⟨_, dp_int p1, k _ ρ1 t1 _ F1 H1 R1 s1 (.int _)⟩
  · exact t1.elim
/-- a text of some length, n times -/
def repS (x : Str) (n : Nat) : Str := ⟨(List.replicate n x.cps).foldl (· ++ ·) #[]⟩
def dRepS : Op2 := fun d e Q => match d, e with
  | .str x, .int n => 2 ≤ n ∧ n ≤ 100000 ∧ x.length ≤ 100 ∧ x.length ≠ 0 ∧ (repS x n.toNat).length ≤ sizeLine ∧ Q (.str (repS x n.toNat))
  | _, _ => False
theorem op_repS : OpR X (binaryOp .Mult) (fun x y H Q => ∃ (z : Str) (n : Int), x = .str z ∧ y = .int n ∧ 2 ≤ n ∧ n ≤ 100000 ∧ z.length ≤ 100 ∧ z.length ≠ 0 ∧ (repS z n.toNat).length ≤ sizeLine ∧ Q (.str (repS z n.toNat)) H) := by
  intro pins s σ H x y v u Q I rx ry h
  obtain ⟨z, n, rfl, rfl, h1, h2, h3, h4, h5, q⟩ := h
  obtain ⟨t, rfl⟩ := rx
  obtain ⟨t', rfl⟩ := ry
  have e1 : ¬ n < 1 := by omega
  have e2 : (n == 1 || z.length == 0) = false := by
    rw [Bool.or_eq_false_iff]
    exact ⟨by simpa using (by omega : n ≠ 1), by simpa using h4⟩
  refine PySem.P.mul_str ?_ (fun _ _ => ?_) (fun _ _ => ?_) ?_
  · rw [decide_eq_false (by omega), decide_eq_false (by omega)]; rfl
  · have : (z.length : Int) ≤ (2 ^ 63 - 1) / n := Int.le_ediv_of_mul_le (by omega) (by
      have hz : (z.length : Int) ≤ 100 := by omega
      have := Int.mul_le_mul hz h2 (by omega) (by omega)
      omega)
    omega
  · have : z.length * n.toNat ≤ 100 * 100000 := Nat.mul_le_mul h3 (by omega)
    have hs : ¬ z.length * n.toNat > sizeLine := by rw [sizeLine_eq]; omega
    exact decide_eq_false hs
  · rw [if_neg e1, if_neg (by rw [e2]; decide)]
    exact ⟨h5, .str (repS z n.toNat), H, I.tok _, ⟨_, rfl⟩, q⟩
theorem opS_repS {K : PySem.W.Frag} : OpS K B (fun x y H Q => ∃ (z : Str) (n : Int), x = .str z ∧ y = .int n ∧ 2 ≤ n ∧ n ≤ 100000 ∧ z.length ≤ 100 ∧ z.length ≠ 0 ∧ (repS z n.toNat).length ≤ sizeLine ∧ Q (.str (repS z n.toNat)) H) dRepS := by
  intro F H ρ σ x y d e Q0 Q R p1 p2 q k
  unfold dRepS at q
  split at q
  · obtain ⟨h1, h2, h3, h4, h5, q⟩ := q
    exact ⟨_, _, dp_str p1, dp_int p2, h1, h2, h3, h4, h5, k _ q _ F H R (Same.refl _) (.str _)⟩
  · exact q.elim
theorem se_repS (ha : SE X B W a ta) (hb : SE X B W b tb) : SE X B W (.BinOp a .Mult b pos) (aBin dRepS ta tb) := se_bin op_repS opS_repS ha hb

/-! ### stars in displays -/
@[simp] def aStar (te : AE) (s : AA) : AA := fun EX ρ Q => te EX ρ fun d ρ1 => match d with
  | .lst xs => s EX ρ1 fun ds ρ2 => Q (xs ++ ds) ρ2
  | .tup xs => s EX ρ1 fun ds ρ2 => Q (xs ++ ds) ρ2
  | _ => False
theorem sa_star (h : SE X B W e te) (h' : SA X B W es s) (hs : starEach (.Starred e p :: es) X.env = (true, eval e X.env) :: starEach es X.env := by rfl) : SA X B W (.Starred e p :: es) (aStar te s) := by
  refine PA_imp (pa_star h h' hs) fun σ H Q q => ?_
  obtain ⟨ρ, F, EX, Q0, R, t, k, kx⟩ := q
  refine ⟨ρ, F, EX, _, R, t, fun d ρ1 t1 v F1 H1 R1 s1 p1 => ?_, kx⟩
  cases p1 with
  | lst h1 t2 =>
    refine ⟨_, _, rfl, .inr (SqL.of (R1.fz _ _ h1)), ρ1, F1, EX, _, R1, t1, fun ds ρ2 t3 vs F2 H2 R2 s2 p2 => ?_, kx⟩
    exact k _ ρ2 t3 _ F2 H2 R2 (s1.trans s2) ((t2.mono s2).append p2)
  | tup h1 t2 =>
    refine ⟨_, _, rfl, .inl (same_tup R1.fz h1), ρ1, F1, EX, _, R1, t1, fun ds ρ2 t3 vs F2 H2 R2 s2 p2 => ?_, kx⟩
    exact k _ ρ2 t3 _ F2 H2 R2 (s1.trans s2) ((t2.mono s2).append p2)
  | _ => exact t1.elim

/-! ### zip, enumerate -/
def zipD (xs ys : List D) : List D := List.zipWith (fun x y => .tup [x, y]) xs ys
theorem zipD_get {xs ys : List D} {i : Nat} (h : i < (zipD xs ys).length) : ∃ x y, xs[i]? = some x ∧ ys[i]? = some y ∧ (zipD xs ys)[i]? = some (.tup [x, y]) := by
  unfold zipD at *
  rw [List.length_zipWith] at h
  have h1 : i < xs.length := by omega
  have h2 : i < ys.length := by omega
  refine ⟨xs[i], ys[i], by simp [h1], by simp [h2], ?_⟩
  rw [List.getElem?_zipWith]
  simp [h1, h2]
theorem walks_zipL {K : PySem.W.Frag} {F : Hp} {a b : Addr} {vs ws : List V} {ds es : List D} (h : F a = some (.lst vs)) (p : DPs K F vs ds) (h' : F b = some (.lst ws)) (p' : DPs K F ws es) : WalksD K F (Itz K a b) (zipD ds es) where
  go := fun i F1 H s s' l => by
    obtain ⟨x, y, e1, e2, _⟩ := zipD_get l
    obtain ⟨u, f1, _⟩ := p.get e1
    obtain ⟨u', f2, _⟩ := p'.get e2
    exact ⟨vs, ws, u, u', SqL.of (s' _ _ (s _ _ h)), SqL.of (s' _ _ (s _ _ h')), f1, f2⟩
  stop := fun i F1 H s s' l => ⟨vs, ws, SqL.of (s' _ _ (s _ _ h)), SqL.of (s' _ _ (s _ _ h')), by
    rw [p.length, p'.length]
    unfold zipD at l
    rw [List.length_zipWith] at l
    omega⟩
  yld := fun i F1 H x H' s s' l y => by
    obtain ⟨T, u, u', rfl, hT, rfl, y1, y2⟩ := y
    obtain ⟨d, e, e1, e2, e3⟩ := zipD_get l
    have f1 := y1 vs (SqL.of (s' _ _ (s _ _ h)))
    have f2 := y2 ws (SqL.of (s' _ _ (s _ _ h')))
    obtain ⟨d', g1, g2⟩ := p.get' f1
    obtain ⟨e', g3, g4⟩ := p'.get' f2
    rw [e1] at g1
    rw [e2] at g3
    cases g1
    cases g3
    have sm : ∀ o, Same F1 (upd F1 T o) := fun o => same_upd (by
      cases q : F1 T with
      | none => rfl
      | some z => rw [s' _ _ q] at hT; cases hT)
    exact ⟨_, e3, .inr ⟨T, _, hT, rfl, .tup (SqT.of upd_same) (.cons ((g2.mono s).mono (sm _)) (.cons ((g4.mono s).mono (sm _)) .nil))⟩⟩
theorem walks_zipT {K : PySem.W.Frag} {F : Hp} {a b : Addr} {vs ws : List V} {ds es : List D} (h : SqT K F a vs) (p : DPs K F vs ds) (h' : SqT K F b ws) (p' : DPs K F ws es) : WalksD K F (ItzT K a b) (zipD ds es) where
  go := fun i F1 H s s' l => by
    obtain ⟨x, y, e1, e2, _⟩ := zipD_get l
    obtain ⟨u, f1, _⟩ := p.get e1
    obtain ⟨u', f2, _⟩ := p'.get e2
    exact ⟨vs, ws, u, u', same_tup (s.trans s') h, same_tup (s.trans s') h', f1, f2⟩
  stop := fun i F1 H s s' l => ⟨vs, ws, same_tup (s.trans s') h, same_tup (s.trans s') h', by
    rw [p.length, p'.length]
    unfold zipD at l
    rw [List.length_zipWith] at l
    omega⟩
  yld := fun i F1 H x H' s s' l y => by
    obtain ⟨T, u, u', rfl, hT, rfl, y1, y2⟩ := y
    obtain ⟨d, e, e1, e2, e3⟩ := zipD_get l
    have f1 := y1 vs (same_tup (s.trans s') h)
    have f2 := y2 ws (same_tup (s.trans s') h')
    obtain ⟨d', g1, g2⟩ := p.get' f1
    obtain ⟨e', g3, g4⟩ := p'.get' f2
    rw [e1] at g1
    rw [e2] at g3
    cases g1
    cases g3
    have sm : ∀ o, Same F1 (upd F1 T o) := fun o => same_upd (by
      cases q : F1 T with
      | none => rfl
      | some z => rw [s' _ _ q] at hT; cases hT)
    exact ⟨_, e3, .inr ⟨T, _, hT, rfl, .tup (SqT.of upd_same) (.cons ((g2.mono s).mono (sm _)) (.cons ((g4.mono s).mono (sm _)) .nil))⟩⟩
@[simp] def aZip (s : AA) : AI := fun EX ρ Q => s EX ρ fun ds ρ' => match ds with
  | [.lst xs, .lst ys] => Q (zipD xs ys) ρ'
  | [.tup xs, .tup ys] => Q (zipD xs ys) ρ'
  | _ => False
theorem si_zip {tpos : Pos} {elts : List Expr} {kk : Nat} (hg : Gl X "zip") (hm : X.mg "zip" = none) (ha : SA X B W [e, e2] s)
    (hs : starEach [e, e2] X.env = (false, eval e X.env) :: starEach [e2] X.env := by rfl) (hpl : (backTo pos (starEach [e2] X.env)).any (·.1) = false := by rfl) : SI X B W (.Tuple elts kk tpos) (.Call (.Name "zip" p) [e, e2] [] pos) (aZip s) := by
  refine PI_imp (pi_zipA hg hm ha hs hpl) fun σ H Q q => ?_
  obtain ⟨ρ, F, EX, Q0, R, t, k, kx⟩ := q
  refine ⟨ρ, F, EX, _, R, t, fun ds ρ1 t1 vs F1 H1 R1 s1 p1 => ?_, kx⟩
  split at t1
  · obtain ⟨v, w, rfl, h, h'⟩ := dps2 p1
    cases h with
    | lst h1 h2 =>
      cases h' with
      | lst h3 h4 => exact ⟨_, _, _, _, rfl, .inl ⟨SqL.of (R1.fz _ _ h1), SqL.of (R1.fz _ _ h3), k _ ρ1 t1 _ F1 H1 R1 s1 (walks_zipL h1 h2 h3 h4)⟩⟩
  · obtain ⟨v, w, rfl, h, h'⟩ := dps2 p1
    cases h with
    | tup h1 h2 =>
      cases h' with
      | tup h3 h4 => exact ⟨_, _, _, _, rfl, .inr ⟨same_tup R1.fz h1, same_tup R1.fz h3, k _ ρ1 t1 _ F1 H1 R1 s1 (walks_zipT h1 h2 h3 h4)⟩⟩
  · exact t1.elim
def enumD (n : Nat) : List D → List D
  | [] => []
  | x :: xs => .tup [.int (n : Nat), x] :: enumD (n + 1) xs
theorem enumD_len : ∀ {xs : List D} {n : Nat}, (enumD n xs).length = xs.length
  | [], _ => rfl
  | _ :: _, _ => congrArg (· + 1) enumD_len
theorem enumD_get : ∀ {xs : List D} {n i : Nat} {x : D}, xs[i]? = some x → (enumD n xs)[i]? = some (.tup [.int ((n + i : Nat) : Int), x])
  | [], _, _, _, h => by simp at h
  | y :: ys, n, 0, x, h => by
    simp at h
    subst h
    rfl
  | y :: ys, n, i + 1, x, h => by
    have := enumD_get (xs := ys) (n := n + 1) (i := i) (x := x) (by simpa using h)
    show (enumD (n + 1) ys)[i]? = _
    rw [this, show n + 1 + i = n + (i + 1) by omega]
theorem walks_enum {K : PySem.W.Frag} {F : Hp} {a : Addr} {vs : List V} {ds : List D} (h : F a = some (.lst vs)) (p : DPs K F vs ds) : WalksD K F (Ite K a) (enumD 0 ds) where
  go := fun i F1 H s s' l => by
    have l' : i < vs.length := by rw [p.length, ← enumD_len (n := 0)]; exact l
    exact ⟨vs, vs[i], SqL.of (s' _ _ (s _ _ h)), by simp [l']⟩
  stop := fun i F1 H s s' l => ⟨vs, SqL.of (s' _ _ (s _ _ h)), by rw [p.length, ← enumD_len (n := 0)]; exact l⟩
  yld := fun i F1 H x H' s s' l y => by
    obtain ⟨T, u, rfl, hT, rfl, y1⟩ := y
    have f1 := y1 vs (SqL.of (s' _ _ (s _ _ h)))
    obtain ⟨d, g1, g2⟩ := p.get' f1
    have sm : ∀ o, Same F1 (upd F1 T o) := fun o => same_upd (by
      cases q : F1 T with
      | none => rfl
      | some z => rw [s' _ _ q] at hT; cases hT)
    have e := enumD_get (n := 0) g1
    rw [Nat.zero_add] at e
    exact ⟨_, e, .inr ⟨T, _, hT, rfl, .tup (SqT.of upd_same) (.cons (.int _) (.cons ((g2.mono s).mono (sm _)) .nil))⟩⟩
@[simp] def aEnum (s : AA) : AI := fun EX ρ Q => s EX ρ fun ds ρ' => match ds with
  | [.lst xs] => Q (enumD 0 xs) ρ'
  | _ => False
theorem si_enum {tpos : Pos} {elts : List Expr} {kk : Nat} (hg : Gl X "enumerate") (hm : X.mg "enumerate" = none) (ha : SA X B W [e] s) (hs : starEach [e] X.env = [(false, eval e X.env)] := by rfl) :
    SI X B W (.Tuple elts kk tpos) (.Call (.Name "enumerate" p) [e] [] pos) (aEnum s) := by
  refine PI_imp (pi_enum hg hm ha hs) fun σ H Q q => ?_
  obtain ⟨ρ, F, EX, Q0, R, t, k, kx⟩ := q
  refine ⟨ρ, F, EX, _, R, t, fun ds ρ1 t1 vs F1 H1 R1 s1 p1 => ?_, kx⟩
  split at t1
  · obtain ⟨v, rfl, h⟩ := dps1 p1
    cases h with
    | lst h1 h2 => exact ⟨_, _, rfl, SqL.of (R1.fz _ _ h1), k _ ρ1 t1 _ F1 H1 R1 s1 (walks_enum h1 h2)⟩
  · exact t1.elim
end
end PU
set_option Elab.async false
set_option linter.all false
set_option maxRecDepth 100000
namespace PU
open PySem PySem.Spec L2 StX RZ
set_option autoImplicit false
section
variable {X : Cx} {B : Bas} {W : WX} {a b c e e2 tg : Expr} {es : List Expr} {ta tb tc te : AE} {s : AA} {pos p : Pos}

/-! ### is, of truths -/
@[simp] def dIs2 : Op2 := fun d e Q => match d, e with
  | .bl x, .bl y => Q (.bl (decide (x = y)))
  | d, e => dIs d e Q
@[simp] def dIsNot2 : Op2 := fun d e Q => match d, e with
  | .bl x, .bl y => Q (.bl (!decide (x = y)))
  | d, e => dIsNot d e Q
theorem opS_is2 {K : PySem.W.Frag} : OpS K B (fun x y H Q => (∃ a b, x = .bl a ∧ y = .bl b ∧ Q (.bl (decide (a = b))) H) ∨ (y = .non ∧ Q (.bl (decide (x = .non))) H)) dIs2 := by
  intro F H ρ σ x y d e Q0 Q R p1 p2 q k
  unfold dIs2 at q
  split at q
  · exact .inl ⟨_, _, dp_bl p1, dp_bl p2, k _ q _ F H R (Same.refl _) (.bl _)⟩
  · exact .inr (opS_is F H ρ σ x y _ _ _ Q R p1 p2 q k)
theorem opS_isNot2 {K : PySem.W.Frag} : OpS K B (fun x y H Q => (∃ a b, x = .bl a ∧ y = .bl b ∧ Q (.bl (!decide (a = b))) H) ∨ (y = .non ∧ Q (.bl (!decide (x = .non))) H)) dIsNot2 := by
  intro F H ρ σ x y d e Q0 Q R p1 p2 q k
  unfold dIsNot2 at q
  split at q
  · exact .inl ⟨_, _, dp_bl p1, dp_bl p2, k _ q _ F H R (Same.refl _) (.bl _)⟩
  · exact .inr (opS_isNot F H ρ σ x y _ _ _ Q R p1 p2 q k)
theorem se_is2 (ha : SE X B W a ta) (hb : SE X B W b tb) : SE X B W (.Compare a [.Is] [b] pos) (aBin dIs2 ta tb) := se_cmp (op_is_bl.or op_isN) opS_is2 ha hb (nomark _)
theorem se_isNot2 (ha : SE X B W a ta) (hb : SE X B W b tb) : SE X B W (.Compare a [.IsNot] [b] pos) (aBin dIsNot2 ta tb) := se_cmp (op_isnot_bl.or op_notN) opS_isNot2 ha hb (nomark _)

/-! ### a def held as a value -/
/-- the def at f keeps A -/
def FnAt (P : Program) (w : World) (K : PySem.W.Frag) (mg : Str → Option Value) (base : Heap) (ec : Str → Option Addr) (k : Nat) (f : Addr) (n : Nat) (A : AF) : Prop :=
  ∃ fd ps, PySem.W.keepIn K (.ref f) = true ∧ Binds K fd ps [] ∧ FnG P w K mg base k f fd ps (spOf K ec n A)
/-- g(..), g the slot i -/
@[simp] def aCallV (FA : Addr → Nat → AF → Prop) (i n : Nat) (s : AA) : AE := fun EX ρ Q => ∃ f A, (∃ u, ρ[i]? = some u ∧ u = .dat (.con (.ref f))) ∧ FA f n A ∧ s EX ρ fun ds ρ' => ds.length = n ∧ A ds (fun d => Q d ρ') fun x => EX x ρ'
/-- some def's promise, whatever the address -/
structure AtF where
  f : Addr
  A : AF
theorem PE_ex1 {α : Type} {X : Cx} {e : Expr} {T : α → TE} {P : α → Prop} (h : ∀ a, P a → PE X e (T a)) : PE X e (fun σ H Q => ∃ a, P a ∧ T a σ H Q) :=
  ⟨fun pins s σ H Q I q => let ⟨a, p, q⟩ := q; (h a p).run pins s σ H Q I q⟩
def tCallV (i : Nat) (f : Addr) (sp : Sp) (E : L2.St → XK) (t : TA) : TE := fun σ H Q => σ[i]? = some (some (.ref f)) ∧ t σ H fun vs H1 => sp vs H1 Q (E σ)
theorem pe_callV {x : Str} {i k : Nat} {f : Addr} {fd : FuncData} {ps : List Str} {sp : Sp} {E : L2.St → XK} {t : TA} (d : FnG X.prog X.w X.K X.mg X.base k f fd ps sp) (hr : RoomG k X.A) (hN : X.N[i]? = some x) (hv : Vis X.env.scope x) (hk : PySem.W.keepIn X.K (.ref f) = true) (hb : Binds X.K fd ps []) (hx : ∀ σ, PassesAt (L2.CX X.prog X.w) X σ (E σ)) (ha : PA X (e :: es) t)
    (hdb : (x == ("__debug__" : Str)) = false := by decide) (hcd : (x == ("__classdict__" : Str)) = false := by decide)
    (he : starEach (e :: es) X.env = (false, eval e X.env) :: starEach es X.env := by rfl) (hpl : (backTo pos (starEach es X.env)).any (·.1) = false := by rfl) : PE X (.Call (.Name x p) (e :: es) [] pos) (tCallV i f sp E t) := by
  refine ⟨fun pins s σ H Q I h => ?_⟩
  obtain ⟨hs, ht⟩ := h
  have look := (pe_var (pos := p) hN hv hdb hcd).run pins s σ H (fun v H1 => v = .ref f ∧ H1 = H) I ⟨.ref f, hs, rfl, rfl⟩
  refine wpAny_Call_Name_kw (thn look fun u s1 ⟨v, H1, J, r1, q1⟩ => ?_)
  obtain ⟨rfl, rfl⟩ := q1
  cases r1
  exact PySem.W.callWith_K (h₀ := X.base) I.ok.mod.kin hk (thn (ha.run pos pins s1 σ _ _ J ht) fun us s2 ⟨vs, H2, J2, r, q⟩ => ⟨J2.kIn, goG d hr hb (hx σ) J2 r q⟩) he hpl
theorem se_callV {x : Str} {i n k : Nat} {ec : Str → Option Addr} (hec : B.ec = ec) (tk : Takes X W) (hr : RoomG k X.A) (hN : X.N[i]? = some x) (hv : Vis X.env.scope x) (ha : SA X B W (e :: es) s)
    (hdb : (x == ("__debug__" : Str)) = false := by decide) (hcd : (x == ("__classdict__" : Str)) = false := by decide)
    (he : starEach (e :: es) X.env = (false, eval e X.env) :: starEach es X.env := by rfl) (hpl : (backTo pos (starEach es X.env)).any (·.1) = false := by rfl) :
    SE X B W (.Call (.Name x p) (e :: es) [] pos) (aCallV (FnAt X.prog X.w X.K X.mg X.base ec k) i n s) := by
  subst hec
  refine PE_imp (PE_ex1 (α := AtF) (P := fun a => FnAt X.prog X.w X.K X.mg X.base B.ec k a.f n a.A) (T := fun a => tCallV i a.f (spOf X.K B.ec n a.A) (WE W) (cA X.K B W s)) fun a ha' => ?_) fun σ H Q q => ?_
  · obtain ⟨fd, ps, h2, h3, h4⟩ := ha'
    exact pe_callV h4 hr hN hv h2 h3 (fun σ => passAt tk σ) ha hdb hcd he hpl
  · obtain ⟨ρ, F, EX, Q0, R, ⟨f, A, ⟨_, hs, rfl⟩, hA, t⟩, k, kx⟩ := q
    obtain ⟨v, h1, h2⟩ := R.sl i _ hs
    rw [dp_con h2] at h1
    refine ⟨⟨f, A⟩, hA, h1, ρ, F, EX, _, R, t, fun ds ρ1 t1 vs F1 H1 R1 s1 p1 => ?_, kx⟩
    refine ⟨F1, ds, _, _, t1.1, R1.toCall (.inr rfl), p1, t1.2, fun d hd v F' H' P pd => ?_, fun x hx cls d F' H' P px => ?_⟩
    · exact k _ ρ1 hd v F' H' (R1.call (.inr rfl) P) (s1.trans P.f0) pd
    · exact kx x ρ1 hx cls d F' H' (R1.call (.inr rfl) P) px
/-- a def of the text as a value -/
theorem DefOk.at {P : Program} {w : World} {K : PySem.W.Frag} {mg : Str → Option Value} {base : Heap} {ec : Str → Option Addr} {nm : Str} {k n : Nat} {A : AF} {f : Addr} (d : DefOk P w K mg base nm k (spOf K ec n A)) (h : mg nm = some (.ref f)) : FnAt P w K mg base ec k f n A := by
  obtain ⟨f', fd, ps, h1, h2, h3, h4⟩ := d.ex
  rw [h] at h1
  cases h1
  exact ⟨fd, ps, h2, h3, h4⟩

theorem st_eq2 {k : Nat} (hr : Room k X.A) (ha : SE X B W a ta) (hb : SE X B W b tb) : ST X B W (.Compare a [.Eq] [b] pos) (aTestB (aBin dEq2 ta tb)) := st_cmp (op_eq.or (op_eqD hr.units)) opS_eq2 ha hb (nomark _)
theorem st_ne2 {k : Nat} (hr : Room k X.A) (ha : SE X B W a ta) (hb : SE X B W b tb) : ST X B W (.Compare a [.NotEq] [b] pos) (aTestB (aBin dNe2 ta tb)) := st_cmp (op_ne.or (op_neD hr.units)) opS_ne2 ha hb (nomark _)
theorem st_in {k : Nat} (hr : Room k X.A) (ha : SE X B W a ta) (hb : SE X B W b tb) (hm : behindInMarks .In b = false := by rfl) : ST X B W (.Compare a [.In] [b] pos) (aTestB (aBin (dIn false) ta tb)) := st_cmp ((op_inG hr).or (op_inN hr)) opS_in ha hb hm
theorem st_notIn {k : Nat} (hr : Room k X.A) (ha : SE X B W a ta) (hb : SE X B W b tb) (hm : behindInMarks .NotIn b = false := by rfl) : ST X B W (.Compare a [.NotIn] [b] pos) (aTestB (aBin (dIn true) ta tb)) := st_cmp ((op_notInG hr).or (op_notInN hr)) opS_in ha hb hm
theorem st_is2 (ha : SE X B W a ta) (hb : SE X B W b tb) : ST X B W (.Compare a [.Is] [b] pos) (aTestB (aBin dIs2 ta tb)) := st_cmp (op_is_bl.or op_isN) opS_is2 ha hb (nomark _)
theorem st_isNot2 (ha : SE X B W a ta) (hb : SE X B W b tb) : ST X B W (.Compare a [.IsNot] [b] pos) (aTestB (aBin dIsNot2 ta tb)) := st_cmp (op_isnot_bl.or op_notN) opS_isNot2 ha hb (nomark _)
end
end PU
set_option Elab.async false
set_option linter.all false
set_option maxRecDepth 100000
namespace PU
open PySem PySem.Spec L2 StX RZ
set_option autoImplicit false

/-! ### a, b, .. = .., some of them new objects of one's own -/
inductive OV where
  | dat (d : D) | own (d : D)
inductive DOs (K : PySem.W.Frag) (F H : Hp) (ρ : List AV) (σ : L2.St) : Bas → List V → List OV → Prop
  | nil {B : Bas} : DOs K F H ρ σ B [] []
  | dat {B : Bas} {v : V} {vs : List V} {d : D} {os : List OV} : DP K F v d → DOs K F H ρ σ B vs os → DOs K F H ρ σ B (v :: vs) (.dat d :: os)
  | own {B : Bas} {a : Addr} {o : HO} {vs : List V} {d : D} {os : List OV} : FreshAt B F H ρ σ a o → OwnP K F o d → DOs K F H ρ σ (B.wP (upd B.P a o)) vs os → DOs K F H ρ σ B (.ref a :: vs) (.own d :: os)
abbrev AO2 := EK → List AV → (List OV → List AV → Prop) → Prop
def cAo (K : PySem.W.Frag) (B : Bas) (W : WX) (t : AO2) : TA := fun σ H Q => ∃ ρ F EX Q0, Rel K B F H ρ σ ∧ t EX ρ Q0 ∧ (∀ os ρ', Q0 os ρ' → ∀ vs F' H', Rel K B F' H' ρ' σ → Same F F' → DOs K F' H' ρ' σ B vs os → Q vs H') ∧ cX K B W σ EX
def SAo (X : Cx) (B : Bas) (W : WX) (es : List Expr) (t : AO2) : Prop := PA X es (cAo X.K B W t)
section
variable {K : PySem.W.Frag} {B : Bas} {F F' H H' : Hp} {ρ ρ' : List AV} {σ : L2.St}
theorem Rel.guard (R : Rel K B F H ρ σ) {p : Addr} {o : HO} (f : FreshAt B F H ρ σ p o) : Rel K (B.wP (upd B.P p o)) F H ρ σ := by
  obtain ⟨f1, f2, f3, f4, f5⟩ := f
  refine ⟨⟨R.fz, R.f0, R.nf, R.kp, R.sr, fun b x e => ?_⟩, R.len, R.sl, fun i d e => ?_, R.so, R.ap⟩
  · have e : upd B.P p o b = some x := e
    by_cases hb : b = p
    · subst hb
      rw [upd_same] at e
      cases e
      exact ⟨f4, f1, f2⟩
    · rw [upd_ne hb] at e
      exact R.pr b x e
  · obtain ⟨a, ho, h1, h2, h3, hP, h4, h5⟩ := R.ow i d e
    have n : a ≠ p := fun z => f5 i d e (z ▸ h1)
    exact ⟨a, ho, h1, h2, h3, by show upd B.P p o a = none; rw [upd_ne n]; exact hP, h4, h5⟩
theorem DOs.shift {F1 H1 : Hp} {ρ1 : List AV} {σ1 : L2.St} (sm : Same F F1) (hf : ∀ b o, F b = none → H b = some o → F1 b = none ∧ H1 b = some o) {Bx : Bas} {vs : List V} {os : List OV} (h : DOs K F H ρ σ Bx vs os) :
    ∀ {P2 : Hp}, (∀ b, Bx.P b = none → P2 b = none ∧ ∀ o, FreshAt Bx F H ρ σ b o → ∀ (j : Nat) (e : D), ρ1[j]? = some (.own e) → σ1[j]? ≠ some (some (.ref b))) →
      (∀ (P : Hp) b o, (∀ c, P c = none → Bx.P c = none) → FreshAt (Bx.wP P) F H ρ σ b o → ∀ (j : Nat) (e : D), ρ1[j]? = some (.own e) → σ1[j]? ≠ some (some (.ref b))) → DOs K F1 H1 ρ1 σ1 (Bx.wP P2) vs os := by
  induction h with
  | nil => intro P2 _ _; exact .nil
  | dat h t ih => intro P2 q1 q2; exact .dat (h.mono sm) (ih q1 q2)
  | own f q t ih =>
    rename_i B0 a o vs d os
    intro P2 q1 q2
    obtain ⟨f1, f2, f3, f4, f5⟩ := f
    obtain ⟨g1, g4⟩ := hf a o f1 f4
    refine .own ⟨g1, f2, (q1 a f3).1, g4, (q1 a f3).2 o ⟨f1, f2, f3, f4, f5⟩⟩ (q.mono sm) ?_
    have key := ih (P2 := upd P2 a o) (fun b hb => ?_) (fun P b ob hP fb => ?_)
    · exact key
    · have hb : upd B0.P a o b = none := hb
      have n : b ≠ a := fun z => by rw [z, upd_same] at hb; cases hb
      rw [upd_ne n] at hb
      refine ⟨by rw [upd_ne n]; exact (q1 b hb).1, fun ob fb => ?_⟩
      obtain ⟨u1, u2, u3, u4, u5⟩ := fb
      exact (q1 b hb).2 ob ⟨u1, u2, hb, u4, u5⟩
    · obtain ⟨u1, u2, u3, u4, u5⟩ := fb
      refine q2 P b ob (fun c hc => ?_) ⟨u1, u2, u3, u4, u5⟩
      have z : upd B0.P a o c = none := hP c hc
      by_cases e : c = a
      · rw [e]; exact f3
      · rwa [upd_ne e] at z
@[simp] def putO : List Nat → List OV → List AV → List AV
  | i :: is, .dat d :: os, ρ => putO is os (ρ.set i (.dat d))
  | i :: is, .own d :: os, ρ => putO is os (ρ.set i (.own d))
  | _, _, ρ => ρ
def putV : List Nat → List V → L2.St → L2.St
  | i :: is, v :: vs, σ => putV is vs (σ.set i (some v))
  | _, _, σ => σ
theorem Rel.putO : ∀ {is : List Nat} {vs : List V} {os : List OV} {B : Bas} {ρ : List AV} {σ : L2.St}, is.length = os.length → Rel K B F H ρ σ → DOs K F H ρ σ B vs os → Rel K B F H (PU.putO is os ρ) (putV is vs σ)
  | [], _, _, _, _, _, hl, R, h => by
    cases h with
    | nil => exact R
    | dat => cases hl
    | own => cases hl
  | i :: is, _, _, B, ρ, σ, hl, R, h => by
    cases h with
    | nil => cases hl
    | dat h t =>
      rename_i v vs d os
      refine Rel.putO (is := is) (by simpa using hl) (R.store h) ?_
      have := t.shift (F1 := F) (H1 := H) (ρ1 := ρ.set i (.dat d)) (σ1 := σ.set i (some v)) (Same.refl _) (fun b o x y => ⟨x, y⟩) (P2 := B.P) (fun b hb => ⟨hb, fun o f j e q => ?_⟩) (fun P b o hP f j e q => ?_)
      · exact this
      · rcases set_get q with ⟨rfl, z⟩ | ⟨n, z⟩
        · cases z
        · rw [List.getElem?_set_ne (Ne.symm n)]
          exact f.2.2.2.2 j e z
      · rcases set_get q with ⟨rfl, z⟩ | ⟨n, z⟩
        · cases z
        · rw [List.getElem?_set_ne (Ne.symm n)]
          exact f.2.2.2.2 j e z
    | own f q t =>
      rename_i a o vs d os
      have f' := f
      obtain ⟨f1, f2, f3, f4, f5⟩ := f
      refine Rel.putO (is := is) (by simpa using hl) (R.storeO f1 f2 f3 f4 q fun j e _ => f5 j e) ?_
      have hh : ∀ (P : Hp) (b : Addr) (ob : HO), P b = none → (∀ c, P c = none → upd B.P a o c = none) → FreshAt (B.wP P) F H ρ σ b ob → ∀ (j : Nat) (e : D), (ρ.set i (.own d))[j]? = some (.own e) → (σ.set i (some (.ref a)))[j]? ≠ some (some (.ref b)) := by
        intro P b ob hb hP fb j e qq
        have n : b ≠ a := fun z => by
          have := hP b hb
          rw [z, upd_same] at this
          cases this
        rcases set_get qq with ⟨rfl, z⟩ | ⟨m, z⟩
        · have hlt : j < σ.length := by
            have := (List.getElem?_eq_some_iff.mp qq).1
            rw [List.length_set] at this
            rw [R.len]; exact this
          rw [List.getElem?_set_self hlt]
          intro y
          cases y
          exact n rfl
        · rw [List.getElem?_set_ne (Ne.symm m)]
          exact fb.2.2.2.2 j e z
      have := t.shift (F1 := F) (H1 := H) (ρ1 := ρ.set i (.own d)) (σ1 := σ.set i (some (.ref a))) (Same.refl _) (fun b o x y => ⟨x, y⟩) (P2 := B.P) (fun b hb => ⟨?_, fun ob fb j e qq => ?_⟩) (fun P b ob hP fb j e qq => ?_)
      · exact this
      · have hb : upd B.P a o b = none := hb
        by_cases n : b = a
        · rw [n]; exact f3
        · rwa [upd_ne n] at hb
      · exact hh _ b ob hb (fun _ z => z) fb j e qq
      · exact hh P b ob fb.2.2.1 hP fb j e qq
end
section
variable {X : Cx} {B : Bas} {W : WX} {a b c e : Expr} {es : List Expr} {te : AE} {s : AA} {so : AO2} {pos : Pos}
@[simp] def aoNil : AO2 := fun _ ρ Q => Q [] ρ
@[simp] def aoD (te : AE) (s : AO2) : AO2 := fun EX ρ Q => te EX ρ fun d ρ1 => s EX ρ1 fun ds ρ2 => Q (.dat d :: ds) ρ2
@[simp] def aoO (te : AE) (s : AO2) : AO2 := fun EX ρ Q => te EX ρ fun d ρ1 => s EX ρ1 fun ds ρ2 => Q (.own d :: ds) ρ2
theorem sao_nil : SAo X B W [] aoNil := by
  refine PA_imp pa_nil fun σ H Q q => ?_
  obtain ⟨ρ, F, EX, Q0, R, t, k, kx⟩ := q
  exact k _ ρ t [] F H R (Same.refl _) .nil
theorem sao_d (h : SE X B W e te) (h' : SAo X B W es so) (hs : starEach (e :: es) X.env = (false, eval e X.env) :: starEach es X.env := by rfl) : SAo X B W (e :: es) (aoD te so) := by
  refine PA_imp (pa_cons h h' hs) fun σ H Q q => ?_
  obtain ⟨ρ, F, EX, Q0, R, t, k, kx⟩ := q
  refine ⟨ρ, F, EX, _, R, t, fun d ρ1 t1 v F1 H1 R1 s1 p1 => ?_, kx⟩
  refine ⟨ρ1, F1, EX, _, R1, t1, fun os ρ2 t2 vs F2 H2 R2 s2 p2 => ?_, kx⟩
  exact k _ ρ2 t2 _ F2 H2 R2 (s1.trans s2) (.dat (p1.mono s2) p2)
theorem PA_ex {α : Type} {T : α → TA} (h : ∀ a, PA X es (T a)) : PA X es (fun σ H Q => ∃ a, T a σ H Q) := ⟨fun pos pins s σ H Q I q => let ⟨a, q⟩ := q; (h a).run pos pins s σ H Q I q⟩
theorem sao_o (h : SF X B W e te) (h' : ∀ P, SAo X (B.wP P) W es so) (hs : starEach (e :: es) X.env = (false, eval e X.env) :: starEach es X.env := by rfl) : SAo X B W (e :: es) (aoO te so) := by
  refine PA_imp (pa_cons h (PA_ex (T := fun P => cAo X.K (B.wP P) W so) h') hs) fun σ H Q q => ?_
  obtain ⟨ρ, F, EX, Q0, R, t, k, kx⟩ := q
  refine ⟨ρ, F, EX, _, R, t, fun d ρ1 t1 a o F1 H1 R1 s1 f p1 => ?_, kx⟩
  have hP := f.2.2.1
  refine ⟨upd B.P a o, ρ1, F1, EX, _, R1.guard f, t1, fun os ρ2 t2 vs F2 H2 R2 s2 p2 => ?_, fun x ρ' hx cls d F' H' R' xp => ?_⟩
  · obtain ⟨R3, f3⟩ := R2.release hP
    exact k _ ρ2 t2 _ F2 H2 R3 (s1.trans s2) (.own f3 (p1.mono s2) p2)
  · exact kx x ρ' hx cls d F' H' (R'.release hP).1 xp
@[simp] def aParO (is : List Nat) (s : AO2) : AS := fun A ρ => s A.ex ρ fun os ρ' => is.length = os.length ∧ A.nx (putO is os ρ')
theorem DOs.len {K : PySem.W.Frag} {F H : Hp} {ρ : List AV} {σ : L2.St} {B : Bas} {vs : List V} {os : List OV} (h : DOs K F H ρ σ B vs os) : vs.length = os.length := by
  induction h with
  | nil => rfl
  | dat _ _ ih => exact congrArg (· + 1) ih
  | own _ _ _ ih => exact congrArg (· + 1) ih
theorem ss_par2 {i j : Nat} {x y : Str} {px py pt : Pos} {kt k2 : Nat} {pt2 : Pos} (hc : X.calm = true) (hN : X.N.Nodup) (hi : X.N[i]? = some x) (hj : X.N[j]? = some y) (hij : i ≠ j)
    (hx : X.env.scope.names.lookup x = some .local) (hy : X.env.scope.names.lookup y = some .local) (ha : SAo X B W [a, b] so)
    (hw : swappedStores [.Tuple [.Name x px, .Name y py] kt pt] (.Tuple [a, b] k2 pt2) X.env = pure (some [x, y]) := by rfl)
    (hs : swapsWithSole [.Tuple [.Name x px, .Name y py] kt pt] (.Tuple [a, b] k2 pt2) pos.line X.env = pure false := by rfl) :
    SS X B W (.Assign [.Tuple [.Name x px, .Name y py] kt pt] (.Tuple [a, b] k2 pt2) pos) (aParO [i, j] so) := by
  refine PS_imp (ps_par hc hN hi hj hij hx hy ha hw hs) fun D σ H q => ?_
  obtain ⟨ρ, F, A, R, t, k⟩ := q
  refine ⟨ρ, F, A.ex, _, R, t, fun os ρ' t' vs F' H' R' s' p' => ?_, k.ex σ⟩
  have l := p'.len
  have l2 : os.length = 2 := t'.1.symm
  have R2 := R'.putO t'.1 p'
  match vs, l with
  | [v, w], _ => exact ⟨v, w, rfl, k.nx _ _ F' H' t'.2 R2 s'⟩
  | [], l => rw [l2] at l; cases l
  | [_], l => rw [l2] at l; cases l
  | _ :: _ :: _ :: _, l => rw [l2] at l; simp at l
theorem ss_par3 {i j l : Nat} {x y z : Str} {px py pz pt : Pos} {kt k2 : Nat} {pt2 : Pos} (hc : X.calm = true) (hN : X.N.Nodup) (hi : X.N[i]? = some x) (hj : X.N[j]? = some y) (hl : X.N[l]? = some z) (hij : i ≠ j) (hil : i ≠ l) (hjl : j ≠ l)
    (hx : X.env.scope.names.lookup x = some .local) (hy : X.env.scope.names.lookup y = some .local) (hz : X.env.scope.names.lookup z = some .local) (ha : SAo X B W [a, b, c] so)
    (hw : swappedStores [.Tuple [.Name x px, .Name y py, .Name z pz] kt pt] (.Tuple [a, b, c] k2 pt2) X.env = pure (some [x, y, z]) := by rfl)
    (hs : swapsWithSole [.Tuple [.Name x px, .Name y py, .Name z pz] kt pt] (.Tuple [a, b, c] k2 pt2) pos.line X.env = pure false := by rfl) :
    SS X B W (.Assign [.Tuple [.Name x px, .Name y py, .Name z pz] kt pt] (.Tuple [a, b, c] k2 pt2) pos) (aParO [i, j, l] so) := by
  refine PS_imp (ps_par3 hc hN hi hj hl hij hil hjl hx hy hz ha hw hs) fun D σ H q => ?_
  obtain ⟨ρ, F, A, R, t, k⟩ := q
  refine ⟨ρ, F, A.ex, _, R, t, fun os ρ' t' vs F' H' R' s' p' => ?_, k.ex σ⟩
  have l1 := p'.len
  have l2 : os.length = 3 := t'.1.symm
  have R2 := R'.putO t'.1 p'
  match vs, l1 with
  | [u, v, w], _ => exact ⟨u, v, w, rfl, k.nx _ _ F' H' t'.2 R2 s'⟩
  | [], l1 => rw [l2] at l1; cases l1
  | [_], l1 => rw [l2] at l1; cases l1
  | [_, _], l1 => rw [l2] at l1; cases l1
  | _ :: _ :: _ :: _ :: _, l1 => rw [l2] at l1; simp at l1
/-- by a tuple, where a name is a cell or there are more of them -/
def gStore : List Nat → TGs
  | [] => gNil
  | i :: is => gCons (gName i) (gStore is)
theorem gStore_of : ∀ {is : List Nat} {vs : List V} {σ : L2.St} {H : Hp} {Q : L2.St → Hp → Prop}, is.length = vs.length → Q (putV is vs σ) H → gStore is vs σ H Q
  | [], [], _, _, _, _, q => ⟨rfl, q⟩
  | _ :: _, v :: vs, _, _, _, h, q => ⟨v, vs, rfl, gStore_of (by simpa using h) q⟩
  | [], _ :: _, _, _, _, h, _ => by cases h
  | _ :: _, [], _, _, _, h, _ => by cases h
theorem ss_parG {is : List Nat} {n kt k2 : Nat} {ts : List Expr} {pt pt2 : Pos} (hc : X.calm = true) (hg : PGs X ts (gStore is)) (hn : is.length = n) (hz : n ≤ 1000) (ha : SAo X B W es so)
    (h1 : (assignEach ts X.env).length = n := by rfl) (hst : (assignEach ts X.env).findIdx? (·.1) = none := by rfl)
    (hs : swapsWithSole [.Tuple ts kt pt] (.Tuple es k2 pt2) pos.line X.env = pure false := by rfl) (hw : swappedStores [.Tuple ts kt pt] (.Tuple es k2 pt2) X.env = pure none := by rfl)
    (h2 : (assignEach [.Tuple ts kt pt] X.env).map (·.2) = [assign (.Tuple ts kt pt) X.env] := by rfl) :
    SS X B W (.Assign [.Tuple ts kt pt] (.Tuple es k2 pt2) pos) (aParO is so) := by
  refine PS_imp (ps_asg (pe_tup ha) (pg_tup hc hg h1 hst) hs hw h2) fun D σ H q => ?_
  obtain ⟨ρ, F, A, R, t, k⟩ := q
  refine ⟨ρ, F, A.ex, _, R, t, fun os ρ' t' vs F' H' R' s' p' => ?_, k.ex σ⟩
  have l1 : vs.length = n := by rw [p'.len, ← t'.1, hn]
  refine ⟨by rw [l1, sizeLine_eq]; omega, fun p hp => ⟨p, vs, rfl, SqT.of upd_same, l1, gStore_of (by rw [l1, hn]) ?_⟩⟩
  have R2 := (R'.putO t'.1 p').allocO (o := .tup vs) hp
  exact k.nx _ _ F' _ t'.2 R2 s'
end
end PU
set_option Elab.async false
set_option linter.all false
set_option maxRecDepth 100000
namespace PU
open PySem PySem.Spec L2 StX RZ
set_option autoImplicit false
section
variable {X : Cx} {B : Bas} {W : WX} {a b c e : Expr} {es : List Expr} {ta tb te : AE} {s : AA} {pos : Pos}
/-! ### x == e, x != e, x an own list that stays one's own -/
theorem Seen.py {K : PySem.W.Frag} {F H : Hp} {v : V} {d : D} {n : Nat} (e : Same F H) (h : Seen K F H v d) (s : D.shp n d) : Dp K H v d.py := by
  rcases h with h | ⟨a, o, rfl, h1, h2⟩
  · exact shp_dp e s h
  · cases h2 with
    | lst t =>
      cases n with
      | zero => unfold D.shp at s; exact s.elim
      | succ n => exact .lst (SqL.of h1) (shp_dps e s t)
    | dK t => unfold D.shp at s; exact s.elim
    | dT t => unfold D.shp at s; exact s.elim
    | dN n t => unfold D.shp at s; exact s.elim
@[simp] def aNeN (i : Nat) (tb : AE) : AE := fun EX ρ Q => (∃ v, ρ[i]? = some v ∧ v ≠ .un ∧ v ≠ .src) ∧ tb EX ρ fun e ρ' => lookA ρ' i fun d => dNe d e fun z => Q z ρ'
@[simp] def aEqN (i : Nat) (tb : AE) : AE := fun EX ρ Q => (∃ v, ρ[i]? = some v ∧ v ≠ .un ∧ v ≠ .src) ∧ tb EX ρ fun e ρ' => lookA ρ' i fun d => dEq d e fun z => Q z ρ'
theorem cNeN {K : PySem.W.Frag} {i : Nat} {σ : L2.St} {H : Hp} {Q : VK} (q : cE K B W (aNeN i tb) σ H Q) : tOp (rNeD K) (tVar i) (cE K B W tb) σ H Q := by
  obtain ⟨ρ, F, EX, Q0, R, ⟨⟨u, hu, hu1, _⟩, t⟩, k, kx⟩ := q
  obtain ⟨v, hv⟩ := R.slotV hu hu1
  refine ⟨v, hv, ρ, F, EX, _, R, t, fun e ρ' t' w F' H' R' s' p2 => ?_, kx⟩
  obtain ⟨v', d, h1, h2, s1, s2, t'⟩ := R'.look t'
  rw [hv] at h1
  cases h1
  exact ⟨d.py, e.py, h2.py R'.fz s1, shp_dp R'.fz s2 p2, shp_shaped s1, shp_shaped s2, k _ _ t' _ F' H' R' s' (.bl _)⟩
theorem cEqN {K : PySem.W.Frag} {i : Nat} {σ : L2.St} {H : Hp} {Q : VK} (q : cE K B W (aEqN i tb) σ H Q) : tOp (rEqD K) (tVar i) (cE K B W tb) σ H Q := by
  obtain ⟨ρ, F, EX, Q0, R, ⟨⟨u, hu, hu1, _⟩, t⟩, k, kx⟩ := q
  obtain ⟨v, hv⟩ := R.slotV hu hu1
  refine ⟨v, hv, ρ, F, EX, _, R, t, fun e ρ' t' w F' H' R' s' p2 => ?_, kx⟩
  obtain ⟨v', d, h1, h2, s1, s2, t'⟩ := R'.look t'
  rw [hv] at h1
  cases h1
  exact ⟨d.py, e.py, h2.py R'.fz s1, shp_dp R'.fz s2 p2, shp_shaped s1, shp_shaped s2, k _ _ t' _ F' H' R' s' (.bl _)⟩
theorem se_neN {k : Nat} (i : Nat) (hr : Room k X.A) (hy : PE X a (tVar i)) (hb : SE X B W b tb) : SE X B W (.Compare a [.NotEq] [b] pos) (aNeN i tb) :=
  PE_imp (pe_cmpR (op_neD hr.units) hy hb (nomark _)) fun _ _ _ q => cNeN q
theorem se_eqN {k : Nat} (i : Nat) (hr : Room k X.A) (hy : PE X a (tVar i)) (hb : SE X B W b tb) : SE X B W (.Compare a [.Eq] [b] pos) (aEqN i tb) :=
  PE_imp (pe_cmpR (op_eqD hr.units) hy hb (nomark _)) fun _ _ _ q => cEqN q
theorem st_neN {k : Nat} (i : Nat) (hr : Room k X.A) (hy : PE X a (tVar i)) (hb : SE X B W b tb) : ST X B W (.Compare a [.NotEq] [b] pos) (aTestB (aNeN i tb)) := by
  refine PT_imp (pt_cmpR (op_neD hr.units) hy hb (nomark _)) fun σ H Q q => ?_
  obtain ⟨ρ, F, EX, Q0, R, t, k, kx⟩ := q
  refine cNeN ⟨ρ, F, EX, _, R, t, fun d ρ1 t1 v F1 H1 R1 s1 p1 => ?_, kx⟩
  obtain ⟨j, h1, h2⟩ := blQ_of p1 t1
  exact ⟨j, h1, k j ρ1 h2 F1 H1 R1 s1⟩
theorem st_eqN {k : Nat} (i : Nat) (hr : Room k X.A) (hy : PE X a (tVar i)) (hb : SE X B W b tb) : ST X B W (.Compare a [.Eq] [b] pos) (aTestB (aEqN i tb)) := by
  refine PT_imp (pt_cmpR (op_eqD hr.units) hy hb (nomark _)) fun σ H Q q => ?_
  obtain ⟨ρ, F, EX, Q0, R, t, k, kx⟩ := q
  refine cEqN ⟨ρ, F, EX, _, R, t, fun d ρ1 t1 v F1 H1 R1 s1 p1 => ?_, kx⟩
  obtain ⟨j, h1, h2⟩ := blQ_of p1 t1
  exact ⟨j, h1, k j ρ1 h2 F1 H1 R1 s1⟩
end
end PU
set_option Elab.async false
set_option linter.all false
set_option maxRecDepth 100000
namespace PU
open PySem PySem.Spec L2 StX RZ
set_option autoImplicit false

/-! ### the drawing source -/
section
variable {K : PySem.W.Frag} {B : Bas} {F F' H H' : Hp} {ρ ρ' : List AV} {σ : L2.St}
abbrev srcL (c : Addr) (l m t : Int) : List (Key × V) := [(.inr "cells", .ref c), (.inr "left", .int l), (.inr "mixed", .int m), (.inr "turn", .int t)]
abbrev srcO (c : Addr) (l m t : Int) : HO := .dK (srcL c l m t)
theorem Rel.source (R : Rel K B F H ρ σ) {i : Nat} (h : ρ[i]? = some .src) : ∃ (s c : Addr) (ns : List Int) (l m t : Int), B.Z = some (s, c) ∧ σ[i]? = some (some (.ref s)) ∧ H s = some (srcO c l m t) ∧ H c = some (.lst (ns.map V.int)) ∧ (∀ x ∈ ns, 0 ≤ x) ∧ 0 ≤ l ∧ 0 ≤ m ∧ m < 2147483647 ∧ 0 ≤ t ∧ s ≠ c := by
  obtain ⟨s, c, e, hs⟩ := R.so i h
  obtain ⟨⟨ns, l, m, t, h1, h2, h3, h4, h5, h6, h7⟩, _, _, ne, _⟩ := R.sr s c e
  exact ⟨s, c, ns, l, m, t, e, hs, h1, h2, h3, h4, h5, h6, h7, ne⟩
theorem Rel.wrote (R : Rel K B F H ρ σ) {s c a : Addr} {o : HO} (hZ : B.Z = some (s, c)) (ha : a = s ∨ a = c) (hs : SrcAt (upd H a o) s c) : Rel K B F (upd H a o) ρ σ := by
  obtain ⟨_, fs, fc, ne, r1, r2⟩ := R.sr s c hZ
  have fa : F a = none := by rcases ha with rfl | rfl <;> assumption
  have h0 : B.H0 a ≠ none := by rcases ha with rfl | rfl <;> assumption
  refine ⟨⟨fun b x e => by rw [upd_ne (ne_of_none e fa)]; exact R.fz b x e, R.f0, R.nf, fun b x e n => ?_, fun s' c' e => ?_, fun b x e => ?_⟩, R.len, R.sl, fun i d e => ?_, R.so, R.ap⟩
  · have nb : b ≠ a := by
      obtain ⟨n1, n2⟩ := n s c hZ
      rcases ha with rfl | rfl <;> assumption
    rw [upd_ne nb]
    exact R.kp b x e n
  · rw [hZ] at e
    cases e
    exact ⟨hs, fs, fc, ne, r1, r2⟩
  · obtain ⟨p1, p2, p3⟩ := R.pr b x e
    have nb : b ≠ a := fun z => h0 (z ▸ p3)
    exact ⟨by rw [upd_ne nb]; exact p1, p2, p3⟩
  · obtain ⟨b, ho, g1, g2, g3, gP, g4, g5⟩ := R.ow i d e
    have nb : b ≠ a := fun z => h0 (z ▸ g3)
    exact ⟨b, ho, g1, g2, g3, gP, by rw [upd_ne nb]; exact g4, g5⟩
end
/-- the numbers that the source keeps -/
def srcK (key : Str) (n : Int) : Prop := 0 ≤ n ∧ (key = "mixed" → n < 2147483647)
def isK (key : Str) : Prop := key = "left" ∨ key = "mixed" ∨ key = "turn"
theorem src_get {c : Addr} {l m t : Int} {key : Str} (hk : isK key) (h4 : 0 ≤ l) (h5 : 0 ≤ m) (h6 : m < 2147483647) (h7 : 0 ≤ t) :
    ∃ n, valV (srcL c l m t) (.inr key) = some (V.int n) ∧ srcK key n := by
  rcases hk with rfl | rfl | rfl
  · exact ⟨l, by rfl, h4, fun z => absurd z (by decide)⟩
  · exact ⟨m, by rfl, h5, fun _ => h6⟩
  · exact ⟨t, by rfl, h7, fun z => absurd z (by decide)⟩
theorem src_put {c : Addr} {l m t n : Int} {key : Str} (hk : isK key) (hn : srcK key n) (h4 : 0 ≤ l) (h5 : 0 ≤ m) (h6 : m < 2147483647) (h7 : 0 ≤ t) :
    ∃ l' m' t', putK (srcL c l m t) (.inr key) (V.int n) = srcL c l' m' t' ∧ 0 ≤ l' ∧ 0 ≤ m' ∧ m' < 2147483647 ∧ 0 ≤ t' := by
  rcases hk with rfl | rfl | rfl
  · exact ⟨n, m, t, by rfl, hn.1, h5, h6, h7⟩
  · exact ⟨l, n, t, by rfl, h4, hn.1, hn.2 rfl, h7⟩
  · exact ⟨l, m, n, by rfl, h4, h5, h6, hn.1⟩
section
variable {X : Cx} {B : Bas} {W : WX} {a b c e : Expr} {te : AE} {pos : Pos}
theorem ix_sd {X : Cx} {k : Nat} (hr : Room k X.A) : IxR X (fun x y H Q => rIx X.K x y H Q ∨ rIxD x y H Q) := IxR.or ix_seq (ix_dict (hu_of hr))
/-- source[key] -/
@[simp] def aSrcG (i : Nat) (key : Str) : AE := fun _ ρ Q => (∃ u, ρ[i]? = some u ∧ u = .src) ∧ ∀ n, srcK key n → Q (.int n) ρ
theorem se_srcG {k : Nat} {y key : Str} {q q2 : Pos} {j : Nat} (i : Nat) (hk : isK key) (hr : Room k X.A) (hy : PE X (.Name y q) (tVar i)) : SE X B W (.Subscript (.Name y q) (.Constant (.str key) j q2) pos) (aSrcG i key) := by
  refine PE_imp (pe_ix (ix_sd hr) hy pe_str (by exact fun _ _ => rfl)) fun σ H Q qq => ?_
  obtain ⟨ρ, F, EX, Q0, R, ⟨⟨_, hs, rfl⟩, t⟩, k, kx⟩ := qq
  obtain ⟨s, c, ns, l, m, u, hZ, hσ, h1, h2, h3, h4, h5, h6, h7, ne⟩ := R.source hs
  obtain ⟨n, e1, e2⟩ := src_get (c := c) hk h4 h5 h6 h7
  exact ⟨_, hσ, .inr ⟨s, .int n, rfl, .inl ⟨_, .inr key, .inl h1, rfl, e1.symm⟩, k _ ρ (t n e2) _ F H R (Same.refl _) (.int _)⟩⟩
/-- source[key] = e -/
@[simp] def aSrcP (i : Nat) (key : Str) (te : AE) : AS := fun A ρ => te A.ex ρ fun d ρ' => (∃ u, ρ'[i]? = some u ∧ u = .src) ∧ ∃ n, d = .int n ∧ srcK key n ∧ A.nx ρ'
theorem ss_srcP {k : Nat} {y key : Str} {q q2 pt : Pos} {j : Nat} (i : Nat) (hk : isK key) (hr : Room k X.A) (hv : SE X B W e te) (hy : PE X (.Name y q) (tVar i))
    (hs : swapsWithSole [.Subscript (.Name y q) (.Constant (.str key) j q2) pt] e pos.line X.env = pure false := by rfl) (hw : swappedStores [.Subscript (.Name y q) (.Constant (.str key) j q2) pt] e X.env = pure none := by rfl)
    (h1 : (assignEach [.Subscript (.Name y q) (.Constant (.str key) j q2) pt] X.env).map (·.2) = [assign (.Subscript (.Name y q) (.Constant (.str key) j q2) pt) X.env] := by rfl)
    (ha : ∀ v, assign (.Subscript (.Name y q) (.Constant (.str key) j q2) pt) X.env v = (do
      let ov ← holding [v] (eval (.Name y q) X.env)
      let iv ← holding [v, ov] (eval (.Constant (.str key) j q2) X.env)
      standAt pt
      holding [v, ov, iv] (setItem ov iv v)
      release [v, ov, iv] []) := by intro _; rfl) : SS X B W (.Assign [.Subscript (.Name y q) (.Constant (.str key) j q2) pt] e pos) (aSrcP i key te) := by
  refine PS_imp (ps_asg hv (pg_sub hy pe_str (set_dict (hu_of hr)) ha) hs hw h1) fun D σ H qq => ?_
  obtain ⟨ρ, F, A, R, t, k⟩ := qq
  refine ⟨ρ, F, A.ex, _, R, t, fun d ρ1 t1 v F1 H1 R1 s1 p1 => ?_, k.ex σ⟩
  obtain ⟨⟨_, hs, rfl⟩, n, rfl, hn, t1⟩ := t1
  obtain ⟨s, c, ns, l, m, u, hZ, hσ, g1, g2, g3, g4, g5, g6, g7, ne⟩ := R1.source hs
  obtain ⟨l', m', t', e1, e2, e3, e4, e5⟩ := src_put (c := c) hk hn g4 g5 g6 g7
  rw [dp_int p1]
  refine ⟨_, hσ, s, _, rfl, .inl ⟨_, .inr key, g1, rfl, by rw [sizeLine_eq]; exact (by decide : 4 < 16777216), rfl⟩, ?_⟩
  rw [e1]
  have sa : SrcAt (upd H1 s (.dK [(.inr "cells", .ref c), (.inr "left", .int l'), (.inr "mixed", .int m'), (.inr "turn", .int t')])) s c := ⟨ns, l', m', t', upd_same, by rw [upd_ne (Ne.symm ne)]; exact g2, g3, e2, e3, e4, e5⟩
  exact k.nx _ _ F1 _ t1 (R1.wrote hZ (.inl rfl) sa) s1
/-- while many > 1 and source['left'] < 2 and len(source['cells']) > 0: source['left'] = source['cells'].pop() -/
@[simp] def aSrcW (i im : Nat) : AS := fun A ρ => (∃ u, ρ[i]? = some u ∧ u = .src) ∧ (∃ u, ρ[im]? = some u ∧ ∃ n, u = .dat (.int n)) ∧ A.nx ρ
theorem ss_srcWhile {k : Nat} {y ym : Str} {q0 q1 q2 q3 qm pl p1 p2 p3 p4 p5 p6 p7 p8 p9 p10 p11 p12 p13 c1 c2 c3 c4 c5 c6 c7 : Pos} {j1 j2 j3 j4 j5 j6 j7 : Nat} (i im : Nat) (hp : PassesOwn (model X.prog X.w) X.A X.env X.xe) (hr : Room k X.A) (hg : Gl X "len") (hm : X.mg "len" = none)
    (hM : PE X (.Name ym qm) (tVar im)) (h0 : PE X (.Name y q0) (tVar i)) (h1 : PE X (.Name y q1) (tVar i)) (h2 : PE X (.Name y q2) (tVar i)) (h3 : PE X (.Name y q3) (tVar i))
    (hst : starEach [.Subscript (.Name y q1) (.Constant (.str "cells") j4 c4) p4] X.env = (false, eval (.Subscript (.Name y q1) (.Constant (.str "cells") j4 c4) p4) X.env) :: starEach [] X.env := by rfl)
    (hpl : (backTo p5 (starEach [] X.env)).any (·.1) = false := by rfl)
    (hbase : attributeBase (.Subscript (.Name y q3) (.Constant (.str "cells") j7 c7) p9) "pop" X.env (eval (.Subscript (.Name y q3) (.Constant (.str "cells") j7 c7) p9) X.env) = eval (.Subscript (.Name y q3) (.Constant (.str "cells") j7 c7) p9) X.env := by rfl)
    (hline : (p10.endLine == p11.line) = true := by rfl)
    (hs : swapsWithSole [.Subscript (.Name y q2) (.Constant (.str "left") j6 c6) p8] (.Call (.Attribute (.Subscript (.Name y q3) (.Constant (.str "cells") j7 c7) p9) "pop" p10) [] [] p11) p12.line X.env = pure false := by rfl)
    (hw : swappedStores [.Subscript (.Name y q2) (.Constant (.str "left") j6 c6) p8] (.Call (.Attribute (.Subscript (.Name y q3) (.Constant (.str "cells") j7 c7) p9) "pop" p10) [] [] p11) X.env = pure none := by rfl)
    (ht : (assignEach [.Subscript (.Name y q2) (.Constant (.str "left") j6 c6) p8] X.env).map (·.2) = [assign (.Subscript (.Name y q2) (.Constant (.str "left") j6 c6) p8) X.env] := by rfl)
    (ha : ∀ v, assign (.Subscript (.Name y q2) (.Constant (.str "left") j6 c6) p8) X.env v = (do
      let ov ← holding [v] (eval (.Name y q2) X.env)
      let iv ← holding [v, ov] (eval (.Constant (.str "left") j6 c6) X.env)
      standAt p8
      holding [v, ov, iv] (setItem ov iv v)
      release [v, ov, iv] []) := by intro _; rfl) :
    SS X B W (.While (.BoolOp .And [.Compare (.Name ym qm) [.Gt] [.Constant (.int 1) j1 c1] p1, .Compare (.Subscript (.Name y q0) (.Constant (.str "left") j2 c2) p2) [.Lt] [.Constant (.int 2) j3 c3] p3,
      .Compare (.Call (.Name "len" pl) [.Subscript (.Name y q1) (.Constant (.str "cells") j4 c4) p4] [] p5) [.Gt] [.Constant (.int 0) j5 c5] p6] p7)
      [.Assign [.Subscript (.Name y q2) (.Constant (.str "left") j6 c6) p8] (.Call (.Attribute (.Subscript (.Name y q3) (.Constant (.str "cells") j7 c7) p9) "pop" p10) [] [] p11) p12] [] p13) (aSrcW i im) := by
  have T1 := pt_cmpR (pos := p1) op_gt hM (pe_int (i := 1) (j := j1) (pos := c1)) (nomark _)
  have T2 := pt_cmpR (pos := p3) op_lt (pe_ix (pos := p2) (ix_sd hr) h0 (pe_str (x := "left") (j := j2) (pos := c2)) (by exact fun _ _ => rfl)) (pe_int (i := 2) (j := j3) (pos := c3)) (nomark _)
  have T3 := pt_cmpR (pos := p6) op_gt (pe_callB (p := pl) (pos := p5) (CallR.or call_len call_lenRd) hg hm PySem.boot_len (pa_cons (pe_ix (pos := p4) (ix_sd hr) h1 (pe_str (x := "cells") (j := j4) (pos := c4)) (by exact fun _ _ => rfl)) pa_nil hst) (by decide) (by decide) hst hpl) (pe_int (i := 0) (j := j5) (pos := c5)) (nomark _)
  have Bd := pss_one (ps_asg (pos := p12) (pe_bm0 (cpos := p11) (apos := p10) PySem.F.plainAttrs_list PySem.F.slot_list_pop PySem.F.type_list_pop mt_pop (pe_ix (pos := p9) (ix_sd hr) h3 (pe_str (x := "cells") (j := j7) (pos := c7)) (by exact fun _ _ => rfl)) hbase hline) (pg_sub (pos := p8) h2 (pe_str (x := "left") (j := j6) (pos := c6)) (set_dict (hu_of hr)) ha) hs hw ht)
  refine PS_imp (ps_while (pos := p13) hp (PW.pt (pw_and (pos := p7) T1 (pw_and (pos := p7) T2 (pw_and1 (pos := p7) T3)))) Bd) fun D σ H qq => ?_
  obtain ⟨ρ, F, A, R, ⟨⟨_, hsr, rfl⟩, ⟨_, hmr, n, rfl⟩, t⟩, k⟩ := qq
  obtain ⟨s, c, ns, l, m, u, hZ, hσ, _, hrest⟩ := R.source hsr
  obtain ⟨vm, hvm, pm⟩ := R.sl im _ hmr
  rw [dp_int pm] at hvm
  refine ⟨fun m σ' H' => σ' = σ ∧ Rel X.K B F H' ρ σ ∧ ∃ ns : List Int, H' c = some (.lst (ns.map V.int)) ∧ m = ns.length, ⟨ns.length, rfl, R, ns, hrest.1, rfl⟩, ?_⟩
  rintro m σ' H' ⟨rfl, R', ns', hc', rfl⟩
  obtain ⟨s', c', ns, l, m', u, hZ', hσ', g1, g2, g3, g4, g5, g6, g7, ne⟩ := R'.source hsr
  rw [hZ] at hZ'
  cases hZ'
  have en : ns'.length = ns.length := by
    have z : HO.lst (ns'.map V.int) = HO.lst (ns.map V.int) := Option.some.inj (hc'.symm.trans g2)
    have z := HO.lst.inj z
    have := congrArg List.length z
    simpa using this
  rw [en]
  have fin := k.nx ρ σ' F H' t R' (Same.refl _)
  refine ⟨_, hvm, n, 1, rfl, rfl, _, rfl, ?_⟩
  by_cases hn : 1 < n
  · simp only [decide_eq_true hn, if_true]
    refine ⟨_, hσ', .inr ⟨s, .int l, rfl, .inl ⟨_, .inr "left", .inl g1, rfl, rfl⟩, l, 2, rfl, rfl, _, rfl, ?_⟩⟩
    by_cases hl : l < 2
    · simp only [decide_eq_true hl, if_true]
      refine ⟨_, hσ', .inr ⟨s, .ref c, rfl, .inl ⟨_, .inr "cells", .inl g1, rfl, rfl⟩, .inl ⟨_, ns.length, rfl, .inl ⟨_, SqL.of g2, by rw [List.length_map]⟩, _, _, rfl, rfl, _, rfl, ?_⟩⟩⟩
      by_cases hz : (0 : Int) < (ns.length : Int)
      · simp only [decide_eq_true hz, if_true]
        have hne : ns ≠ [] := by
          rintro rfl
          simp at hz
        obtain ⟨z, hz1⟩ : ∃ z, ns[ns.length - 1]? = some z := ⟨ns[ns.length - 1]'(by omega), by simp⟩
        have hz2 : 0 ≤ z := g3 z (List.mem_of_getElem? hz1)
        have el : (ns.map V.int)[(ns.map V.int).length - 1]? = some (V.int z) := by rw [List.length_map, List.getElem?_map, hz1]; rfl
        refine ⟨fun σ2 H2 => ∃ m', m' < ns.length ∧ σ2 = σ' ∧ Rel X.K B F H2 ρ σ2 ∧ ∃ ns2 : List Int, H2 c = some (.lst (ns2.map V.int)) ∧ m' = ns2.length, fun σ2 H2 q => ?_, ?_⟩
        · obtain ⟨m', h1, rfl, h3, h4⟩ := q
          exact ⟨m', h1, rfl, h3, h4⟩
        · refine ⟨_, hσ', .inr ⟨s, .ref c, rfl, .inl ⟨_, .inr "cells", .inl g1, rfl, rfl⟩, .inl ⟨rfl, _, SqL.of g2⟩, c, _, _, rfl, rfl, g2, el, ?_⟩⟩
          have sa1 : SrcAt (upd H' c (.lst (ns.map V.int).dropLast)) s c := ⟨ns.dropLast, l, m', u, by rw [upd_ne ne]; exact g1, by rw [upd_same, List.map_dropLast], fun x hx => g3 x (List.dropLast_subset _ hx), g4, g5, g6, g7⟩
          have R2 := R'.wrote hZ (.inr rfl) sa1
          have gs : upd H' c (.lst (ns.map V.int).dropLast) s = some (srcO c l m' u) := by rw [upd_ne ne]; exact g1
          refine ⟨_, hσ', s, _, rfl, .inl ⟨_, .inr "left", gs, rfl, by rw [sizeLine_eq]; exact (by decide : 4 < 16777216), rfl⟩, ?_⟩
          have sa2 : SrcAt (upd (upd H' c (.lst (ns.map V.int).dropLast)) s (.dK (putK (srcL c l m' u) (.inr "left") (.int z)))) s c :=
            ⟨ns.dropLast, z, m', u, by rw [upd_same]; rfl, by rw [upd_ne (Ne.symm ne), upd_same, List.map_dropLast], fun x hx => g3 x (List.dropLast_subset _ hx), hz2, g5, g6, g7⟩
          refine ⟨ns.dropLast.length, by rw [List.length_dropLast]; omega, rfl, R2.wrote hZ (.inl rfl) sa2, ns.dropLast, ?_, rfl⟩
          rw [upd_ne (Ne.symm ne), upd_same, List.map_dropLast]
      · simp only [decide_eq_false hz, Bool.false_eq_true, if_false]
        exact fin
    · simp only [decide_eq_false hl, Bool.false_eq_true, if_false]
      exact fin
  · simp only [decide_eq_false hn, Bool.false_eq_true, if_false]
    exact fin
end
end PU
set_option Elab.async false
set_option linter.all false
set_option maxRecDepth 100000
namespace PU
open PySem PySem.Spec L2 StX RZ
set_option autoImplicit false

/-! ### the law is called -/
def spLaw (K : PySem.W.Frag) : Sp := fun vs H Q _ => ∃ (a : Addr) (ns : List Int), vs = [.ref a] ∧ SqL K H a (ns.map V.int) ∧ ns.length ≤ 63 ∧ ∀ H', Q (.bl true) H'
section
open PySem.W PySem.Calls PyProof.Rows
variable {P : Program} {w : World} {K : PySem.W.Frag} {mg mb : Str → Option Value} {k : Nat} {f a : Addr} {fd : FuncData} {x : Str} {st : Shared} {vals : List Value} {ns : List Int}
/-- from any account of the heap in which the script alone may stand -/
theorem lawG_core (inK : K.In st.heap) (globs : st.heap.Ns mainGlobals mg) (blts : st.heap.Ns builtinsNs mb) (boot : ∀ y : Str, y ≠ "__name__" → mb y = bootBuiltins y) (nolim : st.heap.NoLimit) (nogen : st.gens = #[])
    (script : st.heap.get? a = some { cls := .type "list", data := .seq vals.toArray }) (room : RoomG k callerA) (def_ok : ∀ base : Heap, K.In base → base.Ns mainGlobals mg → FnG P w K mg base k f fd [x] (spLaw K))
    (binds : ∀ (s : Shared) (u : Value), BindsTo s fd ⟨[u], []⟩ [(x, u)]) (short : ns.length ≤ 63) (H : Hp) (only : L2.Only H) (seq : SqL K H a (ns.map V.int)) (hok : HOk P w H st.heap) (sole : ∀ b, H b ≠ none → b = a) (notK : H a ≠ none → K.lookup a = none) :
    codeAny (model P w) callerA (.call (.ref f) ⟨[.ref a], []⟩) (fun r s' => r = .ok (.ret (.bool true)) ∧ OldK st.heap s'.heap ∧ s'.os = st.os ∧ AllBare s'.gens) st := by
  have stays : ∀ {b : Addr} {o : Obj}, st.heap.get? b = some o → H b = none → (hidT st.heap H).get? b = some o := fun e n => hidT_get e n
  have dictFree : ∀ {b : Addr} {o : Obj} {es : Array DictEntry} {ep : Nat}, st.heap.get? b = some o → o.data = .dict es ep → H b = none := by
    intro b o es ep e d
    cases q : H b with
    | none => rfl
    | some u =>
      have eb := sole b (fun z => by rw [q] at z; cases z)
      rw [eb, script] at e
      cases e
      exact absurd (show Data.seq vals.toArray _ = Data.dict es ep from d) (fun z => nomatch z)
  have ns_stays : ∀ {b : Addr} {m : Str → Option Value}, st.heap.Ns b m → (hidT st.heap H).Ns b m := by
    rintro b m ⟨o, es, ep, e, d, r⟩
    exact ⟨o, es, ep, stays e (dictFree e d), d, r⟩
  have inK' : K.In (hidT st.heap H) := by
    intro b o e
    refine stays (inK b o e) ?_
    cases q : H b with
    | none => rfl
    | some u =>
      have eb := sole b (fun z => by rw [q] at z; cases z)
      rw [eb] at e q
      have := notK (fun z => by rw [q] at z; cases z)
      rw [this] at e
      cases e
  obtain ⟨mc, l1, l2⟩ := nolim
  have env : Env0 P w K mg (hidT st.heap H) callerA [] st H :=
    { frames := rfl, mod := ⟨inK', ns_stays globs, ⟨mb, ns_stays blts, boot⟩, ⟨mc, ns_stays l1, l2⟩⟩, bs := fun b o e => of_hidT e, bsz := Nat.le_of_eq (hidT_size _ _), funs := trivial, frf := fun b hb => absurd (show b ∈ ([] : List Addr) from hb) (by simp), hok := hok, bare := .of_eq nogen }
  have done := (def_ok _ inK' (ns_stays globs)).go callerA [] st H ⟨[.ref a], []⟩ [.ref a] [.ref a] (fun v _ => v = .bl true) (fun _ _ _ => False) room env (binds st (.ref a)) (.cons rfl .nil) ⟨a, ns, rfl, seq, short, fun _ => rfl⟩
  refine codeAny_mono done fun r s' z => ?_
  match r, z with
  | .error e, z =>
    obtain ⟨_, _, _, _, _, _, _, _, _, _, _, _, q⟩ := z
    exact q.elim
  | .ok .next, z => exact z.elim
  | .ok .brk, z => exact z.elim
  | .ok .cont, z => exact z.elim
  | .ok (.ret u), z =>
    obtain ⟨v, H', os, bare, un, hok', rv, ev⟩ := z
    have ev : v = .bl true := ev
    rw [ev] at rv
    obtain rfl : u = Value.bool true := rv
    refine ⟨rfl, OldK.of_keep fun b o e => ?_, os, bare⟩
    cases q : H b with
    | none => exact un.keep b o e q (fun z => absurd (show b ∈ ([] : List Addr) from z) (by simp)) (by simp)
    | some u =>
      rcases only b with z | ⟨ob, xs, z⟩
      · rw [q] at z; cases z
      · have o1 := (hok b _ z).1
        have o2 := (hok' b _ (un.frzs b ob _ z)).1
        rw [e] at o1
        cases o1
        exact o2
theorem lawG_call (inK : K.In st.heap) (globs : st.heap.Ns mainGlobals mg) (blts : st.heap.Ns builtinsNs mb) (boot : ∀ y : Str, y ≠ "__name__" → mb y = bootBuiltins y) (nolim : st.heap.NoLimit) (nogen : st.gens = #[])
    (script : st.heap.get? a = some { cls := .type "list", data := .seq vals.toArray }) (hints : IntsAre vals ns) (room : RoomG k callerA) (def_ok : ∀ base : Heap, K.In base → base.Ns mainGlobals mg → FnG P w K mg base k f fd [x] (spLaw K))
    (binds : ∀ (s : Shared) (u : Value), BindsTo s fd ⟨[u], []⟩ [(x, u)]) (short : ns.length ≤ 63) :
    codeAny (model P w) callerA (.call (.ref f) ⟨[.ref a], []⟩) (fun r s' => r = .ok (.ret (.bool true)) ∧ OldK st.heap s'.heap ∧ s'.os = st.os ∧ AllBare s'.gens) st := by
  have vv := vals_ints hints
  have hz : ns.length ≤ sizeLine := by rw [sizeLine_eq]; omega
  have core := fun H => lawG_core inK globs blts boot nolim nogen script room def_ok binds short H
  cases hk : K.lookup a with
  | some o =>
    have e := inK a o hk
    rw [script] at e
    cases e
    refine core (fun _ => none) (fun _ => .inl rfl) (.inr ⟨_, vals.toArray, _, hk, rfl, rfl, rfl, by rw [List.size_toArray, hints.length]; exact hz, by simpa using vv⟩) (fun b u z => by cases (show (none : Option HO) = some u from z)) (fun b z => absurd rfl z) fun z => absurd rfl z
  | none =>
    obtain ⟨Hs, eH⟩ : ∃ Hs : Hp, Hs = fun b => if b = a then some (HO.frz { cls := .type "list", data := .seq vals.toArray } (.lst (ns.map V.int))) else none := ⟨_, rfl⟩
    have at_a : Hs a = some (.frz { cls := .type "list", data := .seq vals.toArray } (.lst (ns.map V.int))) := by rw [eH]; exact if_pos rfl
    have off : ∀ b, b ≠ a → Hs b = none := fun b hb => by rw [eH]; exact if_neg hb
    refine core Hs (fun b => ?_) (.inl (.inr ⟨_, at_a⟩)) (fun b u z => ?_) (fun b z => ?_) fun _ => hk
    · by_cases hb : b = a
      · exact .inr ⟨_, _, by rw [hb]; exact at_a⟩
      · exact .inl (off b hb)
    · by_cases hb : b = a
      · subst hb
        rw [at_a] at z
        cases z
        exact ⟨script, by rw [List.length_map]; exact hz, vals, _, vv, script⟩
      · rw [off b hb] at z
        cases z
    · by_cases hb : b = a
      · exact hb
      · exact absurd (off b hb) z
end
theorem walkG_of {l : PySem.W.OpenLaw} {k : Nat} {q : Program} {loose : List Str} {XP : (Str → Option Value) → Heap → Prop} {YP : World → Heap → Prop} {d : DefRec} {K : PySem.Params → PySem.W.Frag} {x : Str} (hn : l.most = some 63) (hdf : d.params.defaults = []) (room : RoomG k callerA)
    (hY : ∀ (w : World) (h : Heap), YP w h → (K w.params).In h)
    (F : ∀ (w : World) (mg : Str → Option Value) (fa : Addr) (h : Heap), (K w.params).In h → h.Ns mainGlobals mg → mg d.name = some (.ref fa) →
      ∃ fd : FuncData, (∀ (s : Shared) (u : Value), BindsTo s fd ⟨[u], []⟩ [(x, u)]) ∧ ∀ base : Heap, (K w.params).In base → base.Ns mainGlobals mg → FnG l.prog w (K w.params) mg base k fa fd [x] (spLaw (K w.params))) :
    PySem.W.WalkO q loose XP YP l.row.toRowW d [] (fun f vs => PySem.call f vs) := by
  refine Att.attach_call hn hdf fun w s₀ st mg mb fa o pm cd doc a vs ns G Y ho hd hcd hmg script hints short nogen => ?_
  obtain ⟨fd, binds, ok⟩ := F w mg fa _ (hY w _ Y) G.T.g hmg
  exact lawG_call (hY w _ Y) G.T.g G.T.b G.T.builtins G.T.nolimit nogen script hints room ok binds short

/-! ### the law by what it does behind its first statement -/
def startL (N : List Str) : List AV := .un :: .src :: List.replicate (N.length - 2) .un
section
variable {P : Program} {w : World} {K : PySem.W.Frag} {mg : Str → Option Value} {base : Heap}
theorem startL_get {N : List Str} {i : Nat} {u : AV} (h : (startL N)[i]? = some u) : (i = 1 ∧ u = .src) ∨ u = .un := by
  unfold startL at h
  match i, h with
  | 0, h => simp at h; exact .inr h.symm
  | 1, h => simp at h; exact .inl ⟨rfl, h.symm⟩
  | i + 2, h =>
    simp only [List.getElem?_cons_succ, List.getElem?_replicate] at h
    split at h
    · cases h; exact .inr rfl
    · cases h
theorem rel_startL {ec : Str → Option Addr} {H : Hp} {N : List Str} {s c a : Addr} (hs : SrcAt H s c) (ne : s ≠ c) (hN : 2 ≤ N.length) :
    Rel K ⟨ec, some (s, c), fun _ => none, fun _ => none, H⟩ (fun _ => none) H (startL N) ((L2.start N [.ref a]).set 1 (some (.ref s))) := by
  obtain ⟨h1, h2⟩ := srcAt_some hs
  refine ⟨⟨fun b o e => (nomatch e), fun b o e => (nomatch e), fun b e => absurd rfl e, fun b o e _ => e, fun s' c' e => ?_, fun b o e => (nomatch e)⟩, ?_, fun i d e => ?_, fun i d e => ?_, fun i e => ?_, fun i j d e b n q q' r => ?_⟩
  · cases e
    exact ⟨hs, rfl, rfl, ne, h1, h2⟩
  · unfold L2.start startL
    simp
    omega
  · rcases startL_get e with ⟨_, z⟩ | z <;> cases z
  · rcases startL_get e with ⟨_, z⟩ | z <;> cases z
  · rcases startL_get e with ⟨rfl, z⟩ | z
    · refine ⟨s, c, rfl, ?_⟩
      rw [List.getElem?_set_self]
      unfold L2.start
      simp
      omega
    · cases z
  · rcases startL_get q with ⟨_, z⟩ | z <;> cases z
/-- the source's maker -/
def spSrc (K : PySem.W.Frag) : Sp := fun vs H Q _ => ∃ (a : Addr) (ns : List Int), vs = [.ref a] ∧ SqL K H a (ns.map V.int) ∧ ns.length ≤ 63 ∧ ∀ s c H', s ≠ c → SrcAt H' s c → Q (.ref s) H'
structure SrcOk (P : Program) (w : World) (K : PySem.W.Frag) (mg : Str → Option Value) (base : Heap) : Prop where
  ex : ∃ f fd, mg "_law_source" = some (.ref f) ∧ PySem.W.keepIn K (.ref f) = true ∧ Binds K fd ["script"] [] ∧ FnG P w K mg base 2 f fd ["script"] (spSrc K)
def runL (N : List Str) (t : AS) : Prop := t { nx := fun _ => False, rt := fun d => d = .bl true } (startL N)
theorem law_fn {qual : Str} {st st0 : Stmt} {rest : List Stmt} {f : Addr} {fd : FuncData} {N : List Str} {k : Nat} {ec : Str → Option Addr} {t : AS} (F : L2.Fun K "law" qual st f fd) (S : FnScope N ["script"] (defScope st)) (hN : 2 ≤ N.length) (hb : defBody st = st0 :: rest) (so : SrcOk P w K mg base)
    (first : ∀ (cdv : Value) (A : Around) (outer : List Env) (s : Shared) (H : Hp) (E : XK) (W : WX), RoomG k (A.deeper (PyProof.Rows.envOfC qual (defScope st) s.heap.objs.size f cdv)) → Takes (cxOf (L2.CX P w) P w K mg base N qual (defScope st) f cdv A outer s H E) W →
      PS (cxOf (L2.CX P w) P w K mg base N qual (defScope st) f cdv A outer s H E) st0 (tAsg (tCallS (spSrc K) (WE W) (tCons (tVar 0) tNil)) (gName 1)))
    (body : ∀ (cdv : Value) (A : Around) (outer : List Env) (s : Shared) (H : Hp) (E : XK) (B : Bas) (W : WX), B.ec = ec → RoomG k (A.deeper (PyProof.Rows.envOfC qual (defScope st) s.heap.objs.size f cdv)) →
      Takes (cxOf (L2.CX P w) P w K mg base N qual (defScope st) f cdv A outer s H E) W → SSs (cxOf (L2.CX P w) P w K mg base N qual (defScope st) f cdv A outer s H E) B W rest t) (law : runL N t) : FnG P w K mg base (k + 1) f fd ["script"] (spLaw K) := by
  refine okG_of F S (fun vs H Q E h => by obtain ⟨a, ns, rfl, _⟩ := h; rfl) (fun cdv A outer s H vs Q E hr h => ?_)
  obtain ⟨a, ns, rfl, hS, hl, kq⟩ := h
  have tk : Takes (cxOf (L2.CX P w) P w K mg base N qual (defScope st) f cdv A outer s H E) (fun cls d _ H => E cls d H) := takes_of rfl rfl rfl rfl
  rw [hb]
  refine ⟨_, pss_cons (first cdv A outer s H E _ hr tk) (PSs_ex (P := fun B : Bas => B.ec = ec) fun B hB => body cdv A outer s H E B _ hB hr tk), ?_⟩
  have h0 : (L2.start N [V.ref a])[0]? = some (some (.ref a)) := by
    unfold L2.start
    rfl
  refine ⟨_, h0, a, ns, rfl, hS, hl, fun s c H' ne sa => ?_⟩
  refine ⟨⟨ec, some (s, c), fun _ => none, fun _ => none, H'⟩, rfl, startL N, fun _ => none, _, rel_startL sa ne hN, law, ?_⟩
  exact ⟨fun _ _ _ _ q => q.elim, fun d hd v F' H2 R p => by rw [hd] at p; rw [dp_bl p]; exact kq _, fun _ _ _ _ q => q.elim, fun _ _ _ _ q => q.elim, fun _ _ _ q => q.elim⟩
end
theorem FnG.up {P : Program} {w : World} {K : PySem.W.Frag} {mg : Str → Option Value} {base : Heap} {j k : Nat} {f : Addr} {fd : FuncData} {ps : List Str} {sp : Sp} (d : FnG P w K mg base j f fd ps sp) (h : j ≤ k) : FnG P w K mg base k f fd ps sp :=
  ⟨d.len, fun A outer s H args us vs Q E r => d.go A outer s H args us vs Q E (r.down h)⟩
theorem DefOk.atUp {P : Program} {w : World} {K : PySem.W.Frag} {mg : Str → Option Value} {base : Heap} {ec : Str → Option Addr} {nm : Str} {j k n : Nat} {A : AF} {f : Addr} (d : DefOk P w K mg base nm j (spOf K ec n A)) (h : mg nm = some (.ref f)) (hj : j ≤ k) : FnAt P w K mg base ec k f n A := by
  obtain ⟨fd, ps, h2, h3, h4⟩ := d.at h
  exact ⟨fd, ps, h2, h3, h4.up hj⟩
theorem lookup_mem {n : Str} {C : Addr} : ∀ {l : List (Str × Addr)}, List.lookup n l = some C → (n, C) ∈ l
  | [], h => by cases h
  | (m, D) :: l, h => by
    by_cases e : (n == m) = true
    · simp only [List.lookup, e] at h
      cases h
      rw [eq_of_beq e]
      exact List.mem_cons_self
    · have e' : (n == m) = false := by simpa using e
      simp only [List.lookup, e'] at h
      exact List.mem_cons_of_mem _ (lookup_mem h)
theorem xmOk_of {K : PySem.W.Frag} {l : List (Str × Addr)} {c : Value} {m : Str → Bool} (h : ∀ p ∈ l, PySem.W.exmOne K (.ref p.2) c = some (m p.1)) : XmOk K (fun n => List.lookup n l) c m := fun _ _ e => h _ (lookup_mem e)
abbrev veL (G : Addr) : List Value := [.ref G, .type "ValueError", .type "Exception", .type "BaseException", .type "object"]
theorem exi_of {K : PySem.W.Frag} {C G : Addr} {nm q : Str} {N : Addr} {bs : List Value} {sn : List Str} {sub : List Value} {ab : Bool} {col : Option Bool} {dd : Option Addr} {m0 m1 m2 m3 m5 : Option Value}
    (h : K.lookup C = some (excClassObj nm q C N bs (veL G) true sn sub ab col dd m0 m1 m2 m3 m5 "ValueError.__new__")) : PySem.W.excInitIn K C PySem.HandSPX.veTail "ValueError.__new__" = true := by
  unfold PySem.W.excInitIn
  rw [h]
  show (C == C && "ValueError.__new__" == "ValueError.__new__" && !false && PySem.W.excTail PySem.HandSPX.veTail (veL G)) = true
  have e : PySem.W.excTail PySem.HandSPX.veTail (veL G) = true := by
    show (PySem.HandSPX.veTail == PySem.HandSPX.veTail) = true
    decide +kernel
  rw [e]
  simp
theorem sup_of {K : PySem.W.Frag} {C G : Addr} {nm q : Str} {N : Addr} {bs : List Value} {sn : List Str} {sub : List Value} {ab : Bool} {col : Option Bool} {dd : Option Addr} {m0 m1 m2 m3 m5 : Option Value} {nm' q' : Str} {N' : Addr} {bs' : List Value} {hd : Bool} {sn' : List Str} {sub' : List Value} {ab' : Bool} {col' : Option Bool} {dd' : Option Addr} {k0 k1 k2 k3 k5 : Option Value} {v : Value} {name : Str}
    (h : K.lookup C = some (excClassObj nm q C N bs (veL G) true sn sub ab col dd m0 m1 m2 m3 m5 "ValueError.__new__"))
    (h' : K.lookup G = some (excClassObj nm' q' G N' bs' [.type "ValueError", .type "Exception", .type "BaseException", .type "object"] hd sn' sub' ab' col' dd' k0 k1 k2 k3 k5 "ValueError.__new__"))
    (f : PySem.W.findIn K (.ref G) name = some (some v)) : PySem.W.ks_superIn K C C name = some (some v) := by
  have e1 : PySem.W.findIn K (.ref G) name = PySem.W.alongIn K name (veL G) := by
    show (match K.lookup G with
      | some ⟨_, _, .cls cd, _⟩ => PySem.W.alongIn K name cd.mro
      | _ => none) = _
    rw [h']
  have e2 : ∃ cd : ClassData, PySem.W.clsIn K C = some cd ∧ cd.mro = .ref C :: veL G := by
    unfold PySem.W.clsIn
    rw [h]
    exact ⟨_, rfl, rfl⟩
  obtain ⟨cd, e2, e3⟩ := e2
  unfold PySem.W.ks_superIn
  rw [e2, Option.bind_some, e3]
  have e4 : ((Value.ref C :: veL G).dropWhile (· != .ref C)).drop 1 = veL G := by simp [List.dropWhile_cons]
  rw [e4, ← e1]
  exact f
theorem exm_of2 {K : PySem.W.Frag} {C D : Addr} {b : Bool} (h1 : PySem.W.subIn K (.ref D) (.type "BaseException") = some true) (h2 : PySem.W.isClsIn K D = true) (h3 : PySem.W.typeIn K (.ref D) = some (.type "type")) (h4 : PySem.W.subIn K (.ref C) (.ref D) = some b) :
    PySem.W.exmOne K (.ref C) (.ref D) = some b := by
  have g1 : (PySem.W.subIn K (.ref D) (.type "BaseException") == some true) = true := by rw [h1] <;> rfl
  have g2 : ((PySem.W.clsIn K D).isSome && PySem.W.typeIn K (.ref D) == some (.type "type")) = true := by
    have h2' : (PySem.W.clsIn K D).isSome = true := h2
    rw [h2', h3] <;> rfl
  show (if (PySem.W.subIn K (.ref D) (.type "BaseException") == some true) = true then (if ((PySem.W.clsIn K D).isSome && PySem.W.typeIn K (.ref D) == some (.type "type")) = true then PySem.W.subIn K (.ref C) (.ref D) else none) else none) = some b
  rw [if_pos g1, if_pos g2, h4]
end PU
set_option Elab.async false
set_option linter.all false
set_option maxRecDepth 100000
namespace PU
open PySem PySem.Spec L2 StX RZ
set_option autoImplicit false
/-! ### reading transformers by simp -/
@[simp] theorem aForL_nil {g : AG} {b : AS} {A : AEnds} {ρ : List AV} : aForL g b [] A ρ = A.nx ρ := rfl
@[simp] theorem aForL_cons {g : AG} {b : AS} {A : AEnds} {ρ : List AV} {d : D} {ds : List D} : aForL g b (d :: ds) A ρ = g d ρ fun ρ' => b { A with nx := aForL g b ds A, ct := aForL g b ds A, bk := A.nx } ρ' := rfl
@[simp] theorem shp64_lst {xs : List D} : D.shp 64 (.lst xs) ↔ ∀ x ∈ xs, D.shp 63 x := Iff.rfl
@[simp] theorem shp64_tup {xs : List D} : D.shp 64 (.tup xs) ↔ ∀ x ∈ xs, D.shp 63 x := Iff.rfl
@[simp] theorem shp63_lst {xs : List D} : D.shp 63 (.lst xs) ↔ ∀ x ∈ xs, D.shp 62 x := Iff.rfl
@[simp] theorem shp63_tup {xs : List D} : D.shp 63 (.tup xs) ↔ ∀ x ∈ xs, D.shp 62 x := Iff.rfl
@[simp] theorem shp62_lst {xs : List D} : D.shp 62 (.lst xs) ↔ ∀ x ∈ xs, D.shp 61 x := Iff.rfl
@[simp] theorem shp62_tup {xs : List D} : D.shp 62 (.tup xs) ↔ ∀ x ∈ xs, D.shp 61 x := Iff.rfl
@[simp] theorem shp61_tup {xs : List D} : D.shp 61 (.tup xs) ↔ ∀ x ∈ xs, D.shp 60 x := Iff.rfl
@[simp] theorem shp_int {n : Nat} (i : Int) : D.shp n (.int i) := by cases n <;> trivial
@[simp] theorem shp_bl {n : Nat} (i : Bool) : D.shp n (.bl i) := by cases n <;> trivial
@[simp] theorem shp_non {n : Nat} : D.shp n .non := by cases n <;> trivial
theorem eqD_int (a b : Int) : eqD (.int a) (.int b) = decide (a = b) := by
  simp [eqD, D.py, PyData.eqv]
  exact Bool.eq_iff_iff.mpr (by simp)
theorem eqD_bl (a b : Bool) : eqD (.bl a) (.bl b) = decide (a = b) := by
  simp [eqD, D.py, PyData.eqv]
  cases a <;> cases b <;> rfl
@[simp] theorem dEq_int {a b : Int} {Q : D → Prop} : dEq (.int a) (.int b) Q ↔ Q (.bl (decide (a = b))) := by
  unfold dEq; rw [eqD_int]; simp
@[simp] theorem dNe_int {a b : Int} {Q : D → Prop} : dNe (.int a) (.int b) Q ↔ Q (.bl (!decide (a = b))) := by
  unfold dNe; rw [eqD_int]; simp
@[simp] theorem dEq_bl {a b : Bool} {Q : D → Prop} : dEq (.bl a) (.bl b) Q ↔ Q (.bl (decide (a = b))) := by
  unfold dEq; rw [eqD_bl]; simp
@[simp] theorem dNe_bl {a b : Bool} {Q : D → Prop} : dNe (.bl a) (.bl b) Q ↔ Q (.bl (!decide (a = b))) := by
  unfold dNe; rw [eqD_bl]; simp
theorem dMul_int {a b : Int} {Q : D → Prop} : dMul (.int a) (.int b) Q ↔ MulOk a b ∧ Q (.int (a * b)) := Iff.rfl
theorem dMul_lst {xs : List D} {k : Int} {Q : D → Prop} : dMul (.lst xs) (.int k) Q ↔ -(2 ^ 63) ≤ k ∧ k < 2 ^ 63 ∧ xs.length * k.toNat ≤ sizeLine ∧ Q (.lst (List.replicate k.toNat xs).flatten) := Iff.rfl
theorem atI_last {α : Type} (l : List α) (x : α) : atI (l ++ [x]) (-1) = some x := by
  unfold atI ixN
  rw [if_neg (by omega), if_pos (by simp; omega)]
  have e : (-1 + ((l ++ [x]).length : Int)).toNat = l.length := by simp; omega
  rw [Option.bind_some, e]
  simp
theorem atI_0 {α : Type} (x : α) (l : List α) : atI (x :: l) 0 = some x := by
  unfold atI ixN
  rw [if_pos (by omega), if_pos (by simp)]
  rfl
theorem atI_1 {α : Type} (x y : α) (l : List α) : atI (x :: y :: l) 1 = some y := by
  unfold atI ixN
  rw [if_pos (by omega), if_pos (by simp; omega)]
  rfl
theorem atI_2 {α : Type} (x y z : α) (l : List α) : atI (x :: y :: z :: l) 2 = some z := by
  unfold atI ixN
  rw [if_pos (by omega), if_pos (by simp; omega)]
  rfl
theorem idx_tup {xs : List D} {i : Int} {Q : D → Prop} : dIdx (.tup xs) (.int i) Q ↔ ∃ x, atI xs i = some x ∧ Q x := by simp [dIdx]
theorem idx_lst {xs : List D} {i : Int} {Q : D → Prop} : dIdx (.lst xs) (.int i) Q ↔ ∃ x, atI xs i = some x ∧ Q x := by simp [dIdx]
@[simp] theorem idx_t0 {x : D} {xs : List D} {Q : D → Prop} : dIdx (.tup (x :: xs)) (.int 0) Q ↔ Q x := by simp [dIdx, atI_0]
@[simp] theorem idx_t1 {x y : D} {xs : List D} {Q : D → Prop} : dIdx (.tup (x :: y :: xs)) (.int 1) Q ↔ Q y := by simp [dIdx, atI_1]
@[simp] theorem idx_t2 {x y z : D} {xs : List D} {Q : D → Prop} : dIdx (.tup (x :: y :: z :: xs)) (.int 2) Q ↔ Q z := by simp [dIdx, atI_2]
theorem atI_nat {α : Type} (l : List α) (n : Nat) : atI l (n : Int) = l[n]? := by
  unfold atI ixN
  rw [if_pos (by omega)]
  by_cases h : n < l.length
  · rw [if_pos (by omega)]
    rfl
  · rw [if_neg (by omega), List.getElem?_eq_none (by omega)]
    rfl
theorem line_ok {n : Nat} (h : n ≤ 16000000) : n ≤ sizeLine := by rw [sizeLine_eq]; omega
theorem line_lt {n : Nat} (h : n < 16000000) : n < sizeLine := by rw [sizeLine_eq]; omega
/-- a turn of a comprehension that leaves the names as they were -/
def StepLC (g : AG) (tt : AT) (te : AE) (vs : List Nat) (ρ : List AV) (d : D) (p : Bool) (y : D) : Prop :=
  ∀ (C : D → List AV → Prop) (C' : List AV → Prop), (p = true → C y ρ) → (p = false → C' ρ) → g d (wipeA ρ vs) fun ρ1 => tt noEX ρ1 fun b ρ2 => if b = true then te noEX ρ2 (fun y ρ3 => C y (unw ρ ρ3 vs)) else C' (unw ρ ρ2 vs)
theorem lc_acc {α : Type} {en : α → D} {p : α → Bool} {f : α → D} {g : AG} {tt : AT} {te : AE} {vs : List Nat} {ρ : List AV} {Q : List D → List AV → Prop} :
    ∀ {l : List α} {acc : List D}, (∀ a ∈ l, StepLC g tt te vs ρ (en a) (p a) (f a)) → acc.length + l.length ≤ 16000000 → Q (acc ++ (l.filter p).map f) ρ → aLcL g tt te vs (l.map en) acc ρ Q
  | [], acc, _, _, q => by
    show Q acc ρ
    simpa using q
  | a :: l, acc, h, hl, q => by
    have hl : acc.length + (l.length + 1) ≤ 16000000 := hl
    refine h a List.mem_cons_self (fun y ρ' => acc.length < sizeLine ∧ aLcL g tt te vs (l.map en) (acc ++ [y]) ρ' Q) (fun ρ' => aLcL g tt te vs (l.map en) acc ρ' Q) (fun hp => ⟨line_lt (by omega), ?_⟩) fun hp => ?_
    · refine lc_acc (fun b hb => h b (List.mem_cons_of_mem _ hb)) (by simp; omega) ?_
      rw [List.filter_cons_of_pos hp] at q
      simpa using q
    · refine lc_acc (fun b hb => h b (List.mem_cons_of_mem _ hb)) (by omega) ?_
      rw [List.filter_cons_of_neg (by rw [hp]; decide)] at q
      exact q
theorem lc_go {α : Type} {en : α → D} {p : α → Bool} {f : α → D} {g : AG} {tt : AT} {te : AE} {vs : List Nat} {ρ : List AV} {Q : List D → List AV → Prop} {l : List α} {ds : List D} (hd : ds = l.map en)
    (h : ∀ a ∈ l, StepLC g tt te vs ρ (en a) (p a) (f a)) (hl : l.length ≤ 16000000) (q : Q ((l.filter p).map f) ρ) : aLcL g tt te vs ds [] ρ Q := by
  rw [hd]
  exact lc_acc h (by simpa using hl) (by simpa using q)
end PU
set_option Elab.async false
set_option linter.all false
set_option maxRecDepth 100000
namespace PU
open PySem PySem.Spec L2 StX RZ
set_option autoImplicit false
theorem FnAt.weak {P : Program} {w : World} {K : PySem.W.Frag} {mg : Str → Option Value} {base : Heap} {ec : Str → Option Addr} {k n : Nat} {A A' : AF} {f : Addr} (d : FnAt P w K mg base ec k f n A) (h : ∀ ds Q E, A' ds Q E → A ds Q E) : FnAt P w K mg base ec k f n A' := by
  obtain ⟨fd, ps, h1, h2, h3⟩ := d
  refine ⟨fd, ps, h1, h2, h3.weak ?_⟩
  rintro vs H Q E ⟨F, ds, Q0, E0, a1, a2, a3, a4, a5, a6⟩
  exact ⟨F, ds, Q0, E0, a1, a2, a3, h _ _ _ a4, a5, a6⟩
/-- a promise may be told weaker -/
def WeakFA (FA : Addr → Nat → AF → Prop) : Prop := ∀ f n A A', FA f n A → (∀ ds Q E, A' ds Q E → A ds Q E) → FA f n A'
theorem weakFA {P : Program} {w : World} {K : PySem.W.Frag} {mg : Str → Option Value} {base : Heap} {ec : Str → Option Addr} {k : Nat} : WeakFA (FnAt P w K mg base ec k) := fun _ _ _ _ d h => d.weak h
end PU
set_option Elab.async false
set_option linter.all false
set_option maxRecDepth 100000
namespace PU
open PySem PySem.Spec L2 StX RZ
set_option autoImplicit false
/-! ### what repr asks -/
def Sh (n L : Nat) (d : D) : Prop := D.shp n d ∧ d.py.showable = true ∧ d.py.shown.length ≤ L
theorem Sh.up {n L M : Nat} {d : D} (h : Sh n L d) (k : L ≤ M) : Sh n M d := ⟨h.1, h.2.1, Nat.le_trans h.2.2 k⟩
theorem sh_int {n : Nat} {i : Int} (h : i.natAbs.log2 < 1920) : Sh n 1921 (.int i) := by
  refine ⟨shp_int i, ?_, ?_⟩
  · simpa [D.py, PyData.showable] using h
  · exact PyProof.Rows.int_text_len_1921 h
theorem sh_non {n : Nat} : Sh n 1921 .non := ⟨shp_non, rfl, by decide⟩
theorem sh_bl {n : Nat} (b : Bool) : Sh n 1921 (.bl b) := ⟨shp_bl b, rfl, by cases b <;> decide⟩
theorem sh_alls {n L : Nat} : ∀ {xs : List D}, (∀ x ∈ xs, Sh n L x) → PyData.showableAll (D.pys xs) = true ∧ ((PyData.shownAll (D.pys xs)).map (·.length)).sum ≤ xs.length * L ∧ (PyData.shownAll (D.pys xs)).length = xs.length
  | [], _ => ⟨rfl, Nat.zero_le _, rfl⟩
  | x :: xs, h => by
    obtain ⟨h1, h2, h3⟩ := sh_alls (xs := xs) fun y hy => h y (List.mem_cons_of_mem _ hy)
    have hx := h x List.mem_cons_self
    refine ⟨?_, ?_, ?_⟩
    · show (x.py.showable && PyData.showableAll (D.pys xs)) = true
      rw [hx.2.1, h1]; rfl
    · show x.py.shown.length + ((PyData.shownAll (D.pys xs)).map (·.length)).sum ≤ (xs.length + 1) * L
      have := hx.2.2
      rw [Nat.succ_mul]
      omega
    · show (PyData.shownAll (D.pys xs)).length + 1 = xs.length + 1
      rw [h3]
theorem sh_lst {n L M : Nat} {xs : List D} (h : ∀ x ∈ xs, Sh n L x) (k : xs.length * L + 2 * xs.length + 3 ≤ M) : Sh (n + 1) M (.lst xs) := by
  obtain ⟨h1, h2, h3⟩ := sh_alls h
  refine ⟨fun x hx => (h x hx).1, h1, ?_⟩
  have := listText_len_le (PyData.shownAll (D.pys xs))
  show (listText (PyData.shownAll (D.pys xs))).length ≤ M
  omega
theorem sh_tup {n L M : Nat} {xs : List D} (h : ∀ x ∈ xs, Sh n L x) (k : xs.length * L + 2 * xs.length + 3 ≤ M) : Sh (n + 1) M (.tup xs) := by
  obtain ⟨h1, h2, h3⟩ := sh_alls h
  refine ⟨fun x hx => (h x hx).1, h1, ?_⟩
  have := tupleText_len_le (PyData.shownAll (D.pys xs))
  show (tupleText (PyData.shownAll (D.pys xs))).length ≤ M
  omega
theorem rep_ne {L : Nat} {x y : D} {Q : D → Prop} (h : Sh 64 L x) (hL : L ≤ 16000000) (e : x = y) (q : Q (.bl false)) : dRepr [x] fun d => dRepr [y] fun e => dNe2 d e Q := by
  subst e
  have l := Nat.le_trans h.2.2 (line_ok hL)
  refine ⟨h.1, h.2.1, l, h.1, h.2.1, l, ?_⟩
  simpa [dNe2] using q
theorem rep_go {L : Nat} {x : D} {Q : D → Prop} (h : Sh 64 L x) (hL : L ≤ 16000000) (q : Q (.str x.py.shown)) : dRepr [x] Q := ⟨h.1, h.2.1, Nat.le_trans h.2.2 (line_ok hL), q⟩
theorem str_ne {x : Str} {Q : D → Prop} (q : Q (.bl false)) : dNe2 (.str x) (.str x) Q := by simpa [dNe2] using q
theorem bl_ne {x : Bool} {Q : D → Prop} (q : Q (.bl false)) : dNe2 (.bl x) (.bl x) Q := by simpa [dNe2] using q
theorem int_ne {x : Int} {Q : D → Prop} (q : Q (.bl false)) : dNe2 (.int x) (.int x) Q := by simpa [dNe2] using q
theorem two_line : 2 ≤ sizeLine := line_ok (by decide)
theorem three_line : 3 ≤ sizeLine := line_ok (by decide)
theorem seq_cut {s t : AS} {A : AEnds} {ρ : List AV} (h : ∀ T : List AV → Prop, (∀ ρ', t A ρ' → T ρ') → s { A with nx := T } ρ) : aSeq s t A ρ := h _ fun _ q => q
/-- a turn of a comprehension that shows an own list on its way -/
def StepLC2 (g : AG) (tt : AT) (te : AE) (vs : List Nat) (ρ0 ρ : List AV) (d : D) (p : Bool) (y : D) : Prop :=
  ∀ (C : D → List AV → Prop) (C' : List AV → Prop), (p = true → C y ρ) → (p = false → C' ρ) → g d (wipeA ρ0 vs) fun ρ1 => tt noEX ρ1 fun b ρ2 => if b = true then te noEX ρ2 (fun y ρ3 => C y (unw ρ0 ρ3 vs)) else C' (unw ρ0 ρ2 vs)
theorem lc_first {α : Type} {en : α → D} {p : α → Bool} {f : α → D} {g : AG} {tt : AT} {te : AE} {vs : List Nat} {ρ0 ρ : List AV} {Q : List D → List AV → Prop} {a : α} {l : List α} {ds : List D} (hd : ds = (a :: l).map en)
    (h0 : StepLC2 g tt te vs ρ0 ρ (en a) (p a) (f a)) (h : ∀ b ∈ l, StepLC2 g tt te vs ρ ρ (en b) (p b) (f b)) (hl : l.length ≤ 15000000) (q : Q (((a :: l).filter p).map f) ρ) : aLcL g tt te vs ds [] ρ0 Q := by
  rw [hd]
  refine h0 (fun y ρ' => ([] : List D).length < sizeLine ∧ aLcL g tt te vs (l.map en) ([] ++ [y]) ρ' Q) (fun ρ' => aLcL g tt te vs (l.map en) [] ρ' Q) (fun hp => ⟨line_lt (by simp), ?_⟩) fun hp => ?_
  · refine lc_acc h (by simp; omega) ?_
    rw [List.filter_cons_of_pos hp] at q
    exact q
  · refine lc_acc h (by simp; omega) ?_
    rw [List.filter_cons_of_neg (by rw [hp]; decide)] at q
    exact q
end PU
set_option Elab.async false
set_option linter.all false
set_option maxRecDepth 100000
namespace PU
open PySem PySem.Spec L2 StX RZ
set_option autoImplicit false

/-! ### dict(pairs) -/
def mergeD (acc ps : List (NestedKey × D)) : List (NestedKey × D) := ps.foldl (fun acc p => putD acc p.1 p.2) acc
abbrev pairD (p : NestedKey × D) : D := .tup [keyD p.1, p.2]
def dDict : OpN := fun ds Q => ∃ ps : List (NestedKey × D), ds = [.lst (ps.map pairD)] ∧ (∀ p ∈ ps, ktf p.1 = true ∧ p.1.depth ≤ 8) ∧ ((∀ p ∈ ps, isTupK p.1 = true) ∨ ∀ p ∈ ps, (numK p.1).isSome = true) ∧ Q (.dN (mergeD [] ps))
section
variable {K : PySem.W.Frag} {F : Hp}
/-- the pairs, as they stand -/
structure PairV (K : PySem.W.Frag) (F H : Hp) (v : V) (p : NestedKey × D) : Prop where
  ex : ∃ T k x, v = .ref T ∧ SqT K H T [k, x] ∧ DP K F k (keyD p.1) ∧ DP K F x p.2
theorem pairs_of {H : Hp} (e : Same F H) : ∀ {vs : List V} {ps : List (NestedKey × D)}, DPs K F vs (ps.map pairD) → Paired (PairV K F H) vs ps
  | [], [], _ => .nil
  | [], _ :: _, h => by cases h
  | _ :: _, [], h => by cases h
  | v :: vs, p :: ps, h => by
    have h' : DPs K F (v :: vs) (pairD p :: ps.map pairD) := h
    cases h' with
    | cons h t =>
      refine .cons ?_ (pairs_of e t)
      cases h with
      | tup a b =>
        cases b with
        | cons b1 b =>
          cases b with
          | cons b2 b =>
            cases b
            exact ⟨_, _, _, rfl, same_tup e a, b1, b2⟩
end
def rDictN (K : PySem.W.Frag) : List V → Hp → VK → Prop := fun xs H Q => ∃ a vs F ps, xs = [.ref a] ∧ SqL K H a vs ∧ Same F H ∧ Paired (PairV K F H) vs ps ∧ (∀ p ∈ ps, ktf p.1 = true ∧ p.1.depth ≤ 8) ∧ ((∀ p ∈ ps, isTupK p.1 = true) ∨ ∀ p ∈ ps, (numK p.1).isSome = true) ∧
  ∀ p es ep, H p = none → DPn K F es.toList (mergeD [] ps) → ((mergeD [] ps).map (·.1)).Nodup → Q (.ref p) (upd H p (.ext (NDx p es ep)))
section
variable {X : Cx} {pins : List (Addr × Obj)} {σ : L2.St} {F H : Hp} {s : Shared}
theorem merge_nodup : ∀ {ps acc : List (NestedKey × D)}, (acc.map (·.1)).Nodup → ((mergeD acc ps).map (·.1)).Nodup
  | [], _, h => h
  | p :: ps, acc, h => merge_nodup (ps := ps) (putD_nodup h)
theorem merge_len : ∀ {ps acc : List (NestedKey × D)}, (mergeD acc ps).length ≤ acc.length + ps.length
  | [], acc => Nat.le_refl _
  | p :: ps, acc => by
    have := merge_len (ps := ps) (acc := putD acc p.1 p.2)
    have := putD_len acc p.1 p.2
    show (mergeD (putD acc p.1 p.2) ps).length ≤ acc.length + (ps.length + 1)
    omega
theorem XT.all {K : PySem.W.Frag} : ∀ {ys : List (NestedKey × Addr × Value)} {ps : List (NestedKey × D)} {xs : List (NestedKey × Addr × Value)} {acc : List (NestedKey × D)}, XT K F ys ps → XT K F xs acc → XT K F (storedAllH xs ys) (mergeD acc ps)
  | _, _, _, _, .nil, t => t
  | _, _, xs, acc, .cons (a := y) (b := p) (l₁ := l1) (l₂ := l2) h t', t => by
    obtain ⟨h1, h2, h3, h4, v, h5, h6⟩ := h
    show XT K F (storedAllH (storedH xs y.1 y.2.1 y.2.2) l1) (mergeD (putD acc p.1 p.2) l2)
    refine XT.all t' ?_
    rw [h1]
    exact t.put h2 h3 h4 h5 h6
theorem XI.all {K : PySem.W.Frag} : ∀ {ys : List (Int × Value)} {ps : List (NestedKey × D)} {xs : List (Int × Value)} {acc : List (NestedKey × D)}, XI K F ys ps → XI K F xs acc → XI K F (merged xs ys) (mergeD acc ps)
  | _, _, _, _, .nil, t => t
  | _, _, xs, acc, .cons (a := y) (b := p) (l₁ := l1) (l₂ := l2) h t', t => by
    obtain ⟨h1, v, h5, h6⟩ := h
    show XI K F (merged (stored xs y.1 y.2) l1) (mergeD (putD acc p.1 p.2) l2)
    refine XI.all t' ?_
    rw [h1]
    exact t.put h5 h6
/-- what the pairs are for the library -/
theorem items_tup (I : Inv X pins σ H s) (e : Same F H) : ∀ {vs : List V} {ps : List (NestedKey × D)} {us : List Value}, Paired (PairV X.K F H) vs ps → Vals vs us → (∀ p ∈ ps, ktf p.1 = true ∧ p.1.depth ≤ 8 ∧ isTupK p.1 = true) →
    ∃ (ys : List (NestedKey × Addr × Value)) (Ts : List Addr), us = Ts.map .ref ∧ XT X.K F ys ps ∧ Ts.length = ps.length ∧ ∀ (j : Nat) (T : Addr) (y : NestedKey × Addr × Value), Ts[j]? = some T → ys[j]? = some y → PairAt s.heap T (.ref y.2.1) y.2.2
  | [], [], us, _, r, _ => by
    cases r
    exact ⟨[], [], rfl, .nil, rfl, fun j T y h => (by cases h)⟩
  | [], _ :: _, _, h, _, _ => by cases h
  | _ :: _, [], _, h, _, _ => by cases h
  | v :: vs, p :: ps, us, h, r, hk => by
    cases h with
    | cons h t =>
      obtain ⟨T, k, x, rfl, hq, pk, px⟩ := h.ex
      cases r with
      | cons r1 r2 =>
        obtain ⟨ys, Ts, e1, e2, e3, e4⟩ := items_tup I e t r2 fun q hq => hk q (List.mem_cons_of_mem _ hq)
        obtain rfl : _ = Value.ref T := r1
        obtain ⟨q1, q2, q3⟩ := hk p List.mem_cons_self
        obtain ⟨b, rfl⟩ := key_ref ⟨q1, q2, pk⟩ q3
        obtain ⟨its, rv, ⟨o, h1, h2, n, h3⟩, hz⟩ := I.tuple hq
        cases rv with
        | cons rv1 rv =>
          cases rv with
          | cons rv2 rv =>
            cases rv
            obtain rfl : _ = Value.ref b := rv1
            refine ⟨(p.1, b, _) :: ys, T :: Ts, by rw [e1]; rfl, .cons ⟨rfl, q1, q2, pk, x, rv2, px⟩ e2, by simp [e3], fun j T' y hT hy => ?_⟩
            cases j with
            | zero =>
              cases hT
              cases hy
              exact .inl ⟨o, h1, h2, n, h3⟩
            | succ j => exact e4 j T' y hT hy
theorem items_int (I : Inv X pins σ H s) (e : Same F H) : ∀ {vs : List V} {ps : List (NestedKey × D)} {us : List Value}, Paired (PairV X.K F H) vs ps → Vals vs us → (∀ p ∈ ps, (numK p.1).isSome = true) →
    ∃ (ys : List (Int × Value)) (ks : List Value) (Ts : List Addr), us = Ts.map .ref ∧ XI X.K F ys ps ∧ Ts.length = ps.length ∧ ks.length = ps.length ∧ ∀ (j : Nat) (T : Addr) (y : Int × Value) (k : Value), Ts[j]? = some T → ys[j]? = some y → ks[j]? = some k → PairAt s.heap T k y.2 ∧ (intKind X.prog X.w).is y.1 k = true
  | [], [], us, _, r, _ => by
    cases r
    exact ⟨[], [], [], rfl, .nil, rfl, rfl, fun j T y k h => (by cases h)⟩
  | [], _ :: _, _, h, _, _ => by cases h
  | _ :: _, [], _, h, _, _ => by cases h
  | v :: vs, p :: ps, us, h, r, hk => by
    cases h with
    | cons h t =>
      obtain ⟨T, k, x, rfl, hq, pk, px⟩ := h.ex
      cases r with
      | cons r1 r2 =>
        obtain ⟨ys, ks, Ts, e1, e2, e3, e5, e4⟩ := items_int I e t r2 fun q hq => hk q (List.mem_cons_of_mem _ hq)
        obtain rfl : _ = Value.ref T := r1
        have q3 := hk p List.mem_cons_self
        obtain ⟨kk, d⟩ := p
        cases kk with
        | num i =>
          have pk' : DP X.K F k (.int i) := pk
          cases pk'
          obtain ⟨its, rv, ⟨o, h1, h2, n, h3⟩, hz⟩ := I.tuple hq
          cases rv with
          | @cons _ ku _ _ rv1 rv =>
            cases rv with
            | @cons _ xu _ _ rv2 rv =>
              cases rv
              refine ⟨(i, xu) :: ys, ku :: ks, T :: Ts, by rw [e1]; rfl, .cons ⟨rfl, x, rv2, px⟩ e2, by simp [e3], by simp [e5], fun j T' y k' hT hy hk => ?_⟩
              cases j with
              | zero =>
                cases hT
                cases hy
                cases hk
                exact ⟨.inl ⟨o, h1, h2, n, h3⟩, isInt_rel rv1⟩
              | succ j => exact e4 j T' y k' hT hy hk
        | _ => cases q3
theorem call_dictN {k : Nat} (hr : Room k X.A) : CallR X (.type "dict") (rDictN X.K) := by
  intro pins s σ H xs us Q I r h
  obtain ⟨a, vs, F, ps, rfl, hs, sm, pr, hk, kd, q⟩ := h
  obtain ⟨u, rfl, ru⟩ := vals1 r
  obtain rfl : u = Value.ref a := ru
  obtain ⟨its, rv, pl, hz⟩ := I.list hs
  obtain ⟨o, n, h1, h2, h3, h4⟩ := pl
  have lv : vs.length = ps.length := Paired.length pr
  have fin : ∀ (h' : Heap) (tk : Nat) (es : Array DictEntry) (ep : Nat), h'.DictRaw s.heap.objs.size es ep → (∀ b o, s.heap.get? b = some o → h'.get? b = some o) → DPn X.K F es.toList (mergeD [] ps) →
      EP X pins σ Q (.ref s.heap.objs.size) { s with heap := h', toks := tk } := by
    intro h' tk es ep dr kp t
    have hp := I.hok.fresh (Nat.le_refl s.heap.objs.size)
    have z : es.size ≤ sizeLine := by
      have e1 := nat_len t
      rw [Array.length_toList] at e1
      have := merge_len (ps := ps) (acc := [])
      simp at this
      omega
    exact ⟨.ref s.heap.objs.size, _, I.laid (t' := tk) kp (Nat.le_refl _) (nd_ok (beq_eq_false_iff_ne.mpr (Ne.symm (Nat.ne_of_lt I.big))) z dr), rfl, q _ es ep hp t (merge_nodup (by simp))⟩
  rcases kd with kd | kd
  · obtain ⟨ys, Ts, e1, e2, e3, e4⟩ := items_tup I sm pr rv fun p hp => ⟨(hk p hp).1, (hk p hp).2, kd p hp⟩
    have ly : ys.length = ps.length := Paired.length e2
    have all : ∀ {l m}, XT X.K F l m → ∀ h' : Heap, (∀ b o, s.heap.get? b = some o → h'.get? b = some o) → ∀ x ∈ l, (nestedKind X.prog X.w).is h' x.1 x.2.1 := by
      intro l m qq h' kp
      induction qq with
      | nil => intro x hx; exact nomatch hx
      | cons hq t ih =>
        intro x hx
        rcases List.mem_cons.mp hx with z | hx
        · subst z
          obtain ⟨q1, q2, q3, q4, _⟩ := hq
          rw [q1]
          exact ⟨NestedIs.at (fun b o' vs' n' hb _ => kp b o' hb) _ _ (nis I sm q2 q4 rfl), q3⟩
        · exact ih x hx
    have lu : its.length = ps.length := by have := rv.length; omega
    refine call_dict_pairsH (PairArg.list a its.toArray (fun j => Ts.getD j 0) (ys.map fun y => (Value.ref y.2.1, y.2.2))) hr.hd (show X.A.units + 1 + 1 + 8 < cLine by have := hr.units; omega) ⟨⟨o, n, h1, h2, h3, h4⟩, ?_, ?_⟩ (ps := ys) ⟨by simp, ?_⟩ (fun h' kp x hx => all e2 h' (fun b o' e => kp b o' (Nat.ne_of_lt (Heap.lt_size e)) (by simp) e) x hx) ?_ fun h' tk dd kp => ?_
    · simp; omega
    · intro j k v hj
      rw [List.getElem?_map] at hj
      cases hy : ys[j]? with
      | none => rw [hy] at hj; cases hj
      | some y =>
        rw [hy] at hj
        cases hj
        have hlt := (List.getElem?_eq_some_iff.mp hy).1
        obtain ⟨T, hT⟩ : ∃ T, Ts[j]? = some T := ⟨Ts[j]'(by omega), by simp⟩
        have eT : Ts.getD j 0 = T := by rw [List.getD_eq_getElem?_getD, hT]; rfl
        show its.toArray[j]? = some (Value.ref (Ts.getD j 0)) ∧ PairAt s.heap (Ts.getD j 0) _ _
        refine ⟨?_, ?_⟩
        · rw [eT, e1]
          simp [hT]
        · rw [eT]
          exact e4 j T y hT hy
    · intro j k v hj
      have hj : (ys.map fun y => (Value.ref y.2.1, y.2.2))[j]? = some (k, v) := hj
      rw [List.getElem?_map] at hj
      cases hy : ys[j]? with
      | none => rw [hy] at hj; cases hj
      | some y =>
        rw [hy] at hj
        cases hj
        exact ⟨y.1, y.2.1, rfl, rfl⟩
    · rw [List.length_map]; omega
    · obtain ⟨o', es', ep', q1, q2, q3, q4, _, _⟩ := dd
      refine fin h' tk es' ep' ⟨o', q1, q2, q3⟩ (fun b o e => kp b o (by simp) e) ?_
      rw [q4]
      exact dpn_of X.prog X.w (XT.all e2 .nil)
  · obtain ⟨ys, ks, Ts, e1, e2, e3, e5, e4⟩ := items_int I sm pr rv kd
    have ly : ys.length = ps.length := Paired.length e2
    have lu : its.length = ps.length := by have := rv.length; omega
    have lz : (ks.zip (ys.map (·.2))).length = ps.length := by simp; omega
    have at_ : ∀ {j : Nat} {k v : Value}, (ks.zip (ys.map (·.2)))[j]? = some (k, v) → ∃ y T, ys[j]? = some y ∧ Ts[j]? = some T ∧ ks[j]? = some k ∧ v = y.2 := by
      intro j k v hj
      rw [List.getElem?_zip_eq_some] at hj
      obtain ⟨a1, a2⟩ := hj
      rw [List.getElem?_map] at a2
      cases hy : ys[j]? with
      | none => rw [hy] at a2; cases a2
      | some y =>
        rw [hy] at a2
        cases a2
        have hlt := (List.getElem?_eq_some_iff.mp hy).1
        obtain ⟨T, hT⟩ : ∃ T, Ts[j]? = some T := ⟨Ts[j]'(by omega), by simp⟩
        exact ⟨y, T, rfl, hT, a1, rfl⟩
    refine call_dict_pairs (knd := intKind X.prog X.w) (PairArg.list a its.toArray (fun j => Ts.getD j 0) (ks.zip (ys.map (·.2)))) hr.hd ⟨⟨o, n, h1, h2, h3, h4⟩, ?_, ?_⟩ (kvs := ys) ⟨by omega, ?_⟩ ?_ fun h' tk dd kp => ?_
    · simp; omega
    · intro j k v hj
      obtain ⟨y, T, hy, hT, hk', rfl⟩ := at_ hj
      have eT : Ts.getD j 0 = T := by rw [List.getD_eq_getElem?_getD, hT]; rfl
      show its.toArray[j]? = some (Value.ref (Ts.getD j 0)) ∧ PairAt s.heap (Ts.getD j 0) _ _
      refine ⟨?_, ?_⟩
      · rw [eT, e1]
        simp [hT]
      · rw [eT]
        exact (e4 j T y k hT hy hk').1
    · intro j k v hj
      obtain ⟨y, T, hy, hT, hk', rfl⟩ := at_ hj
      exact ⟨y.1, hy, (e4 j T y k hT hy hk').2⟩
    · omega
    · obtain ⟨o', es', ep', q1, q2, q3, q4, q5, _⟩ := dd
      refine fin h' tk es' ep' ⟨o', q1, q2, q3⟩ (fun b o e => kp b o (by simp) e) ?_
      exact dpi_of X.prog X.w q5 (XI.all e2 .nil) fun e he => q4 e (by simpa using he)
end
section
variable {X : Cx} {B : Bas} {W : WX} {a b c e : Expr} {es : List Expr} {s : AA} {pos p : Pos}
theorem opN_dict {K : PySem.W.Frag} : OpNF K B (rDictN K) dDict := by
  intro F H ρ σ xs ds Q0 Q R p q k
  obtain ⟨ps, rfl, hk, kd, q⟩ := q
  obtain ⟨v, rfl, h⟩ := dps1 p
  cases h with
  | lst h t =>
    exact ⟨_, _, F, ps, rfl, SqL.of (R.fz _ _ h), R.fz, pairs_of R.fz t, hk, kd, fun p es ep hp t nd => k _ q _ _ _ _ (R.allocO hp) (Same.refl _) (freshAt_new R hp) (.dN nd t)⟩
theorem sf_dict {k : Nat} (hr : Room k X.A) (hg : Gl X "dict") (hm : X.mg "dict" = none) (ha : SA X B W (e :: es) s)
    (he : starEach (e :: es) X.env = (false, eval e X.env) :: starEach es X.env := by rfl) (hpl : (backTo pos (starEach es X.env)).any (·.1) = false := by rfl) : SF X B W (.Call (.Name "dict" p) (e :: es) [] pos) (aOp dDict s) :=
  sf_Ty (call_dictN hr) opN_dict hg hm (by decide +kernel) ha (by decide) (by decide) he hpl
end

/-! ### sorted(d), list(d) -/
section
variable {X : Cx} {pins : List (Addr × Obj)} {σ : L2.St} {F H : Hp} {s : Shared}
mutual
/-- a key read as data: no list on the way -/
theorem reads_key (I : Inv X pins σ H s) (e : Same F H) : ∀ {k : NestedKey} {v : V} {u : Value}, ktf k = true → DP X.K F v (keyD k) → RelV v u → Reads s.heap u (keyD k).py []
  | .none, v, u, _, p, r => by
    cases p
    obtain rfl : u = Value.none := r
    exact .none
  | .num i, v, u, _, p, r => by
    cases p
    obtain ⟨t, rfl⟩ : ∃ t, u = Value.int i t := r
    exact .int i t
  | .text x, v, u, h, p, r => by cases h
  | .tup ks, v, u, h, p, r => by
    cases p with
    | tup hq hs =>
      obtain rfl : u = Value.ref _ := r
      obtain ⟨its, rv, ⟨o, h1, h2, n, h3⟩, hz⟩ := I.tuple (same_tup e hq)
      exact .tuple h1 h2 h3 (by simpa using reads_keys I e h hs rv)
theorem reads_keys (I : Inv X pins σ H s) (e : Same F H) : ∀ {ks : List NestedKey} {vs : List V} {us : List Value}, ktfs ks = true → DPs X.K F vs (keyDs ks) → Vals vs us → ReadsAll s.heap us (D.pys (keyDs ks)) []
  | [], vs, us, _, p, r => by
    cases p
    cases r
    exact .nil
  | k :: ks, vs, us, h, p, r => by
    have h' : (ktf k && ktfs ks) = true := h
    rw [Bool.and_eq_true] at h'
    cases p with
    | cons p1 p2 =>
      cases r with
      | cons r1 r2 => exact .cons (as := []) (bs := []) (reads_key I e h'.1 p1 r1) (reads_keys I e h'.2 p2 r2)
end
mutual
theorem key_depth : ∀ k : NestedKey, (keyD k).py.depth ≤ k.depth
  | .none => Nat.le_refl _
  | .num _ => Nat.le_refl _
  | .text _ => Nat.le_refl _
  | .tup ks => by
    have := keys_depth ks
    show PyData.depthAll (D.pys (keyDs ks)) + 1 ≤ NestedKey.depthAll ks + 1
    omega
theorem keys_depth : ∀ ks : List NestedKey, PyData.depthAll (D.pys (keyDs ks)) ≤ NestedKey.depthAll ks
  | [] => Nat.le_refl _
  | k :: ks => by
    have := key_depth k
    have := keys_depth ks
    show max (keyD k).py.depth (PyData.depthAll (D.pys (keyDs ks))) ≤ max k.depth (NestedKey.depthAll ks)
    omega
end
/-- the keys, as they stand -/
theorem keys_dp {K : PySem.W.Frag} : ∀ {es : List DictEntry} {ds : List (NestedKey × D)}, DPn K F es ds → ∃ ps : List (V × NestedKey), ps.map (·.2) = ds.map (·.1) ∧ (∀ p ∈ ps, ktf p.2 = true ∧ p.2.depth ≤ 8 ∧ DP K F p.1 (keyD p.2)) ∧ Vals (ps.map (·.1)) (es.map (·.key))
  | _, _, .nil => ⟨[], rfl, (fun p h => nomatch h), .nil⟩
  | _, _, .cons (k := k) (kv := kv) h1 h2 h3 h4 h5 h6 p q t => by
    obtain ⟨ps, r1, r2, r3⟩ := keys_dp t
    subst h6
    refine ⟨(kv, k) :: ps, by simp [r1], fun p hp => ?_, .cons h4 r3⟩
    rcases List.mem_cons.mp hp with rfl | hp
    · exact ⟨h1, h2, by assumption⟩
    · exact r2 p hp
def rSortN (K : PySem.W.Frag) : List V → Hp → VK → Prop := fun vs H Q => ∃ a a0 es ep F, ∃ ps : List (V × NestedKey), vs = [.ref a] ∧ NH H a a0 es ep ∧ Same F H ∧ (∀ p ∈ ps, ktf p.2 = true ∧ p.2.depth ≤ 8 ∧ DP K F p.1 (keyD p.2)) ∧ KeysV es (ps.map (·.1)) ∧
  PySem.W.AllAlike (ps.map fun p => (keyD p.2).py) ∧ PySem.W.Sortable (ps.map fun p => (keyD p.2).py) ∧ ∀ p, H p = none → Q (.ref p) (upd H p (.lst ((ps.mergeSort (PySem.W.dataLe false fun p => (keyD p.2).py)).map (·.1))))
theorem vals_eq {es : Array DictEntry} {us : List Value} (h1 : us.length = es.size) (h2 : ∀ (i : Nat) (v : Value), us[i]? = some v → ∃ hi : i < es.size, v = es[i].key) : us = es.toList.map (·.key) := by
  refine List.ext_getElem? fun i => ?_
  cases q : us[i]? with
  | none =>
    have := List.getElem?_eq_none_iff.mp q
    rw [List.getElem?_eq_none (by simp; omega)]
  | some v =>
    obtain ⟨hi, rfl⟩ := h2 i v q
    simp [hi]
theorem cr_sortN {k : Nat} (hr : Room k X.A) : CallR X (.builtin "sorted") (rSortN X.K) := by
  intro pins s σ H vs us Q I r h
  obtain ⟨a, a0, es, ep, F, ps, rfl, hd, sm, hp, hv, hal, hso, q⟩ := h
  obtain ⟨u, rfl, ru⟩ := vals1 r
  obtain rfl : u = Value.ref a := ru
  obtain ⟨hs, hz, raw⟩ := nd_raw I.hok hd
  refine Calls.call_function_entry PyProof.Rows.kind_sorted PyProof.Rows.plain_sorted PyProof.Rows.entry_sorted (PyProof.Rows.args_sorted1 _) ?_
  unfold Builtin.«sorted»
  refine wpAny_bind (m := checkCount "sorted" 1 1 _) (wpAny_pure ?_)
  refine wpAny_bind (PySem.W.kdu_collect (A := X.A.in1) (KdlSrc.rawDict (es := es) (ep := ep) hs) hr.hd raw hz fun h' tk acc hk hacc => ?_)
  have ha : acc.toList = es.toList.map (·.key) := vals_eq (by rw [Array.length_toList]; exact hacc.1) fun i v e => hacc.2 i v (by rw [← Array.getElem?_toList]; exact e)
  have hal2 : acc.toList.length ≤ sizeLine := by rw [ha]; simpa using hz
  have I1 : Inv X pins σ H { s with heap := h', toks := tk } := I.kept hk
  refine wpAny_bind (wpAny_newList ?_ hal2)
  have hoL : (h'.push (PyProof.Rows.seqObj "list" acc.toList.toArray 0)).get? h'.objs.size = some (PyProof.Rows.seqObj "list" acc.toList.toArray 0) := Heap.get?_push_size _ rfl
  have I2 : Inv X pins σ H { s with heap := h'.push (PyProof.Rows.seqObj "list" acc.toList.toArray 0), toks := tk } := I1.kept (t' := tk) fun b o e => Heap.get?_push_of_some _ e
  show wpAny _ _ _ _ _ { s with heap := h'.push (PyProof.Rows.seqObj "list" acc.toList.toArray 0), toks := tk }
  have rv : Vals (ps.map (·.1)) acc.toList := by rw [ha]; exact hv
  have lp : ps.length ≤ sizeLine := by
    have := rv.length
    rw [List.length_map] at this
    omega
  refine wpAny_bind (wpAny_holding (PySem.W.list_sort_data (β := V × NestedKey) (R := fun u x => RelV x.1 u) (enc := fun p => (keyD p.2).py) (bs := ps) (s := { s with heap := h'.push (PyProof.Rows.seqObj "list" acc.toList.toArray 0), toks := tk }) hoL
    (each_of (f := (·.1)) rv fun x _ u ru => ru) (each_of (f := (·.1)) rv fun x hx u ru => ⟨[], reads_key I2 sm (hp x hx).1 (hp x hx).2.2 ru, List.not_mem_nil⟩) hal hso lp (fun b hb => ?_) fun out hout he => ?_))
  · have h1 := (hp b hb).2.1
    have h2 := key_depth b.2
    have := hr.un
    show X.A.units + 1 + 1 + (keyD b.2).py.depth < cLine
    omega
  · obtain ⟨e', he'⟩ := PyProof.Rows.sortedHeap_at (vs := acc.toList) (out := out.toArray) hoL
    have hlen : ((ps.mergeSort (PySem.W.dataLe false fun p => (keyD p.2).py)).map (·.1)).length ≤ sizeLine := by simpa using lp
    refine wpAny_pure ⟨_, rfl, .ref h'.objs.size, upd H h'.objs.size (.lst _), I1.laid (t' := tk) (fun b u e => ?_) (Nat.le_refl _)
      (show ObjOk X.prog X.w _ _ _ (.lst _) from ⟨hlen, out, e', vals_of_each he, he'⟩), rfl, q _ (I1.hok.fresh (Nat.le_refl _))⟩
    have hb : b < h'.objs.size := Heap.lt_size e
    rw [PyProof.Rows.sortedHeap_old (Nat.ne_of_lt hb) (by rw [PyProof.Rows.size_push']; exact Nat.lt_succ_of_lt hb)]
    exact Heap.get?_push_of_some _ e
def rListN (K : PySem.W.Frag) : List V → Hp → VK → Prop := fun vs H Q => ∃ a a0 es ep ks, vs = [.ref a] ∧ NH H a a0 es ep ∧ KeysV es ks ∧ ∀ p, H p = none → Q (.ref p) (upd H p (.lst ks))
theorem call_listN {k : Nat} (hr : Room k X.A) : CallR X (.type "list") (rListN X.K) := by
  intro pins s σ H vs us Q I r h
  obtain ⟨a, a0, es, ep, ks, rfl, hd, hv, q⟩ := h
  obtain ⟨u, rfl, ru⟩ := vals1 r
  obtain rfl : u = Value.ref a := ru
  obtain ⟨hs, hz, raw⟩ := nd_raw I.hok hd
  refine PySem.W.kdl_call (KdlSrc.rawDict (es := es) (ep := ep) hs) hr.hd raw hz fun h' tk acc c' hk hD hacc => ?_
  have ha : acc.toList = es.toList.map (·.key) := vals_eq (by rw [Array.length_toList]; exact hacc.1) fun i v e => hacc.2 i v (by rw [← Array.getElem?_toList]; exact e)
  have lk : ks.length ≤ sizeLine := by
    have := hv.length
    simp at this
    omega
  exact ⟨.ref _, _, I.laid (t' := tk) hk (Nat.le_refl _) (show ObjOk X.prog X.w _ _ _ (.lst ks) from ⟨lk, acc.toList, c', by rw [ha]; exact hv, by simpa using hD⟩), rfl, q _ (I.hok.fresh (Nat.le_refl _))⟩
end
section
variable {X : Cx} {B : Bas} {W : WX} {a b c e : Expr} {es : List Expr} {s : AA} {pos p : Pos}
def dSortedN : OpN := fun ds Q => ∃ kvs : List (NestedKey × D), ds = [.dN kvs] ∧ PySem.W.AllAlike (kvs.map fun p => (keyD p.1).py) ∧ PySem.W.Sortable (kvs.map fun p => (keyD p.1).py) ∧ Q (.lst ((kvs.map fun p => keyD p.1).mergeSort leD))
theorem opN_sortN {K : PySem.W.Frag} : OpNF K B (rSortN K) dSortedN := by
  intro F H ρ σ xs ds Q0 Q R p q k
  obtain ⟨kvs, rfl, q1, q2, q⟩ := q
  obtain ⟨v, rfl, h⟩ := dps1 p
  cases h with
  | dN h e n t =>
    subst e
    obtain ⟨ps, e1, e2, e3⟩ := keys_dp t
    have g : ps.map (fun p => (keyD p.2).py) = kvs.map fun p => (keyD p.1).py := by
      have := congrArg (List.map fun k => (keyD k).py) e1
      rw [List.map_map, List.map_map] at this
      exact this
    have g2 : ps.map (fun p => keyD p.2) = kvs.map fun p => keyD p.1 := by
      have := congrArg (List.map keyD) e1
      rw [List.map_map, List.map_map] at this
      exact this
    refine ⟨_, _, _, _, F, ps, rfl, R.fz _ _ h, R.fz, e2, e3, by rw [g]; exact q1, by rw [g]; exact q2, fun p hp => k _ q _ _ _ _ (R.allocO hp) (Same.refl _) (freshAt_new R hp) (.lst ?_)⟩
    rw [← g2]
    have m2 : (ps.mergeSort (PySem.W.dataLe false fun p => (keyD p.2).py)).map (fun p => keyD p.2) = (ps.map fun p => keyD p.2).mergeSort leD :=
      List.map_mergeSort (r := PySem.W.dataLe false fun p : V × NestedKey => (keyD p.2).py) (s := leD) (f := fun p : V × NestedKey => keyD p.2) (fun a _ b _ => rfl)
    rw [← m2]
    have m3 : ∀ l : List (V × NestedKey), (∀ p ∈ l, DP K F p.1 (keyD p.2)) → DPs K F (l.map (·.1)) (l.map fun p => keyD p.2) := by
      intro l hl
      induction l with
      | nil => exact .nil
      | cons x l ih => exact .cons (hl x List.mem_cons_self) (ih fun y hy => hl y (List.mem_cons_of_mem _ hy))
    exact m3 _ fun p hp => (e2 p (List.mem_mergeSort.mp hp)).2.2
theorem OpNF.or {K : PySem.W.Frag} {r r' : List V → Hp → VK → Prop} {op op' : OpN} (h : OpNF K B r op) (h' : OpNF K B r' op') : OpNF K B (fun xs H Q => r xs H Q ∨ r' xs H Q) (fun ds Q => op ds Q ∨ op' ds Q) := by
  intro F H ρ σ xs ds Q0 Q R p q k
  rcases q with q | q
  · exact .inl (h F H ρ σ xs ds Q0 Q R p q k)
  · exact .inr (h' F H ρ σ xs ds Q0 Q R p q k)
/-- sorted(x) of a dict -/
theorem sf_sortN {k : Nat} (hr : Room k X.A) (hg : Gl X "sorted") (hm : X.mg "sorted" = none) (ha : SA X B W (e :: es) s)
    (he : starEach (e :: es) X.env = (false, eval e X.env) :: starEach es X.env := by rfl) (hpl : (backTo pos (starEach es X.env)).any (·.1) = false := by rfl) : SF X B W (.Call (.Name "sorted" p) (e :: es) [] pos) (aOp dSortedN s) :=
  sf_B (cr_sortN hr) opN_sortN hg hm (by decide +kernel) ha (by decide) (by decide) he hpl
def dListN : OpN := fun ds Q => ∃ kvs : List (NestedKey × D), ds = [.dN kvs] ∧ Q (.lst (kvs.map fun p => keyD p.1))
theorem opN_listN {K : PySem.W.Frag} : OpNF K B (rListN K) dListN := by
  intro F H ρ σ xs ds Q0 Q R p q k
  obtain ⟨kvs, rfl, q⟩ := q
  obtain ⟨v, rfl, h⟩ := dps1 p
  cases h with
  | dN h e n t =>
    subst e
    obtain ⟨ks, hv, hp⟩ := dpn_keys t
    exact ⟨_, _, _, _, ks, rfl, R.fz _ _ h, hv, fun p hp' => k _ q _ _ _ _ (R.allocO hp') (Same.refl _) (freshAt_new R hp') (.lst hp)⟩
theorem sf_listN {k : Nat} (hr : Room k X.A) (hg : Gl X "list") (hm : X.mg "list" = none) (ha : SA X B W (e :: es) s)
    (he : starEach (e :: es) X.env = (false, eval e X.env) :: starEach es X.env := by rfl) (hpl : (backTo pos (starEach es X.env)).any (·.1) = false := by rfl) : SF X B W (.Call (.Name "list" p) (e :: es) [] pos) (aOp dListN s) :=
  sf_Ty (call_listN hr) opN_listN hg hm (by decide +kernel) ha (by decide) (by decide) he hpl
end

/-! ### a tuple that the top has written -/
theorem dp_tupK {K : PySem.W.Frag} {F : Hp} {a : Addr} {o : Obj} {its : Array Value} {n : Nat} {xs : List V} {ds : List D} (lk : K.lookup a = some o) (hc : o.cls = .type "tuple") (hd : o.data = .seq its n) (hz : its.size ≤ 1000) (hv : Vals xs its.toList) (h : DPs K F xs ds) : DP K F (.ref a) (.tup ds) :=
  .tup (.inr ⟨o, its, n, lk, hc, hd, line_ok (by omega), hv⟩) h
end PU
set_option Elab.async false
set_option linter.all false
set_option maxRecDepth 100000
namespace PU
open PySem PySem.Spec L2 StX RZ
set_option autoImplicit false

/-! ### sorted(x) of a tuple -/
section
variable {X : Cx} {pins : List (Addr × Obj)} {σ : L2.St} {F H : Hp} {s : Shared}
mutual
/-- data of numbers, None, tuples -/
def flatD : D → Bool
  | .non => true
  | .int _ => true
  | .tup xs => flatDs xs
  | _ => false
def flatDs : List D → Bool
  | [] => true
  | x :: xs => flatD x && flatDs xs
end
mutual
theorem reads_flat (I : Inv X pins σ H s) (e : Same F H) : ∀ {d : D} {v : V} {u : Value}, flatD d = true → DP X.K F v d → RelV v u → Reads s.heap u d.py []
  | .non, v, u, _, p, r => by
    cases p
    obtain rfl : u = Value.none := r
    exact .none
  | .int i, v, u, _, p, r => by
    cases p
    obtain ⟨t, rfl⟩ : ∃ t, u = Value.int i t := r
    exact .int i t
  | .tup ks, v, u, h, p, r => by
    cases p with
    | tup hq hs =>
      obtain rfl : u = Value.ref _ := r
      obtain ⟨its, rv, ⟨o, h1, h2, n, h3⟩, hz⟩ := I.tuple (same_tup e hq)
      exact .tuple h1 h2 h3 (by simpa using reads_flats I e h hs rv)
  | .bl _, _, _, h, _, _ => by cases h
  | .str _, _, _, h, _, _ => by cases h
  | .con _, _, _, h, _, _ => by cases h
  | .lst _, _, _, h, _, _ => by cases h
  | .dK _, _, _, h, _, _ => by cases h
  | .dT _, _, _, h, _, _ => by cases h
  | .dN _, _, _, h, _, _ => by cases h
theorem reads_flats (I : Inv X pins σ H s) (e : Same F H) : ∀ {ks : List D} {vs : List V} {us : List Value}, flatDs ks = true → DPs X.K F vs ks → Vals vs us → ReadsAll s.heap us (D.pys ks) []
  | [], vs, us, _, p, r => by
    cases p
    cases r
    exact .nil
  | k :: ks, vs, us, h, p, r => by
    have h' : (flatD k && flatDs ks) = true := h
    rw [Bool.and_eq_true] at h'
    cases p with
    | cons p1 p2 =>
      cases r with
      | cons r1 r2 => exact .cons (as := []) (bs := []) (reads_flat I e h'.1 p1 r1) (reads_flats I e h'.2 p2 r2)
end
def rSortTu (K : PySem.W.Frag) : List V → Hp → VK → Prop := fun vs H Q => ∃ a F, ∃ ps : List (V × D), vs = [.ref a] ∧ SqT K H a (ps.map (·.1)) ∧ Same F H ∧ (∀ p ∈ ps, flatD p.2 = true ∧ p.2.py.depth ≤ 63 ∧ DP K F p.1 p.2) ∧
  PySem.W.AllAlike (ps.map fun p => p.2.py) ∧ PySem.W.Sortable (ps.map fun p => p.2.py) ∧ ∀ p, H p = none → Q (.ref p) (upd H p (.lst ((ps.mergeSort (PySem.W.dataLe false fun p => p.2.py)).map (·.1))))
theorem cr_sortTu {k : Nat} (hr : Room k X.A) : CallR X (.builtin "sorted") (rSortTu X.K) := by
  intro pins s σ H vs us Q I r h
  obtain ⟨a, F, ps, rfl, hq, sm, hp, hal, hso, q⟩ := h
  obtain ⟨u, rfl, ru⟩ := vals1 r
  obtain rfl : u = Value.ref a := ru
  obtain ⟨its, rv, ⟨o, h1, h2, n, h3⟩, hz⟩ := I.tuple hq
  refine Calls.call_function_entry PyProof.Rows.kind_sorted PyProof.Rows.plain_sorted PyProof.Rows.entry_sorted (PyProof.Rows.args_sorted1 _) ?_
  unfold Builtin.«sorted»
  refine wpAny_bind (m := checkCount "sorted" 1 1 _) (wpAny_pure ?_)
  refine wpAny_bind (wpAny_collect_seq (A := X.A.in1) a (.inr rfl) h1 h2 h3 (fun h' hk => ?_) (by simpa using (by have := rv.length; omega : its.length ≤ sizeLine)))
  have hal2 : its.length ≤ sizeLine := by have := rv.length; omega
  have I1 : Inv X pins σ H { s with heap := h' } := I.kept (t' := s.toks) hk
  show wpAny _ _ (newList its >>= _) _ _ _
  refine wpAny_bind (wpAny_newList ?_ hal2)
  have hoL : (h'.push (PyProof.Rows.seqObj "list" its.toArray 0)).get? h'.objs.size = some (PyProof.Rows.seqObj "list" its.toArray 0) := Heap.get?_push_size _ rfl
  have I2 : Inv X pins σ H { s with heap := h'.push (PyProof.Rows.seqObj "list" its.toArray 0) } := I1.kept (t' := s.toks) fun b o e => Heap.get?_push_of_some _ e
  show wpAny _ _ _ _ _ { s with heap := h'.push (PyProof.Rows.seqObj "list" its.toArray 0) }
  have lp : ps.length ≤ sizeLine := by
    have := rv.length
    rw [List.length_map] at this
    omega
  refine wpAny_bind (wpAny_holding (PySem.W.list_sort_data (β := V × D) (R := fun u x => RelV x.1 u) (enc := fun p => p.2.py) (bs := ps) (s := { s with heap := h'.push (PyProof.Rows.seqObj "list" its.toArray 0) }) hoL
    (each_of (f := (·.1)) rv fun x _ u ru => ru) (each_of (f := (·.1)) rv fun x hx u ru => ⟨[], reads_flat I2 sm (hp x hx).1 (hp x hx).2.2 ru, List.not_mem_nil⟩) hal hso lp (fun b hb => ?_) fun out hout he => ?_))
  · have h1 := (hp b hb).2.1
    have := hr.un
    show X.A.units + 1 + 1 + b.2.py.depth < cLine
    omega
  · obtain ⟨e', he'⟩ := PyProof.Rows.sortedHeap_at (vs := its) (out := out.toArray) hoL
    have hlen : ((ps.mergeSort (PySem.W.dataLe false fun p => p.2.py)).map (·.1)).length ≤ sizeLine := by simpa using lp
    refine wpAny_pure ⟨_, rfl, .ref h'.objs.size, upd H h'.objs.size (.lst _), I1.laid (t' := s.toks) (fun b u e => ?_) (Nat.le_refl _)
      (show ObjOk X.prog X.w _ _ _ (.lst _) from ⟨hlen, out, e', vals_of_each he, he'⟩), rfl, q _ (I1.hok.fresh (Nat.le_refl _))⟩
    have hb : b < h'.objs.size := Heap.lt_size e
    rw [PyProof.Rows.sortedHeap_old (Nat.ne_of_lt hb) (by rw [PyProof.Rows.size_push']; exact Nat.lt_succ_of_lt hb)]
    exact Heap.get?_push_of_some _ e
end
section
variable {X : Cx} {B : Bas} {W : WX} {a b c e : Expr} {es : List Expr} {s : AA} {ta tb : AE} {pos p : Pos}
def dSortedT : OpN := fun ds Q => ∃ xs : List D, ds = [.tup xs] ∧ (∀ x ∈ xs, flatD x = true ∧ x.py.depth ≤ 63) ∧ PySem.W.AllAlike (xs.map D.py) ∧ PySem.W.Sortable (xs.map D.py) ∧ Q (.lst (xs.mergeSort leD))
theorem opN_sortT {K : PySem.W.Frag} : OpNF K B (rSortTu K) dSortedT := by
  intro F H ρ σ xs ds Q0 Q R p q k
  obtain ⟨zs, rfl, q1, q2, q3, q⟩ := q
  obtain ⟨v, rfl, h⟩ := dps1 p
  cases h with
  | tup h t =>
    rename_i a vs
    obtain ⟨e1, e2, e3⟩ := zip_fst t
    have g2 : (vs.zip zs).map (fun p => p.2.py) = zs.map D.py := by
      have : (fun p : V × D => p.2.py) = D.py ∘ (·.2) := rfl
      rw [this, ← List.map_map, e2]
    refine ⟨a, F, vs.zip zs, rfl, by rw [e1]; exact same_tup R.fz h, R.fz, fun x hx => ?_, by rw [g2]; exact q2, by rw [g2]; exact q3, fun p hp => k _ q _ _ _ _ (R.allocO hp) (Same.refl _) (freshAt_new R hp) (.lst ?_)⟩
    · have hm : x.2 ∈ zs := by rw [← e2]; exact List.mem_map.mpr ⟨x, hx, rfl⟩
      exact ⟨(q1 _ hm).1, (q1 _ hm).2, e3 x hx⟩
    · have m2 : ((vs.zip zs).mergeSort (PySem.W.dataLe false fun p => p.2.py)).map (·.2) = zs.mergeSort leD := by
        rw [List.map_mergeSort (r := PySem.W.dataLe false fun p : V × D => p.2.py) (s := leD) (f := fun p : V × D => p.2) (fun a _ b _ => rfl), e2]
      rw [← m2]
      exact dps_of fun p hp => e3 p (List.mem_mergeSort.mp hp)
/-- sorted(x) of a tuple -/
theorem sf_sortT {k : Nat} (hr : Room k X.A) (hg : Gl X "sorted") (hm : X.mg "sorted" = none) (ha : SA X B W (e :: es) s)
    (he : starEach (e :: es) X.env = (false, eval e X.env) :: starEach es X.env := by rfl) (hpl : (backTo pos (starEach es X.env)).any (·.1) = false := by rfl) : SF X B W (.Call (.Name "sorted" p) (e :: es) [] pos) (aOp dSortedT s) :=
  sf_B (cr_sortTu hr) opN_sortT hg hm (by decide +kernel) ha (by decide) (by decide) he hpl

/-! ### new lists by + and * -/
def OpSF (K : PySem.W.Frag) (B : Bas) (r : R2) (op : Op2) : Prop :=
  ∀ (F H : Hp) (ρ : List AV) (σ : L2.St) (x y : V) (d e : D) (Q0 : D → Prop) (Q : VK), Rel K B F H ρ σ → DP K F x d → DP K F y e → op d e Q0 →
    (∀ z, Q0 z → ∀ a o F' H', Rel K B F' H' ρ σ → Same F F' → FreshAt B F' H' ρ σ a o → OwnP K F' o z → Q (.ref a) H') → r x y H Q
theorem cBinF {K : PySem.W.Frag} {r : R2} {op : Op2} (hs : OpSF K B r op) {σ : L2.St} {H : Hp} {Q : VK} (q : cF K B W (aBin op ta tb) σ H Q) : tOp r (cE K B W ta) (cE K B W tb) σ H Q := by
  obtain ⟨ρ, F, EX, Q0, R, t, k, kx⟩ := q
  refine ⟨ρ, F, EX, _, R, t, fun d ρ1 t1 x F1 H1 R1 s1 p1 => ?_, kx⟩
  refine ⟨ρ1, F1, EX, _, R1, t1, fun e ρ2 t2 y F2 H2 R2' s2 p2 => ?_, kx⟩
  exact hs F2 H2 ρ2 σ x y d e _ Q R2' (p1.mono s2) p2 t2 fun z hz a o F' H' R' s' f p' => k z ρ2 hz a o F' H' R' ((s1.trans s2).trans s') f p'
theorem sf_bin {o : Operator} {r : R2} {op : Op2} (ho : OpR X (binaryOp o) r) (hs : OpSF X.K B r op) (ha : SE X B W a ta) (hb : SE X B W b tb) : SF X B W (.BinOp a o b pos) (aBin op ta tb) :=
  PE_imp (pe_op ho ha hb) fun _ _ _ q => cBinF hs q
def dAddL : Op2 := fun d e Q => match d, e with
  | .lst xs, .lst ys => xs.length + ys.length ≤ sizeLine ∧ Q (.lst (xs ++ ys))
  | _, _ => False
theorem opSF_add {K : PySem.W.Frag} : OpSF K B rCat dAddL := by
  intro F H ρ σ x y d e Q0 Q R p1 p2 q k
  unfold dAddL at q
  split at q
  · cases p1 with
    | lst h1 t1 =>
      cases p2 with
      | lst h2 t2 => exact ⟨_, _, _, _, rfl, rfl, R.fz _ _ h1, R.fz _ _ h2, by rw [t1.length, t2.length]; exact q.1, fun p hp => k _ q.2 _ _ _ _ (R.allocO hp) (Same.refl _) (freshAt_new R hp) (.lst (t1.append t2))⟩
  · exact q.elim
theorem sf_addL (ha : SE X B W a ta) (hb : SE X B W b tb) : SF X B W (.BinOp a .Add b pos) (aBin dAddL ta tb) := sf_bin op_cat opSF_add ha hb
def dMulL : Op2 := fun d e Q => match d, e with
  | .lst xs, .int k => -(2 ^ 63) ≤ k ∧ k < 2 ^ 63 ∧ xs.length * k.toNat ≤ sizeLine ∧ Q (.lst (List.replicate k.toNat xs).flatten)
  | _, _ => False
theorem opSF_mul {K : PySem.W.Frag} : OpSF K B rRep dMulL := by
  intro F H ρ σ x y d e Q0 Q R p1 p2 q k
  unfold dMulL at q
  split at q
  · rename_i xs j
    obtain ⟨q1, q2, q3, q⟩ := q
    cases p1 with
    | lst h1 t1 => exact ⟨_, j, _, rfl, dp_int p2, R.fz _ _ h1, q1, q2, by rw [t1.length]; exact q3, fun p hp => k _ q _ _ _ _ (R.allocO hp) (Same.refl _) (freshAt_new R hp) (.lst (t1.rep _))⟩
  · exact q.elim
theorem sf_mulL (ha : SE X B W a ta) (hb : SE X B W b tb) : SF X B W (.BinOp a .Mult b pos) (aBin dMulL ta tb) := sf_bin op_rep opSF_mul ha hb
end
end PU
set_option Elab.async false
set_option linter.all false
set_option maxRecDepth 100000
namespace PU
open PySem PySem.Spec L2 StX RZ
set_option autoImplicit false

/-! ### fractions, plainly -/
def eQ (q : Rat) : D := .tup [.int q.num, .int (q.den : Int)]
theorem eQ_inj {a b : Rat} (h : eQ a = eQ b) : a = b := by
  unfold eQ at h
  injection h with h
  injection h with h1 h2
  injection h1 with h1
  injection h2 with h2 _
  injection h2 with h2
  exact Rat.ext h1 (by omega)
def SmB (k : Nat) (i : Int) : Prop := i.natAbs < 2 ^ k
theorem SmB.up {j k : Nat} {i : Int} (h : SmB j i) (l : j ≤ k) : SmB k i := Nat.lt_of_lt_of_le h (Nat.pow_le_pow_right (by decide) l)
theorem SmB.mul {a b : Nat} {i j : Int} (h : SmB a i) (h' : SmB b j) : SmB (a + b) (i * j) := by
  unfold SmB at *
  rw [Int.natAbs_mul, Nat.pow_add]
  exact Nat.mul_lt_mul'' h h'
theorem SmB.add {k : Nat} {i j : Int} (h : SmB k i) (h' : SmB k j) : SmB (k + 1) (i + j) := by
  unfold SmB at *
  have := Int.natAbs_add_le i j
  rw [Nat.pow_succ]
  omega
theorem SmB.neg {k : Nat} {i : Int} (h : SmB k i) : SmB k (-i) := by
  unfold SmB at *
  rwa [Int.natAbs_neg]
theorem SmB.sub {k : Nat} {i j : Int} (h : SmB k i) (h' : SmB k j) : SmB (k + 1) (i - j) := by
  rw [Int.sub_eq_add_neg]; exact h.add h'.neg
theorem SmB.le {k : Nat} {i j : Int} (h : SmB k j) (l : i.natAbs ≤ j.natAbs) : SmB k i := Nat.lt_of_le_of_lt l h
theorem SmB.log {k : Nat} {i : Int} (h : SmB k i) (hk : 0 < k) : i.natAbs.log2 < k := by
  by_cases z : i.natAbs = 0
  · rw [z]; simpa using hk
  · exact (Nat.log2_lt z).mpr h
theorem SmB.mulOk {a b : Nat} {i j : Int} (h : SmB a i) (h' : SmB b j) (l : a + b ≤ 999000) : MulOk i j := by
  have h1 := (h.up (Nat.le_succ a)).log (Nat.succ_pos a)
  have h2 := (h'.up (Nat.le_succ b)).log (Nat.succ_pos b)
  exact .inr (show i.natAbs.log2 + j.natAbs.log2 < 1000000 by omega)
theorem SmB.divOk {k : Nat} {i j : Int} (h : SmB k j) (l : k ≤ 9000) (hj : j ≠ 0) : DivOk i j := by
  refine ⟨hj, ?_⟩
  have := (h.up l).log (by decide)
  exact this
theorem smB_nat {k n : Nat} (h : n < 2 ^ k) : SmB k (n : Int) := by unfold SmB; simpa using h
theorem smB_of {k : Nat} {i : Int} (h1 : -(2 ^ k) < i) (h2 : i < 2 ^ k) : SmB k i := by
  unfold SmB
  have e : ((2 ^ k : Nat) : Int) = 2 ^ k := by simp
  omega
theorem SmB.pow {k : Nat} {i : Int} (h : SmB k i) (hk : 0 < k) : ∀ m : Nat, SmB (k * m + 1) (i ^ m)
  | 0 => by unfold SmB; simp
  | m + 1 => by
    have := (SmB.pow h hk m).mul h
    rw [Int.pow_succ]
    exact this.up (by rw [Nat.mul_succ]; omega)
structure QB (k : Nat) (q : Rat) : Prop where
  nm : SmB k q.num
  dn : SmB k (q.den : Int)
theorem QB.up {j k : Nat} {q : Rat} (h : QB j q) (l : j ≤ k) : QB k q := ⟨h.nm.up l, h.dn.up l⟩
/-! told least -/
theorem gcd_ne {t b : Int} (hb : b ≠ 0) : ((Nat.gcd t.natAbs b.natAbs : Nat) : Int) ≠ 0 := by
  have : 0 < b.natAbs := by omega
  have := Nat.gcd_pos_of_pos_right t.natAbs this
  omega
theorem told_pos {t b : Int} (hb : 0 < b) : D.tup [.int (t.fdiv ((Nat.gcd t.natAbs b.natAbs : Nat) : Int)), .int (b.fdiv ((Nat.gcd t.natAbs b.natAbs : Nat) : Int))] = eQ (Rat.divInt t b) := by
  have g0 : 0 < Nat.gcd t.natAbs b.natAbs := Nat.gcd_pos_of_pos_right _ (by omega)
  have e1 : Int.gcd b t = Nat.gcd t.natAbs b.natAbs := Nat.gcd_comm _ _
  unfold eQ
  rw [Rat.num_divInt, Rat.den_divInt, if_neg (by omega), e1, Int.sign_eq_one_of_pos hb, Int.one_mul, Int.fdiv_eq_ediv_of_nonneg _ (by omega), Int.fdiv_eq_ediv_of_nonneg _ (by omega)]
  have e2 : ((b.natAbs / Nat.gcd t.natAbs b.natAbs : Nat) : Int) = b / ((Nat.gcd t.natAbs b.natAbs : Nat) : Int) := by
    rw [Int.natCast_ediv, Int.natAbs_of_nonneg (by omega)]
  rw [e2]
theorem told_neg {t b : Int} (hb : b < 0) : D.tup [.int ((-t).fdiv ((Nat.gcd t.natAbs b.natAbs : Nat) : Int)), .int ((-b).fdiv ((Nat.gcd t.natAbs b.natAbs : Nat) : Int))] = eQ (Rat.divInt t b) := by
  have h := told_pos (t := -t) (b := -b) (by omega)
  rw [Int.natAbs_neg, Int.natAbs_neg] at h
  rw [h, Rat.neg_divInt_neg]
theorem ediv_natAbs_le (t : Int) (g : Nat) : (t / (g : Int)).natAbs ≤ t.natAbs := Int.natAbs_ediv_le_natAbs _ _
theorem QB.told {k : Nat} {t b : Int} (hb : b ≠ 0) (h1 : SmB k t) (h2 : SmB k b) : QB k (Rat.divInt t b) := by
  refine ⟨?_, ?_⟩
  · rw [Rat.num_divInt]
    refine h1.le (Nat.le_trans (ediv_natAbs_le _ _) ?_)
    rw [Int.natAbs_mul]
    have : b.sign.natAbs = 1 := by
      rcases Int.lt_or_gt_of_ne hb with h | h
      · rw [Int.sign_eq_neg_one_of_neg h]; rfl
      · rw [Int.sign_eq_one_of_pos h]; rfl
    rw [this, Nat.one_mul]
    exact Nat.le_refl _
  · rw [Rat.den_divInt, if_neg hb]
    exact h2.le (by rw [Int.natAbs_natCast]; exact Nat.div_le_self _ _)
theorem den_ne (q : Rat) : (q.den : Int) ≠ 0 := by have := q.den_nz; omega
theorem den_pos' (q : Rat) : (0 : Int) < (q.den : Int) := by have := q.den_pos; omega
theorem add_told (a b : Rat) : Rat.divInt (a.num * b.den + b.num * a.den) ((a.den : Int) * b.den) = a + b := by
  rw [Rat.add_def', ← Rat.divInt_ofNat, Int.natCast_mul]
theorem sub_told (a b : Rat) : Rat.divInt (a.num * b.den - b.num * a.den) ((a.den : Int) * b.den) = a - b := by
  rw [Rat.sub_def', ← Rat.divInt_ofNat, Int.natCast_mul]
theorem mul_told (a b : Rat) : Rat.divInt (a.num * b.num) ((a.den : Int) * b.den) = a * b := by
  rw [Rat.mul_def', ← Rat.divInt_ofNat, Int.natCast_mul]
theorem div_told (a b : Rat) : Rat.divInt (a.num * b.den) ((a.den : Int) * b.num) = a / b := by
  rw [Rat.div_def, Rat.inv_def]
  conv => rhs; rw [← Rat.num_divInt_den a]
  rw [Rat.divInt_mul_divInt]
theorem dd_ne (a b : Rat) : (a.den : Int) * b.den ≠ 0 := Int.mul_ne_zero (den_ne a) (den_ne b)
theorem QB.add {j k : Nat} {a b : Rat} (h : QB j a) (h' : QB k b) : QB (j + k + 1) (a + b) := by
  rw [← add_told]
  exact .told (dd_ne a b) ((h.nm.mul h'.dn).add ((h'.nm.mul h.dn).up (by omega))) ((h.dn.mul h'.dn).up (by omega))
theorem QB.sub {j k : Nat} {a b : Rat} (h : QB j a) (h' : QB k b) : QB (j + k + 1) (a - b) := by
  rw [← sub_told]
  exact .told (dd_ne a b) ((h.nm.mul h'.dn).sub ((h'.nm.mul h.dn).up (by omega))) ((h.dn.mul h'.dn).up (by omega))
theorem QB.mul {j k : Nat} {a b : Rat} (h : QB j a) (h' : QB k b) : QB (j + k) (a * b) := by
  rw [← mul_told]
  exact .told (dd_ne a b) (h.nm.mul h'.nm) (h.dn.mul h'.dn)
theorem num_ne {b : Rat} (h : b ≠ 0) : b.num ≠ 0 := fun z => h (Rat.num_eq_zero.mp z)
theorem QB.div {j k : Nat} {a b : Rat} (h : QB j a) (h' : QB k b) (hb : b ≠ 0) : QB (j + k) (a / b) := by
  rw [← div_told]
  exact .told (Int.mul_ne_zero (den_ne a) (num_ne hb)) (h.nm.mul h'.dn) (h.dn.mul h'.nm)
theorem QB.neg {k : Nat} {a : Rat} (h : QB k a) : QB k (-a) := ⟨by rw [Rat.neg_num]; exact h.nm.neg, by rw [Rat.neg_den]; exact h.dn⟩
theorem QB.pow {k : Nat} {a : Rat} (h : QB k a) (hk : 0 < k) (m : Nat) : QB (k * m + 1) (a ^ m) := by
  refine ⟨by rw [Rat.num_pow]; exact h.nm.pow hk m, ?_⟩
  rw [Rat.den_pow, Int.natCast_pow]
  exact h.dn.pow hk m
theorem qB_nat {k n : Nat} (h : n < 2 ^ k) (hk : 0 < k) : QB k (n : Rat) := ⟨by rw [Rat.num_natCast]; exact smB_nat h, by
  rw [Rat.den_natCast]; exact smB_nat (Nat.one_lt_two_pow (by omega))⟩
theorem qB_int {k : Nat} {i : Int} (h : SmB k i) (hk : 0 < k) : QB k (i : Rat) := ⟨by rw [Rat.num_intCast]; exact h, by
  rw [Rat.den_intCast]; exact smB_nat (Nat.one_lt_two_pow (by omega))⟩
theorem eQ_int (i : Int) : D.tup [.int i, .int 1] = eQ (i : Rat) := by
  unfold eQ; rw [Rat.num_intCast, Rat.den_intCast]; rfl
/-! signs -/
def sgQ (q : Rat) : Int := if 0 < q then 1 else if q < 0 then -1 else 0
theorem num_pos_iff {q : Rat} : 0 < q.num ↔ 0 < q := by
  have h := Rat.lt_iff 0 q
  simp at h
  exact h.symm
theorem num_neg_iff {q : Rat} : q.num < 0 ↔ q < 0 := by
  have h := Rat.lt_iff q 0
  simp at h
  exact h.symm
/-- a comprehension without a test -/
theorem lc_map {α : Type} {en : α → D} {f : α → D} {g : AG} {tt : AT} {te : AE} {vs : List Nat} {ρ : List AV} {Q : List D → List AV → Prop} {l : List α} {ds : List D} (hd : ds = l.map en)
    (h : ∀ a ∈ l, StepLC g tt te vs ρ (en a) true (f a)) (hl : l.length ≤ 16000000) (q : Q (l.map f) ρ) : aLcL g tt te vs ds [] ρ Q :=
  lc_go (p := fun _ => true) hd h hl (by rw [List.filter_eq_self.mpr (fun _ _ => rfl)]; exact q)
end PU
set_option Elab.async false
set_option linter.all false
set_option maxRecDepth 100000
namespace PU
open PySem PySem.Spec L2 StX RZ
set_option autoImplicit false
/-! ### what the defs of quotients.py do -/
def isLong (i : Int) : Bool := decide (10 ^ 300 ≤ i.natAbs)
def S_is_long : AF := fun ds Q E => ∃ i : Int, ds = [.int i] ∧ Q (.bl (isLong i))
def S_not_long : AF := fun ds Q E => ∃ (x : D) (is : List Int), ds = [x] ∧ (x = .tup (is.map .int) ∨ x = .lst (is.map .int)) ∧ is.length ≤ 16000000 ∧ (is.any isLong = false → Q x) ∧ (is.any isLong = true → E ⟨"TooGreat", [("number", .int 2)]⟩)
def S_fraction_told : AF := fun ds Q E => ∃ t b : Int, ds = [.int t, .int b] ∧ b ≠ 0 ∧ (Nat.gcd t.natAbs b.natAbs).log2 < 9000 ∧ Q (eQ (Rat.divInt t b))
def S_fraction_sum : AF := fun ds Q E => ∃ a b : Rat, ds = [eQ a, eQ b] ∧ QB 4500 a ∧ QB 4500 b ∧ Q (eQ (a + b))
def S_fraction_less : AF := fun ds Q E => ∃ a b : Rat, ds = [eQ a, eQ b] ∧ QB 4500 a ∧ QB 4500 b ∧ Q (eQ (a - b))
def S_fraction_product : AF := fun ds Q E => ∃ a b : Rat, ds = [eQ a, eQ b] ∧ QB 4500 a ∧ QB 4500 b ∧ Q (eQ (a * b))
def S_fraction_over : AF := fun ds Q E => ∃ a b : Rat, ds = [eQ a, eQ b] ∧ QB 4500 a ∧ QB 4500 b ∧ b ≠ 0 ∧ Q (eQ (a / b))
/-- n, n / 2, .. 1 -/
def halv : Nat → Nat → List Nat
  | 0, n => [n]
  | f + 1, n => if n ≤ 1 then [n] else n :: halv f (n / 2)
def S_halvings : AF := fun ds Q E => ∃ n : Nat, ds = [.int (n : Int)] ∧ 0 < n ∧ n < 2 ^ 1000 ∧ Q (.lst ((halv n n).reverse.map fun (m : Nat) => .int (m : Int)))
def S_fraction_power : AF := fun ds Q E => ∃ (a : Rat) (n k : Nat), ds = [eQ a, .int (n : Int)] ∧ QB k a ∧ 0 < k ∧ k * n ≤ 400000 ∧ k ≤ 400000 ∧ Q (eQ (a ^ n))
def S_sign_of : AF := fun ds Q E => ∃ a : Rat, ds = [eQ a] ∧ Q (.int (sgQ a))
def S_compared : AF := fun ds Q E => ∃ a b : Rat, ds = [eQ a, eQ b] ∧ QB 100000 a ∧ QB 100000 b ∧ Q (.int (sgQ (a - b)))
def S_common_number : AF := fun ds Q E => ∃ a b : Nat, ds = [.int (a : Int), .int (b : Int)] ∧ 0 < a ∧ 0 < b ∧ a < 2 ^ 400000 ∧ b < 2 ^ 9000 ∧ Q (.int ((Nat.lcm a b : Nat) : Int))
def lcmD (l : List Rat) : Nat := l.foldl (fun n q => Nat.lcm n q.den) 1
def S_common_bottom : AF := fun ds Q E => ∃ (x : D) (l : List Rat) (k : Nat), ds = [x] ∧ (x = .tup (l.map eQ) ∨ x = .lst (l.map eQ)) ∧ (∀ q ∈ l, QB k q) ∧ k ≤ 9000 ∧ k * l.length ≤ 399000 ∧ Q (.int (lcmD l : Int))
def S_fractions_ascending : AF := fun ds Q E => ∃ (x : D) (l : List Rat) (k : Nat), ds = [x] ∧ (x = .tup (l.map eQ) ∨ x = .lst (l.map eQ)) ∧ (∀ q ∈ l, QB k q) ∧ k ≤ 9000 ∧ k * l.length ≤ 300000 ∧ l.length ≤ 100000 ∧
  ∀ r : List Rat, r.Pairwise (· < ·) → (∀ q, q ∈ r ↔ q ∈ l) → Q (.tup (r.map eQ))
def D_WHOLE : D := .tup [.int 1, .int 1]
def N_is_long : List Str := ["number"]
def d_is_long (A : AEnds) (ρ : List AV) : Prop :=
  (aRet (aOrV (aBin dGt (aBits (aVar 0)) (aC (.int 997))) (aBin dGt (aOp dLen (aCons (aOp dStrI (aCons (aOp dAbs (aCons (aVar 0) aNil)) aNil)) aNil)) (aC (.int 300))))) A ρ
def N_not_long : List Str := ["numbers", "number"]
def lg_not_long_1 (d : D) (ρ : List AV) (N : List AV → Prop) : Prop :=
  (gSet 1) d ρ N
def le_not_long_1 (EX : EK) (ρ : List AV) (Q : D → List AV → Prop) : Prop :=
  (aCall 1 S_is_long (aCons (aVar 1) aNil)) EX ρ Q
def d_not_long (A : AEnds) (ρ : List AV) : Prop :=
  (aSeq (aIfS (aTest (aOp dAnyL (aCons (aLc (aIt (aVar 0)) lg_not_long_1 aYes le_not_long_1 [1]) aNil))) (aRaise1 "TooGreat" "number" (aCons (aC (.int 2)) aNil)) aSkip)
  (aRet (aVar 0))) A ρ
def N_fraction_told : List Str := ["top", "bottom", "part"]
def d_fraction_told (A : AEnds) (ρ : List AV) : Prop :=
  (aSeq (aSet 2 (aOp dGcd (aCons (aVar 0) (aCons (aVar 1) aNil))))
  (aRet (aIf (aTestB (aBin dGt (aVar 1) (aC (.int 0)))) (aTup (aCons (aBin dDiv (aVar 0) (aVar 2)) (aCons (aBin dDiv (aVar 1) (aVar 2)) aNil))) (aTup (aCons (aBin dDiv (aNeg (aVar 0)) (aVar 2)) (aCons (aBin dDiv (aNeg (aVar 1)) (aVar 2)) aNil)))))) A ρ
def N_fraction_sum : List Str := ["one", "other"]
def d_fraction_sum (A : AEnds) (ρ : List AV) : Prop :=
  (aRet (aCall 2 S_fraction_told (aCons (aBin dAdd (aBin dMul (aBin dIdx (aVar 0) (aC (.int 0))) (aBin dIdx (aVar 1) (aC (.int 1)))) (aBin dMul (aBin dIdx (aVar 1) (aC (.int 0))) (aBin dIdx (aVar 0) (aC (.int 1))))) (aCons (aBin dMul (aBin dIdx (aVar 0) (aC (.int 1))) (aBin dIdx (aVar 1) (aC (.int 1)))) aNil)))) A ρ
def N_fraction_less : List Str := ["one", "other"]
def d_fraction_less (A : AEnds) (ρ : List AV) : Prop :=
  (aRet (aCall 2 S_fraction_told (aCons (aBin dSub (aBin dMul (aBin dIdx (aVar 0) (aC (.int 0))) (aBin dIdx (aVar 1) (aC (.int 1)))) (aBin dMul (aBin dIdx (aVar 1) (aC (.int 0))) (aBin dIdx (aVar 0) (aC (.int 1))))) (aCons (aBin dMul (aBin dIdx (aVar 0) (aC (.int 1))) (aBin dIdx (aVar 1) (aC (.int 1)))) aNil)))) A ρ
def N_fraction_product : List Str := ["one", "other"]
def d_fraction_product (A : AEnds) (ρ : List AV) : Prop :=
  (aRet (aCall 2 S_fraction_told (aCons (aBin dMul (aBin dIdx (aVar 0) (aC (.int 0))) (aBin dIdx (aVar 1) (aC (.int 0)))) (aCons (aBin dMul (aBin dIdx (aVar 0) (aC (.int 1))) (aBin dIdx (aVar 1) (aC (.int 1)))) aNil)))) A ρ
def N_fraction_over : List Str := ["one", "other"]
def d_fraction_over (A : AEnds) (ρ : List AV) : Prop :=
  (aRet (aCall 2 S_fraction_told (aCons (aBin dMul (aBin dIdx (aVar 0) (aC (.int 0))) (aBin dIdx (aVar 1) (aC (.int 1)))) (aCons (aBin dMul (aBin dIdx (aVar 0) (aC (.int 1))) (aBin dIdx (aVar 1) (aC (.int 0)))) aNil)))) A ρ
def N_halvings : List Str := ["many", "found"]
def wt_halvings_1 (EX : EK) (ρ : List AV) (Q : Bool → List AV → Prop) : Prop :=
  (aTestB (aBin dGt (aIxN 1 (aNeg (aC (.int 1)))) (aC (.int 1)))) EX ρ Q
def wb_halvings_1 (A : AEnds) (ρ : List AV) : Prop :=
  (aDrop (aAppend 1 (aBin dDiv (aIxN 1 (aNeg (aC (.int 1)))) (aC (.int 2))))) A ρ
def d_halvings (A : AEnds) (ρ : List AV) : Prop :=
  (aSeq (aSetO 1 (aLst (aCons (aVar 0) aNil)))
  (aSeq (aWhile wt_halvings_1 wb_halvings_1)
  (aRet (aRevL (aVar 1))))) A ρ
def N_fraction_power : List Str := ["fraction", "many", "top", "bottom", "number"]
def g_fraction_power_1 (d : D) (ρ : List AV) (N : List AV → Prop) : Prop :=
  (gSet 4) d ρ N
def b_fraction_power_1 (A : AEnds) (ρ : List AV) : Prop :=
  (aSeq (aParO [2, 3] (aoD (aBin dMul (aVar 2) (aVar 2)) (aoD (aBin dMul (aVar 3) (aVar 3)) aoNil)))
  (aIfS (aTestB (aBin dEq2 (aBin dMod (aVar 4) (aC (.int 2))) (aC (.int 1)))) (aParO [2, 3] (aoD (aBin dMul (aVar 2) (aBin dIdx (aVar 0) (aC (.int 0)))) (aoD (aBin dMul (aVar 3) (aBin dIdx (aVar 0) (aC (.int 1)))) aoNil))) aSkip)) A ρ
def d_fraction_power (A : AEnds) (ρ : List AV) : Prop :=
  (aSeq (aIfS (aTestB (aBin dEq2 (aVar 1) (aC (.int 0)))) (aRet (aC D_WHOLE)) aSkip)
  (aSeq (aAsg (aVar 0) (gTupA 2 (gsCons (gSet 2) (gsCons (gSet 3) gsNil))))
  (aSeq (aFor (aIt (aSl (aCall 1 S_halvings (aCons (aVar 1) aNil)) (aPart (aC (.int 1))) aNoPart)) g_fraction_power_1 b_fraction_power_1)
  (aRet (aTup (aCons (aVar 2) (aCons (aVar 3) aNil))))))) A ρ
def N_sign_of : List Str := ["fraction"]
def d_sign_of (A : AEnds) (ρ : List AV) : Prop :=
  (aRet (aBin dSub (aBin dGt (aBin dIdx (aVar 0) (aC (.int 0))) (aC (.int 0))) (aBin dLt (aBin dIdx (aVar 0) (aC (.int 0))) (aC (.int 0))))) A ρ
def N_compared : List Str := ["one", "other", "here", "there"]
def d_compared (A : AEnds) (ρ : List AV) : Prop :=
  (aSeq (aParO [2, 3] (aoD (aBin dMul (aBin dIdx (aVar 0) (aC (.int 0))) (aBin dIdx (aVar 1) (aC (.int 1)))) (aoD (aBin dMul (aBin dIdx (aVar 1) (aC (.int 0))) (aBin dIdx (aVar 0) (aC (.int 1)))) aoNil)))
  (aRet (aBin dSub (aBin dGt (aVar 2) (aVar 3)) (aBin dLt (aVar 2) (aVar 3))))) A ρ
def N_common_number : List Str := ["one", "other"]
def d_common_number (A : AEnds) (ρ : List AV) : Prop :=
  (aRet (aBin dMul (aBin dDiv (aVar 0) (aOp dGcd (aCons (aVar 0) (aCons (aVar 1) aNil)))) (aVar 1))) A ρ
def N_common_bottom : List Str := ["fractions", "found", "one"]
def g_common_bottom_1 (d : D) (ρ : List AV) (N : List AV → Prop) : Prop :=
  (gSet 2) d ρ N
def b_common_bottom_1 (A : AEnds) (ρ : List AV) : Prop :=
  (aSet 1 (aCall 2 S_common_number (aCons (aVar 1) (aCons (aBin dIdx (aVar 2) (aC (.int 1))) aNil)))) A ρ
def d_common_bottom (A : AEnds) (ρ : List AV) : Prop :=
  (aSeq (aSet 1 (aC (.int 1)))
  (aSeq (aFor (aIt (aVar 0)) g_common_bottom_1 b_common_bottom_1)
  (aRet (aVar 1)))) A ρ
def N_fractions_ascending : List Str := ["fractions", "bottom", "some", "one", "number"]
def lg_fractions_ascending_1 (d : D) (ρ : List AV) (N : List AV → Prop) : Prop :=
  (gSet 3) d ρ N
def le_fractions_ascending_1 (EX : EK) (ρ : List AV) (Q : D → List AV → Prop) : Prop :=
  (aTup (aCons (aBin dMul (aBin dIdx (aVar 3) (aC (.int 0))) (aBin dDiv (aVar 1) (aBin dIdx (aVar 3) (aC (.int 1))))) (aCons (aVar 3) aNil))) EX ρ Q
def lg_fractions_ascending_2 (d : D) (ρ : List AV) (N : List AV → Prop) : Prop :=
  (gSet 4) d ρ N
def le_fractions_ascending_2 (EX : EK) (ρ : List AV) (Q : D → List AV → Prop) : Prop :=
  (aBin dIdx (aVar 2) (aVar 4)) EX ρ Q
def d_fractions_ascending (A : AEnds) (ρ : List AV) : Prop :=
  (aSeq (aSet 1 (aCall 1 S_common_bottom (aCons (aVar 0) aNil)))
  (aSeq (aSet 2 (aOp dDict (aCons (aLc (aIt (aVar 0)) lg_fractions_ascending_1 aYes le_fractions_ascending_1 [3]) aNil)))
  (aRet (aOp dTuple (aCons (aLc (aIt (aOp dSortedN (aCons (aVar 2) aNil))) lg_fractions_ascending_2 aYes le_fractions_ascending_2 [4]) aNil))))) A ρ
end PU
set_option Elab.async false
set_option linter.all false
set_option maxRecDepth 100000
namespace PU
open PySem PySem.Spec L2 StX RZ
set_option autoImplicit false
theorem eQ_0 (a : Rat) (Q : D → Prop) : dIdx (eQ a) (.int 0) Q ↔ Q (.int a.num) := by simp [eQ]
theorem eQ_1 (a : Rat) (Q : D → Prop) : dIdx (eQ a) (.int 1) Q ↔ Q (.int (a.den : Int)) := by simp [eQ]
theorem gcd_log {t b : Int} {k : Nat} (hb : b ≠ 0) (h : SmB k b) (l : k ≤ 9000) : (Nat.gcd t.natAbs b.natAbs).log2 < 9000 := by
  have h0 : 0 < b.natAbs := by omega
  have h1 : Nat.gcd t.natAbs b.natAbs ≤ b.natAbs := Nat.gcd_le_right _ h0
  have h2 : SmB 9000 ((Nat.gcd t.natAbs b.natAbs : Nat) : Int) := (h.up l).le (by rw [Int.natAbs_natCast]; exact h1)
  have := h2.log (by decide)
  rwa [Int.natAbs_natCast] at this
theorem imp_fraction_told : ∀ ds Q E, S_fraction_told ds Q E → runA N_fraction_told d_fraction_told ds Q E := by
  rintro ds Q E ⟨t, b, rfl, hb, hl, q⟩
  simp [d_fraction_told, N_fraction_told, dGcd, two_line]
  have dv : ∀ i, DivOk i ((Nat.gcd t.natAbs b.natAbs : Nat) : Int) := fun i => ⟨gcd_ne hb, by rw [Int.natAbs_natCast]; exact hl⟩
  by_cases h : 0 < b
  · rw [if_pos h]
    refine ⟨dv _, dv _, ?_⟩
    rw [told_pos h]
    exact q
  · rw [if_neg h]
    refine ⟨dv _, dv _, ?_⟩
    rw [told_neg (by omega)]
    exact q
theorem imp_fraction_sum : ∀ ds Q E, S_fraction_sum ds Q E → runA N_fraction_sum d_fraction_sum ds Q E := by
  rintro ds Q E ⟨a, b, rfl, ha, hb, q⟩
  simp [d_fraction_sum, N_fraction_sum, eQ_0, eQ_1, dMul_int]
  refine ⟨ha.nm.mulOk hb.dn (by decide), hb.nm.mulOk ha.dn (by decide), ha.dn.mulOk hb.dn (by decide), _, _, rfl, dd_ne a b, gcd_log (dd_ne a b) (ha.dn.mul hb.dn) (by decide), ?_⟩
  rw [add_told]; exact q
theorem imp_fraction_less : ∀ ds Q E, S_fraction_less ds Q E → runA N_fraction_less d_fraction_less ds Q E := by
  rintro ds Q E ⟨a, b, rfl, ha, hb, q⟩
  simp [d_fraction_less, N_fraction_less, eQ_0, eQ_1, dMul_int]
  refine ⟨ha.nm.mulOk hb.dn (by decide), hb.nm.mulOk ha.dn (by decide), ha.dn.mulOk hb.dn (by decide), _, _, rfl, dd_ne a b, gcd_log (dd_ne a b) (ha.dn.mul hb.dn) (by decide), ?_⟩
  rw [sub_told]; exact q
theorem imp_fraction_product : ∀ ds Q E, S_fraction_product ds Q E → runA N_fraction_product d_fraction_product ds Q E := by
  rintro ds Q E ⟨a, b, rfl, ha, hb, q⟩
  simp [d_fraction_product, N_fraction_product, eQ_0, eQ_1, dMul_int]
  refine ⟨ha.nm.mulOk hb.nm (by decide), ha.dn.mulOk hb.dn (by decide), _, _, rfl, dd_ne a b, gcd_log (dd_ne a b) (ha.dn.mul hb.dn) (by decide), ?_⟩
  rw [mul_told]; exact q
theorem imp_fraction_over : ∀ ds Q E, S_fraction_over ds Q E → runA N_fraction_over d_fraction_over ds Q E := by
  rintro ds Q E ⟨a, b, rfl, ha, hb, h0, q⟩
  simp [d_fraction_over, N_fraction_over, eQ_0, eQ_1, dMul_int]
  have z := Int.mul_ne_zero (den_ne a) (num_ne h0)
  refine ⟨ha.nm.mulOk hb.dn (by decide), ha.dn.mulOk hb.nm (by decide), _, _, rfl, z, gcd_log z (ha.dn.mul hb.nm) (by decide), ?_⟩
  rw [div_told]; exact q
theorem sgn_tests (t : Int) : ((if decide (0 < t) = true then (1 : Int) else 0) - if decide (t < 0) = true then 1 else 0) = if 0 < t then 1 else if t < 0 then -1 else 0 := by
  by_cases h : 0 < t
  · have : ¬ t < 0 := by omega
    simp [h, this]
  · by_cases h' : t < 0 <;> simp [h, h']
theorem imp_sign_of : ∀ ds Q E, S_sign_of ds Q E → runA N_sign_of d_sign_of ds Q E := by
  rintro ds Q E ⟨a, rfl, q⟩
  simp only [d_sign_of, N_sign_of, runA, startA, aRet, aBin, aVar, aC, eQ_0, dGt, dLt, dSub, dI]
  simp [eQ_0]
  have e : ((if 0 < a.num then (1 : Int) else 0) - if a.num < 0 then 1 else 0) = sgQ a := by
    have := sgn_tests a.num
    simp at this
    rw [this]
    unfold sgQ
    simp only [num_pos_iff, num_neg_iff]
  rw [e]; exact q
theorem imp_compared : ∀ ds Q E, S_compared ds Q E → runA N_compared d_compared ds Q E := by
  rintro ds Q E ⟨a, b, rfl, ha, hb, q⟩
  simp [d_compared, N_compared, eQ_0, eQ_1, dMul_int]
  refine ⟨ha.nm.mulOk hb.dn (by decide), hb.nm.mulOk ha.dn (by decide), ?_⟩
  have e : ((if b.num * a.den < a.num * b.den then (1 : Int) else 0) - if a.num * b.den < b.num * a.den then 1 else 0) = sgQ (a - b) := by
    have h := sgn_tests (a.num * b.den - b.num * a.den)
    have e1 : (0 < a.num * b.den - b.num * a.den) = (b.num * a.den < a.num * b.den) := by apply propext; omega
    have e2 : (a.num * b.den - b.num * a.den < 0) = (a.num * b.den < b.num * a.den) := by apply propext; omega
    simp only [e1, e2] at h
    simp at h
    rw [h]
    unfold sgQ
    have e3 : (0 < a - b) = (b.num * a.den < a.num * b.den) := by
      apply propext; rw [← Rat.lt_iff_sub_pos, Rat.lt_iff]
    have e4 : (a - b < 0) = (a.num * b.den < b.num * a.den) := by
      apply propext
      rw [← Rat.lt_iff]
      constructor
      · intro h
        have := (Rat.lt_iff_sub_pos a b).mpr (by grind)
        exact this
      · intro h; grind
    simp only [e3, e4]
  rw [e]; exact q
theorem imp_common_number : ∀ ds Q E, S_common_number ds Q E → runA N_common_number d_common_number ds Q E := by
  rintro ds Q E ⟨a, b, rfl, ha, hb, la, lb, q⟩
  simp [d_common_number, N_common_number, dGcd, dMul_int]
  have g0 : 0 < Nat.gcd a b := Nat.gcd_pos_of_pos_left _ ha
  have hg : SmB 9000 ((Nat.gcd a b : Nat) : Int) := (smB_nat lb).le (by rw [Int.natAbs_natCast, Int.natAbs_natCast]; exact Nat.gcd_le_right _ hb)
  have e : (a : Int).fdiv ((Nat.gcd a b : Nat) : Int) = ((a / Nat.gcd a b : Nat) : Int) := by
    rw [Int.fdiv_eq_ediv_of_nonneg _ (by omega), Int.natCast_ediv]
  rw [e]
  refine ⟨hg.divOk (by decide) (by omega), ?_, ?_⟩
  · exact SmB.mulOk (a := 400000) (b := 9000) (smB_nat (Nat.lt_of_le_of_lt (Nat.div_le_self _ _) la)) (smB_nat lb) (by decide)
  · have e2 : ((a / Nat.gcd a b : Nat) : Int) * (b : Int) = ((Nat.lcm a b : Nat) : Int) := by
      rw [← Int.natCast_mul]
      congr 1
      unfold Nat.lcm
      exact Nat.div_mul_right_comm (Nat.gcd_dvd_left a b) b
    rw [e2]; exact q
end PU
set_option Elab.async false
set_option linter.all false
set_option maxRecDepth 100000
namespace PU
open PySem PySem.Spec L2 StX RZ
set_option autoImplicit false
theorem cut_dropQ {xs : List D} {n : Nat} (h1 : n ≤ xs.length) : cutD xs (some (n : Int)) none = xs.drop n := by
  unfold cutD
  have e1 : HT.sIx xs.length 0 (some (n : Int)) = n := by rw [HT.sIx_nat]; omega
  have e2 : HT.sIx xs.length xs.length none = xs.length := rfl
  rw [e1, e2, List.take_of_length_le (by rw [List.length_drop]; exact Nat.le_refl _)]
theorem cut_takeQ {xs : List D} {n : Nat} (h1 : n ≤ xs.length) : cutD xs none (some (n : Int)) = xs.take n := by
  unfold cutD
  have e1 : HT.sIx xs.length xs.length (some (n : Int)) = n := by rw [HT.sIx_nat]; omega
  have e2 : HT.sIx xs.length 0 none = 0 := rfl
  rw [e1, e2]; rfl
theorem cut_toQ {xs : List D} {n : Nat} : cutD xs none (some (n : Int)) = xs.take n := by
  unfold cutD
  have e2 : HT.sIx xs.length 0 none = 0 := rfl
  rw [HT.sIx_nat, e2]
  show xs.take (min n xs.length - 0) = xs.take n
  rw [Nat.sub_zero, List.take_eq_take_iff]; omega
/-! halvings -/
theorem halv_step (f n : Nat) (h : 1 < n) : halv (f + 1) n = n :: halv f (n / 2) := by
  show (if n ≤ 1 then [n] else n :: halv f (n / 2)) = _
  rw [if_neg (by omega)]
theorem halv_one (f n : Nat) (h : n ≤ 1) : halv f n = [n] := by
  cases f with
  | zero => rfl
  | succ f => show (if n ≤ 1 then [n] else n :: halv f (n / 2)) = _; rw [if_pos h]
theorem halv_len : ∀ (f n k : Nat), n < 2 ^ k → (halv f n).length ≤ k + 1
  | 0, n, k, _ => by simp [halv]
  | f + 1, n, k, h => by
    by_cases h1 : n ≤ 1
    · rw [halv_one _ _ h1]; simp
    · rw [halv_step _ _ (by omega)]
      cases k with
      | zero => simp at h; omega
      | succ k =>
        have := halv_len f (n / 2) k (by rw [Nat.pow_succ] at h; omega)
        simp; omega
theorem imp_halvings : ∀ ds Q E, S_halvings ds Q E → runA N_halvings d_halvings ds Q E := by
  rintro ds Q E ⟨n, rfl, h0, hn, q⟩
  simp [d_halvings, N_halvings]
  refine ⟨line_ok (by decide), ?_⟩
  refine ⟨fun k ρ => ∃ (pre : List Nat) (m f : Nat), k = m ∧ ρ = [.dat (.int (n : Int)), .own (.lst (pre.map (fun (m : Nat) => D.int (m : Int)) ++ [.int (m : Int)]))] ∧ m ≤ f + 1 ∧ pre.length + (halv f m).length ≤ 1001 ∧ pre ++ halv f m = halv n n,
    ⟨n, [], n, n, rfl, by simp, by omega, by have := halv_len n n 1000 hn; simpa using this, by simp⟩, ?_⟩
  rintro m ρ ⟨pre, _, f, rfl, rfl, hm, hlen, he⟩
  simp only [wt_halvings_1, wb_halvings_1, aTestB, aBin, aIxN, aNeg, aC, lookA]
  simp [idx_lst, atI_last, dGt, dI]
  by_cases h1 : 1 < m
  · obtain ⟨f', rfl⟩ : ∃ f', f = f' + 1 := ⟨f - 1, by omega⟩
    rw [halv_step _ _ h1] at he hlen
    simp at hlen
    have e2 : (m : Int).fdiv 2 = ((m / 2 : Nat) : Int) := by
      rw [Int.fdiv_eq_ediv_of_nonneg _ (by decide)]; simp
    have h1' : (1 : Int) < (m : Int) := by omega
    simp [h1', idx_lst, atI_last, e2]
    refine ⟨⟨by decide, by decide⟩, line_lt (by omega), m / 2, by omega, pre ++ [m], by simp, f', by omega, by simp; omega, by simpa using he⟩
  · have h1' : ¬ (1 : Int) < (m : Int) := by omega
    simp [h1']
    rw [halv_one f m (by omega)] at he
    have e : (List.map (fun (m : Nat) => D.int (m : Int)) (halv n n).reverse) = D.int (m : Int) :: (pre.map fun (m : Nat) => D.int (m : Int)).reverse := by
      rw [← he]; simp
    rw [e] at q
    simpa using q

/-! powers -/
inductive Steps : Nat → List Nat → Nat → Prop
  | nil {n : Nat} : Steps n [] n
  | cons {p n m : Nat} {r : List Nat} : n / 2 = p → Steps n r m → Steps p (n :: r) m
theorem Steps.snoc {p n m : Nat} {r : List Nat} (h : Steps p r n) (e : m / 2 = n) : Steps p (r ++ [m]) m := by
  induction h with
  | nil => exact .cons e .nil
  | cons a _ ih => exact .cons a (ih e)
theorem halv_steps : ∀ (f n : Nat), 0 < n → n ≤ f + 1 → ∃ r, (halv f n).reverse = 1 :: r ∧ Steps 1 r n
  | 0, n, h, h' => by
    have : n = 1 := by omega
    subst this
    exact ⟨[], rfl, .nil⟩
  | f + 1, n, h, h' => by
    by_cases h1 : n ≤ 1
    · have : n = 1 := by omega
      subst this
      exact ⟨[], by rw [halv_one _ _ h1]; rfl, .nil⟩
    · rw [halv_step _ _ (by omega), List.reverse_cons]
      obtain ⟨r, e, s⟩ := halv_steps f (n / 2) (by omega) (by omega)
      exact ⟨r ++ [n], by rw [e]; rfl, s.snoc rfl⟩
theorem Steps.le {p n : Nat} {r : List Nat} (h : Steps p r n) : p ≤ n := by
  induction h with
  | nil => exact Nat.le_refl _
  | cons a _ ih => omega
theorem power_loop {A : AEnds} {a : Rat} {n k : Nat} {d1 : D} (hq : QB k a) (hk : 0 < k) (hn : k * n ≤ 400000) (hk2 : k ≤ 400000) :
    ∀ {r : List Nat} {p : Nat} {v : AV}, Steps p r n → (∀ v, A.nx [.dat (eQ a), .dat d1, .dat (.int (a.num ^ n)), .dat (.int ((a.den : Int) ^ n)), v]) →
      aForL g_fraction_power_1 b_fraction_power_1 (r.map fun (m : Nat) => .int (m : Int)) A [.dat (eQ a), .dat d1, .dat (.int (a.num ^ p)), .dat (.int ((a.den : Int) ^ p)), v]
  | [], p, v, .nil, h => h v
  | m :: r, p, v, .cons e s, h => by
    have hm := s.le
    have ih := fun v => power_loop (A := A) (d1 := d1) (v := v) hq hk hn hk2 s h
    have bn : ∀ j, SmB (k * j + 1) (a.num ^ j) := fun j => hq.nm.pow hk j
    have bd : ∀ j, SmB (k * j + 1) ((a.den : Int) ^ j) := fun j => hq.dn.pow hk j
    have l1 : k * p + k * p ≤ 400000 := by
      have : k * (p + p) ≤ k * n := Nat.mul_le_mul_left k (by omega)
      rw [Nat.mul_add] at this
      omega
    rw [List.map_cons, aForL_cons]
    have sq : ∀ x : Int, x ^ p * x ^ p = x ^ (2 * p) := fun x => by rw [← Int.pow_add, Nat.two_mul]
    have md : (m : Int).fmod 2 = ((m % 2 : Nat) : Int) := by
      rw [Int.fmod_eq_emod_of_nonneg _ (by decide)]; simp
    have ok1 := (bn p).mulOk (bn p) (by omega)
    have ok2 := (bd p).mulOk (bd p) (by omega)
    simp only [g_fraction_power_1, b_fraction_power_1, gSet, aSeq, aParO, aoD, aoNil, aBin, aVar, aC]
    simp [dMul_int, ok1, ok2, eQ_0, eQ_1, md]
    simp only [sq]
    by_cases ho : m % 2 = 1
    · rw [if_pos (by omega)]
      have em : m = 2 * p + 1 := by omega
      have l2 : k * (2 * p) + 1 + k ≤ 999000 := by rw [Nat.mul_comm 2 p, ← Nat.mul_assoc]; omega
      refine ⟨(bn (2 * p)).mulOk hq.nm l2, (bd (2 * p)).mulOk hq.dn l2, ?_⟩
      rw [← Int.pow_succ, ← Int.pow_succ]
      have e3 : (2 * p).succ = m := by omega
      rw [e3]
      exact ih _
    · rw [if_neg (by omega)]
      have em : m = 2 * p := by omega
      rw [← em]
      exact ih _
theorem lt_two_pow (n : Nat) : n < 2 ^ n := Nat.lt_two_pow_self
theorem eQ_one : D_WHOLE = eQ 1 := rfl
theorem imp_fraction_power : ∀ ds Q E, S_fraction_power ds Q E → runA N_fraction_power d_fraction_power ds Q E := by
  rintro ds Q E ⟨a, n, k, rfl, hq, hk, hn, hk2, q⟩
  simp [d_fraction_power, N_fraction_power, -aFor]
  by_cases h0 : n = 0
  · subst h0
    simp [eQ_one]
    simpa using q
  · rw [if_neg (by omega)]
    have hn2 : n < 2 ^ 1000 := by
      have : n ≤ k * n := Nat.le_mul_of_pos_left n hk
      have h2 : (400000 : Nat) < 2 ^ 1000 := by decide
      omega
    have e0 : eQ a = .tup [.int a.num, .int (a.den : Int)] := rfl
    obtain ⟨r, er, st⟩ := halv_steps n n (by omega) (by omega)
    have pl := power_loop (A := { nx := aRet (aTup (aCons (aVar 2) (aCons (aVar 3) aNil))) { nx := fun _ => Q .non, rt := Q, ex := fun x _ => E x }, rt := Q, ex := fun x _ => E x }) (d1 := .int (n : Int)) (v := .un) hq hk hn hk2 st (fun v => by
      simp [two_line]
      have : eQ (a ^ n) = .tup [.int (a.num ^ n), .int ((a.den : Int) ^ n)] := by
        unfold eQ; rw [Rat.num_pow, Rat.den_pow, Int.natCast_pow]
      rw [← this]; exact q)
    rw [e0] at pl ⊢
    simp [-aFor]
    simp only [aFor, aIt, aSl, aCall, aCons, aNil, aVar, aPart, aC, aNoPart]
    refine ⟨rfl, n, rfl, by omega, hn2, ?_⟩
    simp only [dCut, iterD]
    rw [er]
    have ec : cutD (List.map (fun (m : Nat) => D.int (m : Int)) (1 :: r)) (some 1) none = r.map fun (m : Nat) => D.int (m : Int) := by
      exact cut_dropQ (n := 1) (by simp)
    rw [ec]
    rw [Int.pow_one, Int.pow_one] at pl
    exact pl

/-! common bottoms -/
theorem foldl_lcm_pos : ∀ (l : List Rat) (n : Nat), 0 < n → 0 < l.foldl (fun n q => Nat.lcm n q.den) n
  | [], n, h => h
  | q :: l, n, h => foldl_lcm_pos l _ (Nat.lcm_pos h q.den_pos)
theorem lcm_le_mul {a b : Nat} (ha : 0 < a) : Nat.lcm a b ≤ a * b := by
  unfold Nat.lcm
  exact Nat.div_le_self _ _
theorem foldl_lcm_lt {k : Nat} : ∀ (l : List Rat) (n j : Nat), 0 < n → n < 2 ^ j → (∀ q ∈ l, QB k q) → l.foldl (fun n q => Nat.lcm n q.den) n < 2 ^ (j + k * l.length)
  | [], n, j, _, h, _ => by simpa using h
  | q :: l, n, j, h0, h, hq => by
    have hd : q.den < 2 ^ k := by
      have := (hq q List.mem_cons_self).dn
      unfold SmB at this
      simpa using this
    have h1 : Nat.lcm n q.den < 2 ^ (j + k) := by
      refine Nat.lt_of_le_of_lt (lcm_le_mul h0) ?_
      rw [Nat.pow_add]
      exact Nat.mul_lt_mul'' h hd
    have := foldl_lcm_lt l _ (j + k) (Nat.lcm_pos h0 q.den_pos) h1 fun p hp => hq p (List.mem_cons_of_mem _ hp)
    rw [List.foldl_cons, List.length_cons]
    refine Nat.lt_of_lt_of_le this (Nat.pow_le_pow_right (by decide) ?_)
    rw [Nat.mul_succ]; omega
theorem lcmD_pos (l : List Rat) : 0 < lcmD l := foldl_lcm_pos l 1 (by decide)
theorem lcmD_lt {k : Nat} {l : List Rat} (h : ∀ q ∈ l, QB k q) : lcmD l < 2 ^ (1 + k * l.length) := foldl_lcm_lt l 1 1 (by decide) (by decide) h
theorem dvd_foldl_lcm : ∀ (l : List Rat) (n m : Nat), m ∣ n → m ∣ l.foldl (fun n q => Nat.lcm n q.den) n
  | [], _, _, h => h
  | q :: l, n, m, h => dvd_foldl_lcm l _ m (Nat.dvd_trans h (Nat.dvd_lcm_left n q.den))
theorem den_dvd_foldl : ∀ (l : List Rat) (n : Nat) (q : Rat), q ∈ l → q.den ∣ l.foldl (fun n q => Nat.lcm n q.den) n
  | [], _, _, h => nomatch h
  | p :: l, n, q, h => by
    rcases List.mem_cons.mp h with rfl | h
    · exact dvd_foldl_lcm l _ _ (Nat.dvd_lcm_right n q.den)
    · exact den_dvd_foldl l _ q h
theorem den_dvd_lcmD {l : List Rat} {q : Rat} (h : q ∈ l) : q.den ∣ lcmD l := den_dvd_foldl l 1 q h
theorem bottom_loop {A : AEnds} {x : D} {k : Nat} (hk : k ≤ 9000) : ∀ {l : List Rat} {n j : Nat} {v : AV}, 0 < n → n < 2 ^ j → (∀ q ∈ l, QB k q) → j + k * l.length ≤ 400000 →
    (∀ v, A.nx [.dat x, .dat (.int ((l.foldl (fun n q => Nat.lcm n q.den) n : Nat) : Int)), v]) → aForL g_common_bottom_1 b_common_bottom_1 (l.map eQ) A [.dat x, .dat (.int (n : Int)), v]
  | [], n, j, v, _, _, _, _, h => h v
  | q :: l, n, j, v, h0, hn, hq, hl, h => by
    have hd : q.den < 2 ^ k := by
      have := (hq q List.mem_cons_self).dn
      unfold SmB at this
      simpa using this
    rw [List.map_cons, aForL_cons]
    simp [g_common_bottom_1, b_common_bottom_1, eQ_1]
    have hl' : j + k * (l.length + 1) ≤ 400000 := hl
    rw [Nat.mul_succ] at hl'
    refine ⟨n, q.den, rfl, h0, q.den_pos, Nat.lt_of_lt_of_le hn (Nat.pow_le_pow_right (by decide) (by omega)), Nat.lt_of_lt_of_le hd (Nat.pow_le_pow_right (by decide) hk), ?_⟩
    refine bottom_loop hk (j := j + k) (Nat.lcm_pos h0 q.den_pos) ?_ (fun p hp => hq p (List.mem_cons_of_mem _ hp)) (by omega) h
    refine Nat.lt_of_le_of_lt (lcm_le_mul h0) ?_
    rw [Nat.pow_add]
    exact Nat.mul_lt_mul'' hn hd
theorem imp_common_bottom : ∀ ds Q E, S_common_bottom ds Q E → runA N_common_bottom d_common_bottom ds Q E := by
  rintro ds Q E ⟨x, l, k, rfl, hx, hq, hk, hl, q⟩
  have loop := bottom_loop (A := { nx := aRet (aVar 1) { nx := fun _ => Q .non, rt := Q, ex := fun x _ => E x }, rt := Q, ex := fun x _ => E x }) (x := x) hk (l := l) (n := 1) (j := 1) (v := .un) (by decide) (by decide)
  rcases hx with rfl | rfl
  · simp [d_common_bottom, N_common_bottom, -aForL_cons]
    exact loop hq (by omega) fun v => q
  · simp [d_common_bottom, N_common_bottom, -aForL_cons]
    exact loop hq (by omega) fun v => q
/-! ascending -/
def kq (B : Nat) (q : Rat) : Int := q.num * ((B / q.den : Nat) : Int)
theorem kq_eq {B : Nat} {q : Rat} (h : q.den ∣ B) : (kq B q : Rat) = q * (B : Rat) := by
  obtain ⟨c, rfl⟩ := h
  have e : q.den * c / q.den = c := Nat.mul_div_cancel_left c q.den_pos
  unfold kq
  rw [e]
  have h1 : q * (q.den : Rat) = (q.num : Rat) := by
    have := Rat.mkRat_self q
    rw [Rat.mkRat_eq_div] at this
    have d0 : (q.den : Rat) ≠ 0 := by
      have := q.den_nz
      intro z
      exact this (by exact_mod_cast z)
    have h2 := Rat.div_mul_cancel (a := (q.num : Rat)) d0
    rw [this] at h2
    exact h2
  have e2 : ((q.den * c : Nat) : Rat) = (q.den : Rat) * (c : Rat) := by simp
  have e3 : ((q.num * (c : Int) : Int) : Rat) = (q.num : Rat) * (c : Rat) := by rw [Rat.intCast_mul]; rfl
  rw [e2, e3, ← Rat.mul_assoc, h1]
theorem kq_lt {B : Nat} {p q : Rat} (hB : 0 < B) (hp : p.den ∣ B) (hq : q.den ∣ B) : kq B p < kq B q ↔ p < q := by
  have b0 : (0 : Rat) < (B : Rat) := Rat.natCast_pos.mpr hB
  rw [← Rat.intCast_lt_intCast, kq_eq hp, kq_eq hq]
  exact Rat.mul_lt_mul_right b0
theorem kq_inj {B : Nat} {p q : Rat} (hB : 0 < B) (hp : p.den ∣ B) (hq : q.den ∣ B) (h : kq B p = kq B q) : p = q := by
  refine Rat.le_antisymm ?_ ?_
  · exact Rat.not_lt.mp fun z => by have := (kq_lt hB hq hp).mpr z; omega
  · exact Rat.not_lt.mp fun z => by have := (kq_lt hB hp hq).mpr z; omega
abbrev ent (B : Nat) (q : Rat) : NestedKey × D := (.num (kq B q), eQ q)
theorem tabD_ent {B : Nat} {l : List Rat} {q : Rat} (hB : 0 < B) (hl : ∀ p ∈ l, p.den ∣ B) (hq : q.den ∣ B) : (q ∈ l → tabD (l.map (ent B)) (.num (kq B q)) = some (eQ q)) ∧ (q ∉ l → tabD (l.map (ent B)) (.num (kq B q)) = none) := by
  induction l with
  | nil => exact ⟨fun h => (nomatch h), fun _ => rfl⟩
  | cons p l ih =>
    obtain ⟨ih1, ih2⟩ := ih fun p hp => hl p (List.mem_cons_of_mem _ hp)
    rw [List.map_cons]
    by_cases e : p = q
    · subst e
      exact ⟨fun _ => tabD_pos rfl, fun h => absurd List.mem_cons_self h⟩
    · have ne : ¬ (ent B p).1 = .num (kq B q) := fun z => e (kq_inj hB (hl p List.mem_cons_self) hq (by injection z))
      rw [tabD_neg ne]
      exact ⟨fun h => ih1 ((List.mem_cons.mp h).resolve_left fun z => e z.symm), fun h => ih2 fun z => h (List.mem_cons_of_mem _ z)⟩
theorem merge_ent {B : Nat} (hB : 0 < B) : ∀ {l acc : List Rat}, (∀ q ∈ l, q.den ∣ B) → (∀ q ∈ acc, q.den ∣ B) → (acc.map (kq B)).Nodup →
    ∃ ls : List Rat, mergeD (acc.map (ent B)) (l.map (ent B)) = ls.map (ent B) ∧ (ls.map (kq B)).Nodup ∧ ∀ q, q ∈ ls ↔ q ∈ acc ∨ q ∈ l
  | [], acc, _, _, n => ⟨acc, rfl, n, fun q => by simp⟩
  | p :: l, acc, h, h', n => by
    obtain ⟨t1, t2⟩ := tabD_ent (l := acc) (q := p) hB h' (h p List.mem_cons_self)
    show ∃ ls, mergeD (putD (acc.map (ent B)) (.num (kq B p)) (eQ p)) (l.map (ent B)) = _ ∧ _
    by_cases hp : p ∈ acc
    · have e : putD (acc.map (ent B)) (.num (kq B p)) (eQ p) = acc.map (ent B) := by
        unfold putD
        rw [t1 hp, if_pos (show (some (eQ p)).isSome = true from rfl), List.map_map]
        refine List.map_congr_left fun q hq => ?_
        show (if NestedKey.num (kq B q) = NestedKey.num (kq B p) then (NestedKey.num (kq B q), eQ p) else ent B q) = ent B q
        split
        · rename_i z
          have := kq_inj hB (h' q hq) (h p List.mem_cons_self) (by injection z)
          rw [this]
        · rfl
      rw [e]
      obtain ⟨ls, a, b, c⟩ := merge_ent hB (l := l) (acc := acc) (fun q hq => h q (List.mem_cons_of_mem _ hq)) h' n
      exact ⟨ls, a, b, fun q => by
        rw [c, List.mem_cons]
        constructor
        · rintro (x | x)
          · exact .inl x
          · exact .inr (.inr x)
        · rintro (x | x | x)
          · exact .inl x
          · exact .inl (x ▸ hp)
          · exact .inr x⟩
    · have e : putD (acc.map (ent B)) (.num (kq B p)) (eQ p) = (acc ++ [p]).map (ent B) := by
        unfold putD
        rw [t2 hp]
        simp
      rw [e]
      obtain ⟨ls, a, b, c⟩ := merge_ent hB (l := l) (acc := acc ++ [p]) (fun q hq => h q (List.mem_cons_of_mem _ hq)) (fun q hq => by
        rcases List.mem_append.mp hq with hq | hq
        · exact h' q hq
        · rw [List.mem_singleton.mp hq]; exact h p List.mem_cons_self) (by
        rw [List.map_append, List.nodup_append]
        refine ⟨n, by simp, fun x hx y hy => ?_⟩
        simp at hy
        subst hy
        rintro rfl
        obtain ⟨q, hq, e⟩ := List.mem_map.mp hx
        exact hp (kq_inj hB (h' q hq) (h p List.mem_cons_self) e ▸ hq))
      exact ⟨ls, a, b, fun q => by rw [c]; simp [or_assoc]⟩
theorem imp_fractions_ascending : ∀ ds Q E, S_fractions_ascending ds Q E → runA N_fractions_ascending d_fractions_ascending ds Q E := by
  rintro ds Q E ⟨x, l, k, rfl, hx, hq, hk, hl, hl2, q⟩
  have hB := lcmD_pos l
  have hlt := lcmD_lt hq
  have hdv : ∀ p ∈ l, p.den ∣ lcmD l := fun p hp => den_dvd_lcmD hp
  obtain ⟨ls, m1, m2, m3⟩ := merge_ent (B := lcmD l) hB (l := l) (acc := []) hdv (fun q h => nomatch h) (by simp)
  have bk : SmB (k * l.length + 1) (lcmD l : Int) := smB_nat (by rw [Nat.add_comm]; exact hlt)
  have main : ∀ y, (y = .tup (l.map eQ) ∨ y = .lst (l.map eQ)) → runA N_fractions_ascending d_fractions_ascending [y] Q E := by
    intro y hy
    simp only [d_fractions_ascending, N_fractions_ascending, runA, startA, aSeq, aSet, aCall, aCons, aVar, aNil, aRet, aOp]
    simp
    refine ⟨y, l, k, rfl, hy, hq, hk, by omega, ?_⟩
    have lc : ∀ (Q' : List D → List AV → Prop), Q' (l.map fun p => pairD (ent (lcmD l) p)) [.dat y, .dat (.int (lcmD l : Int)), .un, .un, .un] →
        aLcL lg_fractions_ascending_1 aYes le_fractions_ascending_1 [3] (l.map eQ) [] [.dat y, .dat (.int (lcmD l : Int)), .un, .un, .un] Q' := by
      intro Q' h
      refine lc_map (l := l) (en := eQ) (f := fun p => pairD (ent (lcmD l) p)) rfl (fun p hp C C' k1 k2 => ?_) (by omega) h
      have := k1 rfl
      have hd : p.den < 2 ^ k := by
        have := (hq p hp).dn
        unfold SmB at this
        simpa using this
      have e1 : ((lcmD l : Nat) : Int).fdiv (p.den : Int) = ((lcmD l / p.den : Nat) : Int) := by
        rw [Int.fdiv_eq_ediv_of_nonneg _ (by omega), Int.natCast_ediv]
      have mo : MulOk p.num ((lcmD l / p.den : Nat) : Int) := (hq p hp).nm.mulOk (bk.le (by rw [Int.natAbs_natCast, Int.natAbs_natCast]; exact Nat.div_le_self _ _)) (by omega)
      simp [lg_fractions_ascending_1, le_fractions_ascending_1, eQ_0, eQ_1, dMul_int]
      rw [e1]
      exact ⟨(hq p hp).dn.divOk hk (den_ne p), mo, two_line, this⟩
    have rest : dDict [.lst (l.map fun p => pairD (ent (lcmD l) p))] fun z => aRet (aOp dTuple (aCons (aLc (aIt (aOp dSortedN (aCons (aVar 2) aNil))) lg_fractions_ascending_2 aYes le_fractions_ascending_2 [4]) aNil)) { nx := fun _ => Q .non, rt := Q, ex := fun x _ => E x } [.dat y, .dat (.int (lcmD l : Int)), .dat z, .un, .un] := by
      refine ⟨l.map (ent (lcmD l)), by rw [List.map_map]; rfl, fun p hp => ?_, .inr fun p hp => ?_, ?_⟩
      · obtain ⟨q, _, rfl⟩ := List.mem_map.mp hp
        exact ⟨rfl, Nat.zero_le _⟩
      · obtain ⟨q, _, rfl⟩ := List.mem_map.mp hp
        rfl
      · have m1' : mergeD [] (l.map (ent (lcmD l))) = ls.map (ent (lcmD l)) := m1
        rw [m1']
        have hd' : ∀ p ∈ ls, p.den ∣ lcmD l := fun p hp => hdv p (by have := (m3 p).mp hp; simpa using this)
        have hll : ls.length ≤ l.length := by
          have := merge_len (ps := l.map (ent (lcmD l))) (acc := [])
          rw [m1'] at this
          simpa using this
        have ek : (ls.map (ent (lcmD l))).map (fun p => keyD p.1) = (ls.map (kq (lcmD l))).map D.int := by rw [List.map_map, List.map_map]; rfl
        simp only [aRet, aOp, aCons, aNil, aLc, aIt, aVar]
        refine ⟨_, rfl, ?_, ?_, ?_⟩
        · have : (ls.map (ent (lcmD l))).map (fun p => (keyD p.1).py) = ls.map fun p => PyData.int (kq (lcmD l) p) := by rw [List.map_map]; rfl
          rw [this]
          exact PySem.W.AllAlike.of fun a b => rfl
        · have : (ls.map (ent (lcmD l))).map (fun p => (keyD p.1).py) = ls.map fun p => PyData.int (kq (lcmD l) p) := by rw [List.map_map]; rfl
          rw [this]
          exact PySem.W.Sortable.others fun b => ⟨fun z => (nomatch z), fun xs z => (nomatch z)⟩
        · rw [ek]
          have srt : ((ls.map (kq (lcmD l))).map D.int).mergeSort leD = (ls.mergeSort fun a b => decide (kq (lcmD l) a ≤ kq (lcmD l) b)).map fun p => D.int (kq (lcmD l) p) := by
            have e1 : ((ls.map (kq (lcmD l))).map D.int) = ls.map fun p => D.int (kq (lcmD l) p) := by rw [List.map_map]; rfl
            rw [e1]
            symm
            refine List.map_mergeSort (f := fun p => D.int (kq (lcmD l) p)) fun a _ b _ => ?_
            have := congrFun (congrFun (PySem.W.dataLe_int (fun q : Rat => kq (lcmD l) q)) a) b
            exact this.symm
          rw [srt]
          simp only [iterD]
          refine lc_map (l := ls.mergeSort fun a b => decide (kq (lcmD l) a ≤ kq (lcmD l) b)) (en := fun p => D.int (kq (lcmD l) p)) (f := eQ) rfl (fun p hp C C' k1 k2 => ?_) (by simp; omega) ?_
          · have := k1 rfl
            have hp' : p ∈ ls := List.mem_mergeSort.mp hp
            simp [lg_fractions_ascending_2, le_fractions_ascending_2]
            refine ⟨.num (kq (lcmD l) p), eQ p, ⟨rfl, rfl, Nat.zero_le _, .inr ⟨rfl, fun z hz => ?_⟩⟩, (tabD_ent hB hd' (hd' p hp')).1 hp', this⟩
            obtain ⟨q, _, rfl⟩ := List.mem_map.mp hz
            rfl
          · refine q _ ?_ fun p => ?_
            · have so := List.pairwise_mergeSort (le := fun a b => decide (kq (lcmD l) a ≤ kq (lcmD l) b)) (fun a b c h1 h2 => by simp at *; omega) (fun a b => by simp; omega) ls
              have nd : ((ls.mergeSort fun a b => decide (kq (lcmD l) a ≤ kq (lcmD l) b)).map (kq (lcmD l))).Nodup := ((List.mergeSort_perm _ _).map _).nodup_iff.mpr m2
              have nd' := List.pairwise_map.mp nd
              refine (so.and nd').imp_of_mem fun {a b} ha hb h => ?_
              obtain ⟨h1, h2⟩ := h
              simp at h1
              exact (kq_lt hB (hd' a (List.mem_mergeSort.mp ha)) (hd' b (List.mem_mergeSort.mp hb))).mp (by omega)
            · rw [List.mem_mergeSort, m3]; simp
    simp only [aLc, aIt, aVar]
    rcases hy with rfl | rfl
    · exact lc _ rest
    · exact lc _ rest
  rcases hx with rfl | rfl
  · exact main _ (.inl rfl)
  · exact main _ (.inr rfl)
end PU
set_option Elab.async false
set_option linter.all false
set_option maxRecDepth 100000
set_option exponentiation.threshold 100000
namespace PU
open PySem PySem.Spec L2 StX RZ
set_option autoImplicit false
theorem int_len {i : Int} (h : 0 ≤ i) {k : Nat} (hk : 0 < k) : (Str.ofString (toString i)).length ≤ k ↔ i.natAbs < 10 ^ k := by
  obtain ⟨n, rfl⟩ := Int.eq_ofNat_of_zero_le h
  rw [show toString (n : Int) = n.repr from rfl]
  have : (Str.ofString n.repr).length = n.repr.length := PyProof.Rows.ofString_length _
  rw [this, Int.natAbs_natCast]
  exact Nat.length_repr_le_iff hk
theorem imp_is_long : ∀ ds Q E, S_is_long ds Q E → runA N_is_long d_is_long ds Q E := by
  rintro ds Q E ⟨i, rfl, q⟩
  simp only [d_is_long, N_is_long, runA, startA, aRet, aOrV, aBin, aBits, aVar, aC, aOp, aCons, aNil]
  simp [dGt, dI, dAbs, dStrI]
  by_cases h : 997 < (Builtin.Int.intBits i : Nat)
  · have h' : (997 : Int) < ((Builtin.Int.intBits i : Nat) : Int) := by omega
    simp [h']
    have : isLong i = true := by
      unfold isLong
      refine decide_eq_true ?_
      have h1 : 2 ^ 997 ≤ i.natAbs := by
        unfold Builtin.Int.intBits at h
        split at h
        · omega
        · refine Nat.le_of_not_lt fun z => ?_
          have z0 : i.natAbs ≠ 0 := by rename_i q; simp at q; omega
          have := (Nat.log2_lt z0).mpr z
          omega
      exact Nat.le_trans (by decide) h1
    rw [this] at q; exact q
  · have h' : ¬ (997 : Int) < ((Builtin.Int.intBits i : Nat) : Int) := by omega
    simp [h']
    have hb : SmB 997 i := by
      unfold Builtin.Int.intBits at h
      unfold SmB
      split at h
      · rename_i q; simp at q; rw [q]; decide
      · rename_i q
        have z0 : i.natAbs ≠ 0 := by simp at q; omega
        exact (Nat.log2_lt z0).mp (by omega)
    have ea : (if i < 0 then -i else i) = (i.natAbs : Int) := by split <;> omega
    rw [ea]
    have hb' : SmB 997 (i.natAbs : Int) := by unfold SmB at *; simpa using hb
    refine ⟨Nat.lt_of_lt_of_le (hb'.log (by decide)) (by decide), Nat.le_trans (PyProof.Rows.int_text_len_1921 (Nat.lt_of_lt_of_le (hb'.log (by decide)) (by decide))) (line_ok (by decide)), ?_⟩
    have e : decide ((300 : Int) < (((Str.ofString (toString (i.natAbs : Int))).length : Nat) : Int)) = isLong i := by
      unfold isLong
      refine decide_eq_decide.mpr ?_
      have := int_len (i := (i.natAbs : Int)) (by omega) (k := 300) (by decide)
      rw [Int.natAbs_natCast] at this
      constructor
      · intro z
        refine Nat.le_of_not_lt fun y => ?_
        have := this.mpr y
        omega
      · intro z
        by_cases y : (Str.ofString (toString (i.natAbs : Int))).length ≤ 300
        · exact absurd (this.mp y) (by omega)
        · omega
    rw [← e] at q
    exact q
theorem bls_of (bs : List Bool) : blsOf (bs.map .bl) = some bs := by
  induction bs with
  | nil => rfl
  | cons b bs ih => simp [blsOf, ih]
theorem imp_not_long : ∀ ds Q E, S_not_long ds Q E → runA N_not_long d_not_long ds Q E := by
  rintro ds Q E ⟨x, is, rfl, hx, hl, q1, q2⟩
  have lc : ∀ (Q' : List D → List AV → Prop), Q' ((is.map isLong).map .bl) [.dat x, .un] → aLcL lg_not_long_1 aYes le_not_long_1 [1] (is.map .int) [] [.dat x, .un] Q' := by
    intro Q' h
    refine lc_map (l := is) (en := D.int) (f := fun i => .bl (isLong i)) rfl (fun i hi C C' k1 k2 => ?_) hl (by rw [List.map_map] at h; exact h)
    have := k1 rfl
    simp [lg_not_long_1, le_not_long_1]
    exact ⟨i, rfl, this⟩
  have fin : ∀ A : AEnds, A.nx = aRet (aVar 0) { nx := fun _ => Q .non, rt := Q, ex := fun x _ => E x } → A.ex = (fun x _ => E x) → dAnyL [.lst ((is.map isLong).map .bl)] fun z => truQ z fun k => if k = true then (aRaise1 "TooGreat" "number" (aCons (aC (.int 2)) aNil)) A [.dat x, .un] else aSkip A [.dat x, .un] := by
    intro A hA hE
    refine ⟨is.map isLong, bls_of _, ?_⟩
    have e : (is.map isLong).any id = is.any isLong := by rw [List.any_map]; rfl
    simp only [truQ, e]
    cases h : is.any isLong with
    | true => simp [hE]; exact q2 h
    | false => simp [hA]; exact q1 h
  simp only [d_not_long, N_not_long, runA, startA]
  rcases hx with rfl | rfl <;> exact lc _ (fin _ rfl rfl)
end PU
set_option Elab.async false
set_option linter.all false
set_option maxRecDepth 100000
namespace PU
open PySem PySem.Spec L2 StX RZ
set_option autoImplicit false
/-! ### draws -/
def S__law_pick : AF := fun ds Q E => ∃ many : Int, ds = [.int many] ∧ many < 2 ^ 62 ∧ -(2 ^ 62) < many ∧ ∀ k, 0 ≤ k → k < max 1 many → Q (.int k)
def S__law_of : AF := fun ds Q E => ∃ x xs, ds = [x] ∧ (x = .lst xs ∨ x = .tup xs) ∧ xs ≠ [] ∧ xs.length < 2 ^ 40 ∧ ∀ y ∈ xs, Q y
def N__law_pick : List Str := ["source", "many", "left", "mixed"]
def d__law_pick (A : AEnds) (ρ : List AV) : Prop :=
  (aSeq (aSrcW 0 1)
  (aSeq (aSet 2 (aSrcG 0 "left"))
  (aSeq (aIfS (aOr (aTestB (aBin dLt (aVar 1) (aC (.int 2)))) (aTestB (aBin dGt (aVar 2) (aC (.int 1))))) (aSeq (aSrcP 0 "left" (aBin dDiv (aVar 2) (aOp dMax2 (aCons (aC (.int 1)) (aCons (aVar 1) aNil)))))
  (aRet (aBin dMod (aOp dInt (aCons (aVar 2) aNil)) (aOp dMax2 (aCons (aC (.int 1)) (aCons (aVar 1) aNil)))))) aSkip)
  (aSeq (aSrcP 0 "turn" (aBin dAdd (aSrcG 0 "turn") (aC (.int 1))))
  (aSeq (aSet 3 (aBin dMod (aOp dInt (aCons (aBin dAdd (aSrcG 0 "mixed") (aBin dMul (aSrcG 0 "turn") (aC (.int 104729)))) aNil)) (aC (.int 998244353))))
  (aSeq (aSet 3 (aBin dMod (aOp dInt (aCons (aBin dAdd (aBin dMul (aVar 3) (aVar 3)) (aBin dMul (aSrcG 0 "turn") (aC (.int 17)))) aNil)) (aC (.int 2147483647))))
  (aSeq (aSrcP 0 "mixed" (aVar 3))
  (aRet (aBin dMod (aOp dInt (aCons (aBin dDiv (aVar 3) (aC (.int 16))) aNil)) (aVar 1)))))))))) A ρ
def N__law_of : List Str := ["source", "some"]
def d__law_of (A : AEnds) (ρ : List AV) : Prop :=
  (aRet (aBin dIdx (aVar 1) (aCallZ 0 1 S__law_pick (aCons (aLenN 1) aNil)))) A ρ
theorem log_small {m : Int} (h1 : 1 ≤ m) (h2 : m < 2 ^ 63) : m.natAbs.log2 < 9000 := by
  have : m.natAbs < 2 ^ 63 := by omega
  have h0 : m.natAbs ≠ 0 := by omega
  have := (Nat.log2_lt h0).mpr this
  omega
theorem mul_r {i j : Int} (h1 : -(2 ^ 64) < j) (h2 : j < 2 ^ 64) : MulOk i j := .inl (.inr ⟨h1, h2⟩)
theorem mul_l {i j : Int} (h1 : -(2 ^ 64) < i) (h2 : i < 2 ^ 64) : MulOk i j := .inl (.inl ⟨h1, h2⟩)
theorem fmod_in {i j : Int} (h : 0 < j) : 0 ≤ i.fmod j ∧ i.fmod j < j := by
  rw [Int.fmod_eq_emod_of_nonneg _ (by omega)]
  exact ⟨Int.emod_nonneg _ (by omega), Int.emod_lt_of_pos _ h⟩
theorem fdiv_nn {i j : Int} (h : 0 < j) (hi : 0 ≤ i) : 0 ≤ i.fdiv j := by
  rw [Int.fdiv_eq_ediv_of_nonneg _ (by omega)]
  exact Int.ediv_nonneg hi (by omega)
theorem imp__law_pick : ∀ ds Q E, S__law_pick ds Q E → runZ N__law_pick d__law_pick ds Q E := by
  rintro ds Q E ⟨many, rfl, hm, hm', q⟩
  simp [d__law_pick, N__law_pick]
  intro l hl
  have hl0 : 0 ≤ l := hl.1
  have last : ∀ k, 0 ≤ k → k < max 1 many → Q (.int k) := q
  have go : (many < 2 ∨ 1 < l) → DivOk l (max 1 many) ∧ srcK "left" (l.fdiv (max 1 many)) ∧ ¬ max 1 many = 0 ∧ Q (.int (l.fmod (max 1 many))) := fun _ => by
    have m1 : (1 : Int) ≤ max 1 many := by omega
    have m2 : max 1 many < 2 ^ 63 := by omega
    refine ⟨⟨by omega, log_small m1 m2⟩, ⟨fdiv_nn (by omega) hl0, fun z => absurd z (by decide)⟩, by omega, ?_⟩
    have b := fmod_in (i := l) (j := max 1 many) (by omega)
    exact last _ b.1 b.2
  by_cases c1 : many < 2
  · rw [if_pos c1]
    exact go (.inl c1)
  · rw [if_neg c1]
    by_cases c2 : 1 < l
    · rw [if_pos c2]
      exact go (.inr c2)
    · rw [if_neg c2]
      intro t ht
      refine ⟨⟨by have := ht.1; omega, fun z => absurd z (by decide)⟩, fun m hm t2 ht2 => ⟨mul_r (by decide) (by decide), ?_⟩⟩
      have b1 := fmod_in (i := m + t2 * 104729) (j := 998244353) (by decide)
      refine ⟨mul_r (by omega) (by omega), fun t3 ht3 => ⟨mul_r (by decide) (by decide), ?_⟩⟩
      have b2 := fmod_in (i := (m + t2 * 104729).fmod 998244353 * (m + t2 * 104729).fmod 998244353 + t3 * 17) (j := 2147483647) (by decide)
      refine ⟨⟨b2.1, fun _ => b2.2⟩, ⟨by decide, log_small (by decide) (by decide)⟩, by omega, ?_⟩
      have b3 := fmod_in (i := ((m + t2 * 104729).fmod 998244353 * (m + t2 * 104729).fmod 998244353 + t3 * 17).fmod 2147483647 |>.fdiv 16) (j := many) (by omega)
      exact last _ b3.1 (by omega)
theorem atI_some {α : Type} {l : List α} {k : Int} (h1 : 0 ≤ k) (h2 : k < (l.length : Int)) : ∃ x, atI l k = some x ∧ x ∈ l := by
  obtain ⟨n, rfl⟩ := Int.eq_ofNat_of_zero_le h1
  have hn : n < l.length := by omega
  refine ⟨l[n], ?_, List.getElem_mem hn⟩
  rw [atI_nat]
  simp [hn]
theorem imp__law_of : ∀ ds Q E, S__law_of ds Q E → runZ N__law_of d__law_of ds Q E := by
  rintro ds Q E ⟨x, xs, rfl, hx, hne, hl, q⟩
  have len : 0 < xs.length := List.length_pos_iff.mpr hne
  have pick : S__law_pick [.int (xs.length : Int)] (fun d => ∃ k x, d = .int k ∧ atI xs k = some x ∧ x ∈ xs) (fun _ => False) := by
    refine ⟨_, rfl, by omega, by omega, fun k h1 h2 => ?_⟩
    obtain ⟨x, e1, e2⟩ := atI_some (l := xs) h1 (by omega)
    exact ⟨k, x, rfl, e1, e2⟩
  rcases hx with rfl | rfl
  · simp [d__law_of, N__law_of]
    refine ⟨_, rfl, by omega, by omega, fun k h1 h2 => ?_⟩
    obtain ⟨x, e1, e2⟩ := atI_some (l := xs) h1 (by omega)
    rw [idx_lst]
    exact ⟨x, e1, q x e2⟩
  · simp [d__law_of, N__law_of]
    refine ⟨_, rfl, by omega, by omega, fun k h1 h2 => ?_⟩
    obtain ⟨x, e1, e2⟩ := atI_some (l := xs) h1 (by omega)
    rw [idx_tup]
    exact ⟨x, e1, q x e2⟩
theorem upto_cons (lo : Int) (n : Nat) : upto lo (n + 1) = .int lo :: upto (lo + 1) n := by
  unfold upto
  rw [List.range_succ_eq_map, List.map_cons, List.map_map]
  congr 1
  · simp
  · apply List.map_congr_left
    intro i _
    simp
    omega
end PU
set_option Elab.async false
set_option linter.all false
set_option maxRecDepth 100000
namespace PU
open PySem PySem.Spec L2 StX RZ
set_option autoImplicit false
def S__law_part : AF := fun ds Q E => ∃ a b : Int, ds = [.int a, .int b] ∧ Q (.int ((Nat.gcd a.natAbs b.natAbs : Nat) : Int))
def S__law_least : AF := S_fraction_told
def S__law_plus : AF := S_fraction_sum
def S__law_times : AF := S_fraction_product
def S__law_power : AF := fun ds Q E => ∃ (x : Int) (n k : Nat), ds = [.int x, .int (n : Int)] ∧ SmB k x ∧ 0 < k ∧ k * n ≤ 100000 ∧ n ≤ 100000 ∧ Q (.int (x ^ n))
def S__law_number : AF := fun ds Q E => ds = [] ∧ ∀ i : Int, SmB 203 i → Q (.int i)
def S__law_fraction : AF := fun ds Q E => ds = [] ∧ ∀ q : Rat, QB 203 q → Q (eQ q)
def S__law_told : AF := fun ds Q E => ∃ is : List Int, ds = [.tup (is.map .int)] ∧ is.length ≤ 16000000 ∧ (is.any isLong = false → Q (.tup [.str "told", .tup (is.map .int)])) ∧ (is.any isLong = true → Q (.tup [.str "great", .int 2]))
def N__law_part : List Str := ["one", "other", "here", "there"]
def wt__law_part_1 (EX : EK) (ρ : List AV) (Q : Bool → List AV → Prop) : Prop :=
  (aTestB (aBin dGt (aVar 3) (aC (.int 0)))) EX ρ Q
def wb__law_part_1 (A : AEnds) (ρ : List AV) : Prop :=
  (aParO [2, 3] (aoD (aVar 3) (aoD (aBin dMod (aOp dInt (aCons (aVar 2) aNil)) (aVar 3)) aoNil))) A ρ
def d__law_part (A : AEnds) (ρ : List AV) : Prop :=
  (aSeq (aParO [2, 3] (aoD (aOp dAbs (aCons (aVar 0) aNil)) (aoD (aOp dAbs (aCons (aVar 1) aNil)) aoNil)))
  (aSeq (aWhile wt__law_part_1 wb__law_part_1)
  (aRet (aVar 2)))) A ρ
def N__law_least : List Str := ["top", "bottom", "part"]
def d__law_least (A : AEnds) (ρ : List AV) : Prop :=
  (aSeq (aSet 2 (aBin dMul (aCall 2 S__law_part (aCons (aVar 0) (aCons (aVar 1) aNil))) (aIf (aTestB (aBin dGt (aVar 1) (aC (.int 0)))) (aC (.int 1)) (aNeg (aC (.int 1))))))
  (aRet (aTup (aCons (aBin dDiv (aVar 0) (aVar 2)) (aCons (aBin dDiv (aVar 1) (aVar 2)) aNil))))) A ρ
def N__law_plus : List Str := ["one", "other"]
def d__law_plus (A : AEnds) (ρ : List AV) : Prop :=
  (aRet (aCall 2 S__law_least (aCons (aBin dAdd (aBin dMul (aBin dIdx (aVar 0) (aC (.int 0))) (aBin dIdx (aVar 1) (aC (.int 1)))) (aBin dMul (aBin dIdx (aVar 1) (aC (.int 0))) (aBin dIdx (aVar 0) (aC (.int 1))))) (aCons (aBin dMul (aBin dIdx (aVar 0) (aC (.int 1))) (aBin dIdx (aVar 1) (aC (.int 1)))) aNil)))) A ρ
def N__law_times : List Str := ["one", "other"]
def d__law_times (A : AEnds) (ρ : List AV) : Prop :=
  (aRet (aCall 2 S__law_least (aCons (aBin dMul (aBin dIdx (aVar 0) (aC (.int 0))) (aBin dIdx (aVar 1) (aC (.int 0)))) (aCons (aBin dMul (aBin dIdx (aVar 0) (aC (.int 1))) (aBin dIdx (aVar 1) (aC (.int 1)))) aNil)))) A ρ
def N__law_power : List Str := ["number", "many", "found", "here", "left"]
def wt__law_power_1 (EX : EK) (ρ : List AV) (Q : Bool → List AV → Prop) : Prop :=
  (aTestB (aBin dGt (aVar 4) (aC (.int 0)))) EX ρ Q
def wb__law_power_1 (A : AEnds) (ρ : List AV) : Prop :=
  (aSeq (aSet 2 (aIf (aTestB (aBin dEq2 (aBin dMod (aOp dInt (aCons (aVar 4) aNil)) (aC (.int 2))) (aC (.int 1)))) (aBin dMul (aVar 2) (aVar 3)) (aVar 2)))
  (aSeq (aSet 4 (aBin dDiv (aVar 4) (aC (.int 2))))
  (aSet 3 (aIf (aTestB (aBin dGt (aVar 4) (aC (.int 0)))) (aBin dMul (aVar 3) (aVar 3)) (aVar 3))))) A ρ
def d__law_power (A : AEnds) (ρ : List AV) : Prop :=
  (aSeq (aParO [2, 3, 4] (aoD (aC (.int 1)) (aoD (aVar 0) (aoD (aVar 1) aoNil))))
  (aSeq (aWhile wt__law_power_1 wb__law_power_1)
  (aRet (aVar 2)))) A ρ
def N__law_number : List Str := ["source", "some"]
def d__law_number (A : AEnds) (ρ : List AV) : Prop :=
  (aSeq (aSet 1 (aLst (aCons (aC (.int 0)) (aCons (aC (.int 1)) (aCons (aNeg (aC (.int 1))) (aCons (aC (.int 2)) (aCons (aC (.int 3)) (aCons (aNeg (aC (.int 4))) (aCons (aC (.int 6)) (aCons (aC (.int 10)) (aCons (aNeg (aC (.int 15))) (aCons (aC (.int 77)) (aCons (aBin dPow (aC (.int 10)) (aC (.int 9))) (aCons (aBin dAdd (aBin dPow (aC (.int 10)) (aC (.int 20))) (aC (.int 1))) (aCons (aBin dMul (aNeg (aC (.int 7))) (aBin dPow (aC (.int 10)) (aC (.int 30)))) (aCons (aBin dSub (aBin dPow (aC (.int 10)) (aC (.int 60))) (aC (.int 1))) aNil))))))))))))))))
  (aRet (aBin dMul (aCallZ 0 1 S__law_of (aCons (aVar 1) aNil)) (aCallZ 0 1 S__law_of (aCons (aLst (aCons (aC (.int 1)) (aCons (aC (.int 1)) (aCons (aC (.int 2)) (aCons (aNeg (aC (.int 3))) aNil))))) aNil))))) A ρ
def N__law_fraction : List Str := ["source", "bottom"]
def d__law_fraction (A : AEnds) (ρ : List AV) : Prop :=
  (aSeq (aSet 1 (aCallZ 0 0 S__law_number aNil))
  (aRet (aCall 2 S__law_least (aCons (aCallZ 0 0 S__law_number aNil) (aCons (aIf (aTestB (aBin dNe2 (aVar 1) (aC (.int 0)))) (aVar 1) (aC (.int 7))) aNil))))) A ρ
def N__law_told : List Str := ["numbers", "error"]
def d__law_told (A : AEnds) (ρ : List AV) : Prop :=
  (aTry (fun n => n == "TooGreat") 1 (aRet (aTup (aCons (aC (.str "told")) (aCons (aCall 1 S_not_long (aCons (aVar 0) aNil)) aNil)))) fun x a => (aRet (aTup (aCons (aC (.str "great")) (aCons (aFld 1 "number" x a) aNil))))) A ρ
def N_law : List Str := ["script", "source", "lap", "one", "other", "third", "times", "back", "both", "small", "many", "due", "gap", "some", "bottom", "least", "top", "low", "told", "nines", "more", "numbers", "late"]
def lg_law_1 (d : D) (ρ : List AV) (N : List AV → Prop) : Prop :=
  (gSet 22) d ρ N
def le_law_1 (EX : EK) (ρ : List AV) (Q : D → List AV → Prop) : Prop :=
  (aCallZ 1 0 S__law_fraction aNil) EX ρ Q
def g_law_2 (d : D) (ρ : List AV) (N : List AV → Prop) : Prop :=
  (gSet 2) d ρ N
def b_law_2 (A : AEnds) (ρ : List AV) : Prop :=
  (aSeq (aAsg (aLc (aRng1 (aCons (aC (.int 3)) aNil)) lg_law_1 aYes le_law_1 [22]) (gTupA 3 (gsCons (gSet 3) (gsCons (gSet 4) (gsCons (gSet 5) gsNil)))))
  (aSeq (aSet 6 (aCallZ 1 1 S__law_of (aCons (aLst (aCons (aC (.int 1)) (aCons (aNeg (aC (.int 1))) (aCons (aC (.int 6)) (aCons (aNeg (aC (.int 35))) (aCons (aBin dPow (aC (.int 10)) (aC (.int 12))) aNil)))))) aNil)))
  (aSeq (aIfS (aTestB (aBin dNe2 (aOp dRepr (aCons (aCall 2 S_fraction_told (aCons (aBin dMul (aBin dIdx (aVar 3) (aC (.int 0))) (aVar 6)) (aCons (aBin dMul (aBin dIdx (aVar 3) (aC (.int 1))) (aVar 6)) aNil))) aNil)) (aOp dRepr (aCons (aVar 3) aNil)))) (aRet (aC (.bl false))) aSkip)
  (aSeq (aIfS (aTestB (aBin dNe2 (aOp dRepr (aCons (aCall 2 S_fraction_sum (aCons (aVar 3) (aCons (aVar 4) aNil))) aNil)) (aOp dRepr (aCons (aCall 2 S__law_plus (aCons (aVar 3) (aCons (aVar 4) aNil))) aNil)))) (aRet (aC (.bl false))) aSkip)
  (aSeq (aSet 7 (aTup (aCons (aBin dSub (aC (.int 0)) (aBin dIdx (aVar 4) (aC (.int 0)))) (aCons (aBin dIdx (aVar 4) (aC (.int 1))) aNil))))
  (aSeq (aIfS (aTestB (aBin dNe2 (aOp dRepr (aCons (aCall 2 S_fraction_less (aCons (aVar 3) (aCons (aVar 4) aNil))) aNil)) (aOp dRepr (aCons (aCall 2 S__law_plus (aCons (aVar 3) (aCons (aVar 7) aNil))) aNil)))) (aRet (aC (.bl false))) aSkip)
  (aSeq (aSet 8 (aCall 2 S_fraction_product (aCons (aVar 3) (aCons (aVar 4) aNil))))
  (aSeq (aIfS (aTestB (aBin dNe2 (aOp dRepr (aCons (aVar 8) aNil)) (aOp dRepr (aCons (aCall 2 S__law_times (aCons (aVar 3) (aCons (aVar 4) aNil))) aNil)))) (aRet (aC (.bl false))) aSkip)
  (aSeq (aIfS (aAnd (aTestB (aBin dNe2 (aBin dIdx (aVar 4) (aC (.int 0))) (aC (.int 0)))) (aTestB (aBin dNe2 (aOp dRepr (aCons (aCall 2 S_fraction_over (aCons (aVar 3) (aCons (aVar 4) aNil))) aNil)) (aOp dRepr (aCons (aCall 2 S__law_least (aCons (aBin dMul (aBin dIdx (aVar 3) (aC (.int 0))) (aBin dIdx (aVar 4) (aC (.int 1)))) (aCons (aBin dMul (aBin dIdx (aVar 3) (aC (.int 1))) (aBin dIdx (aVar 4) (aC (.int 0)))) aNil))) aNil))))) (aRet (aC (.bl false))) aSkip)
  (aSeq (aIfS (aTestB (aBin dNe2 (aOp dRepr (aCons (aCall 2 S_fraction_sum (aCons (aCall 2 S_fraction_product (aCons (aVar 3) (aCons (aVar 5) aNil))) (aCons (aCall 2 S_fraction_product (aCons (aVar 4) (aCons (aVar 5) aNil))) aNil))) aNil)) (aOp dRepr (aCons (aCall 2 S_fraction_product (aCons (aCall 2 S_fraction_sum (aCons (aVar 3) (aCons (aVar 4) aNil))) (aCons (aVar 5) aNil))) aNil)))) (aRet (aC (.bl false))) aSkip)
  (aSeq (aSet 9 (aCall 2 S__law_least (aCons (aCallZ 1 1 S__law_of (aCons (aLst (aCons (aC (.int 0)) (aCons (aC (.int 1)) (aCons (aNeg (aC (.int 1))) (aCons (aC (.int 2)) (aCons (aNeg (aC (.int 3))) (aCons (aBin dPow (aC (.int 10)) (aC (.int 9))) aNil))))))) aNil)) (aCons (aCallZ 1 1 S__law_of (aCons (aLst (aCons (aC (.int 1)) (aCons (aC (.int 2)) (aCons (aC (.int 7)) (aCons (aBin dAdd (aBin dPow (aC (.int 10)) (aC (.int 9))) (aC (.int 1))) aNil))))) aNil)) aNil))))
  (aSeq (aSet 10 (aCallZ 1 1 S__law_of (aCons (aLst (aCons (aC (.int 0)) (aCons (aC (.int 1)) (aCons (aC (.int 2)) (aCons (aC (.int 3)) (aCons (aC (.int 7)) aNil)))))) aNil)))
  (aSeq (aSet 11 (aCall 2 S__law_least (aCons (aCall 2 S__law_power (aCons (aBin dIdx (aVar 9) (aC (.int 0))) (aCons (aVar 10) aNil))) (aCons (aCall 2 S__law_power (aCons (aBin dIdx (aVar 9) (aC (.int 1))) (aCons (aVar 10) aNil))) aNil))))
  (aSeq (aIfS (aTestB (aBin dNe2 (aOp dRepr (aCons (aCall 2 S_fraction_power (aCons (aVar 9) (aCons (aVar 10) aNil))) aNil)) (aOp dRepr (aCons (aVar 11) aNil)))) (aRet (aC (.bl false))) aSkip)
  (aSeq (aSet 12 (aBin dSub (aBin dMul (aBin dIdx (aVar 3) (aC (.int 0))) (aBin dIdx (aVar 4) (aC (.int 1)))) (aBin dMul (aBin dIdx (aVar 4) (aC (.int 0))) (aBin dIdx (aVar 3) (aC (.int 1))))))
  (aSeq (aSet 11 (aLst (aCons (aBin dSub (aOp dInt (aCons (aBin dGt (aBin dIdx (aVar 3) (aC (.int 0))) (aC (.int 0))) aNil)) (aOp dInt (aCons (aBin dLt (aBin dIdx (aVar 3) (aC (.int 0))) (aC (.int 0))) aNil))) (aCons (aBin dSub (aOp dInt (aCons (aBin dGt (aVar 12) (aC (.int 0))) aNil)) (aOp dInt (aCons (aBin dLt (aVar 12) (aC (.int 0))) aNil))) (aCons (aC (.int 0)) aNil)))))
  (aIfS (aTestB (aBin dNe2 (aOp dRepr (aCons (aLst (aCons (aCall 1 S_sign_of (aCons (aVar 3) aNil)) (aCons (aCall 2 S_compared (aCons (aVar 3) (aCons (aVar 4) aNil))) (aCons (aCall 2 S_compared (aCons (aVar 5) (aCons (aVar 5) aNil))) aNil)))) aNil)) (aOp dRepr (aCons (aVar 11) aNil)))) (aRet (aC (.bl false))) aSkip))))))))))))))))) A ρ
def lg_law_3 (d : D) (ρ : List AV) (N : List AV → Prop) : Prop :=
  (gSet 22) d ρ N
def le_law_3 (EX : EK) (ρ : List AV) (Q : D → List AV → Prop) : Prop :=
  (aCallZ 1 0 S__law_fraction aNil) EX ρ Q
def g_law_4 (d : D) (ρ : List AV) (N : List AV → Prop) : Prop :=
  (gTupA 2 (gsCons (gSet 16) (gsCons (gSet 17) gsNil))) d ρ N
def b_law_4 (A : AEnds) (ρ : List AV) : Prop :=
  (aSet 15 (aBin dDiv (aBin dMul (aVar 15) (aVar 17)) (aCall 2 S__law_part (aCons (aVar 15) (aCons (aVar 17) aNil))))) A ρ
def lg_law_5 (d : D) (ρ : List AV) (N : List AV → Prop) : Prop :=
  (gSet 3) d ρ N
def le_law_5 (EX : EK) (ρ : List AV) (Q : D → List AV → Prop) : Prop :=
  (aTup (aCons (aVar 3) (aCons (aC (.int 0)) aNil))) EX ρ Q
def lg_law_6 (d : D) (ρ : List AV) (N : List AV → Prop) : Prop :=
  (gTupA 2 (gsCons (gSet 3) (gsCons (gSet 22) gsNil))) d ρ N
def lt_law_6 (EX : EK) (ρ : List AV) (Q : Bool → List AV → Prop) : Prop :=
  (aTestB (aBin dGe (aBin dMul (aBin dIdx (aVar 3) (aC (.int 0))) (aBin dIdx (aVar 22) (aC (.int 1)))) (aBin dMul (aBin dIdx (aVar 22) (aC (.int 0))) (aBin dIdx (aVar 3) (aC (.int 1)))))) EX ρ Q
def le_law_6 (EX : EK) (ρ : List AV) (Q : D → List AV → Prop) : Prop :=
  (aC (.int 1)) EX ρ Q
def g_law_7 (d : D) (ρ : List AV) (N : List AV → Prop) : Prop :=
  (gSet 21) d ρ N
def b_law_7 (A : AEnds) (ρ : List AV) : Prop :=
  (aSeq (aSet 11 (aIf (aTestB (aBin (dIn false) (aVar 20) (aVar 21))) (aTup (aCons (aC (.str "great")) (aCons (aC (.int 2)) aNil))) (aTup (aCons (aC (.str "told")) (aCons (aVar 21) aNil)))))
  (aIfS (aTestB (aBin dNe2 (aOp dRepr (aCons (aCall 1 S__law_told (aCons (aVar 21) aNil)) aNil)) (aOp dRepr (aCons (aVar 11) aNil)))) (aRet (aC (.bl false))) aSkip)) A ρ
def d_law (A : AEnds) (ρ : List AV) : Prop :=
  (aSeq (aFor (aRng1 (aCons (aC (.int 3)) aNil)) g_law_2 b_law_2)
  (aSeq (aSet 13 (aLc (aRng1 (aCons (aCallZ 1 1 S__law_pick (aCons (aC (.int 7)) aNil)) aNil)) lg_law_3 aYes le_law_3 [22]))
  (aSeq (aSet 13 (aBin dAdd (aVar 13) (aSl (aVar 13) aNoPart (aPart (aC (.int 2))))))
  (aSeq (aSet 14 (aCall 1 S_common_bottom (aCons (aVar 13) aNil)))
  (aSeq (aSet 15 (aC (.int 1)))
  (aSeq (aFor (aIt (aVar 13)) g_law_4 b_law_4)
  (aSeq (aIfS (aTestB (aBin dNe2 (aVar 14) (aVar 15))) (aRet (aC (.bl false))) aSkip)
  (aSeq (aSet 18 (aCall 1 S_fractions_ascending (aCons (aVar 13) aNil)))
  (aSeq (aIfS (aTestB (aBin dNe2 (aOp dSortedT (aCons (aVar 18) aNil)) (aOp dSortedN (aCons (aOp dDict (aCons (aLc (aIt (aVar 13)) lg_law_5 aYes le_law_5 [3]) aNil)) aNil)))) (aRet (aC (.bl false))) aSkip)
  (aSeq (aIfS (aTestB (aBin dNe2 (aLc (aZip (aCons (aVar 18) (aCons (aSl (aVar 18) (aPart (aC (.int 1))) aNoPart) aNil))) lg_law_6 lt_law_6 le_law_6 [3, 22]) (aLst aNil))) (aRet (aC (.bl false))) aSkip)
  (aSeq (aSet 19 (aBin dMul (aOp dIntS (aCons (aBin dRepS (aC (.str "9")) (aC (.int 300))) aNil)) (aCallZ 1 1 S__law_of (aCons (aLst (aCons (aC (.int 1)) (aCons (aNeg (aC (.int 1))) aNil))) aNil))))
  (aSeq (aSet 20 (aBin dAdd (aVar 19) (aIf (aTestB (aBin dGt (aVar 19) (aC (.int 0)))) (aC (.int 1)) (aNeg (aC (.int 1))))))
  (aSeq (aFor (aIt (aTup (aCons (aTup (aCons (aVar 19) aNil)) (aCons (aTup (aCons (aC (.int 0)) (aCons (aVar 19) (aCons (aC (.int 7)) aNil)))) (aCons (aTup (aCons (aVar 20) aNil)) (aCons (aTup (aCons (aC (.int 1)) (aCons (aVar 20) aNil))) (aCons (aTup aNil) aNil))))))) g_law_7 b_law_7)
  (aRet (aC (.bl true)))))))))))))))) A ρ
end PU
set_option Elab.async false
set_option linter.all false
set_option maxRecDepth 100000
set_option exponentiation.threshold 100000
namespace PU
open PySem PySem.Spec L2 StX RZ
set_option autoImplicit false
theorem abs_nat (i : Int) : (if i < 0 then -i else i) = (i.natAbs : Int) := by split <;> omega
theorem imp__law_part : ∀ ds Q E, S__law_part ds Q E → runA N__law_part d__law_part ds Q E := by
  rintro ds Q E ⟨a, b, rfl, q⟩
  simp [d__law_part, N__law_part]
  rw [abs_nat, abs_nat]
  refine ⟨fun k ρ => ∃ x : Nat, ρ = [.dat (.int a), .dat (.int b), .dat (.int (x : Int)), .dat (.int (k : Int))] ∧ Nat.gcd x k = Nat.gcd a.natAbs b.natAbs, ⟨b.natAbs, a.natAbs, rfl, rfl⟩, ?_⟩
  rintro k ρ ⟨x, rfl, h⟩
  simp only [wt__law_part_1, wb__law_part_1, aTestB, aBin, aVar, aC]
  simp [dGt, dI]
  by_cases h0 : k = 0
  · subst h0
    simp
    rw [Nat.gcd_zero_right] at h
    rw [h]; exact q
  · have h1 : 0 < k := by omega
    simp [h1]
    have e : (x : Int).fmod (k : Int) = ((x % k : Nat) : Int) := by
      rw [Int.fmod_eq_emod_of_nonneg _ (by omega)]; simp
    rw [e]
    refine ⟨by omega, x % k, Nat.mod_lt _ (by omega), k, by simp, ?_⟩
    rw [← h, Nat.gcd_comm x k, Nat.gcd_rec k x]
    exact Nat.gcd_comm _ _
theorem imp__law_least : ∀ ds Q E, S__law_least ds Q E → runA N__law_least d__law_least ds Q E := by
  rintro ds Q E ⟨t, b, rfl, hb, hl, q⟩
  simp [d__law_least, N__law_least]
  refine ⟨t, b, rfl, ?_⟩
  have g0 : (0 : Int) < ((Nat.gcd t.natAbs b.natAbs : Nat) : Int) := by
    have := Nat.gcd_pos_of_pos_right t.natAbs (show 0 < b.natAbs by omega)
    omega
  generalize hg : ((Nat.gcd t.natAbs b.natAbs : Nat) : Int) = g at g0
  have dl : g.natAbs.log2 < 9000 := by rw [← hg, Int.natAbs_natCast]; exact hl
  by_cases h : 0 < b
  · simp [h, dMul_int, two_line]
    refine ⟨mul_r (by decide) (by decide), ⟨by omega, dl⟩, ⟨by omega, dl⟩, ?_⟩
    have := told_pos (t := t) h
    rw [hg] at this
    rw [this]; exact q
  · simp [h, dMul_int, two_line]
    refine ⟨mul_r (by decide) (by decide), ⟨by omega, by rw [Int.natAbs_neg]; exact dl⟩, ⟨by omega, by rw [Int.natAbs_neg]; exact dl⟩, ?_⟩
    have := told_neg (t := t) (b := b) (by omega)
    rw [hg] at this
    have e : ∀ x : Int, x.fdiv (-g) = (-x).fdiv g := fun x => by
      have := Int.neg_fdiv_neg (a := -x) (b := g)
      rw [Int.neg_neg] at this
      exact this
    rw [e, e, this]; exact q
theorem imp__law_plus : ∀ ds Q E, S__law_plus ds Q E → runA N__law_plus d__law_plus ds Q E := by
  rintro ds Q E ⟨a, b, rfl, ha, hb, q⟩
  simp [d__law_plus, N__law_plus, eQ_0, eQ_1, dMul_int]
  refine ⟨ha.nm.mulOk hb.dn (by decide), hb.nm.mulOk ha.dn (by decide), ha.dn.mulOk hb.dn (by decide), _, _, rfl, dd_ne a b, gcd_log (dd_ne a b) (ha.dn.mul hb.dn) (by decide), ?_⟩
  rw [add_told]; exact q
theorem imp__law_times : ∀ ds Q E, S__law_times ds Q E → runA N__law_times d__law_times ds Q E := by
  rintro ds Q E ⟨a, b, rfl, ha, hb, q⟩
  simp [d__law_times, N__law_times, eQ_0, eQ_1, dMul_int]
  refine ⟨ha.nm.mulOk hb.nm (by decide), ha.dn.mulOk hb.dn (by decide), _, _, rfl, dd_ne a b, gcd_log (dd_ne a b) (ha.dn.mul hb.dn) (by decide), ?_⟩
  rw [mul_told]; exact q
theorem lpow_turn {A : AEnds} {x : Int} {n k i j m : Nat} (hx : SmB k x) (hk : 0 < k) (hn : k * n ≤ 100000) (hm : 0 < m) (h : i + j * m = n)
    (hT : ∀ i' j' m' : Nat, m' < m → i' + j' * m' = n → A.nx [.dat (.int x), .dat (.int (n : Int)), .dat (.int (x ^ i')), .dat (.int (x ^ j')), .dat (.int (m' : Int))]) :
    wb__law_power_1 A [.dat (.int x), .dat (.int (n : Int)), .dat (.int (x ^ i)), .dat (.int (x ^ j)), .dat (.int (m : Int))] := by
  have bn : ∀ j, SmB (k * j + 1) (x ^ j) := fun j => hx.pow hk j
  have e1 : (m : Int).fmod 2 = ((m % 2 : Nat) : Int) := by rw [Int.fmod_eq_emod_of_nonneg _ (by decide)]; simp
  have e2 : (m : Int).fdiv 2 = ((m / 2 : Nat) : Int) := by rw [Int.fdiv_eq_ediv_of_nonneg _ (by decide)]; simp
  have hj : j ≤ n := by
    have : j * 1 ≤ j * m := Nat.mul_le_mul_left _ hm
    omega
  have ki : k * i ≤ 100000 := Nat.le_trans (Nat.mul_le_mul_left k (by omega : i ≤ n)) hn
  have kj : k * j ≤ 100000 := Nat.le_trans (Nat.mul_le_mul_left k hj) hn
  have st : ∀ (i' : Nat), i' + (2 * j) * (m / 2) = n →
      (aSeq (aSet 4 (aBin dDiv (aVar 4) (aC (.int 2)))) (aSet 3 (aIf (aTestB (aBin dGt (aVar 4) (aC (.int 0)))) (aBin dMul (aVar 3) (aVar 3)) (aVar 3)))) A [.dat (.int x), .dat (.int (n : Int)), .dat (.int (x ^ i')), .dat (.int (x ^ j)), .dat (.int (m : Int))] := by
    intro i' hi
    simp only [aSeq, aSet, aBin, aVar, aC, aIf, aTestB]
    simp [e2, dMul_int]
    refine ⟨⟨by decide, by decide⟩, ?_⟩
    have e3 : (m : Int) / 2 = ((m / 2 : Nat) : Int) := by simp
    rw [e3]
    by_cases h2 : 0 < m / 2
    · rw [if_pos (by omega)]
      refine ⟨(bn j).mulOk (bn j) (by omega), ?_⟩
      rw [← Int.pow_add, ← Nat.two_mul]
      exact hT i' (2 * j) (m / 2) (by omega) hi
    · rw [if_neg (by omega)]
      have z : m / 2 = 0 := by omega
      exact hT i' j (m / 2) (by omega) (by rw [z] at hi ⊢; simpa using hi)
  show (aSeq (aSet 2 _) _) A _
  simp only [aSeq] at st ⊢
  simp only [aSet, aIf, aTestB, aBin, aOp, aCons, aNil, aVar, aC]
  simp [e1, dMul_int]
  have jm : j * m = (2 * j) * (m / 2) + j * (m % 2) := by
    conv => lhs; rw [← Nat.div_add_mod m 2]
    rw [Nat.mul_add, ← Nat.mul_assoc, Nat.mul_comm j 2]
  by_cases h2 : m % 2 = 1
  · rw [if_pos (by omega)]
    refine ⟨(bn i).mulOk (bn j) (by omega), ?_⟩
    rw [← Int.pow_add]
    have := st (i + j) (by rw [h2] at jm; omega)
    simpa [dMul_int] using this
  · rw [if_neg (by omega)]
    have := st i (by rw [show m % 2 = 0 by omega] at jm; omega)
    simpa [dMul_int] using this
theorem imp__law_power : ∀ ds Q E, S__law_power ds Q E → runA N__law_power d__law_power ds Q E := by
  rintro ds Q E ⟨x, n, k, rfl, hx, hk, hn, hn2, q⟩
  simp only [d__law_power, N__law_power, runA, startA, aSeq]
  simp
  refine ⟨fun m ρ => ∃ i j : Nat, ρ = [.dat (.int x), .dat (.int (n : Int)), .dat (.int (x ^ i)), .dat (.int (x ^ j)), .dat (.int (m : Int))] ∧ i + j * m = n, ⟨n, 0, 1, by rw [Int.pow_one, Int.pow_zero], by omega⟩, ?_⟩
  rintro m ρ ⟨i, j, rfl, h⟩
  show aTestB (aBin dGt (aVar 4) (aC (.int 0))) _ _ _
  simp only [aTestB, aBin, aVar, aC]
  simp only [dGt, dI, blQ, List.getElem?_cons_succ, List.getElem?_cons_zero, true_and]
  by_cases h0 : m = 0
  · subst h0
    rw [if_neg (by simp)]
    simp only [Nat.mul_zero, Nat.add_zero] at h
    rw [h]
    simpa using q
  · rw [if_pos (by simp; omega)]
    exact lpow_turn hx hk hn (by omega) h fun i' j' m' hm hi => ⟨m', hm, i', j', rfl, hi⟩

theorem pow_ok {i j : Int} (h1 : 0 ≤ j) (h2 : j ≤ 1000000) (h3 : i.natAbs < 2 ^ 64) : CPow i j := ⟨h1, h2, h3⟩
theorem dPow_int {a b : Int} {Q : D → Prop} : dPow (.int a) (.int b) Q ↔ CPow a b ∧ Q (.int (a ^ b.toNat)) := Iff.rfl
/-- a value drawn from a list of numbers -/
theorem of_ints {l : List Int} {k : Nat} {Q : D → Prop} {E : XE → Prop} (h0 : l ≠ []) (hl : l.length < 2 ^ 40) (q : ∀ i ∈ l, Q (.int i)) : S__law_of [.lst (l.map .int)] Q E :=
  ⟨_, l.map .int, rfl, .inl rfl, by simpa using h0, by simpa using hl, fun y hy => by
    obtain ⟨i, hi, rfl⟩ := List.mem_map.mp hy
    exact q i hi⟩
theorem imp__law_number : ∀ ds Q E, S__law_number ds Q E → runZ N__law_number d__law_number ds Q E := by
  rintro ds Q E ⟨rfl, q⟩
  simp [d__law_number, N__law_number, dPow_int, dMul_int]
  refine ⟨pow_ok (by decide) (by decide) (by decide), pow_ok (by decide) (by decide) (by decide), pow_ok (by decide) (by decide) (by decide), mul_l (by decide) (by decide), pow_ok (by decide) (by decide) (by decide), line_ok (by decide), ?_⟩
  refine of_ints (l := [0, 1, -1, 2, 3, -4, 6, 10, -15, 77, 10 ^ 9, 10 ^ 20 + 1, -7 * 10 ^ 30, 10 ^ 60 - 1]) (k := 0) (by simp) (by decide) fun i hi => ?_
  refine ⟨line_ok (by decide), of_ints (l := [1, 1, 2, -3]) (k := 0) (by simp) (by decide) fun j hj => ?_⟩
  have b1 : SmB 200 i := by
    simp only [List.mem_cons, List.not_mem_nil, or_false] at hi
    rcases hi with rfl | rfl | rfl | rfl | rfl | rfl | rfl | rfl | rfl | rfl | rfl | rfl | rfl | rfl <;> (unfold SmB; decide)
  have b2 : SmB 3 j := by
    simp only [List.mem_cons, List.not_mem_nil, or_false] at hj
    rcases hj with rfl | rfl | rfl | rfl <;> (unfold SmB; decide)
  exact ⟨b1.mulOk b2 (by decide), q _ (b1.mul b2)⟩
theorem imp__law_fraction : ∀ ds Q E, S__law_fraction ds Q E → runZ N__law_fraction d__law_fraction ds Q E := by
  rintro ds Q E ⟨rfl, q⟩
  simp [d__law_fraction, N__law_fraction]
  refine ⟨rfl, fun b hb => ⟨rfl, fun t ht => ?_⟩⟩
  by_cases h : b = 0
  · simp [h]
    exact ⟨t, 7, rfl, by decide, gcd_log (k := 3) (by decide) (by unfold SmB; decide) (by decide), q _ (.told (by decide) ht (by unfold SmB; decide))⟩
  · simp [h]
    exact ⟨t, b, rfl, h, gcd_log h hb (by decide), q _ (.told h ht hb)⟩
theorem imp__law_told : ∀ ds Q E, S__law_told ds Q E → runA N__law_told d__law_told ds Q E := by
  rintro ds Q E ⟨is, rfl, hl, q1, q2⟩
  simp [d__law_told, N__law_told]
  refine ⟨_, is, rfl, .inl rfl, hl, fun h => ⟨two_line, q1 h⟩, fun h => ?_⟩
  show ite _ _ _
  rw [if_pos rfl]
  exact ⟨_, rfl, two_line, q2 h⟩
/-! shapes -/
theorem sh_smb {n k : Nat} {i : Int} (h : SmB k i) (l : k ≤ 1919) : Sh n 1921 (.int i) := sh_int (Nat.lt_of_lt_of_le ((h.up l).up (show 1919 ≤ 1920 by omega) |>.log (by decide)) (by decide))
theorem shQ {n k : Nat} {q : Rat} (h : QB k q) (l : k ≤ 1919) : Sh (n + 1) 4000 (eQ q) := by
  refine sh_tup (L := 1921) (fun x hx => ?_) (by simp)
  have : x = .int q.num ∨ x = .int (q.den : Int) := by simpa using hx
  rcases this with rfl | rfl
  · exact sh_smb h.nm l
  · exact sh_smb h.dn l
end PU
set_option Elab.async false
set_option linter.all false
set_option maxRecDepth 100000
set_option exponentiation.threshold 100000
namespace PU
open PySem PySem.Spec L2 StX RZ
set_option autoImplicit false
theorem upto3 : upto 0 (3 : Int).toNat = [.int 0, .int 1, .int 2] := by simp [upto, List.range_succ]
theorem rep2 {L : Nat} {x y : D} {P : D → D → Prop} (h : Sh 64 L x) (hL : L ≤ 16000000) (e : x = y) (q : P (.str x.py.shown) (.str x.py.shown)) : dRepr [x] fun a => dRepr [y] fun b => P a b := by
  subst e
  exact rep_go h hL (rep_go h hL q)
theorem mem5 {x a b c d e : Int} (h : x ∈ [a, b, c, d, e]) : x = a ∨ x = b ∨ x = c ∨ x = d ∨ x = e := by simpa using h
theorem sg_num (a : Rat) : ((if 0 < a.num then (1 : Int) else 0) - if a.num < 0 then 1 else 0) = sgQ a := by
  have := sgn_tests a.num
  simp at this
  rw [this]
  unfold sgQ
  simp only [num_pos_iff, num_neg_iff]
theorem sg_cross (a b : Rat) : ((if b.num * a.den < a.num * b.den then (1 : Int) else 0) - if a.num * b.den - b.num * a.den < 0 then 1 else 0) = sgQ (a - b) := by
  have h := sgn_tests (a.num * b.den - b.num * a.den)
  have e1 : (0 < a.num * b.den - b.num * a.den) = (b.num * a.den < a.num * b.den) := by apply propext; omega
  have e2 : (a.num * b.den - b.num * a.den < 0) = (a.num * b.den < b.num * a.den) := by apply propext; omega
  simp only [e1] at h
  simp at h
  rw [h]
  unfold sgQ
  have e3 : (0 < a - b) = (b.num * a.den < a.num * b.den) := by
    apply propext; rw [← Rat.lt_iff_sub_pos, Rat.lt_iff]
  have e4 : (a - b < 0) = (a.num * b.den - b.num * a.den < 0) := by
    rw [e2]
    apply propext
    rw [← Rat.lt_iff]
    constructor
    · intro h
      exact (Rat.lt_iff_sub_pos a b).mpr (by grind)
    · intro h; grind
  simp only [e3, e4]
theorem sgQ_le (q : Rat) : (sgQ q).natAbs ≤ 1 := by
  unfold sgQ; split
  · decide
  · split <;> decide
theorem sgQ_self (z : Rat) : sgQ (z - z) = 0 := by
  have : z - z = 0 := by grind
  rw [this]; rfl
theorem lap_turn {A : AEnds} (hT : ∀ (v2 : AV) (x3 : D) (v4 v5 v6 v7 v8 v9 v10 v11 v12 : AV), A.nx [.un, .src, v2, .dat x3, v4, v5, v6, v7, v8, v9, v10, v11, v12, .un, .un, .un, .un, .un, .un, .un, .un, .un, .un]) (v2 v3 v4 v5 v6 v7 v8 v9 v10 v11 v12 : AV) :
    b_law_2 A [.un, .src, v2, v3, v4, v5, v6, v7, v8, v9, v10, v11, v12, .un, .un, .un, .un, .un, .un, .un, .un, .un, .un] := by
  unfold b_law_2
  refine seq_cut fun T h => ?_
  simp [upto3, upto, List.range_succ, aLcL, lg_law_1, le_law_1, Small, S__law_fraction]
  intro x hx
  refine ⟨line_ok (by decide), fun y hy => ⟨line_ok (by decide), fun z hz => ⟨line_ok (by decide), ?_⟩⟩⟩
  refine h _ ?_; clear h T
  refine seq_cut fun T h => ?_
  simp [dPow_int]
  refine ⟨pow_ok (by decide) (by decide) (by decide), line_ok (by decide), ?_⟩
  refine of_ints (l := [1, -1, 6, -35, 10 ^ 12]) (k := 0) (by simp) (by decide) fun t ht => ?_
  have t0 : t ≠ 0 := by rcases mem5 ht with rfl | rfl | rfl | rfl | rfl <;> decide
  have tb : SmB 40 t := by rcases mem5 ht with rfl | rfl | rfl | rfl | rfl <;> (unfold SmB; decide)
  refine h _ ?_; clear h T ht
  refine seq_cut fun T h => ?_
  simp [eQ_0, eQ_1, dMul_int]
  refine ⟨hx.nm.mulOk tb (by decide), hx.dn.mulOk tb (by decide), _, _, rfl, Int.mul_ne_zero (den_ne x) t0, gcd_log (Int.mul_ne_zero (den_ne x) t0) (hx.dn.mul tb) (by decide), ?_⟩
  rw [Rat.divInt_mul_right t0, Rat.num_divInt_den]
  refine rep2 (shQ hx (by decide)) (by decide) rfl ?_
  show ite _ _ _
  rw [if_pos rfl]
  refine h _ ?_; clear h T
  -- sum
  have hxy := hx.add hy
  refine seq_cut fun T h => ?_
  simp
  refine ⟨x, y, rfl, hx.up (by decide), hy.up (by decide), ?_⟩
  refine rep_go (shQ hxy (by decide)) (by decide) ?_
  refine ⟨x, y, rfl, hx.up (by decide), hy.up (by decide), ?_⟩
  refine rep_go (shQ hxy (by decide)) (by decide) ?_
  simp
  refine h _ ?_; clear h T
  -- back
  refine seq_cut fun T h => ?_
  simp [eQ_0, eQ_1, dMul_int]
  have eneg : D.tup [.int (-y.num), .int (y.den : Int)] = eQ (-y) := by unfold eQ; rw [Rat.neg_num, Rat.neg_den]
  rw [eneg]
  refine ⟨two_line, h _ ?_⟩; clear h T
  -- less
  have hxs := hx.sub hy
  refine seq_cut fun T h => ?_
  simp
  refine ⟨x, y, rfl, hx.up (by decide), hy.up (by decide), ?_⟩
  refine rep_go (shQ hxs (by decide)) (by decide) ?_
  refine ⟨x, -y, rfl, hx.up (by decide), hy.neg.up (by decide), ?_⟩
  rw [← Rat.sub_eq_add_neg]
  refine rep_go (shQ hxs (by decide)) (by decide) ?_
  simp
  refine h _ ?_; clear h T
  -- both
  have hxm := hx.mul hy
  refine seq_cut fun T h => ?_
  simp
  refine ⟨x, y, rfl, hx.up (by decide), hy.up (by decide), ?_⟩
  refine h _ ?_; clear h T
  refine seq_cut fun T h => ?_
  simp
  refine rep_go (shQ hxm (by decide)) (by decide) ?_
  refine ⟨x, y, rfl, hx.up (by decide), hy.up (by decide), ?_⟩
  refine rep_go (shQ hxm (by decide)) (by decide) ?_
  simp
  refine h _ ?_; clear h T
  -- over
  refine seq_cut fun T h => ?_
  simp [eQ_0, eQ_1, dMul_int]
  have fin : T [.un, .src, v2, .dat (eQ x), .dat (eQ y), .dat (eQ z), .dat (.int t), .dat (eQ (-y)), .dat (eQ (x * y)), v9, v10, v11, v12, .un, .un, .un, .un, .un, .un, .un, .un, .un, .un] := by
    refine h _ ?_; clear h T
    -- thirds
    refine seq_cut fun T h => ?_
    simp
    refine ⟨x, z, rfl, hx.up (by decide), hz.up (by decide), y, z, rfl, hy.up (by decide), hz.up (by decide), _, _, rfl, (hx.mul hz).up (by decide), (hy.mul hz).up (by decide), ?_⟩
    refine rep_go (shQ ((hx.mul hz).add (hy.mul hz)) (by decide)) (by decide) ?_
    refine ⟨x, y, rfl, hx.up (by decide), hy.up (by decide), _, z, rfl, hxy.up (by decide), hz.up (by decide), ?_⟩
    rw [Rat.add_mul]
    refine rep_go (shQ ((hx.mul hz).add (hy.mul hz)) (by decide)) (by decide) ?_
    simp
    refine h _ ?_; clear h T
    -- small
    refine seq_cut fun T h => ?_
    simp [dPow_int]
    refine ⟨pow_ok (by decide) (by decide) (by decide), line_ok (by decide), ?_⟩
    refine of_ints (l := [0, 1, -1, 2, -3, 10 ^ 9]) (k := 0) (by simp) (by decide) fun a ha => ?_
    have ab : SmB 30 a := by
      simp only [List.mem_cons, List.not_mem_nil, or_false] at ha
      rcases ha with rfl | rfl | rfl | rfl | rfl | rfl <;> (unfold SmB; decide)
    refine ⟨pow_ok (by decide) (by decide) (by decide), line_ok (by decide), ?_⟩
    refine of_ints (l := [1, 2, 7, 10 ^ 9 + 1]) (k := 0) (by simp) (by decide) fun b hb => ?_
    have bb : SmB 30 b ∧ b ≠ 0 := by
      simp only [List.mem_cons, List.not_mem_nil, or_false] at hb
      rcases hb with rfl | rfl | rfl | rfl <;> (unfold SmB; decide)
    refine ⟨a, b, rfl, bb.2, gcd_log bb.2 bb.1 (by decide), ?_⟩
    have hw : QB 30 (Rat.divInt a b) := .told bb.2 ab bb.1
    revert hw
    generalize Rat.divInt a b = w
    intro hw
    refine h _ ?_; clear h T ab ha hb bb a b
    -- many
    refine seq_cut fun T h => ?_
    simp
    refine ⟨line_ok (by decide), ?_⟩
    refine of_ints (l := [0, 1, 2, 3, 7]) (k := 0) (by simp) (by decide) fun n hn => ?_
    have hn : ∃ m : Nat, n = (m : Int) ∧ m ≤ 7 := by
      rcases mem5 hn with rfl | rfl | rfl | rfl | rfl
      · exact ⟨0, rfl, by decide⟩
      · exact ⟨1, rfl, by decide⟩
      · exact ⟨2, rfl, by decide⟩
      · exact ⟨3, rfl, by decide⟩
      · exact ⟨7, rfl, by decide⟩
    obtain ⟨n, rfl, hn⟩ := hn
    refine h _ ?_; clear h T
    -- due
    refine seq_cut fun T h => ?_
    simp [eQ_0, eQ_1]
    refine ⟨w.num, n, 30, rfl, hw.nm, by decide, by omega, by omega, (w.den : Int), n, 30, rfl, hw.dn, by decide, by omega, by omega, ?_⟩
    have wn := hw.pow (by decide) n
    have e1 : w.num ^ n = (w ^ n).num := (Rat.num_pow _ _).symm
    have e2 : (w.den : Int) ^ n = ((w ^ n).den : Int) := by rw [Rat.den_pow, Int.natCast_pow]
    rw [e1, e2]
    refine ⟨_, _, rfl, den_ne _, gcd_log (den_ne _) wn.dn (by omega), ?_⟩
    rw [Rat.num_divInt_den]
    refine h _ ?_; clear h T
    refine seq_cut fun T h => ?_
    simp
    refine ⟨w, n, 30, rfl, hw, by decide, by omega, by decide, ?_⟩
    refine rep_go (shQ wn (by omega)) (by decide) ?_
    refine rep_go (shQ wn (by omega)) (by decide) ?_
    simp
    refine h _ ?_; clear h T
    -- signs
    refine seq_cut fun T h => ?_
    simp [eQ_0, eQ_1, dMul_int]
    refine ⟨hx.nm.mulOk hy.dn (by decide), hy.nm.mulOk hx.dn (by decide), h _ ?_⟩; clear h T
    refine seq_cut fun T h => ?_
    simp [eQ_0, eQ_1]
    rw [sg_num, sg_cross]
    refine ⟨three_line, h _ ?_⟩; clear h T
    simp
    refine ⟨x, rfl, x, y, rfl, hx.up (by decide), hy.up (by decide), z, z, rfl, hz.up (by decide), hz.up (by decide), three_line, ?_⟩
    rw [sgQ_self]
    have sh : Sh 64 10000 (.lst [.int (sgQ x), .int (sgQ (x - y)), .int 0]) := by
      refine sh_lst (L := 1921) (fun d hd => ?_) (by simp)
      have : d = .int (sgQ x) ∨ d = .int (sgQ (x - y)) ∨ d = .int 0 := by simpa using hd
      have b1 := sgQ_le x
      have b2 := sgQ_le (x - y)
      rcases this with rfl | rfl | rfl <;> (refine sh_smb (k := 1) ?_ (by decide); unfold SmB; omega)
    refine rep_go sh (by decide) ?_
    refine rep_go sh (by decide) ?_
    simp
    exact hT _ _ _ _ _ _ _ _ _ _ _
  by_cases y0 : y = 0
  · rw [if_pos y0]; exact fin
  · rw [if_neg y0]
    refine ⟨x, y, rfl, hx.up (by decide), hy.up (by decide), y0, ?_⟩
    refine rep_go (shQ (hx.div hy y0) (by decide)) (by decide) ?_
    refine ⟨hx.nm.mulOk hy.dn (by decide), hx.dn.mulOk hy.nm (by decide), _, _, rfl, Int.mul_ne_zero (den_ne x) (num_ne y0), gcd_log (Int.mul_ne_zero (den_ne x) (num_ne y0)) (hx.dn.mul hy.nm) (by decide), ?_⟩
    rw [div_told]
    refine rep_go (shQ (hx.div hy y0) (by decide)) (by decide) ?_
    show ite _ _ _
    rw [if_pos rfl]
    exact fin
end PU
set_option Elab.async false
set_option linter.all false
set_option maxRecDepth 100000
set_option exponentiation.threshold 100000
namespace PU
open PySem PySem.Spec L2 StX RZ
set_option autoImplicit false
/-! dicts with keys of one make -/
theorem tab_inj {α : Type} {f : α → NestedKey} {g : α → D} (inj : ∀ a b, f a = f b → a = b) {l : List α} {q : α} : (q ∈ l → tabD (l.map fun a => (f a, g a)) (f q) = some (g q)) ∧ (q ∉ l → tabD (l.map fun a => (f a, g a)) (f q) = none) := by
  induction l with
  | nil => exact ⟨fun h => (nomatch h), fun _ => rfl⟩
  | cons p l ih =>
    rw [List.map_cons]
    by_cases e : p = q
    · subst e
      exact ⟨fun _ => tabD_pos rfl, fun h => absurd List.mem_cons_self h⟩
    · have ne : ¬ (f p, g p).1 = f q := fun z => e (inj _ _ z)
      rw [tabD_neg ne]
      exact ⟨fun h => ih.1 ((List.mem_cons.mp h).resolve_left fun z => e z.symm), fun h => ih.2 fun z => h (List.mem_cons_of_mem _ z)⟩
theorem merge_inj {α : Type} {f : α → NestedKey} {g : α → D} (inj : ∀ a b, f a = f b → a = b) : ∀ {l acc : List α}, acc.Nodup →
    ∃ ls : List α, mergeD (acc.map fun a => (f a, g a)) (l.map fun a => (f a, g a)) = ls.map (fun a => (f a, g a)) ∧ ls.Nodup ∧ ∀ q, q ∈ ls ↔ q ∈ acc ∨ q ∈ l
  | [], acc, n => ⟨acc, rfl, n, fun q => by simp⟩
  | p :: l, acc, n => by
    obtain ⟨t1, t2⟩ := tab_inj (g := g) inj (l := acc) (q := p)
    show ∃ ls, mergeD (putD (acc.map fun a => (f a, g a)) (f p) (g p)) (l.map fun a => (f a, g a)) = _ ∧ _
    by_cases hp : p ∈ acc
    · have e : putD (acc.map fun a => (f a, g a)) (f p) (g p) = acc.map fun a => (f a, g a) := by
        unfold putD
        rw [t1 hp, if_pos (show (some (g p)).isSome = true from rfl), List.map_map]
        refine List.map_congr_left fun q hq => ?_
        show (if f q = f p then (f q, g p) else (f q, g q)) = (f q, g q)
        split
        · rename_i z
          rw [inj _ _ z]
        · rfl
      rw [e]
      obtain ⟨ls, a, b, c⟩ := merge_inj (g := g) inj (l := l) (acc := acc) n
      exact ⟨ls, a, b, fun q => by
        rw [c, List.mem_cons]
        constructor
        · rintro (x | x)
          · exact .inl x
          · exact .inr (.inr x)
        · rintro (x | x | x)
          · exact .inl x
          · exact .inl (x ▸ hp)
          · exact .inr x⟩
    · have e : putD (acc.map fun a => (f a, g a)) (f p) (g p) = (acc ++ [p]).map fun a => (f a, g a) := by
        unfold putD
        rw [t2 hp]
        simp
      rw [e]
      obtain ⟨ls, a, b, c⟩ := merge_inj (g := g) inj (l := l) (acc := acc ++ [p]) (by
        rw [List.nodup_append]
        refine ⟨n, by simp, fun x hx y hy => ?_⟩
        simp at hy
        subst hy
        rintro rfl
        exact hp hx)
      exact ⟨ls, a, b, fun q => by rw [c]; simp [or_assoc]⟩
def keyQ (q : Rat) : NestedKey := .tup [.num q.num, .num (q.den : Int)]
theorem keyQ_D (q : Rat) : keyD (keyQ q) = eQ q := rfl
theorem keyQ_inj (a b : Rat) (h : keyQ a = keyQ b) : a = b := by
  unfold keyQ at h
  injection h with h
  injection h with h1 h2
  injection h1 with h1
  injection h2 with h2 _
  injection h2 with h2
  exact Rat.ext h1 (by omega)
/-! sorted fractions -/
def leQ (p q : Rat) : Bool := decide (p.num < q.num ∨ (p.num = q.num ∧ (p.den : Int) ≤ (q.den : Int)))
theorem sort_eQ (l : List Rat) : (l.map eQ).mergeSort leD = (l.mergeSort leQ).map eQ := by
  symm
  refine List.map_mergeSort (f := eQ) fun a _ b _ => ?_
  have := congrFun (congrFun (PySem.W.dataLe_ii (fun q : Rat => q.num) (fun q : Rat => (q.den : Int))) a) b
  exact this.symm
theorem leQ_trans (a b c : Rat) (h1 : leQ a b = true) (h2 : leQ b c = true) : leQ a c = true := by
  unfold leQ at *; simp at *; omega
theorem leQ_total (a b : Rat) : (leQ a b || leQ b a) = true := by
  unfold leQ; simp; omega
theorem sort_same {l m : List Rat} (h1 : l.Nodup) (h2 : m.Nodup) (h : ∀ q, q ∈ l ↔ q ∈ m) : (l.map eQ).mergeSort leD = (m.map eQ).mergeSort leD := by
  rw [sort_eQ, sort_eQ]
  congr 1
  have p : l.Perm m := (List.perm_ext_iff_of_nodup h1 h2).mpr h
  refine List.Perm.eq_of_pairwise (le := fun a b => leQ a b = true) ?_ (List.pairwise_mergeSort (leQ_trans) (leQ_total) l) (List.pairwise_mergeSort (leQ_trans) (leQ_total) m) (((List.mergeSort_perm l leQ).trans p).trans (List.mergeSort_perm m leQ).symm)
  intro a b _ _ h1 h2
  unfold leQ at h1 h2
  simp at h1 h2
  exact Rat.ext (by omega) (by omega)
theorem shp_eQ {n : Nat} (q : Rat) : D.shp (n + 1) (eQ q) := by
  intro x hx
  have : x = .int q.num ∨ x = .int (q.den : Int) := by simpa using hx
  rcases this with rfl | rfl <;> exact shp_int _
theorem zip_asc : ∀ {r : List Rat}, r.Pairwise (· < ·) → ∀ p ∈ r.zip (r.drop 1), p.1 < p.2 ∧ p.1 ∈ r ∧ p.2 ∈ r
  | [], _, p, h => by simp at h
  | [a], _, p, h => by simp at h
  | a :: b :: l, hr, p, h => by
    have h' : p ∈ (a, b) :: (b :: l).zip ((b :: l).drop 1) := by simpa using h
    rcases List.mem_cons.mp h' with rfl | h'
    · exact ⟨(List.pairwise_cons.mp hr).1 b List.mem_cons_self, List.mem_cons_self, List.mem_cons_of_mem _ List.mem_cons_self⟩
    · obtain ⟨h1, h2, h3⟩ := zip_asc (List.pairwise_cons.mp hr).2 p h'
      exact ⟨h1, List.mem_cons_of_mem _ h2, List.mem_cons_of_mem _ h3⟩
theorem zip_eQ (r : List Rat) : zipD (r.map eQ) (cutD (r.map eQ) (some 1) none) = (r.zip (r.drop 1)).map fun p => D.tup [eQ p.1, eQ p.2] := by
  have e : cutD (r.map eQ) (some 1) none = (r.drop 1).map eQ := by
    cases r with
    | nil => rfl
    | cons a l => exact (cut_dropQ (xs := (a :: l).map eQ) (n := 1) (by simp)).trans (by simp)
  rw [e]
  unfold zipD
  rw [List.zipWith_map, List.zip, List.map_zipWith]
theorem n9 : PySem.intText? (repS (Str.ofString "9") 300) = some (10 ^ 300 - 1) := by decide +kernel
theorem sh_told {n : Nat} : Sh n 100 (.str "told") := ⟨by cases n <;> (show PyData.strOk _ = true; decide +kernel), by decide +kernel, by decide +kernel⟩
theorem sh_great {n : Nat} : Sh n 100 (.str "great") := ⟨by cases n <;> (show PyData.strOk _ = true; decide +kernel), by decide +kernel, by decide +kernel⟩
theorem eqv_all_self : ∀ {xs : List D}, (∀ x ∈ xs, eqD x x = true) → PyData.eqvAll (D.pys xs) (D.pys xs) = true
  | [], _ => rfl
  | x :: xs, h => by
    have h1 : PyData.eqv x.py x.py = true := h x List.mem_cons_self
    have h2 := eqv_all_self fun y hy => h y (List.mem_cons_of_mem x hy)
    show PyData.eqvAll (x.py :: D.pys xs) (x.py :: D.pys xs) = true
    rw [PyData.eqvAll, h1, h2]; rfl
theorem eqD_lst_self {xs : List D} (h : ∀ x ∈ xs, eqD x x = true) : eqD (.lst xs) (.lst xs) = true := by
  show PyData.eqv (.list (D.pys xs)) (.list (D.pys xs)) = true
  rw [PyData.eqv]; exact eqv_all_self h
theorem eqD_tup_self {xs : List D} (h : ∀ x ∈ xs, eqD x x = true) : eqD (.tup xs) (.tup xs) = true := by
  show PyData.eqv (.tuple (D.pys xs)) (.tuple (D.pys xs)) = true
  rw [PyData.eqv]; exact eqv_all_self h
theorem eqD_eQ (q : Rat) : eqD (eQ q) (eQ q) = true := by
  refine eqD_tup_self fun x hx => ?_
  have : x = .int q.num ∨ x = .int (q.den : Int) := by simpa using hx
  rcases this with rfl | rfl <;> simp [eqD_int]
end PU
set_option Elab.async false
set_option linter.all false
set_option maxRecDepth 100000
set_option exponentiation.threshold 100000
namespace PU
open PySem PySem.Spec L2 StX RZ
set_option autoImplicit false
theorem in_intsQ (s : Int) : ∀ ws : List Int, inD (.int s) (ws.map .int) = ws.contains s
  | [] => rfl
  | w :: ws => by
    have ih := in_intsQ s ws
    show (eqD (.int w) (.int s) || inD (.int s) (ws.map .int)) = (s == w || ws.contains s)
    rw [ih, eqD_int]
    congr 1
    rw [Bool.eq_iff_iff]
    simp
    exact eq_comm
theorem nine_turn {A : AEnds} {v2 v3 v4 v5 v6 v7 v8 v9 v10 v11 v12 v13 v14 v15 v16 v17 v18 v19 v22 : AV} {is : List Int} {M : Int} (hl : is.length ≤ 10) (hb : ∀ i ∈ is, SmB 1000 i) (hm : is.contains M = is.any isLong)
    (hT : ∀ v11, A.nx [.un, .src, v2, v3, v4, v5, v6, v7, v8, v9, v10, v11, v12, v13, v14, v15, v16, v17, v18, v19, .dat (.int M), .dat (.tup (is.map .int)), v22]) :
    b_law_7 A [.un, .src, v2, v3, v4, v5, v6, v7, v8, v9, v10, v11, v12, v13, v14, v15, v16, v17, v18, v19, .dat (.int M), .dat (.tup (is.map .int)), v22] := by
  unfold b_law_7
  refine seq_cut fun T h => ?_
  simp [dIn]
  rw [in_intsQ, hm]
  have shl : ∀ i ∈ is.map D.int, Sh 62 1921 i := fun d hd => by
    obtain ⟨i, hi, rfl⟩ := List.mem_map.mp hd
    exact sh_smb (hb i hi) (by decide)
  have sht : Sh 63 30000 (.tup (is.map .int)) := sh_tup shl (by rw [List.length_map]; have : is.length * 1921 ≤ 10 * 1921 := Nat.mul_le_mul_right _ hl; omega)
  have sh1 : Sh 64 70000 (.tup [.str "told", .tup (is.map .int)]) := sh_tup (L := 30000) (fun d hd => by
    have : d = .str "told" ∨ d = .tup (is.map .int) := by simpa using hd
    rcases this with rfl | rfl
    · exact sh_told.up (by decide)
    · exact sht) (by simp)
  have sh2 : Sh 64 70000 (.tup [.str "great", .int 2]) := sh_tup (L := 30000) (fun d hd => by
    have : d = .str "great" ∨ d = .int 2 := by simpa using hd
    rcases this with rfl | rfl
    · exact sh_great.up (by decide)
    · exact (sh_int (by decide)).up (by decide)) (by simp)
  by_cases hn : is.any isLong = true
  · rw [if_pos hn]
    refine ⟨two_line, h _ ?_⟩; clear h T
    simp
    refine ⟨is, rfl, by omega, fun z => absurd hn (by rw [z]; decide), fun _ => ?_⟩
    refine rep_go sh2 (by decide) ?_
    refine rep_go sh2 (by decide) ?_
    simp
    exact hT _
  · rw [if_neg hn]
    refine ⟨two_line, h _ ?_⟩; clear h T
    simp
    refine ⟨is, rfl, by omega, fun _ => ?_, fun z => absurd z hn⟩
    refine rep_go sh1 (by decide) ?_
    refine rep_go sh1 (by decide) ?_
    simp
    exact hT _
theorem big_any {N s : Int} (hs : s = 1 ∨ s = -1) (h0 : 0 < N) (h1 : ¬ 10 ^ 300 ≤ N.natAbs) (h2 : 10 ^ 300 ≤ (N + 1).natAbs) :
    isLong (N * s) = false ∧ isLong (N * s + s) = true ∧ isLong 0 = false ∧ isLong 1 = false ∧ isLong 7 = false := by
  unfold isLong
  rcases hs with rfl | rfl
  · refine ⟨?_, ?_, ?_, ?_, ?_⟩
    · rw [Int.mul_one]; simpa using h1
    · rw [Int.mul_one]; simpa using h2
    all_goals decide
  · refine ⟨?_, ?_, ?_, ?_, ?_⟩
    · rw [Int.mul_neg, Int.mul_one, Int.natAbs_neg]; simpa using h1
    · rw [Int.mul_neg, Int.mul_one, ← Int.neg_add, Int.natAbs_neg]; simpa using h2
    all_goals decide
end PU
set_option Elab.async false
set_option linter.all false
set_option maxRecDepth 100000
set_option exponentiation.threshold 100000
namespace PU
open PySem PySem.Spec L2 StX RZ
set_option autoImplicit false
/-! draws -/
theorem draws {v3 v4 v5 v6 v7 v8 v9 v10 v11 v12 v2 : AV} {Q : List D → List AV → Prop} : ∀ (ds : List D) (acc : List Rat), acc.length + ds.length ≤ 16000000 → (∀ q ∈ acc, QB 203 q) →
    (∀ l : List Rat, l.length = acc.length + ds.length → (∀ q ∈ l, QB 203 q) → Q (l.map eQ) [.un, .src, v2, v3, v4, v5, v6, v7, v8, v9, v10, v11, v12, .un, .un, .un, .un, .un, .un, .un, .un, .un, .un]) →
    aLcL lg_law_3 aYes le_law_3 [22] ds (acc.map eQ) [.un, .src, v2, v3, v4, v5, v6, v7, v8, v9, v10, v11, v12, .un, .un, .un, .un, .un, .un, .un, .un, .un, .un] Q
  | [], acc, _, ha, h => h acc rfl ha
  | d :: ds, acc, hl, ha, h => by
    unfold aLcL
    simp [lg_law_3, le_law_3, S__law_fraction]
    intro q hq
    simp at hl
    refine ⟨line_ok (by omega), ?_⟩
    have := draws ds (acc ++ [q]) (by simp; omega) (fun p hp => by
      rcases List.mem_append.mp hp with hp | hp
      · exact ha p hp
      · rw [List.mem_singleton.mp hp]; exact hq) (fun l hl' hq' => h l (by simp at hl' ⊢; omega) hq')
    simpa using this
theorem laps {A : AEnds} (h : ∀ (v2 : AV) (x3 : D) (v4 v5 v6 v7 v8 v9 v10 v11 v12 : AV), A.nx [.un, .src, v2, .dat x3, v4, v5, v6, v7, v8, v9, v10, v11, v12, .un, .un, .un, .un, .un, .un, .un, .un, .un, .un]) :
    ∀ (ds : List D) (d : D) (v2 v3 v4 v5 v6 v7 v8 v9 v10 v11 v12 : AV), aForL g_law_2 b_law_2 (d :: ds) A [.un, .src, v2, v3, v4, v5, v6, v7, v8, v9, v10, v11, v12, .un, .un, .un, .un, .un, .un, .un, .un, .un, .un]
  | ds, d, v2, v3, v4, v5, v6, v7, v8, v9, v10, v11, v12 => by
    rw [aForL_cons]
    simp [g_law_2]
    refine lap_turn (fun v2 x3 v4 v5 v6 v7 v8 v9 v10 v11 v12 => ?_) _ _ _ _ _ _ _ _ _ _ _
    cases ds with
    | nil => exact h _ _ _ _ _ _ _ _ _ _ _
    | cons d ds => exact laps h ds d v2 (.dat x3) v4 v5 v6 v7 v8 v9 v10 v11 v12
theorem lcm_loop {A : AEnds} {v2 v3 v4 v5 v6 v7 v8 v9 v10 v11 v12 v13 v14 : AV} : ∀ {l : List Rat} {n j : Nat} {v16 v17 : AV}, 0 < n → n < 2 ^ j → (∀ q ∈ l, QB 203 q) → j + 203 * l.length ≤ 9000 →
    (∀ v16 v17, A.nx [.un, .src, v2, v3, v4, v5, v6, v7, v8, v9, v10, v11, v12, v13, v14, .dat (.int ((l.foldl (fun n q => Nat.lcm n q.den) n : Nat) : Int)), v16, v17, .un, .un, .un, .un, .un]) →
    aForL g_law_4 b_law_4 (l.map eQ) A [.un, .src, v2, v3, v4, v5, v6, v7, v8, v9, v10, v11, v12, v13, v14, .dat (.int (n : Int)), v16, v17, .un, .un, .un, .un, .un]
  | [], n, j, v16, v17, _, _, _, _, h => h _ _
  | q :: l, n, j, v16, v17, h0, hn, hq, hl, h => by
    have hd : q.den < 2 ^ 203 := by
      have := (hq q List.mem_cons_self).dn
      unfold SmB at this
      simpa using this
    rw [List.map_cons, aForL_cons]
    have hl' : j + 203 * (l.length + 1) ≤ 9000 := hl
    have bn : SmB j (n : Int) := smB_nat hn
    have bd : SmB 203 (q.den : Int) := smB_nat hd
    have g0 : 0 < Nat.gcd n q.den := Nat.gcd_pos_of_pos_left _ h0
    have gl : Nat.gcd n q.den ≤ q.den := Nat.le_of_dvd q.den_pos (Nat.gcd_dvd_right _ _)
    simp [g_law_4, b_law_4, eQ, dMul_int]
    refine ⟨bn.mulOk bd (by omega), _, _, rfl, ?_⟩
    have e : ((n : Int) * (q.den : Int)).fdiv ((Nat.gcd n q.den : Nat) : Int) = ((Nat.lcm n q.den : Nat) : Int) := by
      rw [Int.fdiv_eq_ediv_of_nonneg _ (by omega)]
      unfold Nat.lcm
      rw [Int.natCast_ediv, Int.natCast_mul]
    refine ⟨⟨by simp; omega, ?_⟩, ?_⟩
    · have : SmB 203 ((Nat.gcd n q.den : Nat) : Int) := smB_nat (Nat.lt_of_le_of_lt gl hd)
      exact (this.up (show 203 ≤ 9000 by decide)).log (by decide)
    · have := lcm_loop (A := A) (v2 := v2) (v3 := v3) (v4 := v4) (v5 := v5) (v6 := v6) (v7 := v7) (v8 := v8) (v9 := v9) (v10 := v10) (v11 := v11) (v12 := v12) (v13 := v13) (v14 := v14) (l := l) (n := Nat.lcm n q.den) (j := j + 203) (v16 := .dat (.int q.num)) (v17 := .dat (.int (q.den : Int))) (Nat.lcm_pos h0 q.den_pos) (by
        refine Nat.lt_of_le_of_lt (lcm_le_mul h0) ?_
        rw [Nat.pow_add]
        exact Nat.mul_lt_mul'' hn hd) (fun p hp => hq p (List.mem_cons_of_mem _ hp)) (by omega) h
      rw [← e] at this
      exact this
theorem nine_loop {A : AEnds} {v2 v3 v4 v5 v6 v7 v8 v9 v10 v12 v13 v14 v15 v16 v17 v18 v19 v22 : AV} {M : Int} (hT : ∀ v11 v21, A.nx [.un, .src, v2, v3, v4, v5, v6, v7, v8, v9, v10, v11, v12, v13, v14, v15, v16, v17, v18, v19, .dat (.int M), v21, v22]) :
    ∀ (ls : List (List Int)) (v11 v21 : AV), (∀ is ∈ ls, is.length ≤ 10 ∧ (∀ i ∈ is, SmB 1000 i) ∧ is.contains M = is.any isLong) →
      aForL g_law_7 b_law_7 (ls.map fun is => .tup (is.map .int)) A [.un, .src, v2, v3, v4, v5, v6, v7, v8, v9, v10, v11, v12, v13, v14, v15, v16, v17, v18, v19, .dat (.int M), v21, v22]
  | [], v11, v21, _ => hT _ _
  | is :: ls, v11, v21, h => by
    obtain ⟨h1, h2, h3⟩ := h is List.mem_cons_self
    rw [List.map_cons, aForL_cons]
    simp only [g_law_7, gSet]
    exact nine_turn h1 h2 h3 fun v11 => nine_loop hT ls v11 _ fun js hj => h js (List.mem_cons_of_mem _ hj)
theorem depth_eQ (q : Rat) : (eQ q).py.depth = 1 := rfl
theorem depth_keyQ (q : Rat) : (keyQ q).depth = 1 := rfl
theorem law_holds : runL N_law d_law := by
  unfold d_law N_law runL
  refine seq_cut fun T h => ?_
  simp [upto3, upto, List.range_succ, -aForL_cons]
  refine ⟨by unfold Small; decide, laps (fun v2 x3 v4 v5 v6 v7 v8 v9 v10 v11 v12 => ?_) _ _ _ _ _ _ _ _ _ _ _ _ _⟩
  refine h _ ?_; clear h T
  -- the draws
  refine seq_cut fun T h => ?_
  simp
  refine ⟨_, rfl, by decide, by decide, fun k k0 k1 => ?_⟩
  refine ⟨by unfold Small; omega, ?_⟩
  refine draws (upto 0 k.toNat) [] (by simp [upto]; omega) (fun q hq => nomatch hq) fun l hl hq => ?_
  have hl6 : l.length ≤ 6 := by simp [upto] at hl; omega
  refine h _ ?_; clear h T
  refine seq_cut fun T h => ?_
  simp [dCut]
  have ct : cutD (l.map eQ) none (some 2) = (l.take 2).map eQ := (cut_toQ (n := 2)).trans (by rw [List.map_take])
  rw [ct]
  refine ⟨line_ok (by simp; omega), ?_⟩
  rw [← List.map_append]
  have h2 : ∀ q ∈ l ++ l.take 2, QB 203 q := fun q h => by
    rcases List.mem_append.mp h with h | h
    · exact hq q h
    · exact hq q (List.mem_of_mem_take h)
  have h3 : (l ++ l.take 2).length ≤ 8 := by simp; omega
  revert h2 h3
  generalize l ++ l.take 2 = m
  intro hm ml
  refine h _ ?_; clear h T ct hl6 hq hl l
  -- bottom
  refine seq_cut fun T h => ?_
  simp
  refine ⟨_, m, 203, rfl, .inr rfl, hm, by decide, by omega, ?_⟩
  refine h _ ?_; clear h T
  refine seq_cut fun T h => ?_
  simp
  refine h _ ?_; clear h T
  refine seq_cut fun T h => ?_
  simp [-aForL_cons]
  refine lcm_loop (n := 1) (j := 1) (by decide) (by decide) hm (by omega) fun v16 v17 => ?_
  refine h _ ?_; clear h T
  refine seq_cut fun T h => ?_
  have ld : (m.foldl (fun n q => Nat.lcm n q.den) 1 : Nat) = lcmD m := rfl
  rw [ld]
  simp
  refine h _ ?_; clear h T ld
  -- told
  refine seq_cut fun T h => ?_
  simp
  refine ⟨_, m, 203, rfl, .inr rfl, hm, by decide, by omega, by omega, fun r r1 r2 => ?_⟩
  refine h _ ?_; clear h T
  have rn : r.Nodup := r1.imp fun {a b} h e => by subst e; exact absurd h (Rat.lt_irrefl)
  refine seq_cut fun T h => ?_
  simp
  refine ⟨r.map eQ, rfl, ?_, ?_, ?_, ?_⟩
  · intro x hx
    obtain ⟨q, _, rfl⟩ := List.mem_map.mp hx
    exact ⟨rfl, by rw [depth_eQ]; decide⟩
  · have e : (r.map eQ).map D.py = r.map fun q => (eQ q).py := by rw [List.map_map]; rfl
    rw [e]
    exact PySem.W.AllAlike.of fun a b => rfl
  · have e : (r.map eQ).map D.py = r.map fun q => (eQ q).py := by rw [List.map_map]; rfl
    rw [e]
    exact PySem.W.Sortable.tuples fun b => ⟨_, _, rfl⟩
  refine lc_map (l := m) (en := eQ) (f := fun q => pairD (keyQ q, .int 0)) rfl (fun p hp C C' k1 k2 => ?_) (by omega) ?_
  · have := k1 rfl
    simp [lg_law_5, le_law_5]
    exact ⟨two_line, this⟩
  obtain ⟨ls, a1, a2, a3⟩ := merge_inj (f := keyQ) (g := fun _ => D.int 0) keyQ_inj (l := m) (acc := []) List.nodup_nil
  have ek : (ls.map fun q => (keyQ q, D.int 0)).map (fun p => keyD p.1) = ls.map eQ := by rw [List.map_map]; rfl
  have ekp : (ls.map fun q => (keyQ q, D.int 0)).map (fun p => (keyD p.1).py) = ls.map fun q => (eQ q).py := by rw [List.map_map]; rfl
  refine ⟨m.map fun q => (keyQ q, .int 0), by rw [List.map_map]; rfl, fun p hp => ?_, .inl fun p hp => ?_, ?_⟩
  · obtain ⟨q, _, rfl⟩ := List.mem_map.mp hp
    exact ⟨rfl, by rw [depth_keyQ]; decide⟩
  · obtain ⟨q, _, rfl⟩ := List.mem_map.mp hp
    rfl
  have a1' : mergeD [] (m.map fun q => (keyQ q, D.int 0)) = ls.map fun q => (keyQ q, D.int 0) := a1
  rw [a1']
  refine ⟨_, rfl, ?_, ?_, ?_⟩
  · rw [ekp]
    exact PySem.W.AllAlike.of fun a b => rfl
  · rw [ekp]
    exact PySem.W.Sortable.tuples fun b => ⟨_, _, rfl⟩
  rw [ek, sort_same a2 rn fun q => by rw [a3, r2]; simp]
  have shp : D.shp 64 (.lst ((r.map eQ).mergeSort leD)) := by
    rw [shp64_lst]
    intro x hx
    obtain ⟨q, _, rfl⟩ := List.mem_map.mp (List.mem_mergeSort.mp hx)
    exact shp_eQ q
  have rl : r.length ≤ 8 := Nat.le_trans (List.Nodup.length_le_of_subset rn fun q hq => (r2 q).mp hq) ml
  refine ⟨shp, shp, ?_⟩
  rw [eqD_lst_self fun x hx => by
    obtain ⟨q, _, rfl⟩ := List.mem_map.mp (List.mem_mergeSort.mp hx)
    exact eqD_eQ q]
  simp
  refine h _ ?_; clear h T shp a1' ekp ek a3 a2 a1 ls
  refine seq_cut fun T h => ?_
  simp [dCut]
  rw [zip_eQ]
  refine lc_go (l := r.zip (r.drop 1)) (p := fun _ => false) (en := fun p => D.tup [eQ p.1, eQ p.2]) (f := fun _ => .int 1) rfl (fun p hp C C' k1 k2 => ?_) (by simp; omega) ?_
  · have := k2 rfl
    obtain ⟨z1, z2, z3⟩ := zip_asc r1 p hp
    have b1 := hm _ ((r2 _).mp z2)
    have b2 := hm _ ((r2 _).mp z3)
    have z4 := (Rat.lt_iff _ _).mp z1
    simp [lg_law_6, lt_law_6, le_law_6, eQ_0, eQ_1, dMul_int]
    refine ⟨b1.nm.mulOk b2.dn (by decide), b2.nm.mulOk b1.dn (by decide), ?_⟩
    rw [if_neg (by omega)]
    exact this
  have f0 : ((r.zip (r.drop 1)).filter fun _ => false).map (fun _ => D.int 1) = [] := by simp
  rw [f0]
  refine ⟨?_, ?_, ?_⟩
  · rw [shp64_lst]; intro x hx; cases hx
  · rw [shp64_lst]; intro x hx; cases hx
  rw [eqD_lst_self fun x hx => by cases hx]
  simp
  refine h _ ?_; clear h T f0
  -- nines
  refine seq_cut fun T h => ?_
  simp [dRepS, dIntS]
  refine ⟨by decide +kernel, by decide +kernel, line_ok (by decide +kernel), _, n9, by decide +kernel, two_line, ?_⟩
  have N0 : (0 : Int) < 10 ^ 300 - 1 := by decide
  have N1 : ¬ 10 ^ 300 ≤ ((10 : Int) ^ 300 - 1).natAbs := by decide
  have N2 : 10 ^ 300 ≤ ((10 : Int) ^ 300 - 1 + 1).natAbs := by decide
  have N3 : SmB 998 ((10 : Int) ^ 300 - 1) := by unfold SmB; decide
  revert N0 N1 N2 N3
  generalize ((10 : Int) ^ 300 - 1) = N
  intro N0 N1 N2 N3
  refine of_ints (l := [1, -1]) (k := 0) (by simp) (by decide) fun s hs => ?_
  have hs : s = 1 ∨ s = -1 := by simpa using hs
  have sb : SmB 1 s := by rcases hs with rfl | rfl <;> (unfold SmB; decide)
  rw [dMul_int]
  refine ⟨N3.mulOk sb (by decide), h _ ?_⟩; clear h T
  have Nb := N3.mul sb
  have pos : (0 < N * s) ↔ s = 1 := by rcases hs with rfl | rfl <;> (constructor <;> intro h <;> omega)
  obtain ⟨L1, L2, L3, L4, L5⟩ := big_any hs N0 N1 N2
  have ne' : ∀ x : Int, isLong x = false → ¬ (N * s + s = x) := fun x hx => by
    rintro rfl; rw [L2] at hx; cases hx
  have s1000 : ∀ x : Int, x = 0 ∨ x = 1 ∨ x = 7 → SmB 1000 x := fun x hx => by rcases hx with rfl | rfl | rfl <;> (unfold SmB; decide)
  have Ns : SmB 1000 (N * s) := Nb.up (by decide)
  have Ms : SmB 1000 (N * s + s) := (Nb.add (sb.up (by decide))).up (by decide)
  refine seq_cut fun T h => ?_
  simp
  have fin : T [.un, .src, v2, .dat x3, v4, v5, v6, v7, v8, v9, v10, v11, v12, .dat (.lst (m.map eQ)), .dat (.int (lcmD m)), .dat (.int (lcmD m)), v16, v17, .dat (.tup (r.map eQ)), .dat (.int (N * s)), .dat (.int (N * s + s)), .un, .un] := by
    refine h _ ?_; clear h T
    refine seq_cut fun T h => ?_
    simp [-aForL_cons]
    refine ⟨line_ok (by decide), three_line, line_ok (by decide), two_line, line_ok (by decide), ?_⟩
    refine nine_loop (A := { nx := T, rt := fun d => d = D.bl true }) (fun v11 v21 => ?_) [[N * s], [0, N * s, 7], [N * s + s], [1, N * s + s], []] _ _ fun is hi => ?_
    · exact h _ rfl
    · have hi : is = [N * s] ∨ is = [0, N * s, 7] ∨ is = [N * s + s] ∨ is = [1, N * s + s] ∨ is = [] := by simpa using hi
      rcases hi with rfl | rfl | rfl | rfl | rfl
      · refine ⟨by simp, fun i hi => ?_, ?_⟩
        · rw [List.mem_singleton.mp hi]; exact Ns
        · simp [L1, ne' _ L1]
      · refine ⟨by simp, fun i hi => ?_, ?_⟩
        · have : i = 0 ∨ i = N * s ∨ i = 7 := by simpa using hi
          rcases this with rfl | rfl | rfl
          · exact s1000 _ (.inl rfl)
          · exact Ns
          · exact s1000 _ (.inr (.inr rfl))
        · simp [L1, L3, L5, ne' _ L1, ne' _ L3, ne' _ L5]
      · refine ⟨by simp, fun i hi => ?_, ?_⟩
        · rw [List.mem_singleton.mp hi]; exact Ms
        · simp [L2]
      · refine ⟨by simp, fun i hi => ?_, ?_⟩
        · have : i = 1 ∨ i = N * s + s := by simpa using hi
          rcases this with rfl | rfl
          · exact s1000 _ (.inr (.inl rfl))
          · exact Ms
        · simp [L2]
      · exact ⟨by simp, fun i hi => by (cases hi), rfl⟩
  by_cases h0 : 0 < N * s
  · rw [if_pos h0]
    have e := pos.mp h0
    rw [e] at fin ⊢
    exact fin
  · rw [if_neg h0]
    have e : s = -1 := hs.resolve_left fun z => h0 (pos.mpr z)
    rw [e] at fin ⊢
    exact fin
end PU
set_option Elab.async false
set_option linter.all false
set_option maxRecDepth 100000
namespace PU
open PySem PySem.Spec L2 StX RZ
set_option autoImplicit false
def top (i : Nat) : Stmt := PySem.Challenge.pw_overtakings_k07_fractions.main.body.getD i (.Pass ⟨0, 0, 0, 0⟩)
/-- what the top has written -/
structure Txt (P : Program) (K : PySem.W.Frag) (mg : Str → Option Value) (base : Heap) (ec : Str → Option Addr) (xc fa : Str → Addr) : Prop where
  m_abs : mg "abs" = none
  m_any : mg "any" = none
  m_dict : mg "dict" = none
  m_gcd : mg "gcd" = some (.builtin "math.gcd")
  m_int : mg "int" = none
  m_len : mg "len" = none
  m_max : mg "max" = none
  m_range : mg "range" = none
  m_repr : mg "repr" = none
  m_sorted : mg "sorted" = none
  m_str : mg "str" = none
  m_tuple : mg "tuple" = none
  m_zip : mg "zip" = none
  c_SURE_BITS : ∃ t, mg "SURE_BITS" = some (.int 997 t)
  c_MOST_FIGURES : ∃ t, mg "MOST_FIGURES" = some (.int 300 t)
  c_LONG_NUMBER : ∃ t, mg "LONG_NUMBER" = some (.int 2 t)
  c_WHOLE : mg "WHOLE" = some (.ref (fa "WHOLE")) ∧ ∀ F, DP K F (.ref (fa "WHOLE")) D_WHOLE
  x_TooGreat : Exc1 P K mg base "TooGreat" "number" (xc "TooGreat")
  e_TooGreat : ec "TooGreat" = some (xc "TooGreat")
  xm_TooGreat : XmOk K ec (.ref (xc "TooGreat")) (fun n => n == "TooGreat")
/-! ### the source is made -/
def N__law_source : List Str := ["script", "mixed", "cell"]
abbrev st__law_source : Stmt := top 24
theorem sc__law_source : FnScope N__law_source ["script"] (defScope st__law_source) := ⟨rfl, rfl, rfl, by decide +kernel, rfl, by decide +kernel, by decide +kernel⟩
def absI (i : Int) : Int := if i < 0 then -i else i
theorem absI_nn (i : Int) : 0 ≤ absI i := by unfold absI; split <;> omega
theorem fmod_src (z : Int) : 0 ≤ z.fmod 2147483629 ∧ z.fmod 2147483629 < 2147483629 := by
  rw [Int.fmod_eq_emod_of_nonneg _ (by decide)]
  exact ⟨Int.emod_nonneg _ (by decide), Int.emod_lt_of_pos _ (by decide)⟩
section
variable {P : Program} {w : World} {K : PySem.W.Frag} {mg : Str → Option Value} {base : Heap}
theorem fn_source (m_int : mg "int" = none) (m_abs : mg "abs" = none) {f : Addr} {fd : FuncData} (F : L2.Fun K "_law_source" "_law_source" st__law_source f fd) : FnG P w K mg base 2 f fd ["script"] (spSrc K) := by
  have hbi : bootBuiltins "int" = some (.type "int") := by decide +kernel
  have hba : bootBuiltins "abs" = some (.builtin "abs") := by decide +kernel
  refine okG_of (k := 1) F sc__law_source (fun vs H Q E h => by obtain ⟨a, ns, rfl, _⟩ := h; rfl) (fun cdv A outer s H vs Q E hr h => ?_)
  obtain ⟨a, ns, rfl, hS, hl, kq⟩ := h
  refine ⟨_, pss_cons (ps_set (i := 1) sc__law_source.nd rfl (.inl rfl) pe_int)
    (pss_cons (ps_for (passes_of rfl) rfl (pi_list (pv 0)) (pg_name (i := 2) sc__law_source.nd rfl (.inl rfl))
      (pss_one (ps_set (i := 1) sc__law_source.nd rfl (.inl rfl) (pe_op op_modN (pe_callTy call_int1 (by rfl) m_int hbi (pa_cons (pe_op op_add (pe_op op_add (pe_op op_mul (pv 1) pe_int) (pe_op op_mul (pv 2) pe_int)) pe_int) pa_nil)) pe_int))))
    (pss_one (ps_ret (pe_disp (pps_cons pe_str (pe_revL (pe_lc (own := [("cell", 2)]) (g := gName 2) (tt := tYes) rfl sc__law_source.nd (pi_list (pv 0)) (blkOk_by (by kernel_rfl)) (fun _ _ _ _ _ => pg_name (i := 2) sc__law_source.nd rfl (.inl rfl)) (fun _ _ _ _ _ => pts_nil)
      (fun _ _ _ _ _ => pe_callB call_abs (by rfl) m_abs hba (pa_cons (pv 2) pa_nil))))
      (pps_cons pe_str pe_int (pps_cons pe_str (pv 1) (pps_cons pe_str pe_int pps_nil)))) (by rfl) (by rfl) (fun z => by cases z) (by decide))))), ?_⟩
  refine ⟨_, rfl, a, rfl, ⟨_, hS⟩, for_list (K := K) (a := a) (xs := ns.map V.int) (fun i σ H' => H' = H ∧ ∃ (m : Int) (v : Option V), σ = [some (.ref a), some (.int m), v] ∧ 0 ≤ m ∧ m < 2147483629) ⟨rfl, 11, none, rfl, by decide, by decide⟩ (fun i σ H' _ q => by rw [q.1]; exact hS) ?_ ?_⟩
  · rintro i y σ H' hi ⟨rfl, m, v, rfl, h1, h2⟩
    obtain ⟨z, rfl⟩ : ∃ z, y = V.int z := by
      rw [List.getElem?_map] at hi
      cases e : ns[i]? with
      | none => rw [e] at hi; cases hi
      | some z => rw [e] at hi; exact ⟨z, (Option.some.inj hi).symm⟩
    have b := fmod_src (m * 69069 + z * 31 + 5)
    refine ⟨_, rfl, m, 69069, rfl, rfl, .inr ⟨by decide, by decide⟩, ?_⟩
    refine ⟨_, rfl, z, 31, rfl, rfl, .inr ⟨by decide, by decide⟩, _, _, rfl, rfl, _, _, rfl, rfl, .inl ⟨_, rfl, _, _, rfl, rfl, (by show (2147483629 : Int) ≠ 0; decide), rfl, _, _, rfl, b.1, Int.lt_of_lt_of_le b.2 (by decide)⟩⟩
  · rintro σ H' ⟨rfl, m, v, rfl, h1, h2⟩
    intro p hp
    have s1 : Same H' (upd H' p (.dK [])) := same_upd hp
    have hS1 := s1.seq hS
    refine ⟨_, rfl, a, rfl, ⟨_, hS1⟩, fun D hD => lc_list (K := K) (a := a) (xs := ns.map V.int) (fun i H2 => H2 = upd (upd H' p (.dK [])) D (.lst ((ns.take i).map fun z => V.int (absI z)))) (by rfl) (fun i H2 _ e => ?_) ?_ ?_⟩
    · rw [e]; exact (same_upd hD).seq hS1
    · rintro i x H2 hi rfl
      have hi' : i < ns.length := by
        have := (List.getElem?_eq_some_iff.mp hi).1
        simpa using this
      obtain ⟨z, hz, rfl⟩ : ∃ z, ns[i]? = some z ∧ x = V.int z := by
        rw [List.getElem?_map] at hi
        cases e : ns[i]? with
        | none => rw [e] at hi; cases hi
        | some z => rw [e] at hi; exact ⟨z, rfl, (Option.some.inj hi).symm⟩
      have tk1 : ns.take (i + 1) = ns.take i ++ [z] := by
        rw [List.take_add_one, hz]; rfl
      refine ⟨rfl, _, rfl, z, rfl, _, upd_same, ?_, ?_⟩
      · rw [List.length_map, List.length_take, sizeLine_eq]; omega
      · rw [tk1, List.map_append, upd_upd]
        rfl
    · rintro H2 rfl
      have hn : p ≠ D := fun z => by rw [← z, upd_same] at hD; cases hD
      have e0 : (ns.take (ns.map V.int).length).map (fun z => V.int (absI z)) = (ns.map absI).map V.int := by
        rw [List.length_map, List.take_length, List.map_map]; rfl
      rw [e0]
      refine ⟨D, _, rfl, SqL.of upd_same, fun q hq => ?_⟩
      have nD : q ≠ D := fun z => by rw [z, upd_same] at hq; cases hq
      have np : p ≠ q := fun z => by
        rw [← z, upd_ne hn, upd_same] at hq
        cases hq
      refine ⟨_, rfl, by rw [upd_ne np, upd_ne hn, upd_same], [(.inr "cells", .ref q), (.inr "left", .int 1), (.inr "mixed", .int m), (.inr "turn", .int 0)], rfl, (by show 4 ≤ 15; decide), ?_⟩
      refine kq p q _ np ⟨(ns.map absI).reverse, 1, m, 0, by rw [upd_same]; rfl, ?_, ?_, by decide, h1, Int.lt_trans h2 (by decide), by decide⟩
      · rw [upd_ne (Ne.symm np), upd_same, ← List.map_reverse]
      · intro x hx
        obtain ⟨y, _, rfl⟩ := List.mem_map.mp (List.mem_reverse.mp hx)
        exact absI_nn y
end

section
variable {P : Program} {w : World} {K : PySem.W.Frag} {mg : Str → Option Value} {base : Heap} {ec : Str → Option Addr} {xc fa : Str → Addr}
/-! derivations, printed by gen.py -/
abbrev st_is_long : Stmt := top 9
theorem sc_is_long : FnScope N_is_long ["number"] (defScope st_is_long) := ⟨rfl, rfl, rfl, by decide +kernel, rfl, by decide +kernel, by decide +kernel⟩
theorem D_is_long (T : Txt P K mg base ec xc fa) {f : Addr} {fd : FuncData} (F : L2.Fun K "is_long" "is_long" st_is_long f fd) (hf : mg "is_long" = some (.ref f)) (bd : Binds K fd ["number"] []) : DefOk P w K mg base "is_long" 2 (spOf K ec 1 S_is_long) := by
  obtain ⟨t_SURE_BITS, c_SURE_BITS⟩ := T.c_SURE_BITS
  obtain ⟨t_MOST_FIGURES, c_MOST_FIGURES⟩ := T.c_MOST_FIGURES
  exact (def_ok (N := N_is_long) (k := 1) (t := ((aRet (aOrV (aBin dGt (aBits (aVar 0)) (aC (.int 997))) (aBin dGt (aOp dLen (aCons (aOp dStrI (aCons (aOp dAbs (aCons (aVar 0) aNil)) aNil)) aNil)) (aC (.int 300))))) : AS)) F sc_is_long hf bd (fun cdv A outer s H E B W hB hr tk => (ss_one (ss_ret (se_or (se_gt (se_bits (se_of 0 (pv 0))) (mod_const (v := .int 997) (by rfl) c_SURE_BITS ⟨_, rfl⟩ fun _ => .int _)) (se_one (se_gt (se_len (by rfl) T.m_len (sa_cons (se_strI (by rfl) T.m_str (sa_cons (se_abs (by rfl) T.m_abs (sa_cons (se_of 0 (pv 0)) sa_nil)) sa_nil)) sa_nil)) (mod_const (v := .int 300) (by rfl) c_MOST_FIGURES ⟨_, rfl⟩ fun _ => .int _)))))))).imp (spOf_imp (imp_is_long))
abbrev st_not_long : Stmt := top 10
theorem sc_not_long : FnScope N_not_long ["numbers"] (defScope st_not_long) := ⟨rfl, rfl, rfl, by decide +kernel, rfl, by decide +kernel, by decide +kernel⟩
theorem D_not_long (T : Txt P K mg base ec xc fa) (D_is_long : DefOk P w K mg base "is_long" 2 (spOf K ec 1 S_is_long)) {f : Addr} {fd : FuncData} (F : L2.Fun K "not_long" "not_long" st_not_long f fd) (hf : mg "not_long" = some (.ref f)) (bd : Binds K fd ["numbers"] []) : DefOk P w K mg base "not_long" 3 (spOf K ec 1 S_not_long) := by
  obtain ⟨t_LONG_NUMBER, c_LONG_NUMBER⟩ := T.c_LONG_NUMBER
  exact (def_ok (N := N_not_long) (k := 2) (t := ((aSeq (aIfS (aTest (aOp dAnyL (aCons (aLc (aIt (aVar 0)) ((gSet 1)) aYes ((aCall 1 S_is_long (aCons (aVar 1) aNil))) [1]) aNil))) (aRaise1 "TooGreat" "number" (aCons (aC (.int 2)) aNil)) aSkip)
  (aRet (aVar 0))) : AS)) F sc_not_long hf bd (fun cdv A outer s H E B W hB hr tk => (ss_cons (ss_if (st_of (se_anyL rfl (by rfl) T.m_any (sa_cons (se_of_sf (sf_lc (own := [("number", 1)]) rfl sc_not_long.nd (si_of (se_of 0 (pv 0))) (blkOk_by (by kernel_rfl)) (fun _ _ _ _ _ _ => (sg_of (pg_name (i := 1) sc_not_long.nd rfl (by first | exact .inl rfl | exact .inr rfl)) (by decide))) (fun _ _ _ _ _ _ => sts_nil) (fun _ _ _ _ _ _ => (se_call hB D_is_long takes0 (hr.down (by decide : 2 ≤ 2)) (by rfl) (sa_cons (se_of 1 (pv 1)) sa_nil))))) sa_nil))) (ss_one (ss_raise1 hB rfl T.x_TooGreat T.e_TooGreat hr.toRoom tk (sa_cons (mod_const (v := .int 2) (by rfl) c_LONG_NUMBER ⟨_, rfl⟩ fun _ => .int _) sa_nil) (by rfl))) ss_nil)
  (ss_one (ss_ret (se_of 0 (pv 0))))))).imp (spOf_imp (imp_not_long))
abbrev st_fraction_told : Stmt := top 11
theorem sc_fraction_told : FnScope N_fraction_told ["top", "bottom"] (defScope st_fraction_told) := ⟨rfl, rfl, rfl, by decide +kernel, rfl, by decide +kernel, by decide +kernel⟩
theorem D_fraction_told (T : Txt P K mg base ec xc fa) {f : Addr} {fd : FuncData} (F : L2.Fun K "fraction_told" "fraction_told" st_fraction_told f fd) (hf : mg "fraction_told" = some (.ref f)) (bd : Binds K fd ["top", "bottom"] []) : DefOk P w K mg base "fraction_told" 2 (spOf K ec 2 S_fraction_told) := by
  exact (def_ok (N := N_fraction_told) (k := 1) (t := ((aSeq (aSet 2 (aOp dGcd (aCons (aVar 0) (aCons (aVar 1) aNil))))
  (aRet (aIf (aTestB (aBin dGt (aVar 1) (aC (.int 0)))) (aTup (aCons (aBin dDiv (aVar 0) (aVar 2)) (aCons (aBin dDiv (aVar 1) (aVar 2)) aNil))) (aTup (aCons (aBin dDiv (aNeg (aVar 0)) (aVar 2)) (aCons (aBin dDiv (aNeg (aVar 1)) (aVar 2)) aNil)))))) : AS)) F sc_fraction_told hf bd (fun cdv A outer s H E B W hB hr tk => (ss_cons (ss_set (i := 2) sc_fraction_told.nd rfl (by first | exact .inl rfl | exact .inr rfl) (se_gcd (by rfl) T.m_gcd (sa_cons (se_of 0 (pv 0)) (sa_cons (se_of 1 (pv 1)) sa_nil))))
  (ss_one (ss_ret (se_if (st_gt (se_of 1 (pv 1)) se_int) (se_tup (sa_cons (se_div (se_of 0 (pv 0)) (se_of 2 (pv 2))) (sa_cons (se_div (se_of 1 (pv 1)) (se_of 2 (pv 2))) sa_nil))) (se_tup (sa_cons (se_div (se_neg (se_of 0 (pv 0))) (se_of 2 (pv 2))) (sa_cons (se_div (se_neg (se_of 1 (pv 1))) (se_of 2 (pv 2))) sa_nil))))))))).imp (spOf_imp (imp_fraction_told))
abbrev st_fraction_sum : Stmt := top 12
theorem sc_fraction_sum : FnScope N_fraction_sum ["one", "other"] (defScope st_fraction_sum) := ⟨rfl, rfl, rfl, by decide +kernel, rfl, by decide +kernel, by decide +kernel⟩
theorem D_fraction_sum (T : Txt P K mg base ec xc fa) (D_fraction_told : DefOk P w K mg base "fraction_told" 2 (spOf K ec 2 S_fraction_told)) {f : Addr} {fd : FuncData} (F : L2.Fun K "fraction_sum" "fraction_sum" st_fraction_sum f fd) (hf : mg "fraction_sum" = some (.ref f)) (bd : Binds K fd ["one", "other"] []) : DefOk P w K mg base "fraction_sum" 3 (spOf K ec 2 S_fraction_sum) := by
  exact (def_ok (N := N_fraction_sum) (k := 2) (t := ((aRet (aCall 2 S_fraction_told (aCons (aBin dAdd (aBin dMul (aBin dIdx (aVar 0) (aC (.int 0))) (aBin dIdx (aVar 1) (aC (.int 1)))) (aBin dMul (aBin dIdx (aVar 1) (aC (.int 0))) (aBin dIdx (aVar 0) (aC (.int 1))))) (aCons (aBin dMul (aBin dIdx (aVar 0) (aC (.int 1))) (aBin dIdx (aVar 1) (aC (.int 1)))) aNil)))) : AS)) F sc_fraction_sum hf bd (fun cdv A outer s H E B W hB hr tk => (ss_one (ss_ret (se_call hB D_fraction_told tk (hr.down (by decide : 2 ≤ 2)) (by rfl) (sa_cons (se_add (se_mul (se_ix hr.toRoom (se_of 0 (pv 0)) se_int) (se_ix hr.toRoom (se_of 1 (pv 1)) se_int)) (se_mul (se_ix hr.toRoom (se_of 1 (pv 1)) se_int) (se_ix hr.toRoom (se_of 0 (pv 0)) se_int))) (sa_cons (se_mul (se_ix hr.toRoom (se_of 0 (pv 0)) se_int) (se_ix hr.toRoom (se_of 1 (pv 1)) se_int)) sa_nil))))))).imp (spOf_imp (imp_fraction_sum))
abbrev st_fraction_less : Stmt := top 13
theorem sc_fraction_less : FnScope N_fraction_less ["one", "other"] (defScope st_fraction_less) := ⟨rfl, rfl, rfl, by decide +kernel, rfl, by decide +kernel, by decide +kernel⟩
theorem D_fraction_less (T : Txt P K mg base ec xc fa) (D_fraction_told : DefOk P w K mg base "fraction_told" 2 (spOf K ec 2 S_fraction_told)) {f : Addr} {fd : FuncData} (F : L2.Fun K "fraction_less" "fraction_less" st_fraction_less f fd) (hf : mg "fraction_less" = some (.ref f)) (bd : Binds K fd ["one", "other"] []) : DefOk P w K mg base "fraction_less" 3 (spOf K ec 2 S_fraction_less) := by
  exact (def_ok (N := N_fraction_less) (k := 2) (t := ((aRet (aCall 2 S_fraction_told (aCons (aBin dSub (aBin dMul (aBin dIdx (aVar 0) (aC (.int 0))) (aBin dIdx (aVar 1) (aC (.int 1)))) (aBin dMul (aBin dIdx (aVar 1) (aC (.int 0))) (aBin dIdx (aVar 0) (aC (.int 1))))) (aCons (aBin dMul (aBin dIdx (aVar 0) (aC (.int 1))) (aBin dIdx (aVar 1) (aC (.int 1)))) aNil)))) : AS)) F sc_fraction_less hf bd (fun cdv A outer s H E B W hB hr tk => (ss_one (ss_ret (se_call hB D_fraction_told tk (hr.down (by decide : 2 ≤ 2)) (by rfl) (sa_cons (se_sub (se_mul (se_ix hr.toRoom (se_of 0 (pv 0)) se_int) (se_ix hr.toRoom (se_of 1 (pv 1)) se_int)) (se_mul (se_ix hr.toRoom (se_of 1 (pv 1)) se_int) (se_ix hr.toRoom (se_of 0 (pv 0)) se_int))) (sa_cons (se_mul (se_ix hr.toRoom (se_of 0 (pv 0)) se_int) (se_ix hr.toRoom (se_of 1 (pv 1)) se_int)) sa_nil))))))).imp (spOf_imp (imp_fraction_less))
abbrev st_fraction_product : Stmt := top 14
theorem sc_fraction_product : FnScope N_fraction_product ["one", "other"] (defScope st_fraction_product) := ⟨rfl, rfl, rfl, by decide +kernel, rfl, by decide +kernel, by decide +kernel⟩
theorem D_fraction_product (T : Txt P K mg base ec xc fa) (D_fraction_told : DefOk P w K mg base "fraction_told" 2 (spOf K ec 2 S_fraction_told)) {f : Addr} {fd : FuncData} (F : L2.Fun K "fraction_product" "fraction_product" st_fraction_product f fd) (hf : mg "fraction_product" = some (.ref f)) (bd : Binds K fd ["one", "other"] []) : DefOk P w K mg base "fraction_product" 3 (spOf K ec 2 S_fraction_product) := by
  exact (def_ok (N := N_fraction_product) (k := 2) (t := ((aRet (aCall 2 S_fraction_told (aCons (aBin dMul (aBin dIdx (aVar 0) (aC (.int 0))) (aBin dIdx (aVar 1) (aC (.int 0)))) (aCons (aBin dMul (aBin dIdx (aVar 0) (aC (.int 1))) (aBin dIdx (aVar 1) (aC (.int 1)))) aNil)))) : AS)) F sc_fraction_product hf bd (fun cdv A outer s H E B W hB hr tk => (ss_one (ss_ret (se_call hB D_fraction_told tk (hr.down (by decide : 2 ≤ 2)) (by rfl) (sa_cons (se_mul (se_ix hr.toRoom (se_of 0 (pv 0)) se_int) (se_ix hr.toRoom (se_of 1 (pv 1)) se_int)) (sa_cons (se_mul (se_ix hr.toRoom (se_of 0 (pv 0)) se_int) (se_ix hr.toRoom (se_of 1 (pv 1)) se_int)) sa_nil))))))).imp (spOf_imp (imp_fraction_product))
abbrev st_fraction_over : Stmt := top 15
theorem sc_fraction_over : FnScope N_fraction_over ["one", "other"] (defScope st_fraction_over) := ⟨rfl, rfl, rfl, by decide +kernel, rfl, by decide +kernel, by decide +kernel⟩
theorem D_fraction_over (T : Txt P K mg base ec xc fa) (D_fraction_told : DefOk P w K mg base "fraction_told" 2 (spOf K ec 2 S_fraction_told)) {f : Addr} {fd : FuncData} (F : L2.Fun K "fraction_over" "fraction_over" st_fraction_over f fd) (hf : mg "fraction_over" = some (.ref f)) (bd : Binds K fd ["one", "other"] []) : DefOk P w K mg base "fraction_over" 3 (spOf K ec 2 S_fraction_over) := by
  exact (def_ok (N := N_fraction_over) (k := 2) (t := ((aRet (aCall 2 S_fraction_told (aCons (aBin dMul (aBin dIdx (aVar 0) (aC (.int 0))) (aBin dIdx (aVar 1) (aC (.int 1)))) (aCons (aBin dMul (aBin dIdx (aVar 0) (aC (.int 1))) (aBin dIdx (aVar 1) (aC (.int 0)))) aNil)))) : AS)) F sc_fraction_over hf bd (fun cdv A outer s H E B W hB hr tk => (ss_one (ss_ret (se_call hB D_fraction_told tk (hr.down (by decide : 2 ≤ 2)) (by rfl) (sa_cons (se_mul (se_ix hr.toRoom (se_of 0 (pv 0)) se_int) (se_ix hr.toRoom (se_of 1 (pv 1)) se_int)) (sa_cons (se_mul (se_ix hr.toRoom (se_of 0 (pv 0)) se_int) (se_ix hr.toRoom (se_of 1 (pv 1)) se_int)) sa_nil))))))).imp (spOf_imp (imp_fraction_over))
abbrev st_halvings : Stmt := top 16
theorem sc_halvings : FnScope N_halvings ["many"] (defScope st_halvings) := ⟨rfl, rfl, rfl, by decide +kernel, rfl, by decide +kernel, by decide +kernel⟩
theorem D_halvings (T : Txt P K mg base ec xc fa) {f : Addr} {fd : FuncData} (F : L2.Fun K "halvings" "halvings" st_halvings f fd) (hf : mg "halvings" = some (.ref f)) (bd : Binds K fd ["many"] []) : DefOk P w K mg base "halvings" 2 (spOf K ec 1 S_halvings) := by
  exact (def_ok (N := N_halvings) (k := 1) (t := ((aSeq (aSetO 1 (aLst (aCons (aVar 0) aNil)))
  (aSeq (aWhile ((aTestB (aBin dGt (aIxN 1 (aNeg (aC (.int 1)))) (aC (.int 1))))) ((aDrop (aAppend 1 (aBin dDiv (aIxN 1 (aNeg (aC (.int 1)))) (aC (.int 2)))))))
  (aRet (aRevL (aVar 1))))) : AS)) F sc_halvings hf bd (fun cdv A outer s H E B W hB hr tk => (ss_cons (ss_setO (i := 1) sc_halvings.nd rfl (by first | exact .inl rfl | exact .inr rfl) (sf_lst (sa_cons (se_of 0 (pv 0)) sa_nil)))
  (ss_cons (ss_while (passes_of rfl) (st_gt (se_ixN 1 hr.toRoom (pv 1) (se_neg se_int)) se_int) (ss_one (ss_expr (se_append 1 (pv 1) (se_div (se_ixN 1 hr.toRoom (pv 1) (se_neg se_int)) se_int)))))
  (ss_one (ss_ret (se_of_sf (sf_revL (se_of 1 (pv 1)))))))))).imp (spOf_imp (imp_halvings))
abbrev st_fraction_power : Stmt := top 17
theorem sc_fraction_power : FnScope N_fraction_power ["fraction", "many"] (defScope st_fraction_power) := ⟨rfl, rfl, rfl, by decide +kernel, rfl, by decide +kernel, by decide +kernel⟩
theorem D_fraction_power (T : Txt P K mg base ec xc fa) (D_halvings : DefOk P w K mg base "halvings" 2 (spOf K ec 1 S_halvings)) {f : Addr} {fd : FuncData} (F : L2.Fun K "fraction_power" "fraction_power" st_fraction_power f fd) (hf : mg "fraction_power" = some (.ref f)) (bd : Binds K fd ["fraction", "many"] []) : DefOk P w K mg base "fraction_power" 3 (spOf K ec 2 S_fraction_power) := by
  exact (def_ok (N := N_fraction_power) (k := 2) (t := ((aSeq (aIfS (aTestB (aBin dEq2 (aVar 1) (aC (.int 0)))) (aRet (aC D_WHOLE)) aSkip)
  (aSeq (aAsg (aVar 0) (gTupA 2 (gsCons (gSet 2) (gsCons (gSet 3) gsNil))))
  (aSeq (aFor (aIt (aSl (aCall 1 S_halvings (aCons (aVar 1) aNil)) (aPart (aC (.int 1))) aNoPart)) ((gSet 4)) ((aSeq (aParO [2, 3] (aoD (aBin dMul (aVar 2) (aVar 2)) (aoD (aBin dMul (aVar 3) (aVar 3)) aoNil)))
  (aIfS (aTestB (aBin dEq2 (aBin dMod (aVar 4) (aC (.int 2))) (aC (.int 1)))) (aParO [2, 3] (aoD (aBin dMul (aVar 2) (aBin dIdx (aVar 0) (aC (.int 0)))) (aoD (aBin dMul (aVar 3) (aBin dIdx (aVar 0) (aC (.int 1)))) aoNil))) aSkip))))
  (aRet (aTup (aCons (aVar 2) (aCons (aVar 3) aNil))))))) : AS)) F sc_fraction_power hf bd (fun cdv A outer s H E B W hB hr tk => (ss_cons (ss_if (st_eq2 hr.toRoom (se_of 1 (pv 1)) se_int) (ss_one (ss_ret (mod_const (v := .ref (fa "WHOLE")) (by rfl) (T.c_WHOLE).1 rfl (T.c_WHOLE).2))) ss_nil)
  (ss_cons (ss_asg (vs := [3, 2]) (se_of 0 (pv 0)) (sg_tup rfl (sgs_cons (sg_of (pg_name (i := 2) sc_fraction_power.nd rfl (by first | exact .inl rfl | exact .inr rfl)) (by decide)) (sgs_cons (sg_of (pg_name (i := 3) sc_fraction_power.nd rfl (by first | exact .inl rfl | exact .inr rfl)) (by decide)) sgs_nil))))
  (ss_cons (ss_for (vs := [4]) (passes_of rfl) rfl (si_of (se_sl (se_call hB D_halvings tk (hr.down (by decide : 2 ≤ 2)) (by rfl) (sa_cons (se_of 1 (pv 1)) sa_nil)) (so_some se_int) so_none)) (sg_of (pg_name (i := 4) sc_fraction_power.nd rfl (by first | exact .inl rfl | exact .inr rfl)) (by decide)) (ss_cons (ss_par2 (i := 2) (j := 3) rfl sc_fraction_power.nd rfl rfl (by decide) rfl rfl (sao_d (se_mul (se_of 2 (pv 2)) (se_of 2 (pv 2))) (sao_d (se_mul (se_of 3 (pv 3)) (se_of 3 (pv 3))) sao_nil)))
  (ss_one (ss_if (st_eq2 hr.toRoom (se_mod (se_of 4 (pv 4)) se_int) se_int) (ss_one (ss_par2 (i := 2) (j := 3) rfl sc_fraction_power.nd rfl rfl (by decide) rfl rfl (sao_d (se_mul (se_of 2 (pv 2)) (se_ix hr.toRoom (se_of 0 (pv 0)) se_int)) (sao_d (se_mul (se_of 3 (pv 3)) (se_ix hr.toRoom (se_of 0 (pv 0)) se_int)) sao_nil)))) ss_nil))))
  (ss_one (ss_ret (se_tup (sa_cons (se_of 2 (pv 2)) (sa_cons (se_of 3 (pv 3)) sa_nil)))))))))).imp (spOf_imp (imp_fraction_power))
abbrev st_sign_of : Stmt := top 18
theorem sc_sign_of : FnScope N_sign_of ["fraction"] (defScope st_sign_of) := ⟨rfl, rfl, rfl, by decide +kernel, rfl, by decide +kernel, by decide +kernel⟩
theorem D_sign_of (T : Txt P K mg base ec xc fa) {f : Addr} {fd : FuncData} (F : L2.Fun K "sign_of" "sign_of" st_sign_of f fd) (hf : mg "sign_of" = some (.ref f)) (bd : Binds K fd ["fraction"] []) : DefOk P w K mg base "sign_of" 2 (spOf K ec 1 S_sign_of) := by
  exact (def_ok (N := N_sign_of) (k := 1) (t := ((aRet (aBin dSub (aBin dGt (aBin dIdx (aVar 0) (aC (.int 0))) (aC (.int 0))) (aBin dLt (aBin dIdx (aVar 0) (aC (.int 0))) (aC (.int 0))))) : AS)) F sc_sign_of hf bd (fun cdv A outer s H E B W hB hr tk => (ss_one (ss_ret (se_sub (se_gt (se_ix hr.toRoom (se_of 0 (pv 0)) se_int) se_int) (se_lt (se_ix hr.toRoom (se_of 0 (pv 0)) se_int) se_int)))))).imp (spOf_imp (imp_sign_of))
abbrev st_compared : Stmt := top 19
theorem sc_compared : FnScope N_compared ["one", "other"] (defScope st_compared) := ⟨rfl, rfl, rfl, by decide +kernel, rfl, by decide +kernel, by decide +kernel⟩
theorem D_compared (T : Txt P K mg base ec xc fa) {f : Addr} {fd : FuncData} (F : L2.Fun K "compared" "compared" st_compared f fd) (hf : mg "compared" = some (.ref f)) (bd : Binds K fd ["one", "other"] []) : DefOk P w K mg base "compared" 2 (spOf K ec 2 S_compared) := by
  exact (def_ok (N := N_compared) (k := 1) (t := ((aSeq (aParO [2, 3] (aoD (aBin dMul (aBin dIdx (aVar 0) (aC (.int 0))) (aBin dIdx (aVar 1) (aC (.int 1)))) (aoD (aBin dMul (aBin dIdx (aVar 1) (aC (.int 0))) (aBin dIdx (aVar 0) (aC (.int 1)))) aoNil)))
  (aRet (aBin dSub (aBin dGt (aVar 2) (aVar 3)) (aBin dLt (aVar 2) (aVar 3))))) : AS)) F sc_compared hf bd (fun cdv A outer s H E B W hB hr tk => (ss_cons (ss_par2 (i := 2) (j := 3) rfl sc_compared.nd rfl rfl (by decide) rfl rfl (sao_d (se_mul (se_ix hr.toRoom (se_of 0 (pv 0)) se_int) (se_ix hr.toRoom (se_of 1 (pv 1)) se_int)) (sao_d (se_mul (se_ix hr.toRoom (se_of 1 (pv 1)) se_int) (se_ix hr.toRoom (se_of 0 (pv 0)) se_int)) sao_nil)))
  (ss_one (ss_ret (se_sub (se_gt (se_of 2 (pv 2)) (se_of 3 (pv 3))) (se_lt (se_of 2 (pv 2)) (se_of 3 (pv 3))))))))).imp (spOf_imp (imp_compared))
abbrev st_common_number : Stmt := top 20
theorem sc_common_number : FnScope N_common_number ["one", "other"] (defScope st_common_number) := ⟨rfl, rfl, rfl, by decide +kernel, rfl, by decide +kernel, by decide +kernel⟩
theorem D_common_number (T : Txt P K mg base ec xc fa) {f : Addr} {fd : FuncData} (F : L2.Fun K "common_number" "common_number" st_common_number f fd) (hf : mg "common_number" = some (.ref f)) (bd : Binds K fd ["one", "other"] []) : DefOk P w K mg base "common_number" 2 (spOf K ec 2 S_common_number) := by
  exact (def_ok (N := N_common_number) (k := 1) (t := ((aRet (aBin dMul (aBin dDiv (aVar 0) (aOp dGcd (aCons (aVar 0) (aCons (aVar 1) aNil)))) (aVar 1))) : AS)) F sc_common_number hf bd (fun cdv A outer s H E B W hB hr tk => (ss_one (ss_ret (se_mul (se_div (se_of 0 (pv 0)) (se_gcd (by rfl) T.m_gcd (sa_cons (se_of 0 (pv 0)) (sa_cons (se_of 1 (pv 1)) sa_nil)))) (se_of 1 (pv 1))))))).imp (spOf_imp (imp_common_number))
abbrev st_common_bottom : Stmt := top 21
theorem sc_common_bottom : FnScope N_common_bottom ["fractions"] (defScope st_common_bottom) := ⟨rfl, rfl, rfl, by decide +kernel, rfl, by decide +kernel, by decide +kernel⟩
theorem D_common_bottom (T : Txt P K mg base ec xc fa) (D_common_number : DefOk P w K mg base "common_number" 2 (spOf K ec 2 S_common_number)) {f : Addr} {fd : FuncData} (F : L2.Fun K "common_bottom" "common_bottom" st_common_bottom f fd) (hf : mg "common_bottom" = some (.ref f)) (bd : Binds K fd ["fractions"] []) : DefOk P w K mg base "common_bottom" 3 (spOf K ec 1 S_common_bottom) := by
  exact (def_ok (N := N_common_bottom) (k := 2) (t := ((aSeq (aSet 1 (aC (.int 1)))
  (aSeq (aFor (aIt (aVar 0)) ((gSet 2)) ((aSet 1 (aCall 2 S_common_number (aCons (aVar 1) (aCons (aBin dIdx (aVar 2) (aC (.int 1))) aNil))))))
  (aRet (aVar 1)))) : AS)) F sc_common_bottom hf bd (fun cdv A outer s H E B W hB hr tk => (ss_cons (ss_set (i := 1) sc_common_bottom.nd rfl (by first | exact .inl rfl | exact .inr rfl) se_int)
  (ss_cons (ss_for (vs := [2]) (passes_of rfl) rfl (si_of (se_of 0 (pv 0))) (sg_of (pg_name (i := 2) sc_common_bottom.nd rfl (by first | exact .inl rfl | exact .inr rfl)) (by decide)) (ss_one (ss_set (i := 1) sc_common_bottom.nd rfl (by first | exact .inl rfl | exact .inr rfl) (se_call hB D_common_number tk (hr.down (by decide : 2 ≤ 2)) (by rfl) (sa_cons (se_of 1 (pv 1)) (sa_cons (se_ix hr.toRoom (se_of 2 (pv 2)) se_int) sa_nil))))))
  (ss_one (ss_ret (se_of 1 (pv 1)))))))).imp (spOf_imp (imp_common_bottom))
abbrev st_fractions_ascending : Stmt := top 22
theorem sc_fractions_ascending : FnScope N_fractions_ascending ["fractions"] (defScope st_fractions_ascending) := ⟨rfl, rfl, rfl, by decide +kernel, rfl, by decide +kernel, by decide +kernel⟩
theorem D_fractions_ascending (T : Txt P K mg base ec xc fa) (D_common_bottom : DefOk P w K mg base "common_bottom" 3 (spOf K ec 1 S_common_bottom)) {f : Addr} {fd : FuncData} (F : L2.Fun K "fractions_ascending" "fractions_ascending" st_fractions_ascending f fd) (hf : mg "fractions_ascending" = some (.ref f)) (bd : Binds K fd ["fractions"] []) : DefOk P w K mg base "fractions_ascending" 4 (spOf K ec 1 S_fractions_ascending) := by
  exact (def_ok (N := N_fractions_ascending) (k := 3) (t := ((aSeq (aSet 1 (aCall 1 S_common_bottom (aCons (aVar 0) aNil)))
  (aSeq (aSet 2 (aOp dDict (aCons (aLc (aIt (aVar 0)) ((gSet 3)) aYes ((aTup (aCons (aBin dMul (aBin dIdx (aVar 3) (aC (.int 0))) (aBin dDiv (aVar 1) (aBin dIdx (aVar 3) (aC (.int 1))))) (aCons (aVar 3) aNil)))) [3]) aNil)))
  (aRet (aOp dTuple (aCons (aLc (aIt (aOp dSortedN (aCons (aVar 2) aNil))) ((gSet 4)) aYes ((aBin dIdx (aVar 2) (aVar 4))) [4]) aNil))))) : AS)) F sc_fractions_ascending hf bd (fun cdv A outer s H E B W hB hr tk => (ss_cons (ss_set (i := 1) sc_fractions_ascending.nd rfl (by first | exact .inl rfl | exact .inr rfl) (se_call hB D_common_bottom tk (hr.down (by decide : 3 ≤ 3)) (by rfl) (sa_cons (se_of 0 (pv 0)) sa_nil)))
  (ss_cons (ss_set (i := 2) sc_fractions_ascending.nd rfl (by first | exact .inl rfl | exact .inr rfl) (se_of_sf (sf_dict hr.toRoom (by rfl) T.m_dict (sa_cons (se_of_sf (sf_lc (own := [("one", 3)]) rfl sc_fractions_ascending.nd (si_of (se_of 0 (pv 0))) (blkOk_by (by kernel_rfl)) (fun _ _ _ _ _ _ => (sg_of (pg_name (i := 3) sc_fractions_ascending.nd rfl (by first | exact .inl rfl | exact .inr rfl)) (by decide))) (fun _ _ _ _ _ _ => sts_nil) (fun _ _ _ _ _ _ => (se_tup (sa_cons (se_mul (se_ix hr.toRoom (se_of 3 (pv 3)) se_int) (se_div (se_of 1 (pv 1)) (se_ix hr.toRoom (se_of 3 (pv 3)) se_int))) (sa_cons (se_of 3 (pv 3)) sa_nil)))))) sa_nil))))
  (ss_one (ss_ret (se_tuplec (by rfl) T.m_tuple (sa_cons (se_of_sf (sf_lc (own := [("number", 4)]) rfl sc_fractions_ascending.nd (si_of (se_of_sf (sf_sortN hr.toRoom (by rfl) T.m_sorted (sa_cons (se_of 2 (pv 2)) sa_nil)))) (blkOk_by (by kernel_rfl)) (fun _ _ _ _ _ _ => (sg_of (pg_name (i := 4) sc_fractions_ascending.nd rfl (by first | exact .inl rfl | exact .inr rfl)) (by decide))) (fun _ _ _ _ _ _ => sts_nil) (fun _ _ _ _ _ _ => (se_ix hr.toRoom (se_of 2 (pv 2)) (se_of 4 (pv 4)))))) sa_nil)))))))).imp (spOf_imp (imp_fractions_ascending))
abbrev st__law_pick : Stmt := top 25
theorem sc__law_pick : FnScope N__law_pick ["source", "many"] (defScope st__law_pick) := ⟨rfl, rfl, rfl, by decide +kernel, rfl, by decide +kernel, by decide +kernel⟩
theorem D__law_pick (T : Txt P K mg base ec xc fa) {f : Addr} {fd : FuncData} (F : L2.Fun K "_law_pick" "_law_pick" st__law_pick f fd) (hf : mg "_law_pick" = some (.ref f)) (bd : Binds K fd ["source", "many"] []) : DefOk P w K mg base "_law_pick" 2 (spOfZ K ec 1 S__law_pick) := by
  exact (def_okZ (N := N__law_pick) (k := 1) (n := 1) (t := ((aSeq (aSrcW 0 1)
  (aSeq (aSet 2 (aSrcG 0 "left"))
  (aSeq (aIfS (aOr (aTestB (aBin dLt (aVar 1) (aC (.int 2)))) (aTestB (aBin dGt (aVar 2) (aC (.int 1))))) (aSeq (aSrcP 0 "left" (aBin dDiv (aVar 2) (aOp dMax2 (aCons (aC (.int 1)) (aCons (aVar 1) aNil)))))
  (aRet (aBin dMod (aOp dInt (aCons (aVar 2) aNil)) (aOp dMax2 (aCons (aC (.int 1)) (aCons (aVar 1) aNil)))))) aSkip)
  (aSeq (aSrcP 0 "turn" (aBin dAdd (aSrcG 0 "turn") (aC (.int 1))))
  (aSeq (aSet 3 (aBin dMod (aOp dInt (aCons (aBin dAdd (aSrcG 0 "mixed") (aBin dMul (aSrcG 0 "turn") (aC (.int 104729)))) aNil)) (aC (.int 998244353))))
  (aSeq (aSet 3 (aBin dMod (aOp dInt (aCons (aBin dAdd (aBin dMul (aVar 3) (aVar 3)) (aBin dMul (aSrcG 0 "turn") (aC (.int 17)))) aNil)) (aC (.int 2147483647))))
  (aSeq (aSrcP 0 "mixed" (aVar 3))
  (aRet (aBin dMod (aOp dInt (aCons (aBin dDiv (aVar 3) (aC (.int 16))) aNil)) (aVar 1)))))))))) : AS)) F sc__law_pick hf bd rfl (fun cdv A outer s H E B W hB hr tk => (ss_cons (ss_srcWhile 0 1 (passes_of rfl) hr.toRoom (by rfl) T.m_len (pv 1) (pv 0) (pv 0) (pv 0) (pv 0))
  (ss_cons (ss_set (i := 2) sc__law_pick.nd rfl (by first | exact .inl rfl | exact .inr rfl) (se_srcG 0 (by first | exact .inl rfl | exact .inr (.inl rfl) | exact .inr (.inr rfl)) hr.toRoom (pv 0)))
  (ss_cons (ss_if (st_bool (sw_or (st_lt (se_of 1 (pv 1)) se_int) (sw_or1 (st_gt (se_of 2 (pv 2)) se_int)))) (ss_cons (ss_srcP 0 (by first | exact .inl rfl | exact .inr (.inl rfl) | exact .inr (.inr rfl)) hr.toRoom (se_div (se_of 2 (pv 2)) (se_max2 rfl (by rfl) T.m_max (sa_cons se_int (sa_cons (se_of 1 (pv 1)) sa_nil)))) (pv 0))
  (ss_one (ss_ret (se_mod (se_intc (by rfl) T.m_int (sa_cons (se_of 2 (pv 2)) sa_nil)) (se_max2 rfl (by rfl) T.m_max (sa_cons se_int (sa_cons (se_of 1 (pv 1)) sa_nil))))))) ss_nil)
  (ss_cons (ss_srcP 0 (by first | exact .inl rfl | exact .inr (.inl rfl) | exact .inr (.inr rfl)) hr.toRoom (se_add (se_srcG 0 (by first | exact .inl rfl | exact .inr (.inl rfl) | exact .inr (.inr rfl)) hr.toRoom (pv 0)) se_int) (pv 0))
  (ss_cons (ss_set (i := 3) sc__law_pick.nd rfl (by first | exact .inl rfl | exact .inr rfl) (se_mod (se_intc (by rfl) T.m_int (sa_cons (se_add (se_srcG 0 (by first | exact .inl rfl | exact .inr (.inl rfl) | exact .inr (.inr rfl)) hr.toRoom (pv 0)) (se_mul (se_srcG 0 (by first | exact .inl rfl | exact .inr (.inl rfl) | exact .inr (.inr rfl)) hr.toRoom (pv 0)) se_int)) sa_nil)) se_int))
  (ss_cons (ss_set (i := 3) sc__law_pick.nd rfl (by first | exact .inl rfl | exact .inr rfl) (se_mod (se_intc (by rfl) T.m_int (sa_cons (se_add (se_mul (se_of 3 (pv 3)) (se_of 3 (pv 3))) (se_mul (se_srcG 0 (by first | exact .inl rfl | exact .inr (.inl rfl) | exact .inr (.inr rfl)) hr.toRoom (pv 0)) se_int)) sa_nil)) se_int))
  (ss_cons (ss_srcP 0 (by first | exact .inl rfl | exact .inr (.inl rfl) | exact .inr (.inr rfl)) hr.toRoom (se_of 3 (pv 3)) (pv 0))
  (ss_one (ss_ret (se_mod (se_intc (by rfl) T.m_int (sa_cons (se_div (se_of 3 (pv 3)) se_int) sa_nil)) (se_of 1 (pv 1)))))))))))))).imp (spOfZ_imp (imp__law_pick))
abbrev st__law_of : Stmt := top 26
theorem sc__law_of : FnScope N__law_of ["source", "some"] (defScope st__law_of) := ⟨rfl, rfl, rfl, by decide +kernel, rfl, by decide +kernel, by decide +kernel⟩
theorem D__law_of (T : Txt P K mg base ec xc fa) (D__law_pick : DefOk P w K mg base "_law_pick" 2 (spOfZ K ec 1 S__law_pick)) {f : Addr} {fd : FuncData} (F : L2.Fun K "_law_of" "_law_of" st__law_of f fd) (hf : mg "_law_of" = some (.ref f)) (bd : Binds K fd ["source", "some"] []) : DefOk P w K mg base "_law_of" 3 (spOfZ K ec 1 S__law_of) := by
  exact (def_okZ (N := N__law_of) (k := 2) (n := 1) (t := ((aRet (aBin dIdx (aVar 1) (aCallZ 0 1 S__law_pick (aCons (aLenN 1) aNil)))) : AS)) F sc__law_of hf bd rfl (fun cdv A outer s H E B W hB hr tk => (ss_one (ss_ret (se_ix hr.toRoom (se_of 1 (pv 1)) (se_callZ 0 hB D__law_pick tk (hr.down (by decide : 2 ≤ 2)) (by rfl) (pv 0) (sa_cons (se_lenN 1 (by rfl) T.m_len (pv 1)) sa_nil))))))).imp (spOfZ_imp (imp__law_of))
abbrev st__law_part : Stmt := top 27
theorem sc__law_part : FnScope N__law_part ["one", "other"] (defScope st__law_part) := ⟨rfl, rfl, rfl, by decide +kernel, rfl, by decide +kernel, by decide +kernel⟩
theorem D__law_part (T : Txt P K mg base ec xc fa) {f : Addr} {fd : FuncData} (F : L2.Fun K "_law_part" "_law_part" st__law_part f fd) (hf : mg "_law_part" = some (.ref f)) (bd : Binds K fd ["one", "other"] []) : DefOk P w K mg base "_law_part" 2 (spOf K ec 2 S__law_part) := by
  exact (def_ok (N := N__law_part) (k := 1) (t := ((aSeq (aParO [2, 3] (aoD (aOp dAbs (aCons (aVar 0) aNil)) (aoD (aOp dAbs (aCons (aVar 1) aNil)) aoNil)))
  (aSeq (aWhile ((aTestB (aBin dGt (aVar 3) (aC (.int 0))))) ((aParO [2, 3] (aoD (aVar 3) (aoD (aBin dMod (aOp dInt (aCons (aVar 2) aNil)) (aVar 3)) aoNil)))))
  (aRet (aVar 2)))) : AS)) F sc__law_part hf bd (fun cdv A outer s H E B W hB hr tk => (ss_cons (ss_par2 (i := 2) (j := 3) rfl sc__law_part.nd rfl rfl (by decide) rfl rfl (sao_d (se_abs (by rfl) T.m_abs (sa_cons (se_of 0 (pv 0)) sa_nil)) (sao_d (se_abs (by rfl) T.m_abs (sa_cons (se_of 1 (pv 1)) sa_nil)) sao_nil)))
  (ss_cons (ss_while (passes_of rfl) (st_gt (se_of 3 (pv 3)) se_int) (ss_one (ss_par2 (i := 2) (j := 3) rfl sc__law_part.nd rfl rfl (by decide) rfl rfl (sao_d (se_of 3 (pv 3)) (sao_d (se_mod (se_intc (by rfl) T.m_int (sa_cons (se_of 2 (pv 2)) sa_nil)) (se_of 3 (pv 3))) sao_nil)))))
  (ss_one (ss_ret (se_of 2 (pv 2)))))))).imp (spOf_imp (imp__law_part))
abbrev st__law_least : Stmt := top 28
theorem sc__law_least : FnScope N__law_least ["top", "bottom"] (defScope st__law_least) := ⟨rfl, rfl, rfl, by decide +kernel, rfl, by decide +kernel, by decide +kernel⟩
theorem D__law_least (T : Txt P K mg base ec xc fa) (D__law_part : DefOk P w K mg base "_law_part" 2 (spOf K ec 2 S__law_part)) {f : Addr} {fd : FuncData} (F : L2.Fun K "_law_least" "_law_least" st__law_least f fd) (hf : mg "_law_least" = some (.ref f)) (bd : Binds K fd ["top", "bottom"] []) : DefOk P w K mg base "_law_least" 3 (spOf K ec 2 S__law_least) := by
  exact (def_ok (N := N__law_least) (k := 2) (t := ((aSeq (aSet 2 (aBin dMul (aCall 2 S__law_part (aCons (aVar 0) (aCons (aVar 1) aNil))) (aIf (aTestB (aBin dGt (aVar 1) (aC (.int 0)))) (aC (.int 1)) (aNeg (aC (.int 1))))))
  (aRet (aTup (aCons (aBin dDiv (aVar 0) (aVar 2)) (aCons (aBin dDiv (aVar 1) (aVar 2)) aNil))))) : AS)) F sc__law_least hf bd (fun cdv A outer s H E B W hB hr tk => (ss_cons (ss_set (i := 2) sc__law_least.nd rfl (by first | exact .inl rfl | exact .inr rfl) (se_mul (se_call hB D__law_part tk (hr.down (by decide : 2 ≤ 2)) (by rfl) (sa_cons (se_of 0 (pv 0)) (sa_cons (se_of 1 (pv 1)) sa_nil))) (se_if (st_gt (se_of 1 (pv 1)) se_int) se_int (se_neg se_int))))
  (ss_one (ss_ret (se_tup (sa_cons (se_div (se_of 0 (pv 0)) (se_of 2 (pv 2))) (sa_cons (se_div (se_of 1 (pv 1)) (se_of 2 (pv 2))) sa_nil)))))))).imp (spOf_imp (imp__law_least))
abbrev st__law_plus : Stmt := top 29
theorem sc__law_plus : FnScope N__law_plus ["one", "other"] (defScope st__law_plus) := ⟨rfl, rfl, rfl, by decide +kernel, rfl, by decide +kernel, by decide +kernel⟩
theorem D__law_plus (T : Txt P K mg base ec xc fa) (D__law_least : DefOk P w K mg base "_law_least" 3 (spOf K ec 2 S__law_least)) {f : Addr} {fd : FuncData} (F : L2.Fun K "_law_plus" "_law_plus" st__law_plus f fd) (hf : mg "_law_plus" = some (.ref f)) (bd : Binds K fd ["one", "other"] []) : DefOk P w K mg base "_law_plus" 4 (spOf K ec 2 S__law_plus) := by
  exact (def_ok (N := N__law_plus) (k := 3) (t := ((aRet (aCall 2 S__law_least (aCons (aBin dAdd (aBin dMul (aBin dIdx (aVar 0) (aC (.int 0))) (aBin dIdx (aVar 1) (aC (.int 1)))) (aBin dMul (aBin dIdx (aVar 1) (aC (.int 0))) (aBin dIdx (aVar 0) (aC (.int 1))))) (aCons (aBin dMul (aBin dIdx (aVar 0) (aC (.int 1))) (aBin dIdx (aVar 1) (aC (.int 1)))) aNil)))) : AS)) F sc__law_plus hf bd (fun cdv A outer s H E B W hB hr tk => (ss_one (ss_ret (se_call hB D__law_least tk (hr.down (by decide : 3 ≤ 3)) (by rfl) (sa_cons (se_add (se_mul (se_ix hr.toRoom (se_of 0 (pv 0)) se_int) (se_ix hr.toRoom (se_of 1 (pv 1)) se_int)) (se_mul (se_ix hr.toRoom (se_of 1 (pv 1)) se_int) (se_ix hr.toRoom (se_of 0 (pv 0)) se_int))) (sa_cons (se_mul (se_ix hr.toRoom (se_of 0 (pv 0)) se_int) (se_ix hr.toRoom (se_of 1 (pv 1)) se_int)) sa_nil))))))).imp (spOf_imp (imp__law_plus))
abbrev st__law_times : Stmt := top 30
theorem sc__law_times : FnScope N__law_times ["one", "other"] (defScope st__law_times) := ⟨rfl, rfl, rfl, by decide +kernel, rfl, by decide +kernel, by decide +kernel⟩
theorem D__law_times (T : Txt P K mg base ec xc fa) (D__law_least : DefOk P w K mg base "_law_least" 3 (spOf K ec 2 S__law_least)) {f : Addr} {fd : FuncData} (F : L2.Fun K "_law_times" "_law_times" st__law_times f fd) (hf : mg "_law_times" = some (.ref f)) (bd : Binds K fd ["one", "other"] []) : DefOk P w K mg base "_law_times" 4 (spOf K ec 2 S__law_times) := by
  exact (def_ok (N := N__law_times) (k := 3) (t := ((aRet (aCall 2 S__law_least (aCons (aBin dMul (aBin dIdx (aVar 0) (aC (.int 0))) (aBin dIdx (aVar 1) (aC (.int 0)))) (aCons (aBin dMul (aBin dIdx (aVar 0) (aC (.int 1))) (aBin dIdx (aVar 1) (aC (.int 1)))) aNil)))) : AS)) F sc__law_times hf bd (fun cdv A outer s H E B W hB hr tk => (ss_one (ss_ret (se_call hB D__law_least tk (hr.down (by decide : 3 ≤ 3)) (by rfl) (sa_cons (se_mul (se_ix hr.toRoom (se_of 0 (pv 0)) se_int) (se_ix hr.toRoom (se_of 1 (pv 1)) se_int)) (sa_cons (se_mul (se_ix hr.toRoom (se_of 0 (pv 0)) se_int) (se_ix hr.toRoom (se_of 1 (pv 1)) se_int)) sa_nil))))))).imp (spOf_imp (imp__law_times))
abbrev st__law_power : Stmt := top 31
theorem sc__law_power : FnScope N__law_power ["number", "many"] (defScope st__law_power) := ⟨rfl, rfl, rfl, by decide +kernel, rfl, by decide +kernel, by decide +kernel⟩
theorem D__law_power (T : Txt P K mg base ec xc fa) {f : Addr} {fd : FuncData} (F : L2.Fun K "_law_power" "_law_power" st__law_power f fd) (hf : mg "_law_power" = some (.ref f)) (bd : Binds K fd ["number", "many"] []) : DefOk P w K mg base "_law_power" 2 (spOf K ec 2 S__law_power) := by
  exact (def_ok (N := N__law_power) (k := 1) (t := ((aSeq (aParO [2, 3, 4] (aoD (aC (.int 1)) (aoD (aVar 0) (aoD (aVar 1) aoNil))))
  (aSeq (aWhile ((aTestB (aBin dGt (aVar 4) (aC (.int 0))))) ((aSeq (aSet 2 (aIf (aTestB (aBin dEq2 (aBin dMod (aOp dInt (aCons (aVar 4) aNil)) (aC (.int 2))) (aC (.int 1)))) (aBin dMul (aVar 2) (aVar 3)) (aVar 2)))
  (aSeq (aSet 4 (aBin dDiv (aVar 4) (aC (.int 2))))
  (aSet 3 (aIf (aTestB (aBin dGt (aVar 4) (aC (.int 0)))) (aBin dMul (aVar 3) (aVar 3)) (aVar 3)))))))
  (aRet (aVar 2)))) : AS)) F sc__law_power hf bd (fun cdv A outer s H E B W hB hr tk => (ss_cons (ss_par3 (i := 2) (j := 3) (l := 4) rfl sc__law_power.nd rfl rfl rfl (by decide) (by decide) (by decide) rfl rfl rfl (sao_d se_int (sao_d (se_of 0 (pv 0)) (sao_d (se_of 1 (pv 1)) sao_nil))))
  (ss_cons (ss_while (passes_of rfl) (st_gt (se_of 4 (pv 4)) se_int) (ss_cons (ss_set (i := 2) sc__law_power.nd rfl (by first | exact .inl rfl | exact .inr rfl) (se_if (st_eq2 hr.toRoom (se_mod (se_intc (by rfl) T.m_int (sa_cons (se_of 4 (pv 4)) sa_nil)) se_int) se_int) (se_mul (se_of 2 (pv 2)) (se_of 3 (pv 3))) (se_of 2 (pv 2))))
  (ss_cons (ss_set (i := 4) sc__law_power.nd rfl (by first | exact .inl rfl | exact .inr rfl) (se_div (se_of 4 (pv 4)) se_int))
  (ss_one (ss_set (i := 3) sc__law_power.nd rfl (by first | exact .inl rfl | exact .inr rfl) (se_if (st_gt (se_of 4 (pv 4)) se_int) (se_mul (se_of 3 (pv 3)) (se_of 3 (pv 3))) (se_of 3 (pv 3))))))))
  (ss_one (ss_ret (se_of 2 (pv 2)))))))).imp (spOf_imp (imp__law_power))
abbrev st__law_number : Stmt := top 32
theorem sc__law_number : FnScope N__law_number ["source"] (defScope st__law_number) := ⟨rfl, rfl, rfl, by decide +kernel, rfl, by decide +kernel, by decide +kernel⟩
theorem D__law_number (T : Txt P K mg base ec xc fa) (D__law_of : DefOk P w K mg base "_law_of" 3 (spOfZ K ec 1 S__law_of)) {f : Addr} {fd : FuncData} (F : L2.Fun K "_law_number" "_law_number" st__law_number f fd) (hf : mg "_law_number" = some (.ref f)) (bd : Binds K fd ["source"] []) : DefOk P w K mg base "_law_number" 4 (spOfZ K ec 0 S__law_number) := by
  exact (def_okZ (N := N__law_number) (k := 3) (n := 0) (t := ((aSeq (aSet 1 (aLst (aCons (aC (.int 0)) (aCons (aC (.int 1)) (aCons (aNeg (aC (.int 1))) (aCons (aC (.int 2)) (aCons (aC (.int 3)) (aCons (aNeg (aC (.int 4))) (aCons (aC (.int 6)) (aCons (aC (.int 10)) (aCons (aNeg (aC (.int 15))) (aCons (aC (.int 77)) (aCons (aBin dPow (aC (.int 10)) (aC (.int 9))) (aCons (aBin dAdd (aBin dPow (aC (.int 10)) (aC (.int 20))) (aC (.int 1))) (aCons (aBin dMul (aNeg (aC (.int 7))) (aBin dPow (aC (.int 10)) (aC (.int 30)))) (aCons (aBin dSub (aBin dPow (aC (.int 10)) (aC (.int 60))) (aC (.int 1))) aNil))))))))))))))))
  (aRet (aBin dMul (aCallZ 0 1 S__law_of (aCons (aVar 1) aNil)) (aCallZ 0 1 S__law_of (aCons (aLst (aCons (aC (.int 1)) (aCons (aC (.int 1)) (aCons (aC (.int 2)) (aCons (aNeg (aC (.int 3))) aNil))))) aNil))))) : AS)) F sc__law_number hf bd rfl (fun cdv A outer s H E B W hB hr tk => (ss_cons (ss_set (i := 1) sc__law_number.nd rfl (by first | exact .inl rfl | exact .inr rfl) (se_of_sf (sf_lst (sa_cons se_int (sa_cons se_int (sa_cons (se_neg se_int) (sa_cons se_int (sa_cons se_int (sa_cons (se_neg se_int) (sa_cons se_int (sa_cons se_int (sa_cons (se_neg se_int) (sa_cons se_int (sa_cons (se_pow se_int se_int) (sa_cons (se_add (se_pow se_int se_int) se_int) (sa_cons (se_mul (se_neg se_int) (se_pow se_int se_int)) (sa_cons (se_sub (se_pow se_int se_int) se_int) sa_nil)))))))))))))))))
  (ss_one (ss_ret (se_mul (se_callZ 0 hB D__law_of tk (hr.down (by decide : 3 ≤ 3)) (by rfl) (pv 0) (sa_cons (se_of 1 (pv 1)) sa_nil)) (se_callZ 0 hB D__law_of tk (hr.down (by decide : 3 ≤ 3)) (by rfl) (pv 0) (sa_cons (se_of_sf (sf_lst (sa_cons se_int (sa_cons se_int (sa_cons se_int (sa_cons (se_neg se_int) sa_nil)))))) sa_nil)))))))).imp (spOfZ_imp (imp__law_number))
abbrev st__law_fraction : Stmt := top 33
theorem sc__law_fraction : FnScope N__law_fraction ["source"] (defScope st__law_fraction) := ⟨rfl, rfl, rfl, by decide +kernel, rfl, by decide +kernel, by decide +kernel⟩
theorem D__law_fraction (T : Txt P K mg base ec xc fa) (D__law_number : DefOk P w K mg base "_law_number" 4 (spOfZ K ec 0 S__law_number)) (D__law_least : DefOk P w K mg base "_law_least" 3 (spOf K ec 2 S__law_least)) {f : Addr} {fd : FuncData} (F : L2.Fun K "_law_fraction" "_law_fraction" st__law_fraction f fd) (hf : mg "_law_fraction" = some (.ref f)) (bd : Binds K fd ["source"] []) : DefOk P w K mg base "_law_fraction" 5 (spOfZ K ec 0 S__law_fraction) := by
  exact (def_okZ (N := N__law_fraction) (k := 4) (n := 0) (t := ((aSeq (aSet 1 (aCallZ 0 0 S__law_number aNil))
  (aRet (aCall 2 S__law_least (aCons (aCallZ 0 0 S__law_number aNil) (aCons (aIf (aTestB (aBin dNe2 (aVar 1) (aC (.int 0)))) (aVar 1) (aC (.int 7))) aNil))))) : AS)) F sc__law_fraction hf bd rfl (fun cdv A outer s H E B W hB hr tk => (ss_cons (ss_set (i := 1) sc__law_fraction.nd rfl (by first | exact .inl rfl | exact .inr rfl) (se_callZ 0 hB D__law_number tk (hr.down (by decide : 4 ≤ 4)) (by rfl) (pv 0) sa_nil))
  (ss_one (ss_ret (se_call hB D__law_least tk (hr.down (by decide : 3 ≤ 4)) (by rfl) (sa_cons (se_callZ 0 hB D__law_number tk (hr.down (by decide : 4 ≤ 4)) (by rfl) (pv 0) sa_nil) (sa_cons (se_if (st_ne2 hr.toRoom (se_of 1 (pv 1)) se_int) (se_of 1 (pv 1)) se_int) sa_nil)))))))).imp (spOfZ_imp (imp__law_fraction))
abbrev st__law_told : Stmt := top 34
theorem sc__law_told : FnScope N__law_told ["numbers"] (defScope st__law_told) := ⟨rfl, rfl, rfl, by decide +kernel, rfl, by decide +kernel, by decide +kernel⟩
theorem D__law_told (T : Txt P K mg base ec xc fa) (D_not_long : DefOk P w K mg base "not_long" 3 (spOf K ec 1 S_not_long)) {f : Addr} {fd : FuncData} (F : L2.Fun K "_law_told" "_law_told" st__law_told f fd) (hf : mg "_law_told" = some (.ref f)) (bd : Binds K fd ["numbers"] []) : DefOk P w K mg base "_law_told" 4 (spOf K ec 1 S__law_told) := by
  exact (def_ok (N := N__law_told) (k := 3) (t := ((aTry (fun n => n == "TooGreat") 1 (aRet (aTup (aCons (aC (.str "told")) (aCons (aCall 1 S_not_long (aCons (aVar 0) aNil)) aNil)))) fun x a => (aRet (aTup (aCons (aC (.str "great")) (aCons (aFld 1 "number" x a) aNil))))) : AS)) F sc__law_told hf bd (fun cdv A outer s H E B W hB hr tk => (ss_one (ss_try (i := 1) (m := (fun n => n == "TooGreat")) hB rfl rfl sc__law_told.nd rfl rfl (by exact ⟨rfl, by decide, .inl T.x_TooGreat.gC⟩) tk T.xm_TooGreat (fun B' W' pn xe hB tk' po' => (ss_one (ss_ret (se_tup (sa_cons se_str (sa_cons (se_call hB D_not_long tk' (hr.down (by decide : 3 ≤ 3)) (by rfl) (sa_cons (se_of 0 (pv 0)) sa_nil)) sa_nil)))))) (fun x B' a oe cls d pn hB' hm hx hz hf => by have hB := hB'; exact (ss_one (ss_ret (se_tup (sa_cons se_str (sa_cons (se_fld hB' T.x_TooGreat T.e_TooGreat hx (eq_of_beq hm) rfl hz hf (pv 1)) sa_nil)))))))))).imp (spOf_imp (imp__law_told))
abbrev st_law : Stmt := top 35
theorem sc_law : FnScope N_law ["script"] (defScope st_law) := ⟨rfl, rfl, rfl, by decide +kernel, rfl, by decide +kernel, by decide +kernel⟩
theorem fn_law (T : Txt P K mg base ec xc fa) (so : SrcOk P w K mg base) (D_common_bottom : DefOk P w K mg base "common_bottom" 3 (spOf K ec 1 S_common_bottom)) (D_fractions_ascending : DefOk P w K mg base "fractions_ascending" 4 (spOf K ec 1 S_fractions_ascending)) (D__law_of : DefOk P w K mg base "_law_of" 3 (spOfZ K ec 1 S__law_of)) (D_fraction_product : DefOk P w K mg base "fraction_product" 3 (spOf K ec 2 S_fraction_product)) (D__law_least : DefOk P w K mg base "_law_least" 3 (spOf K ec 2 S__law_least)) (D__law_fraction : DefOk P w K mg base "_law_fraction" 5 (spOfZ K ec 0 S__law_fraction)) (D__law_power : DefOk P w K mg base "_law_power" 2 (spOf K ec 2 S__law_power)) (D__law_part : DefOk P w K mg base "_law_part" 2 (spOf K ec 2 S__law_part)) (D_fraction_told : DefOk P w K mg base "fraction_told" 2 (spOf K ec 2 S_fraction_told)) (D_fraction_sum : DefOk P w K mg base "fraction_sum" 3 (spOf K ec 2 S_fraction_sum)) (D__law_plus : DefOk P w K mg base "_law_plus" 4 (spOf K ec 2 S__law_plus)) (D_fraction_less : DefOk P w K mg base "fraction_less" 3 (spOf K ec 2 S_fraction_less)) (D__law_times : DefOk P w K mg base "_law_times" 4 (spOf K ec 2 S__law_times)) (D_fraction_power : DefOk P w K mg base "fraction_power" 3 (spOf K ec 2 S_fraction_power)) (D__law_pick : DefOk P w K mg base "_law_pick" 2 (spOfZ K ec 1 S__law_pick)) (D__law_told : DefOk P w K mg base "_law_told" 4 (spOf K ec 1 S__law_told)) (D_fraction_over : DefOk P w K mg base "fraction_over" 3 (spOf K ec 2 S_fraction_over)) (D_sign_of : DefOk P w K mg base "sign_of" 2 (spOf K ec 1 S_sign_of)) (D_compared : DefOk P w K mg base "compared" 2 (spOf K ec 2 S_compared)) {f : Addr} {fd : FuncData} (F : L2.Fun K "law" "law" st_law f fd) (holds : runL N_law (d_law)) : FnG P w K mg base 6 f fd ["script"] (spLaw K) := by
  obtain ⟨f0, fd0, g0, k0, b0, F0⟩ := so.ex
  exact law_fn (t := ((aSeq (aFor (aRng1 (aCons (aC (.int 3)) aNil)) ((gSet 2)) ((aSeq (aAsg (aLc (aRng1 (aCons (aC (.int 3)) aNil)) ((gSet 22)) aYes ((aCallZ 1 0 S__law_fraction aNil)) [22]) (gTupA 3 (gsCons (gSet 3) (gsCons (gSet 4) (gsCons (gSet 5) gsNil)))))
  (aSeq (aSet 6 (aCallZ 1 1 S__law_of (aCons (aLst (aCons (aC (.int 1)) (aCons (aNeg (aC (.int 1))) (aCons (aC (.int 6)) (aCons (aNeg (aC (.int 35))) (aCons (aBin dPow (aC (.int 10)) (aC (.int 12))) aNil)))))) aNil)))
  (aSeq (aIfS (aTestB (aBin dNe2 (aOp dRepr (aCons (aCall 2 S_fraction_told (aCons (aBin dMul (aBin dIdx (aVar 3) (aC (.int 0))) (aVar 6)) (aCons (aBin dMul (aBin dIdx (aVar 3) (aC (.int 1))) (aVar 6)) aNil))) aNil)) (aOp dRepr (aCons (aVar 3) aNil)))) (aRet (aC (.bl false))) aSkip)
  (aSeq (aIfS (aTestB (aBin dNe2 (aOp dRepr (aCons (aCall 2 S_fraction_sum (aCons (aVar 3) (aCons (aVar 4) aNil))) aNil)) (aOp dRepr (aCons (aCall 2 S__law_plus (aCons (aVar 3) (aCons (aVar 4) aNil))) aNil)))) (aRet (aC (.bl false))) aSkip)
  (aSeq (aSet 7 (aTup (aCons (aBin dSub (aC (.int 0)) (aBin dIdx (aVar 4) (aC (.int 0)))) (aCons (aBin dIdx (aVar 4) (aC (.int 1))) aNil))))
  (aSeq (aIfS (aTestB (aBin dNe2 (aOp dRepr (aCons (aCall 2 S_fraction_less (aCons (aVar 3) (aCons (aVar 4) aNil))) aNil)) (aOp dRepr (aCons (aCall 2 S__law_plus (aCons (aVar 3) (aCons (aVar 7) aNil))) aNil)))) (aRet (aC (.bl false))) aSkip)
  (aSeq (aSet 8 (aCall 2 S_fraction_product (aCons (aVar 3) (aCons (aVar 4) aNil))))
  (aSeq (aIfS (aTestB (aBin dNe2 (aOp dRepr (aCons (aVar 8) aNil)) (aOp dRepr (aCons (aCall 2 S__law_times (aCons (aVar 3) (aCons (aVar 4) aNil))) aNil)))) (aRet (aC (.bl false))) aSkip)
  (aSeq (aIfS (aAnd (aTestB (aBin dNe2 (aBin dIdx (aVar 4) (aC (.int 0))) (aC (.int 0)))) (aTestB (aBin dNe2 (aOp dRepr (aCons (aCall 2 S_fraction_over (aCons (aVar 3) (aCons (aVar 4) aNil))) aNil)) (aOp dRepr (aCons (aCall 2 S__law_least (aCons (aBin dMul (aBin dIdx (aVar 3) (aC (.int 0))) (aBin dIdx (aVar 4) (aC (.int 1)))) (aCons (aBin dMul (aBin dIdx (aVar 3) (aC (.int 1))) (aBin dIdx (aVar 4) (aC (.int 0)))) aNil))) aNil))))) (aRet (aC (.bl false))) aSkip)
  (aSeq (aIfS (aTestB (aBin dNe2 (aOp dRepr (aCons (aCall 2 S_fraction_sum (aCons (aCall 2 S_fraction_product (aCons (aVar 3) (aCons (aVar 5) aNil))) (aCons (aCall 2 S_fraction_product (aCons (aVar 4) (aCons (aVar 5) aNil))) aNil))) aNil)) (aOp dRepr (aCons (aCall 2 S_fraction_product (aCons (aCall 2 S_fraction_sum (aCons (aVar 3) (aCons (aVar 4) aNil))) (aCons (aVar 5) aNil))) aNil)))) (aRet (aC (.bl false))) aSkip)
  (aSeq (aSet 9 (aCall 2 S__law_least (aCons (aCallZ 1 1 S__law_of (aCons (aLst (aCons (aC (.int 0)) (aCons (aC (.int 1)) (aCons (aNeg (aC (.int 1))) (aCons (aC (.int 2)) (aCons (aNeg (aC (.int 3))) (aCons (aBin dPow (aC (.int 10)) (aC (.int 9))) aNil))))))) aNil)) (aCons (aCallZ 1 1 S__law_of (aCons (aLst (aCons (aC (.int 1)) (aCons (aC (.int 2)) (aCons (aC (.int 7)) (aCons (aBin dAdd (aBin dPow (aC (.int 10)) (aC (.int 9))) (aC (.int 1))) aNil))))) aNil)) aNil))))
  (aSeq (aSet 10 (aCallZ 1 1 S__law_of (aCons (aLst (aCons (aC (.int 0)) (aCons (aC (.int 1)) (aCons (aC (.int 2)) (aCons (aC (.int 3)) (aCons (aC (.int 7)) aNil)))))) aNil)))
  (aSeq (aSet 11 (aCall 2 S__law_least (aCons (aCall 2 S__law_power (aCons (aBin dIdx (aVar 9) (aC (.int 0))) (aCons (aVar 10) aNil))) (aCons (aCall 2 S__law_power (aCons (aBin dIdx (aVar 9) (aC (.int 1))) (aCons (aVar 10) aNil))) aNil))))
  (aSeq (aIfS (aTestB (aBin dNe2 (aOp dRepr (aCons (aCall 2 S_fraction_power (aCons (aVar 9) (aCons (aVar 10) aNil))) aNil)) (aOp dRepr (aCons (aVar 11) aNil)))) (aRet (aC (.bl false))) aSkip)
  (aSeq (aSet 12 (aBin dSub (aBin dMul (aBin dIdx (aVar 3) (aC (.int 0))) (aBin dIdx (aVar 4) (aC (.int 1)))) (aBin dMul (aBin dIdx (aVar 4) (aC (.int 0))) (aBin dIdx (aVar 3) (aC (.int 1))))))
  (aSeq (aSet 11 (aLst (aCons (aBin dSub (aOp dInt (aCons (aBin dGt (aBin dIdx (aVar 3) (aC (.int 0))) (aC (.int 0))) aNil)) (aOp dInt (aCons (aBin dLt (aBin dIdx (aVar 3) (aC (.int 0))) (aC (.int 0))) aNil))) (aCons (aBin dSub (aOp dInt (aCons (aBin dGt (aVar 12) (aC (.int 0))) aNil)) (aOp dInt (aCons (aBin dLt (aVar 12) (aC (.int 0))) aNil))) (aCons (aC (.int 0)) aNil)))))
  (aIfS (aTestB (aBin dNe2 (aOp dRepr (aCons (aLst (aCons (aCall 1 S_sign_of (aCons (aVar 3) aNil)) (aCons (aCall 2 S_compared (aCons (aVar 3) (aCons (aVar 4) aNil))) (aCons (aCall 2 S_compared (aCons (aVar 5) (aCons (aVar 5) aNil))) aNil)))) aNil)) (aOp dRepr (aCons (aVar 11) aNil)))) (aRet (aC (.bl false))) aSkip)))))))))))))))))))
  (aSeq (aSet 13 (aLc (aRng1 (aCons (aCallZ 1 1 S__law_pick (aCons (aC (.int 7)) aNil)) aNil)) ((gSet 22)) aYes ((aCallZ 1 0 S__law_fraction aNil)) [22]))
  (aSeq (aSet 13 (aBin dAdd (aVar 13) (aSl (aVar 13) aNoPart (aPart (aC (.int 2))))))
  (aSeq (aSet 14 (aCall 1 S_common_bottom (aCons (aVar 13) aNil)))
  (aSeq (aSet 15 (aC (.int 1)))
  (aSeq (aFor (aIt (aVar 13)) ((gTupA 2 (gsCons (gSet 16) (gsCons (gSet 17) gsNil)))) ((aSet 15 (aBin dDiv (aBin dMul (aVar 15) (aVar 17)) (aCall 2 S__law_part (aCons (aVar 15) (aCons (aVar 17) aNil)))))))
  (aSeq (aIfS (aTestB (aBin dNe2 (aVar 14) (aVar 15))) (aRet (aC (.bl false))) aSkip)
  (aSeq (aSet 18 (aCall 1 S_fractions_ascending (aCons (aVar 13) aNil)))
  (aSeq (aIfS (aTestB (aBin dNe2 (aOp dSortedT (aCons (aVar 18) aNil)) (aOp dSortedN (aCons (aOp dDict (aCons (aLc (aIt (aVar 13)) ((gSet 3)) aYes ((aTup (aCons (aVar 3) (aCons (aC (.int 0)) aNil)))) [3]) aNil)) aNil)))) (aRet (aC (.bl false))) aSkip)
  (aSeq (aIfS (aTestB (aBin dNe2 (aLc (aZip (aCons (aVar 18) (aCons (aSl (aVar 18) (aPart (aC (.int 1))) aNoPart) aNil))) ((gTupA 2 (gsCons (gSet 3) (gsCons (gSet 22) gsNil)))) ((aTestB (aBin dGe (aBin dMul (aBin dIdx (aVar 3) (aC (.int 0))) (aBin dIdx (aVar 22) (aC (.int 1)))) (aBin dMul (aBin dIdx (aVar 22) (aC (.int 0))) (aBin dIdx (aVar 3) (aC (.int 1))))))) ((aC (.int 1))) [3, 22]) (aLst aNil))) (aRet (aC (.bl false))) aSkip)
  (aSeq (aSet 19 (aBin dMul (aOp dIntS (aCons (aBin dRepS (aC (.str "9")) (aC (.int 300))) aNil)) (aCallZ 1 1 S__law_of (aCons (aLst (aCons (aC (.int 1)) (aCons (aNeg (aC (.int 1))) aNil))) aNil))))
  (aSeq (aSet 20 (aBin dAdd (aVar 19) (aIf (aTestB (aBin dGt (aVar 19) (aC (.int 0)))) (aC (.int 1)) (aNeg (aC (.int 1))))))
  (aSeq (aFor (aIt (aTup (aCons (aTup (aCons (aVar 19) aNil)) (aCons (aTup (aCons (aC (.int 0)) (aCons (aVar 19) (aCons (aC (.int 7)) aNil)))) (aCons (aTup (aCons (aVar 20) aNil)) (aCons (aTup (aCons (aC (.int 1)) (aCons (aVar 20) aNil))) (aCons (aTup aNil) aNil))))))) ((gSet 21)) ((aSeq (aSet 11 (aIf (aTestB (aBin (dIn false) (aVar 20) (aVar 21))) (aTup (aCons (aC (.str "great")) (aCons (aC (.int 2)) aNil))) (aTup (aCons (aC (.str "told")) (aCons (aVar 21) aNil)))))
  (aIfS (aTestB (aBin dNe2 (aOp dRepr (aCons (aCall 1 S__law_told (aCons (aVar 21) aNil)) aNil)) (aOp dRepr (aCons (aVar 11) aNil)))) (aRet (aC (.bl false))) aSkip))))
  (aRet (aC (.bl true)))))))))))))))) : AS)) (k := 5) (st0 := (defBody st_law).getD 0 (.Pass ⟨0, 0, 0, 0⟩)) (rest := (defBody st_law).drop 1) F sc_law (by decide) rfl ⟨f0, fd0, g0, k0, b0, F0⟩
    (fun cdv A outer s H E W hr tk => ps_set (i := 1) sc_law.nd rfl (by first | exact .inl rfl | exact .inr rfl) (pe_callG F0 (hr.down (by decide)) (by rfl) g0 k0 b0 (fun σ => passAt tk σ) (pa_cons (pv 0) pa_nil)))
    (fun cdv A outer s H E B W hB hr tk => (ss_cons (ss_for (vs := [2]) (passes_of rfl) rfl (si_range1 (by rfl) T.m_range (sa_cons se_int sa_nil)) (sg_of (pg_name (i := 2) sc_law.nd rfl (by first | exact .inl rfl | exact .inr rfl)) (by decide)) (ss_cons (ss_asg (vs := [3, 4, 5]) (se_of_sf (sf_lc (own := [("late", 22)]) rfl sc_law.nd (si_range1 (by rfl) T.m_range (sa_cons se_int sa_nil)) (blkOk_by (by kernel_rfl)) (fun _ _ _ _ _ _ => (sg_of (pg_name (i := 22) sc_law.nd rfl (by first | exact .inl rfl | exact .inr rfl)) (by decide))) (fun _ _ _ _ _ _ => sts_nil) (fun _ _ _ _ _ _ => (se_callZ 1 hB D__law_fraction takes0 (hr.down (by decide : 5 ≤ 5)) (by rfl) (pv 1) sa_nil)))) (sg_tup rfl (sgs_cons (sg_of (pg_name (i := 3) sc_law.nd rfl (by first | exact .inl rfl | exact .inr rfl)) (by decide)) (sgs_cons (sg_of (pg_name (i := 4) sc_law.nd rfl (by first | exact .inl rfl | exact .inr rfl)) (by decide)) (sgs_cons (sg_of (pg_name (i := 5) sc_law.nd rfl (by first | exact .inl rfl | exact .inr rfl)) (by decide)) sgs_nil)))))
  (ss_cons (ss_set (i := 6) sc_law.nd rfl (by first | exact .inl rfl | exact .inr rfl) (se_callZ 1 hB D__law_of tk (hr.down (by decide : 3 ≤ 5)) (by rfl) (pv 1) (sa_cons (se_of_sf (sf_lst (sa_cons se_int (sa_cons (se_neg se_int) (sa_cons se_int (sa_cons (se_neg se_int) (sa_cons (se_pow se_int se_int) sa_nil))))))) sa_nil)))
  (ss_cons (ss_if (st_ne2 hr.toRoom (se_repr hr (by rfl) T.m_repr (sa_cons (se_call hB D_fraction_told tk (hr.down (by decide : 2 ≤ 5)) (by rfl) (sa_cons (se_mul (se_ix hr.toRoom (se_of 3 (pv 3)) se_int) (se_of 6 (pv 6))) (sa_cons (se_mul (se_ix hr.toRoom (se_of 3 (pv 3)) se_int) (se_of 6 (pv 6))) sa_nil))) sa_nil)) (se_repr hr (by rfl) T.m_repr (sa_cons (se_of 3 (pv 3)) sa_nil))) (ss_one (ss_ret se_bl)) ss_nil)
  (ss_cons (ss_if (st_ne2 hr.toRoom (se_repr hr (by rfl) T.m_repr (sa_cons (se_call hB D_fraction_sum tk (hr.down (by decide : 3 ≤ 5)) (by rfl) (sa_cons (se_of 3 (pv 3)) (sa_cons (se_of 4 (pv 4)) sa_nil))) sa_nil)) (se_repr hr (by rfl) T.m_repr (sa_cons (se_call hB D__law_plus tk (hr.down (by decide : 4 ≤ 5)) (by rfl) (sa_cons (se_of 3 (pv 3)) (sa_cons (se_of 4 (pv 4)) sa_nil))) sa_nil))) (ss_one (ss_ret se_bl)) ss_nil)
  (ss_cons (ss_set (i := 7) sc_law.nd rfl (by first | exact .inl rfl | exact .inr rfl) (se_tup (sa_cons (se_sub se_int (se_ix hr.toRoom (se_of 4 (pv 4)) se_int)) (sa_cons (se_ix hr.toRoom (se_of 4 (pv 4)) se_int) sa_nil))))
  (ss_cons (ss_if (st_ne2 hr.toRoom (se_repr hr (by rfl) T.m_repr (sa_cons (se_call hB D_fraction_less tk (hr.down (by decide : 3 ≤ 5)) (by rfl) (sa_cons (se_of 3 (pv 3)) (sa_cons (se_of 4 (pv 4)) sa_nil))) sa_nil)) (se_repr hr (by rfl) T.m_repr (sa_cons (se_call hB D__law_plus tk (hr.down (by decide : 4 ≤ 5)) (by rfl) (sa_cons (se_of 3 (pv 3)) (sa_cons (se_of 7 (pv 7)) sa_nil))) sa_nil))) (ss_one (ss_ret se_bl)) ss_nil)
  (ss_cons (ss_set (i := 8) sc_law.nd rfl (by first | exact .inl rfl | exact .inr rfl) (se_call hB D_fraction_product tk (hr.down (by decide : 3 ≤ 5)) (by rfl) (sa_cons (se_of 3 (pv 3)) (sa_cons (se_of 4 (pv 4)) sa_nil))))
  (ss_cons (ss_if (st_ne2 hr.toRoom (se_repr hr (by rfl) T.m_repr (sa_cons (se_of 8 (pv 8)) sa_nil)) (se_repr hr (by rfl) T.m_repr (sa_cons (se_call hB D__law_times tk (hr.down (by decide : 4 ≤ 5)) (by rfl) (sa_cons (se_of 3 (pv 3)) (sa_cons (se_of 4 (pv 4)) sa_nil))) sa_nil))) (ss_one (ss_ret se_bl)) ss_nil)
  (ss_cons (ss_if (st_bool (sw_and (st_ne2 hr.toRoom (se_ix hr.toRoom (se_of 4 (pv 4)) se_int) se_int) (sw_and1 (st_ne2 hr.toRoom (se_repr hr (by rfl) T.m_repr (sa_cons (se_call hB D_fraction_over tk (hr.down (by decide : 3 ≤ 5)) (by rfl) (sa_cons (se_of 3 (pv 3)) (sa_cons (se_of 4 (pv 4)) sa_nil))) sa_nil)) (se_repr hr (by rfl) T.m_repr (sa_cons (se_call hB D__law_least tk (hr.down (by decide : 3 ≤ 5)) (by rfl) (sa_cons (se_mul (se_ix hr.toRoom (se_of 3 (pv 3)) se_int) (se_ix hr.toRoom (se_of 4 (pv 4)) se_int)) (sa_cons (se_mul (se_ix hr.toRoom (se_of 3 (pv 3)) se_int) (se_ix hr.toRoom (se_of 4 (pv 4)) se_int)) sa_nil))) sa_nil)))))) (ss_one (ss_ret se_bl)) ss_nil)
  (ss_cons (ss_if (st_ne2 hr.toRoom (se_repr hr (by rfl) T.m_repr (sa_cons (se_call hB D_fraction_sum tk (hr.down (by decide : 3 ≤ 5)) (by rfl) (sa_cons (se_call hB D_fraction_product tk (hr.down (by decide : 3 ≤ 5)) (by rfl) (sa_cons (se_of 3 (pv 3)) (sa_cons (se_of 5 (pv 5)) sa_nil))) (sa_cons (se_call hB D_fraction_product tk (hr.down (by decide : 3 ≤ 5)) (by rfl) (sa_cons (se_of 4 (pv 4)) (sa_cons (se_of 5 (pv 5)) sa_nil))) sa_nil))) sa_nil)) (se_repr hr (by rfl) T.m_repr (sa_cons (se_call hB D_fraction_product tk (hr.down (by decide : 3 ≤ 5)) (by rfl) (sa_cons (se_call hB D_fraction_sum tk (hr.down (by decide : 3 ≤ 5)) (by rfl) (sa_cons (se_of 3 (pv 3)) (sa_cons (se_of 4 (pv 4)) sa_nil))) (sa_cons (se_of 5 (pv 5)) sa_nil))) sa_nil))) (ss_one (ss_ret se_bl)) ss_nil)
  (ss_cons (ss_set (i := 9) sc_law.nd rfl (by first | exact .inl rfl | exact .inr rfl) (se_call hB D__law_least tk (hr.down (by decide : 3 ≤ 5)) (by rfl) (sa_cons (se_callZ 1 hB D__law_of tk (hr.down (by decide : 3 ≤ 5)) (by rfl) (pv 1) (sa_cons (se_of_sf (sf_lst (sa_cons se_int (sa_cons se_int (sa_cons (se_neg se_int) (sa_cons se_int (sa_cons (se_neg se_int) (sa_cons (se_pow se_int se_int) sa_nil)))))))) sa_nil)) (sa_cons (se_callZ 1 hB D__law_of tk (hr.down (by decide : 3 ≤ 5)) (by rfl) (pv 1) (sa_cons (se_of_sf (sf_lst (sa_cons se_int (sa_cons se_int (sa_cons se_int (sa_cons (se_add (se_pow se_int se_int) se_int) sa_nil)))))) sa_nil)) sa_nil))))
  (ss_cons (ss_set (i := 10) sc_law.nd rfl (by first | exact .inl rfl | exact .inr rfl) (se_callZ 1 hB D__law_of tk (hr.down (by decide : 3 ≤ 5)) (by rfl) (pv 1) (sa_cons (se_of_sf (sf_lst (sa_cons se_int (sa_cons se_int (sa_cons se_int (sa_cons se_int (sa_cons se_int sa_nil))))))) sa_nil)))
  (ss_cons (ss_set (i := 11) sc_law.nd rfl (by first | exact .inl rfl | exact .inr rfl) (se_call hB D__law_least tk (hr.down (by decide : 3 ≤ 5)) (by rfl) (sa_cons (se_call hB D__law_power tk (hr.down (by decide : 2 ≤ 5)) (by rfl) (sa_cons (se_ix hr.toRoom (se_of 9 (pv 9)) se_int) (sa_cons (se_of 10 (pv 10)) sa_nil))) (sa_cons (se_call hB D__law_power tk (hr.down (by decide : 2 ≤ 5)) (by rfl) (sa_cons (se_ix hr.toRoom (se_of 9 (pv 9)) se_int) (sa_cons (se_of 10 (pv 10)) sa_nil))) sa_nil))))
  (ss_cons (ss_if (st_ne2 hr.toRoom (se_repr hr (by rfl) T.m_repr (sa_cons (se_call hB D_fraction_power tk (hr.down (by decide : 3 ≤ 5)) (by rfl) (sa_cons (se_of 9 (pv 9)) (sa_cons (se_of 10 (pv 10)) sa_nil))) sa_nil)) (se_repr hr (by rfl) T.m_repr (sa_cons (se_of 11 (pv 11)) sa_nil))) (ss_one (ss_ret se_bl)) ss_nil)
  (ss_cons (ss_set (i := 12) sc_law.nd rfl (by first | exact .inl rfl | exact .inr rfl) (se_sub (se_mul (se_ix hr.toRoom (se_of 3 (pv 3)) se_int) (se_ix hr.toRoom (se_of 4 (pv 4)) se_int)) (se_mul (se_ix hr.toRoom (se_of 4 (pv 4)) se_int) (se_ix hr.toRoom (se_of 3 (pv 3)) se_int))))
  (ss_cons (ss_set (i := 11) sc_law.nd rfl (by first | exact .inl rfl | exact .inr rfl) (se_of_sf (sf_lst (sa_cons (se_sub (se_intc (by rfl) T.m_int (sa_cons (se_gt (se_ix hr.toRoom (se_of 3 (pv 3)) se_int) se_int) sa_nil)) (se_intc (by rfl) T.m_int (sa_cons (se_lt (se_ix hr.toRoom (se_of 3 (pv 3)) se_int) se_int) sa_nil))) (sa_cons (se_sub (se_intc (by rfl) T.m_int (sa_cons (se_gt (se_of 12 (pv 12)) se_int) sa_nil)) (se_intc (by rfl) T.m_int (sa_cons (se_lt (se_of 12 (pv 12)) se_int) sa_nil))) (sa_cons se_int sa_nil))))))
  (ss_one (ss_if (st_ne2 hr.toRoom (se_repr hr (by rfl) T.m_repr (sa_cons (se_of_sf (sf_lst (sa_cons (se_call hB D_sign_of tk (hr.down (by decide : 2 ≤ 5)) (by rfl) (sa_cons (se_of 3 (pv 3)) sa_nil)) (sa_cons (se_call hB D_compared tk (hr.down (by decide : 2 ≤ 5)) (by rfl) (sa_cons (se_of 3 (pv 3)) (sa_cons (se_of 4 (pv 4)) sa_nil))) (sa_cons (se_call hB D_compared tk (hr.down (by decide : 2 ≤ 5)) (by rfl) (sa_cons (se_of 5 (pv 5)) (sa_cons (se_of 5 (pv 5)) sa_nil))) sa_nil))))) sa_nil)) (se_repr hr (by rfl) T.m_repr (sa_cons (se_of 11 (pv 11)) sa_nil))) (ss_one (ss_ret se_bl)) ss_nil)))))))))))))))))))
  (ss_cons (ss_setLc (i := 13) (own := [("late", 22)]) rfl sc_law.nd rfl rfl (sw_true rfl rfl rfl (by decide +kernel)) (si_range1 (by rfl) T.m_range (sa_cons (se_callZ 1 hB D__law_pick tk (hr.down (by decide : 2 ≤ 5)) (by rfl) (pv 1) (sa_cons se_int sa_nil)) sa_nil)) (blkOk_by (by kernel_rfl)) (fun _ _ _ _ _ _ => (sg_of (pg_name (i := 22) sc_law.nd rfl (by first | exact .inl rfl | exact .inr rfl)) (by decide))) (fun _ _ _ _ _ _ => sts_nil) (fun _ _ _ _ _ _ => (se_callZ 1 hB D__law_fraction takes0 (hr.down (by decide : 5 ≤ 5)) (by rfl) (pv 1) sa_nil)))
  (ss_cons (ss_set (i := 13) sc_law.nd rfl (by first | exact .inl rfl | exact .inr rfl) (se_add (se_of 13 (pv 13)) (se_sl (se_of 13 (pv 13)) so_none (so_some se_int))))
  (ss_cons (ss_set (i := 14) sc_law.nd rfl (by first | exact .inl rfl | exact .inr rfl) (se_call hB D_common_bottom tk (hr.down (by decide : 3 ≤ 5)) (by rfl) (sa_cons (se_of 13 (pv 13)) sa_nil)))
  (ss_cons (ss_set (i := 15) sc_law.nd rfl (by first | exact .inl rfl | exact .inr rfl) se_int)
  (ss_cons (ss_for (vs := [17, 16]) (passes_of rfl) rfl (si_of (se_of 13 (pv 13))) (sg_tup rfl (sgs_cons (sg_of (pg_name (i := 16) sc_law.nd rfl (by first | exact .inl rfl | exact .inr rfl)) (by decide)) (sgs_cons (sg_of (pg_name (i := 17) sc_law.nd rfl (by first | exact .inl rfl | exact .inr rfl)) (by decide)) sgs_nil))) (ss_one (ss_set (i := 15) sc_law.nd rfl (by first | exact .inl rfl | exact .inr rfl) (se_div (se_mul (se_of 15 (pv 15)) (se_of 17 (pv 17))) (se_call hB D__law_part tk (hr.down (by decide : 2 ≤ 5)) (by rfl) (sa_cons (se_of 15 (pv 15)) (sa_cons (se_of 17 (pv 17)) sa_nil)))))))
  (ss_cons (ss_if (st_ne2 hr.toRoom (se_of 14 (pv 14)) (se_of 15 (pv 15))) (ss_one (ss_ret se_bl)) ss_nil)
  (ss_cons (ss_set (i := 18) sc_law.nd rfl (by first | exact .inl rfl | exact .inr rfl) (se_call hB D_fractions_ascending tk (hr.down (by decide : 4 ≤ 5)) (by rfl) (sa_cons (se_of 13 (pv 13)) sa_nil)))
  (ss_cons (ss_if (st_ne2 hr.toRoom (se_of_sf (sf_sortT hr.toRoom (by rfl) T.m_sorted (sa_cons (se_of 18 (pv 18)) sa_nil))) (se_of_sf (sf_sortN hr.toRoom (by rfl) T.m_sorted (sa_cons (se_of_sf (sf_dict hr.toRoom (by rfl) T.m_dict (sa_cons (se_of_sf (sf_lc (own := [("one", 3)]) rfl sc_law.nd (si_of (se_of 13 (pv 13))) (blkOk_by (by kernel_rfl)) (fun _ _ _ _ _ _ => (sg_of (pg_name (i := 3) sc_law.nd rfl (by first | exact .inl rfl | exact .inr rfl)) (by decide))) (fun _ _ _ _ _ _ => sts_nil) (fun _ _ _ _ _ _ => (se_tup (sa_cons (se_of 3 (pv 3)) (sa_cons se_int sa_nil)))))) sa_nil))) sa_nil)))) (ss_one (ss_ret se_bl)) ss_nil)
  (ss_cons (ss_if (st_ne2 hr.toRoom (se_of_sf (sf_lc (own := [("one", 3), ("late", 22)]) rfl sc_law.nd (si_zip (by rfl) T.m_zip (sa_cons (se_of 18 (pv 18)) (sa_cons (se_sl (se_of 18 (pv 18)) (so_some se_int) so_none) sa_nil))) (blkOk_by (by kernel_rfl)) (fun _ _ _ _ _ _ => (sg_tup rfl (sgs_cons (sg_of (pg_name (i := 3) sc_law.nd rfl (by first | exact .inl rfl | exact .inr rfl)) (by decide)) (sgs_cons (sg_of (pg_name (i := 22) sc_law.nd rfl (by first | exact .inl rfl | exact .inr rfl)) (by decide)) sgs_nil)))) (fun _ _ _ _ _ _ => (sts_one (st_ge (se_mul (se_ix hr.toRoom (se_of 3 (pv 3)) se_int) (se_ix hr.toRoom (se_of 22 (pv 22)) se_int)) (se_mul (se_ix hr.toRoom (se_of 22 (pv 22)) se_int) (se_ix hr.toRoom (se_of 3 (pv 3)) se_int))))) (fun _ _ _ _ _ _ => se_int))) (se_of_sf (sf_lst sa_nil))) (ss_one (ss_ret se_bl)) ss_nil)
  (ss_cons (ss_set (i := 19) sc_law.nd rfl (by first | exact .inl rfl | exact .inr rfl) (se_mul (se_intS (by rfl) T.m_int (sa_cons (se_repS se_str se_int) sa_nil)) (se_callZ 1 hB D__law_of tk (hr.down (by decide : 3 ≤ 5)) (by rfl) (pv 1) (sa_cons (se_of_sf (sf_lst (sa_cons se_int (sa_cons (se_neg se_int) sa_nil)))) sa_nil))))
  (ss_cons (ss_set (i := 20) sc_law.nd rfl (by first | exact .inl rfl | exact .inr rfl) (se_add (se_of 19 (pv 19)) (se_if (st_gt (se_of 19 (pv 19)) se_int) se_int (se_neg se_int))))
  (ss_cons (ss_for (vs := [21]) (passes_of rfl) rfl (si_of (se_tup (sa_cons (se_tup (sa_cons (se_of 19 (pv 19)) sa_nil)) (sa_cons (se_tup (sa_cons se_int (sa_cons (se_of 19 (pv 19)) (sa_cons se_int sa_nil)))) (sa_cons (se_tup (sa_cons (se_of 20 (pv 20)) sa_nil)) (sa_cons (se_tup (sa_cons se_int (sa_cons (se_of 20 (pv 20)) sa_nil))) (sa_cons (se_tup sa_nil) sa_nil))))))) (sg_of (pg_name (i := 21) sc_law.nd rfl (by first | exact .inl rfl | exact .inr rfl)) (by decide)) (ss_cons (ss_set (i := 11) sc_law.nd rfl (by first | exact .inl rfl | exact .inr rfl) (se_if (st_in hr.toRoom (se_of 20 (pv 20)) (se_of 21 (pv 21))) (se_tup (sa_cons se_str (sa_cons se_int sa_nil))) (se_tup (sa_cons se_str (sa_cons (se_of 21 (pv 21)) sa_nil)))))
  (ss_one (ss_if (st_ne2 hr.toRoom (se_repr hr (by rfl) T.m_repr (sa_cons (se_call hB D__law_told tk (hr.down (by decide : 4 ≤ 5)) (by rfl) (sa_cons (se_of 21 (pv 21)) sa_nil)) sa_nil)) (se_repr hr (by rfl) T.m_repr (sa_cons (se_of 11 (pv 11)) sa_nil))) (ss_one (ss_ret se_bl)) ss_nil))))
  (ss_one (ss_ret se_bl)))))))))))))))) holds
end
def clsInit : Stmt → Stmt
  | .ClassDef _ _ _ body _ _ _ _ _ _ _ => body.getD 0 (.Pass ⟨0, 0, 0, 0⟩)
  | s => s
abbrev in_TooGreat : Stmt := clsInit (top 3)
abbrev bd_TooGreat : List Stmt := supB "number" ⟨8, 8, 8, 13⟩ ⟨8, 8, 8, 15⟩ ⟨8, 8, 8, 24⟩ ⟨8, 25, 8, 31⟩ ⟨8, 8, 8, 32⟩ ⟨8, 8, 8, 32⟩ ⟨9, 8, 9, 12⟩ ⟨9, 8, 9, 19⟩ ⟨9, 22, 9, 28⟩ ⟨9, 8, 9, 28⟩
theorem is_TooGreat : IniS "number" (defArgs in_TooGreat) (defScope in_TooGreat) ⟨8, 8, 8, 13⟩ ⟨8, 8, 8, 15⟩ ⟨8, 8, 8, 24⟩ ⟨8, 25, 8, 31⟩ ⟨8, 8, 8, 32⟩ ⟨8, 8, 8, 32⟩ ⟨9, 8, 9, 12⟩ ⟨9, 8, 9, 19⟩ ⟨9, 22, 9, 28⟩ ⟨9, 8, 9, 28⟩ :=
  ⟨fun _ _ _ _ _ => rfl, fun _ _ _ _ _ => rfl, fun _ _ _ _ _ => rfl, fun _ _ _ _ _ => ⟨_, rfl⟩, rfl, rfl, rfl, by decide, rfl, rfl, rfl, rfl, by decide, by decide, ⟨_, rfl, rfl⟩, fun _ _ _ _ _ _ _ _ _ _ _ _ _ => .of_eq rfl⟩
theorem all_mk {l : PySem.W.OpenLaw} {w : World} {K : PySem.W.Frag} {h : Heap} {mg : Str → Option Value} {fl : Addr} (X : K.In h) (G : h.Ns mainGlobals mg) (hfa : mg "law" = some (.ref fl))
    {f__law_source : Addr} {od__law_source an__law_source : Option Addr} {sl__law_source : Array (Option Value)} {oc__law_source kV__law_source dc__law_source pm__law_source cd__law_source ct__law_source : Value}
    {f_is_long : Addr} {od_is_long an_is_long : Option Addr} {sl_is_long : Array (Option Value)} {oc_is_long kV_is_long dc_is_long pm_is_long cd_is_long ct_is_long : Value}
    {f_not_long : Addr} {od_not_long an_not_long : Option Addr} {sl_not_long : Array (Option Value)} {oc_not_long kV_not_long dc_not_long pm_not_long cd_not_long ct_not_long : Value}
    {f_fraction_told : Addr} {od_fraction_told an_fraction_told : Option Addr} {sl_fraction_told : Array (Option Value)} {oc_fraction_told kV_fraction_told dc_fraction_told pm_fraction_told cd_fraction_told ct_fraction_told : Value}
    {f_fraction_sum : Addr} {od_fraction_sum an_fraction_sum : Option Addr} {sl_fraction_sum : Array (Option Value)} {oc_fraction_sum kV_fraction_sum dc_fraction_sum pm_fraction_sum cd_fraction_sum ct_fraction_sum : Value}
    {f_fraction_less : Addr} {od_fraction_less an_fraction_less : Option Addr} {sl_fraction_less : Array (Option Value)} {oc_fraction_less kV_fraction_less dc_fraction_less pm_fraction_less cd_fraction_less ct_fraction_less : Value}
    {f_fraction_product : Addr} {od_fraction_product an_fraction_product : Option Addr} {sl_fraction_product : Array (Option Value)} {oc_fraction_product kV_fraction_product dc_fraction_product pm_fraction_product cd_fraction_product ct_fraction_product : Value}
    {f_fraction_over : Addr} {od_fraction_over an_fraction_over : Option Addr} {sl_fraction_over : Array (Option Value)} {oc_fraction_over kV_fraction_over dc_fraction_over pm_fraction_over cd_fraction_over ct_fraction_over : Value}
    {f_halvings : Addr} {od_halvings an_halvings : Option Addr} {sl_halvings : Array (Option Value)} {oc_halvings kV_halvings dc_halvings pm_halvings cd_halvings ct_halvings : Value}
    {f_fraction_power : Addr} {od_fraction_power an_fraction_power : Option Addr} {sl_fraction_power : Array (Option Value)} {oc_fraction_power kV_fraction_power dc_fraction_power pm_fraction_power cd_fraction_power ct_fraction_power : Value}
    {f_sign_of : Addr} {od_sign_of an_sign_of : Option Addr} {sl_sign_of : Array (Option Value)} {oc_sign_of kV_sign_of dc_sign_of pm_sign_of cd_sign_of ct_sign_of : Value}
    {f_compared : Addr} {od_compared an_compared : Option Addr} {sl_compared : Array (Option Value)} {oc_compared kV_compared dc_compared pm_compared cd_compared ct_compared : Value}
    {f_common_number : Addr} {od_common_number an_common_number : Option Addr} {sl_common_number : Array (Option Value)} {oc_common_number kV_common_number dc_common_number pm_common_number cd_common_number ct_common_number : Value}
    {f_common_bottom : Addr} {od_common_bottom an_common_bottom : Option Addr} {sl_common_bottom : Array (Option Value)} {oc_common_bottom kV_common_bottom dc_common_bottom pm_common_bottom cd_common_bottom ct_common_bottom : Value}
    {f_fractions_ascending : Addr} {od_fractions_ascending an_fractions_ascending : Option Addr} {sl_fractions_ascending : Array (Option Value)} {oc_fractions_ascending kV_fractions_ascending dc_fractions_ascending pm_fractions_ascending cd_fractions_ascending ct_fractions_ascending : Value}
    {f__law_pick : Addr} {od__law_pick an__law_pick : Option Addr} {sl__law_pick : Array (Option Value)} {oc__law_pick kV__law_pick dc__law_pick pm__law_pick cd__law_pick ct__law_pick : Value}
    {f__law_of : Addr} {od__law_of an__law_of : Option Addr} {sl__law_of : Array (Option Value)} {oc__law_of kV__law_of dc__law_of pm__law_of cd__law_of ct__law_of : Value}
    {f__law_part : Addr} {od__law_part an__law_part : Option Addr} {sl__law_part : Array (Option Value)} {oc__law_part kV__law_part dc__law_part pm__law_part cd__law_part ct__law_part : Value}
    {f__law_least : Addr} {od__law_least an__law_least : Option Addr} {sl__law_least : Array (Option Value)} {oc__law_least kV__law_least dc__law_least pm__law_least cd__law_least ct__law_least : Value}
    {f__law_plus : Addr} {od__law_plus an__law_plus : Option Addr} {sl__law_plus : Array (Option Value)} {oc__law_plus kV__law_plus dc__law_plus pm__law_plus cd__law_plus ct__law_plus : Value}
    {f__law_times : Addr} {od__law_times an__law_times : Option Addr} {sl__law_times : Array (Option Value)} {oc__law_times kV__law_times dc__law_times pm__law_times cd__law_times ct__law_times : Value}
    {f__law_power : Addr} {od__law_power an__law_power : Option Addr} {sl__law_power : Array (Option Value)} {oc__law_power kV__law_power dc__law_power pm__law_power cd__law_power ct__law_power : Value}
    {f__law_number : Addr} {od__law_number an__law_number : Option Addr} {sl__law_number : Array (Option Value)} {oc__law_number kV__law_number dc__law_number pm__law_number cd__law_number ct__law_number : Value}
    {f__law_fraction : Addr} {od__law_fraction an__law_fraction : Option Addr} {sl__law_fraction : Array (Option Value)} {oc__law_fraction kV__law_fraction dc__law_fraction pm__law_fraction cd__law_fraction ct__law_fraction : Value}
    {f__law_told : Addr} {od__law_told an__law_told : Option Addr} {sl__law_told : Array (Option Value)} {oc__law_told kV__law_told dc__law_told pm__law_told cd__law_told ct__law_told : Value}
    {f_law : Addr} {od_law an_law : Option Addr} {sl_law : Array (Option Value)} {oc_law kV_law dc_law pm_law cd_law ct_law : Value}
    {t_SURE_BITS : Tok}
    {t_MOST_FIGURES : Tok}
    {t_LONG_NUMBER : Tok}
    {t_WHOLE_0 : Tok}
    {t_WHOLE_1 : Tok}
    {A_WHOLE n_WHOLE : Nat} {od_WHOLE : Option Addr} {sl_WHOLE : Array (Option Value)}
    {C_TooGreat fi_TooGreat cda_TooGreat cc_TooGreat : Addr} {nm_TooGreat q_TooGreat : Str} {N_TooGreat : Addr} {bs_TooGreat : List Value} {G_TooGreat : Addr} {sn_TooGreat : List Str} {sub_TooGreat : List Value} {ab_TooGreat : Bool} {col_TooGreat : Option Bool} {dd_TooGreat : Option Addr} {m0_TooGreat m1_TooGreat m2_TooGreat m3_TooGreat m5_TooGreat : Option Value}
    {oc_TooGreat kV_TooGreat dc_TooGreat pm_TooGreat ct_TooGreat ccl_TooGreat cl_TooGreat : Value} {od_TooGreat an_TooGreat cdd_TooGreat cld_TooGreat : Option Addr} {sl_TooGreat ccs_TooGreat csl_TooGreat : Array (Option Value)} {vs_TooGreat : Array Value} {file_TooGreat : Str} {tf_TooGreat : Tok}
    {nmG_TooGreat qG_TooGreat : Str} {NG_TooGreat : Addr} {bsG_TooGreat : List Value} {hdG_TooGreat : Bool} {snG_TooGreat : List Str} {subG_TooGreat : List Value} {abG_TooGreat : Bool} {colG_TooGreat : Option Bool} {ddG_TooGreat : Option Addr} {g0_TooGreat g1_TooGreat g2_TooGreat g3_TooGreat g5_TooGreat : Option Value}
    (a__law_source : PySem.W.nsIn K mainGlobals "_law_source" = some (some (.ref f__law_source)))
    (l__law_source : K.lookup f__law_source = some ⟨oc__law_source, od__law_source, .func (PySem.W.fnOf "_law_source" "_law_source" (defArgs st__law_source) (defBody st__law_source) (defScope st__law_source) .none kV__law_source dc__law_source pm__law_source an__law_source cd__law_source ct__law_source), sl__law_source⟩)
    (c__law_source : PySem.W.codeIn K cd__law_source "_law_source" = true)
    (k__law_source : PySem.W.keepIn K (.ref f__law_source) = true)
    (a_is_long : PySem.W.nsIn K mainGlobals "is_long" = some (some (.ref f_is_long)))
    (l_is_long : K.lookup f_is_long = some ⟨oc_is_long, od_is_long, .func (PySem.W.fnOf "is_long" "is_long" (defArgs st_is_long) (defBody st_is_long) (defScope st_is_long) .none kV_is_long dc_is_long pm_is_long an_is_long cd_is_long ct_is_long), sl_is_long⟩)
    (c_is_long : PySem.W.codeIn K cd_is_long "is_long" = true)
    (k_is_long : PySem.W.keepIn K (.ref f_is_long) = true)
    (a_not_long : PySem.W.nsIn K mainGlobals "not_long" = some (some (.ref f_not_long)))
    (l_not_long : K.lookup f_not_long = some ⟨oc_not_long, od_not_long, .func (PySem.W.fnOf "not_long" "not_long" (defArgs st_not_long) (defBody st_not_long) (defScope st_not_long) .none kV_not_long dc_not_long pm_not_long an_not_long cd_not_long ct_not_long), sl_not_long⟩)
    (c_not_long : PySem.W.codeIn K cd_not_long "not_long" = true)
    (k_not_long : PySem.W.keepIn K (.ref f_not_long) = true)
    (a_fraction_told : PySem.W.nsIn K mainGlobals "fraction_told" = some (some (.ref f_fraction_told)))
    (l_fraction_told : K.lookup f_fraction_told = some ⟨oc_fraction_told, od_fraction_told, .func (PySem.W.fnOf "fraction_told" "fraction_told" (defArgs st_fraction_told) (defBody st_fraction_told) (defScope st_fraction_told) .none kV_fraction_told dc_fraction_told pm_fraction_told an_fraction_told cd_fraction_told ct_fraction_told), sl_fraction_told⟩)
    (c_fraction_told : PySem.W.codeIn K cd_fraction_told "fraction_told" = true)
    (k_fraction_told : PySem.W.keepIn K (.ref f_fraction_told) = true)
    (a_fraction_sum : PySem.W.nsIn K mainGlobals "fraction_sum" = some (some (.ref f_fraction_sum)))
    (l_fraction_sum : K.lookup f_fraction_sum = some ⟨oc_fraction_sum, od_fraction_sum, .func (PySem.W.fnOf "fraction_sum" "fraction_sum" (defArgs st_fraction_sum) (defBody st_fraction_sum) (defScope st_fraction_sum) .none kV_fraction_sum dc_fraction_sum pm_fraction_sum an_fraction_sum cd_fraction_sum ct_fraction_sum), sl_fraction_sum⟩)
    (c_fraction_sum : PySem.W.codeIn K cd_fraction_sum "fraction_sum" = true)
    (k_fraction_sum : PySem.W.keepIn K (.ref f_fraction_sum) = true)
    (a_fraction_less : PySem.W.nsIn K mainGlobals "fraction_less" = some (some (.ref f_fraction_less)))
    (l_fraction_less : K.lookup f_fraction_less = some ⟨oc_fraction_less, od_fraction_less, .func (PySem.W.fnOf "fraction_less" "fraction_less" (defArgs st_fraction_less) (defBody st_fraction_less) (defScope st_fraction_less) .none kV_fraction_less dc_fraction_less pm_fraction_less an_fraction_less cd_fraction_less ct_fraction_less), sl_fraction_less⟩)
    (c_fraction_less : PySem.W.codeIn K cd_fraction_less "fraction_less" = true)
    (k_fraction_less : PySem.W.keepIn K (.ref f_fraction_less) = true)
    (a_fraction_product : PySem.W.nsIn K mainGlobals "fraction_product" = some (some (.ref f_fraction_product)))
    (l_fraction_product : K.lookup f_fraction_product = some ⟨oc_fraction_product, od_fraction_product, .func (PySem.W.fnOf "fraction_product" "fraction_product" (defArgs st_fraction_product) (defBody st_fraction_product) (defScope st_fraction_product) .none kV_fraction_product dc_fraction_product pm_fraction_product an_fraction_product cd_fraction_product ct_fraction_product), sl_fraction_product⟩)
    (c_fraction_product : PySem.W.codeIn K cd_fraction_product "fraction_product" = true)
    (k_fraction_product : PySem.W.keepIn K (.ref f_fraction_product) = true)
    (a_fraction_over : PySem.W.nsIn K mainGlobals "fraction_over" = some (some (.ref f_fraction_over)))
    (l_fraction_over : K.lookup f_fraction_over = some ⟨oc_fraction_over, od_fraction_over, .func (PySem.W.fnOf "fraction_over" "fraction_over" (defArgs st_fraction_over) (defBody st_fraction_over) (defScope st_fraction_over) .none kV_fraction_over dc_fraction_over pm_fraction_over an_fraction_over cd_fraction_over ct_fraction_over), sl_fraction_over⟩)
    (c_fraction_over : PySem.W.codeIn K cd_fraction_over "fraction_over" = true)
    (k_fraction_over : PySem.W.keepIn K (.ref f_fraction_over) = true)
    (a_halvings : PySem.W.nsIn K mainGlobals "halvings" = some (some (.ref f_halvings)))
    (l_halvings : K.lookup f_halvings = some ⟨oc_halvings, od_halvings, .func (PySem.W.fnOf "halvings" "halvings" (defArgs st_halvings) (defBody st_halvings) (defScope st_halvings) .none kV_halvings dc_halvings pm_halvings an_halvings cd_halvings ct_halvings), sl_halvings⟩)
    (c_halvings : PySem.W.codeIn K cd_halvings "halvings" = true)
    (k_halvings : PySem.W.keepIn K (.ref f_halvings) = true)
    (a_fraction_power : PySem.W.nsIn K mainGlobals "fraction_power" = some (some (.ref f_fraction_power)))
    (l_fraction_power : K.lookup f_fraction_power = some ⟨oc_fraction_power, od_fraction_power, .func (PySem.W.fnOf "fraction_power" "fraction_power" (defArgs st_fraction_power) (defBody st_fraction_power) (defScope st_fraction_power) .none kV_fraction_power dc_fraction_power pm_fraction_power an_fraction_power cd_fraction_power ct_fraction_power), sl_fraction_power⟩)
    (c_fraction_power : PySem.W.codeIn K cd_fraction_power "fraction_power" = true)
    (k_fraction_power : PySem.W.keepIn K (.ref f_fraction_power) = true)
    (a_sign_of : PySem.W.nsIn K mainGlobals "sign_of" = some (some (.ref f_sign_of)))
    (l_sign_of : K.lookup f_sign_of = some ⟨oc_sign_of, od_sign_of, .func (PySem.W.fnOf "sign_of" "sign_of" (defArgs st_sign_of) (defBody st_sign_of) (defScope st_sign_of) .none kV_sign_of dc_sign_of pm_sign_of an_sign_of cd_sign_of ct_sign_of), sl_sign_of⟩)
    (c_sign_of : PySem.W.codeIn K cd_sign_of "sign_of" = true)
    (k_sign_of : PySem.W.keepIn K (.ref f_sign_of) = true)
    (a_compared : PySem.W.nsIn K mainGlobals "compared" = some (some (.ref f_compared)))
    (l_compared : K.lookup f_compared = some ⟨oc_compared, od_compared, .func (PySem.W.fnOf "compared" "compared" (defArgs st_compared) (defBody st_compared) (defScope st_compared) .none kV_compared dc_compared pm_compared an_compared cd_compared ct_compared), sl_compared⟩)
    (c_compared : PySem.W.codeIn K cd_compared "compared" = true)
    (k_compared : PySem.W.keepIn K (.ref f_compared) = true)
    (a_common_number : PySem.W.nsIn K mainGlobals "common_number" = some (some (.ref f_common_number)))
    (l_common_number : K.lookup f_common_number = some ⟨oc_common_number, od_common_number, .func (PySem.W.fnOf "common_number" "common_number" (defArgs st_common_number) (defBody st_common_number) (defScope st_common_number) .none kV_common_number dc_common_number pm_common_number an_common_number cd_common_number ct_common_number), sl_common_number⟩)
    (c_common_number : PySem.W.codeIn K cd_common_number "common_number" = true)
    (k_common_number : PySem.W.keepIn K (.ref f_common_number) = true)
    (a_common_bottom : PySem.W.nsIn K mainGlobals "common_bottom" = some (some (.ref f_common_bottom)))
    (l_common_bottom : K.lookup f_common_bottom = some ⟨oc_common_bottom, od_common_bottom, .func (PySem.W.fnOf "common_bottom" "common_bottom" (defArgs st_common_bottom) (defBody st_common_bottom) (defScope st_common_bottom) .none kV_common_bottom dc_common_bottom pm_common_bottom an_common_bottom cd_common_bottom ct_common_bottom), sl_common_bottom⟩)
    (c_common_bottom : PySem.W.codeIn K cd_common_bottom "common_bottom" = true)
    (k_common_bottom : PySem.W.keepIn K (.ref f_common_bottom) = true)
    (a_fractions_ascending : PySem.W.nsIn K mainGlobals "fractions_ascending" = some (some (.ref f_fractions_ascending)))
    (l_fractions_ascending : K.lookup f_fractions_ascending = some ⟨oc_fractions_ascending, od_fractions_ascending, .func (PySem.W.fnOf "fractions_ascending" "fractions_ascending" (defArgs st_fractions_ascending) (defBody st_fractions_ascending) (defScope st_fractions_ascending) .none kV_fractions_ascending dc_fractions_ascending pm_fractions_ascending an_fractions_ascending cd_fractions_ascending ct_fractions_ascending), sl_fractions_ascending⟩)
    (c_fractions_ascending : PySem.W.codeIn K cd_fractions_ascending "fractions_ascending" = true)
    (k_fractions_ascending : PySem.W.keepIn K (.ref f_fractions_ascending) = true)
    (a__law_pick : PySem.W.nsIn K mainGlobals "_law_pick" = some (some (.ref f__law_pick)))
    (l__law_pick : K.lookup f__law_pick = some ⟨oc__law_pick, od__law_pick, .func (PySem.W.fnOf "_law_pick" "_law_pick" (defArgs st__law_pick) (defBody st__law_pick) (defScope st__law_pick) .none kV__law_pick dc__law_pick pm__law_pick an__law_pick cd__law_pick ct__law_pick), sl__law_pick⟩)
    (c__law_pick : PySem.W.codeIn K cd__law_pick "_law_pick" = true)
    (k__law_pick : PySem.W.keepIn K (.ref f__law_pick) = true)
    (a__law_of : PySem.W.nsIn K mainGlobals "_law_of" = some (some (.ref f__law_of)))
    (l__law_of : K.lookup f__law_of = some ⟨oc__law_of, od__law_of, .func (PySem.W.fnOf "_law_of" "_law_of" (defArgs st__law_of) (defBody st__law_of) (defScope st__law_of) .none kV__law_of dc__law_of pm__law_of an__law_of cd__law_of ct__law_of), sl__law_of⟩)
    (c__law_of : PySem.W.codeIn K cd__law_of "_law_of" = true)
    (k__law_of : PySem.W.keepIn K (.ref f__law_of) = true)
    (a__law_part : PySem.W.nsIn K mainGlobals "_law_part" = some (some (.ref f__law_part)))
    (l__law_part : K.lookup f__law_part = some ⟨oc__law_part, od__law_part, .func (PySem.W.fnOf "_law_part" "_law_part" (defArgs st__law_part) (defBody st__law_part) (defScope st__law_part) .none kV__law_part dc__law_part pm__law_part an__law_part cd__law_part ct__law_part), sl__law_part⟩)
    (c__law_part : PySem.W.codeIn K cd__law_part "_law_part" = true)
    (k__law_part : PySem.W.keepIn K (.ref f__law_part) = true)
    (a__law_least : PySem.W.nsIn K mainGlobals "_law_least" = some (some (.ref f__law_least)))
    (l__law_least : K.lookup f__law_least = some ⟨oc__law_least, od__law_least, .func (PySem.W.fnOf "_law_least" "_law_least" (defArgs st__law_least) (defBody st__law_least) (defScope st__law_least) .none kV__law_least dc__law_least pm__law_least an__law_least cd__law_least ct__law_least), sl__law_least⟩)
    (c__law_least : PySem.W.codeIn K cd__law_least "_law_least" = true)
    (k__law_least : PySem.W.keepIn K (.ref f__law_least) = true)
    (a__law_plus : PySem.W.nsIn K mainGlobals "_law_plus" = some (some (.ref f__law_plus)))
    (l__law_plus : K.lookup f__law_plus = some ⟨oc__law_plus, od__law_plus, .func (PySem.W.fnOf "_law_plus" "_law_plus" (defArgs st__law_plus) (defBody st__law_plus) (defScope st__law_plus) .none kV__law_plus dc__law_plus pm__law_plus an__law_plus cd__law_plus ct__law_plus), sl__law_plus⟩)
    (c__law_plus : PySem.W.codeIn K cd__law_plus "_law_plus" = true)
    (k__law_plus : PySem.W.keepIn K (.ref f__law_plus) = true)
    (a__law_times : PySem.W.nsIn K mainGlobals "_law_times" = some (some (.ref f__law_times)))
    (l__law_times : K.lookup f__law_times = some ⟨oc__law_times, od__law_times, .func (PySem.W.fnOf "_law_times" "_law_times" (defArgs st__law_times) (defBody st__law_times) (defScope st__law_times) .none kV__law_times dc__law_times pm__law_times an__law_times cd__law_times ct__law_times), sl__law_times⟩)
    (c__law_times : PySem.W.codeIn K cd__law_times "_law_times" = true)
    (k__law_times : PySem.W.keepIn K (.ref f__law_times) = true)
    (a__law_power : PySem.W.nsIn K mainGlobals "_law_power" = some (some (.ref f__law_power)))
    (l__law_power : K.lookup f__law_power = some ⟨oc__law_power, od__law_power, .func (PySem.W.fnOf "_law_power" "_law_power" (defArgs st__law_power) (defBody st__law_power) (defScope st__law_power) .none kV__law_power dc__law_power pm__law_power an__law_power cd__law_power ct__law_power), sl__law_power⟩)
    (c__law_power : PySem.W.codeIn K cd__law_power "_law_power" = true)
    (k__law_power : PySem.W.keepIn K (.ref f__law_power) = true)
    (a__law_number : PySem.W.nsIn K mainGlobals "_law_number" = some (some (.ref f__law_number)))
    (l__law_number : K.lookup f__law_number = some ⟨oc__law_number, od__law_number, .func (PySem.W.fnOf "_law_number" "_law_number" (defArgs st__law_number) (defBody st__law_number) (defScope st__law_number) .none kV__law_number dc__law_number pm__law_number an__law_number cd__law_number ct__law_number), sl__law_number⟩)
    (c__law_number : PySem.W.codeIn K cd__law_number "_law_number" = true)
    (k__law_number : PySem.W.keepIn K (.ref f__law_number) = true)
    (a__law_fraction : PySem.W.nsIn K mainGlobals "_law_fraction" = some (some (.ref f__law_fraction)))
    (l__law_fraction : K.lookup f__law_fraction = some ⟨oc__law_fraction, od__law_fraction, .func (PySem.W.fnOf "_law_fraction" "_law_fraction" (defArgs st__law_fraction) (defBody st__law_fraction) (defScope st__law_fraction) .none kV__law_fraction dc__law_fraction pm__law_fraction an__law_fraction cd__law_fraction ct__law_fraction), sl__law_fraction⟩)
    (c__law_fraction : PySem.W.codeIn K cd__law_fraction "_law_fraction" = true)
    (k__law_fraction : PySem.W.keepIn K (.ref f__law_fraction) = true)
    (a__law_told : PySem.W.nsIn K mainGlobals "_law_told" = some (some (.ref f__law_told)))
    (l__law_told : K.lookup f__law_told = some ⟨oc__law_told, od__law_told, .func (PySem.W.fnOf "_law_told" "_law_told" (defArgs st__law_told) (defBody st__law_told) (defScope st__law_told) .none kV__law_told dc__law_told pm__law_told an__law_told cd__law_told ct__law_told), sl__law_told⟩)
    (c__law_told : PySem.W.codeIn K cd__law_told "_law_told" = true)
    (k__law_told : PySem.W.keepIn K (.ref f__law_told) = true)
    (a_law : PySem.W.nsIn K mainGlobals "law" = some (some (.ref f_law)))
    (l_law : K.lookup f_law = some ⟨oc_law, od_law, .func (PySem.W.fnOf "law" "law" (defArgs st_law) (defBody st_law) (defScope st_law) .none kV_law dc_law pm_law an_law cd_law ct_law), sl_law⟩)
    (c_law : PySem.W.codeIn K cd_law "law" = true)
    (k_law : PySem.W.keepIn K (.ref f_law) = true)
    (z_abs : PySem.W.nsIn K mainGlobals "abs" = some none)
    (z_any : PySem.W.nsIn K mainGlobals "any" = some none)
    (z_dict : PySem.W.nsIn K mainGlobals "dict" = some none)
    (z_gcd : PySem.W.nsIn K mainGlobals "gcd" = some (some (.builtin "math.gcd")))
    (z_int : PySem.W.nsIn K mainGlobals "int" = some none)
    (z_len : PySem.W.nsIn K mainGlobals "len" = some none)
    (z_max : PySem.W.nsIn K mainGlobals "max" = some none)
    (z_range : PySem.W.nsIn K mainGlobals "range" = some none)
    (z_repr : PySem.W.nsIn K mainGlobals "repr" = some none)
    (z_sorted : PySem.W.nsIn K mainGlobals "sorted" = some none)
    (z_str : PySem.W.nsIn K mainGlobals "str" = some none)
    (z_tuple : PySem.W.nsIn K mainGlobals "tuple" = some none)
    (z_zip : PySem.W.nsIn K mainGlobals "zip" = some none)
    (q_SURE_BITS : PySem.W.nsIn K mainGlobals "SURE_BITS" = some (some (.int 997 t_SURE_BITS)))
    (q_MOST_FIGURES : PySem.W.nsIn K mainGlobals "MOST_FIGURES" = some (some (.int 300 t_MOST_FIGURES)))
    (q_LONG_NUMBER : PySem.W.nsIn K mainGlobals "LONG_NUMBER" = some (some (.int 2 t_LONG_NUMBER)))
    (q_WHOLE : PySem.W.nsIn K mainGlobals "WHOLE" = some (some (.ref A_WHOLE)))
    (lk_WHOLE : K.lookup A_WHOLE = some ⟨.type "tuple", od_WHOLE, .seq #[.int (1) t_WHOLE_0, .int (1) t_WHOLE_1] n_WHOLE, sl_WHOLE⟩)
    (z_super : PySem.W.nsIn K mainGlobals "super" = some none)
    (z_opq : PySem.W.nsIn K cStatics "thirdparty.any" = some none)
    (z_top : (l.prog.main.scope.names.lookup ("super" : Str)).isSome = false)
    (aC_TooGreat : PySem.W.nsIn K mainGlobals "TooGreat" = some (some (.ref C_TooGreat)))
    (xL_TooGreat : K.lookup C_TooGreat = some (excClassObj nm_TooGreat q_TooGreat C_TooGreat N_TooGreat bs_TooGreat (veL G_TooGreat) true sn_TooGreat sub_TooGreat ab_TooGreat col_TooGreat dd_TooGreat m0_TooGreat m1_TooGreat m2_TooGreat m3_TooGreat m5_TooGreat "ValueError.__new__"))
    (xG_TooGreat : K.lookup G_TooGreat = some (excClassObj nmG_TooGreat qG_TooGreat G_TooGreat NG_TooGreat bsG_TooGreat [.type "ValueError", .type "Exception", .type "BaseException", .type "object"] hdG_TooGreat snG_TooGreat subG_TooGreat abG_TooGreat colG_TooGreat ddG_TooGreat g0_TooGreat g1_TooGreat g2_TooGreat g3_TooGreat g5_TooGreat "ValueError.__new__"))
    (iG_TooGreat : PySem.W.findIn K (.ref G_TooGreat) "__init__" = some (some (.builtin "ValueError.__init__")))
    (nC_TooGreat : PySem.W.isClsIn K C_TooGreat = true)
    (sa_TooGreat : PySem.W.findIn K (.ref C_TooGreat) "__setattr__" = some (some (.builtin "object.__setattr__")))
    (ga_TooGreat : PySem.W.findIn K (.ref C_TooGreat) "__getattribute__" = some (some (.builtin "BaseException.__getattribute__")))
    (gg_TooGreat : PySem.W.findIn K (.ref C_TooGreat) "__getattr__" = some none)
    (nf_TooGreat : PySem.W.findIn K (.ref C_TooGreat) "number" = some none)
    (iC_TooGreat : PySem.W.findIn K (.ref C_TooGreat) "__init__" = some (some (.ref fi_TooGreat)))
    (tI_TooGreat : PySem.W.typeIn K (.ref fi_TooGreat) = some (.type "function"))
    (kC_TooGreat : PySem.W.keepIn K (.ref C_TooGreat) = true)
    (eC_TooGreat : PySem.W.subIn K (.ref C_TooGreat) (.type "BaseException") = some true)
    (tC_TooGreat : PySem.W.typeIn K (.ref C_TooGreat) = some (.type "type"))
    (hC_TooGreat : PySem.W.hasDictIn K C_TooGreat = true)
    (sv_TooGreat : PySem.W.subIn K (.ref C_TooGreat) (.type "ValueError") = some true)
    (sc_TooGreat : PySem.W.mroIn K C_TooGreat (.ref C_TooGreat) = some true)
    (lf_TooGreat : K.lookup fi_TooGreat = some ⟨oc_TooGreat, od_TooGreat, .func (PySem.W.ksFn "__init__" "TooGreat.__init__" (defArgs in_TooGreat) bd_TooGreat (defScope in_TooGreat) .none kV_TooGreat dc_TooGreat pm_TooGreat an_TooGreat (.ref cda_TooGreat) ct_TooGreat cc_TooGreat), sl_TooGreat⟩)
    (cf_TooGreat : PySem.W.codeIn K (.ref cda_TooGreat) "TooGreat.__init__" = true)
    (lc_TooGreat : K.lookup cda_TooGreat = some ⟨ccl_TooGreat, cdd_TooGreat, .fields vs_TooGreat, ccs_TooGreat⟩)
    (vc_TooGreat : vs_TooGreat[2]? = some (.str file_TooGreat tf_TooGreat))
    (fc_TooGreat : ((l.prog.main.file : Str) == file_TooGreat) = true)
    (le_TooGreat : K.lookup cc_TooGreat = some ⟨cl_TooGreat, cld_TooGreat, .cell (some (.ref C_TooGreat)), csl_TooGreat⟩)
    (sb_TooGreat_TooGreat : PySem.W.subIn K (.ref C_TooGreat) (.ref C_TooGreat) = some true) :
    ∃ fd : FuncData, (∀ (s : Shared) (u : Value), BindsTo s fd ⟨[u], []⟩ [("script", u)]) ∧ ∀ base : Heap, K.In base → base.Ns mainGlobals mg → FnG l.prog w K mg base 6 fl fd ["script"] (spLaw K) := by
  have e := hfa.symm.trans (PySem.W.mg_of X G a_law)
  cases e
  have F__law_source := fun_mk (st := st__law_source) l__law_source c__law_source k__law_source
  have b__law_source := F__law_source.binds (ps := ["script"]) fun _ _ _ _ _ _ us hl => match us, hl with | [_], _ => rfl
  have F_is_long := fun_mk (st := st_is_long) l_is_long c_is_long k_is_long
  have b_is_long := F_is_long.binds (ps := ["number"]) fun _ _ _ _ _ _ us hl => match us, hl with | [_], _ => rfl
  have F_not_long := fun_mk (st := st_not_long) l_not_long c_not_long k_not_long
  have b_not_long := F_not_long.binds (ps := ["numbers"]) fun _ _ _ _ _ _ us hl => match us, hl with | [_], _ => rfl
  have F_fraction_told := fun_mk (st := st_fraction_told) l_fraction_told c_fraction_told k_fraction_told
  have b_fraction_told := F_fraction_told.binds (ps := ["top", "bottom"]) fun _ _ _ _ _ _ us hl => match us, hl with | [_, _], _ => rfl
  have F_fraction_sum := fun_mk (st := st_fraction_sum) l_fraction_sum c_fraction_sum k_fraction_sum
  have b_fraction_sum := F_fraction_sum.binds (ps := ["one", "other"]) fun _ _ _ _ _ _ us hl => match us, hl with | [_, _], _ => rfl
  have F_fraction_less := fun_mk (st := st_fraction_less) l_fraction_less c_fraction_less k_fraction_less
  have b_fraction_less := F_fraction_less.binds (ps := ["one", "other"]) fun _ _ _ _ _ _ us hl => match us, hl with | [_, _], _ => rfl
  have F_fraction_product := fun_mk (st := st_fraction_product) l_fraction_product c_fraction_product k_fraction_product
  have b_fraction_product := F_fraction_product.binds (ps := ["one", "other"]) fun _ _ _ _ _ _ us hl => match us, hl with | [_, _], _ => rfl
  have F_fraction_over := fun_mk (st := st_fraction_over) l_fraction_over c_fraction_over k_fraction_over
  have b_fraction_over := F_fraction_over.binds (ps := ["one", "other"]) fun _ _ _ _ _ _ us hl => match us, hl with | [_, _], _ => rfl
  have F_halvings := fun_mk (st := st_halvings) l_halvings c_halvings k_halvings
  have b_halvings := F_halvings.binds (ps := ["many"]) fun _ _ _ _ _ _ us hl => match us, hl with | [_], _ => rfl
  have F_fraction_power := fun_mk (st := st_fraction_power) l_fraction_power c_fraction_power k_fraction_power
  have b_fraction_power := F_fraction_power.binds (ps := ["fraction", "many"]) fun _ _ _ _ _ _ us hl => match us, hl with | [_, _], _ => rfl
  have F_sign_of := fun_mk (st := st_sign_of) l_sign_of c_sign_of k_sign_of
  have b_sign_of := F_sign_of.binds (ps := ["fraction"]) fun _ _ _ _ _ _ us hl => match us, hl with | [_], _ => rfl
  have F_compared := fun_mk (st := st_compared) l_compared c_compared k_compared
  have b_compared := F_compared.binds (ps := ["one", "other"]) fun _ _ _ _ _ _ us hl => match us, hl with | [_, _], _ => rfl
  have F_common_number := fun_mk (st := st_common_number) l_common_number c_common_number k_common_number
  have b_common_number := F_common_number.binds (ps := ["one", "other"]) fun _ _ _ _ _ _ us hl => match us, hl with | [_, _], _ => rfl
  have F_common_bottom := fun_mk (st := st_common_bottom) l_common_bottom c_common_bottom k_common_bottom
  have b_common_bottom := F_common_bottom.binds (ps := ["fractions"]) fun _ _ _ _ _ _ us hl => match us, hl with | [_], _ => rfl
  have F_fractions_ascending := fun_mk (st := st_fractions_ascending) l_fractions_ascending c_fractions_ascending k_fractions_ascending
  have b_fractions_ascending := F_fractions_ascending.binds (ps := ["fractions"]) fun _ _ _ _ _ _ us hl => match us, hl with | [_], _ => rfl
  have F__law_pick := fun_mk (st := st__law_pick) l__law_pick c__law_pick k__law_pick
  have b__law_pick := F__law_pick.binds (ps := ["source", "many"]) fun _ _ _ _ _ _ us hl => match us, hl with | [_, _], _ => rfl
  have F__law_of := fun_mk (st := st__law_of) l__law_of c__law_of k__law_of
  have b__law_of := F__law_of.binds (ps := ["source", "some"]) fun _ _ _ _ _ _ us hl => match us, hl with | [_, _], _ => rfl
  have F__law_part := fun_mk (st := st__law_part) l__law_part c__law_part k__law_part
  have b__law_part := F__law_part.binds (ps := ["one", "other"]) fun _ _ _ _ _ _ us hl => match us, hl with | [_, _], _ => rfl
  have F__law_least := fun_mk (st := st__law_least) l__law_least c__law_least k__law_least
  have b__law_least := F__law_least.binds (ps := ["top", "bottom"]) fun _ _ _ _ _ _ us hl => match us, hl with | [_, _], _ => rfl
  have F__law_plus := fun_mk (st := st__law_plus) l__law_plus c__law_plus k__law_plus
  have b__law_plus := F__law_plus.binds (ps := ["one", "other"]) fun _ _ _ _ _ _ us hl => match us, hl with | [_, _], _ => rfl
  have F__law_times := fun_mk (st := st__law_times) l__law_times c__law_times k__law_times
  have b__law_times := F__law_times.binds (ps := ["one", "other"]) fun _ _ _ _ _ _ us hl => match us, hl with | [_, _], _ => rfl
  have F__law_power := fun_mk (st := st__law_power) l__law_power c__law_power k__law_power
  have b__law_power := F__law_power.binds (ps := ["number", "many"]) fun _ _ _ _ _ _ us hl => match us, hl with | [_, _], _ => rfl
  have F__law_number := fun_mk (st := st__law_number) l__law_number c__law_number k__law_number
  have b__law_number := F__law_number.binds (ps := ["source"]) fun _ _ _ _ _ _ us hl => match us, hl with | [_], _ => rfl
  have F__law_fraction := fun_mk (st := st__law_fraction) l__law_fraction c__law_fraction k__law_fraction
  have b__law_fraction := F__law_fraction.binds (ps := ["source"]) fun _ _ _ _ _ _ us hl => match us, hl with | [_], _ => rfl
  have F__law_told := fun_mk (st := st__law_told) l__law_told c__law_told k__law_told
  have b__law_told := F__law_told.binds (ps := ["numbers"]) fun _ _ _ _ _ _ us hl => match us, hl with | [_], _ => rfl
  have F_law := fun_mk (st := st_law) l_law c_law k_law
  have b_law := F_law.binds (ps := ["script"]) fun _ _ _ _ _ _ us hl => match us, hl with | [_], _ => rfl
  have xm_TooGreat_TooGreat := exm_of2 eC_TooGreat nC_TooGreat tC_TooGreat sb_TooGreat_TooGreat
  refine ⟨PySem.W.fnOf "law" "law" (defArgs st_law) (defBody st_law) (defScope st_law) .none kV_law dc_law pm_law an_law cd_law ct_law, fun s v => .of_eq rfl, fun base _ _ => ?_⟩
  have T : Txt l.prog K mg base (fun n => List.lookup n ([("TooGreat", C_TooGreat)] : List (Str × Addr))) (fun n => (List.lookup n ([("TooGreat", C_TooGreat)] : List (Str × Addr))).getD 0) (fun n => (List.lookup n ([("WHOLE", A_WHOLE)] : List (Str × Addr))).getD 0) := {
    m_abs := PySem.W.mg_none_of X G z_abs
    m_any := PySem.W.mg_none_of X G z_any
    m_dict := PySem.W.mg_none_of X G z_dict
    m_gcd := PySem.W.mg_of X G z_gcd
    m_int := PySem.W.mg_none_of X G z_int
    m_len := PySem.W.mg_none_of X G z_len
    m_max := PySem.W.mg_none_of X G z_max
    m_range := PySem.W.mg_none_of X G z_range
    m_repr := PySem.W.mg_none_of X G z_repr
    m_sorted := PySem.W.mg_none_of X G z_sorted
    m_str := PySem.W.mg_none_of X G z_str
    m_tuple := PySem.W.mg_none_of X G z_tuple
    m_zip := PySem.W.mg_none_of X G z_zip
    c_SURE_BITS := ⟨t_SURE_BITS, PySem.W.mg_of X G q_SURE_BITS⟩
    c_MOST_FIGURES := ⟨t_MOST_FIGURES, PySem.W.mg_of X G q_MOST_FIGURES⟩
    c_LONG_NUMBER := ⟨t_LONG_NUMBER, PySem.W.mg_of X G q_LONG_NUMBER⟩
    c_WHOLE := ⟨PySem.W.mg_of X G q_WHOLE, fun F => (dp_tupK (xs := [.int (1), .int (1)]) lk_WHOLE rfl rfl (by show 2 ≤ 1000; decide) (.cons ⟨_, rfl⟩ (.cons ⟨_, rfl⟩ .nil)) (.cons (.int _) (.cons (.int _) .nil)))⟩
    x_TooGreat := { gC := PySem.W.mg_of X G aC_TooGreat, noF := nf_TooGreat, te := xm_TooGreat_TooGreat, made := ⟨fi_TooGreat, cda_TooGreat, cc_TooGreat, "TooGreat.__init__", defArgs in_TooGreat, defScope in_TooGreat, _, _, _, _, _, _, _, _, _, _,
      { cls := ⟨_, _, _, _, _, _, _, _, _, _, _, _, _, _, _, xL_TooGreat, (by show (PySem.HandSPX.veTail == PySem.HandSPX.veTail) = true; decide +kernel)⟩, sa := sa_TooGreat, ga := ga_TooGreat, gg := gg_TooGreat, iC := iC_TooGreat, tI := tI_TooGreat, kC := kC_TooGreat, exC := eC_TooGreat, tyC := tC_TooGreat, hdC := hC_TooGreat, exi := exi_of xL_TooGreat, sup := sup_of xL_TooGreat xG_TooGreat iG_TooGreat, sbV := sv_TooGreat, sbC := sc_TooGreat, opq := z_opq,
        fn := ⟨_, _, _, _, _, _, _, _, lf_TooGreat⟩, cod := cf_TooGreat, fil := ⟨_, _, _, _, _, _, lc_TooGreat, vc_TooGreat, fc_TooGreat⟩, cel := ⟨_, _, _, le_TooGreat⟩, top := z_top, msup := PySem.W.mg_none_of X G z_super }, is_TooGreat⟩ }
    e_TooGreat := rfl
    xm_TooGreat := xmOk_of (List.forall_mem_cons.mpr ⟨xm_TooGreat_TooGreat, fun _ h => (nomatch h)⟩)
  }
  have so : SrcOk l.prog w K mg base := ⟨f__law_source, _, PySem.W.mg_of X G a__law_source, k__law_source, b__law_source, fn_source T.m_int T.m_abs F__law_source⟩
  have D_common_number := D_common_number (w := w) T  F_common_number (PySem.W.mg_of X G a_common_number) b_common_number
  have D_common_bottom := D_common_bottom (w := w) T D_common_number F_common_bottom (PySem.W.mg_of X G a_common_bottom) b_common_bottom
  have D_fractions_ascending := D_fractions_ascending (w := w) T D_common_bottom F_fractions_ascending (PySem.W.mg_of X G a_fractions_ascending) b_fractions_ascending
  have D__law_pick := D__law_pick (w := w) T  F__law_pick (PySem.W.mg_of X G a__law_pick) b__law_pick
  have D__law_of := D__law_of (w := w) T D__law_pick F__law_of (PySem.W.mg_of X G a__law_of) b__law_of
  have D_fraction_told := D_fraction_told (w := w) T  F_fraction_told (PySem.W.mg_of X G a_fraction_told) b_fraction_told
  have D_fraction_product := D_fraction_product (w := w) T D_fraction_told F_fraction_product (PySem.W.mg_of X G a_fraction_product) b_fraction_product
  have D__law_part := D__law_part (w := w) T  F__law_part (PySem.W.mg_of X G a__law_part) b__law_part
  have D__law_least := D__law_least (w := w) T D__law_part F__law_least (PySem.W.mg_of X G a__law_least) b__law_least
  have D__law_number := D__law_number (w := w) T D__law_of F__law_number (PySem.W.mg_of X G a__law_number) b__law_number
  have D__law_fraction := D__law_fraction (w := w) T D__law_number D__law_least F__law_fraction (PySem.W.mg_of X G a__law_fraction) b__law_fraction
  have D__law_power := D__law_power (w := w) T  F__law_power (PySem.W.mg_of X G a__law_power) b__law_power
  have D_fraction_sum := D_fraction_sum (w := w) T D_fraction_told F_fraction_sum (PySem.W.mg_of X G a_fraction_sum) b_fraction_sum
  have D__law_plus := D__law_plus (w := w) T D__law_least F__law_plus (PySem.W.mg_of X G a__law_plus) b__law_plus
  have D_fraction_less := D_fraction_less (w := w) T D_fraction_told F_fraction_less (PySem.W.mg_of X G a_fraction_less) b_fraction_less
  have D__law_times := D__law_times (w := w) T D__law_least F__law_times (PySem.W.mg_of X G a__law_times) b__law_times
  have D_halvings := D_halvings (w := w) T  F_halvings (PySem.W.mg_of X G a_halvings) b_halvings
  have D_fraction_power := D_fraction_power (w := w) T D_halvings F_fraction_power (PySem.W.mg_of X G a_fraction_power) b_fraction_power
  have D_is_long := D_is_long (w := w) T  F_is_long (PySem.W.mg_of X G a_is_long) b_is_long
  have D_not_long := D_not_long (w := w) T D_is_long F_not_long (PySem.W.mg_of X G a_not_long) b_not_long
  have D__law_told := D__law_told (w := w) T D_not_long F__law_told (PySem.W.mg_of X G a__law_told) b__law_told
  have D_fraction_over := D_fraction_over (w := w) T D_fraction_told F_fraction_over (PySem.W.mg_of X G a_fraction_over) b_fraction_over
  have D_sign_of := D_sign_of (w := w) T  F_sign_of (PySem.W.mg_of X G a_sign_of) b_sign_of
  have D_compared := D_compared (w := w) T  F_compared (PySem.W.mg_of X G a_compared) b_compared
  exact fn_law T so D_common_bottom D_fractions_ascending D__law_of D_fraction_product D__law_least D__law_fraction D__law_power D__law_part D_fraction_told D_fraction_sum D__law_plus D_fraction_less D__law_times D_fraction_power D__law_pick D__law_told D_fraction_over D_sign_of D_compared F_law (law_holds)
end PU
open PySem PySem.W PyProof.Rows in
set_option maxRecDepth 100000 in
set_option maxHeartbeats 0 in
theorem PySem.Challenge.cw_overtakings_k07_fractions_holds : PySem.Challenge.rw_overtakings_k07_fractions.Holds := by
  w_on; o_law; k_head; (case hw => w_witness2)
  k_fill
  refine PU.walkG_of (k := 6) (x := "script") (l := PySem.Challenge.rw_overtakings_k07_fractions) rfl rfl ⟨⟨rfl, by decide, by decide⟩, rfl⟩ (fun w h Y => PySem.W.kIn_of Y) ?F
  case F =>
    intro w mg fa h KX G hmg
    refine' PU.all_mk KX G hmg ?a__law_source ?l__law_source ?c__law_source ?k__law_source ?a_is_long ?l_is_long ?c_is_long ?k_is_long ?a_not_long ?l_not_long ?c_not_long ?k_not_long ?a_fraction_told ?l_fraction_told ?c_fraction_told ?k_fraction_told ?a_fraction_sum ?l_fraction_sum ?c_fraction_sum ?k_fraction_sum ?a_fraction_less ?l_fraction_less ?c_fraction_less ?k_fraction_less ?a_fraction_product ?l_fraction_product ?c_fraction_product ?k_fraction_product ?a_fraction_over ?l_fraction_over ?c_fraction_over ?k_fraction_over ?a_halvings ?l_halvings ?c_halvings ?k_halvings ?a_fraction_power ?l_fraction_power ?c_fraction_power ?k_fraction_power ?a_sign_of ?l_sign_of ?c_sign_of ?k_sign_of ?a_compared ?l_compared ?c_compared ?k_compared ?a_common_number ?l_common_number ?c_common_number ?k_common_number ?a_common_bottom ?l_common_bottom ?c_common_bottom ?k_common_bottom ?a_fractions_ascending ?l_fractions_ascending ?c_fractions_ascending ?k_fractions_ascending ?a__law_pick ?l__law_pick ?c__law_pick ?k__law_pick ?a__law_of ?l__law_of ?c__law_of ?k__law_of ?a__law_part ?l__law_part ?c__law_part ?k__law_part ?a__law_least ?l__law_least ?c__law_least ?k__law_least ?a__law_plus ?l__law_plus ?c__law_plus ?k__law_plus ?a__law_times ?l__law_times ?c__law_times ?k__law_times ?a__law_power ?l__law_power ?c__law_power ?k__law_power ?a__law_number ?l__law_number ?c__law_number ?k__law_number ?a__law_fraction ?l__law_fraction ?c__law_fraction ?k__law_fraction ?a__law_told ?l__law_told ?c__law_told ?k__law_told ?a_law ?l_law ?c_law ?k_law ?z_abs ?z_any ?z_dict ?z_gcd ?z_int ?z_len ?z_max ?z_range ?z_repr ?z_sorted ?z_str ?z_tuple ?z_zip ?q_SURE_BITS ?q_MOST_FIGURES ?q_LONG_NUMBER ?q_WHOLE ?lk_WHOLE ?z_super ?z_opq ?z_top ?aC_TooGreat ?xL_TooGreat ?xG_TooGreat ?iG_TooGreat ?nC_TooGreat ?sa_TooGreat ?ga_TooGreat ?gg_TooGreat ?nf_TooGreat ?iC_TooGreat ?tI_TooGreat ?kC_TooGreat ?eC_TooGreat ?tC_TooGreat ?hC_TooGreat ?sv_TooGreat ?sc_TooGreat ?lf_TooGreat ?cf_TooGreat ?lc_TooGreat ?vc_TooGreat ?fc_TooGreat ?le_TooGreat ?sb_TooGreat_TooGreat
    (case a__law_source => k_is)
    (case l__law_source => k_is)
    (case c__law_source => k_is)
    (case k__law_source => k_is)
    (case a_is_long => k_is)
    (case l_is_long => k_is)
    (case c_is_long => k_is)
    (case k_is_long => k_is)
    (case a_not_long => k_is)
    (case l_not_long => k_is)
    (case c_not_long => k_is)
    (case k_not_long => k_is)
    (case a_fraction_told => k_is)
    (case l_fraction_told => k_is)
    (case c_fraction_told => k_is)
    (case k_fraction_told => k_is)
    (case a_fraction_sum => k_is)
    (case l_fraction_sum => k_is)
    (case c_fraction_sum => k_is)
    (case k_fraction_sum => k_is)
    (case a_fraction_less => k_is)
    (case l_fraction_less => k_is)
    (case c_fraction_less => k_is)
    (case k_fraction_less => k_is)
    (case a_fraction_product => k_is)
    (case l_fraction_product => k_is)
    (case c_fraction_product => k_is)
    (case k_fraction_product => k_is)
    (case a_fraction_over => k_is)
    (case l_fraction_over => k_is)
    (case c_fraction_over => k_is)
    (case k_fraction_over => k_is)
    (case a_halvings => k_is)
    (case l_halvings => k_is)
    (case c_halvings => k_is)
    (case k_halvings => k_is)
    (case a_fraction_power => k_is)
    (case l_fraction_power => k_is)
    (case c_fraction_power => k_is)
    (case k_fraction_power => k_is)
    (case a_sign_of => k_is)
    (case l_sign_of => k_is)
    (case c_sign_of => k_is)
    (case k_sign_of => k_is)
    (case a_compared => k_is)
    (case l_compared => k_is)
    (case c_compared => k_is)
    (case k_compared => k_is)
    (case a_common_number => k_is)
    (case l_common_number => k_is)
    (case c_common_number => k_is)
    (case k_common_number => k_is)
    (case a_common_bottom => k_is)
    (case l_common_bottom => k_is)
    (case c_common_bottom => k_is)
    (case k_common_bottom => k_is)
    (case a_fractions_ascending => k_is)
    (case l_fractions_ascending => k_is)
    (case c_fractions_ascending => k_is)
    (case k_fractions_ascending => k_is)
    (case a__law_pick => k_is)
    (case l__law_pick => k_is)
    (case c__law_pick => k_is)
    (case k__law_pick => k_is)
    (case a__law_of => k_is)
    (case l__law_of => k_is)
    (case c__law_of => k_is)
    (case k__law_of => k_is)
    (case a__law_part => k_is)
    (case l__law_part => k_is)
    (case c__law_part => k_is)
    (case k__law_part => k_is)
    (case a__law_least => k_is)
    (case l__law_least => k_is)
    (case c__law_least => k_is)
    (case k__law_least => k_is)
    (case a__law_plus => k_is)
    (case l__law_plus => k_is)
    (case c__law_plus => k_is)
    (case k__law_plus => k_is)
    (case a__law_times => k_is)
    (case l__law_times => k_is)
    (case c__law_times => k_is)
    (case k__law_times => k_is)
    (case a__law_power => k_is)
    (case l__law_power => k_is)
    (case c__law_power => k_is)
    (case k__law_power => k_is)
    (case a__law_number => k_is)
    (case l__law_number => k_is)
    (case c__law_number => k_is)
    (case k__law_number => k_is)
    (case a__law_fraction => k_is)
    (case l__law_fraction => k_is)
    (case c__law_fraction => k_is)
    (case k__law_fraction => k_is)
    (case a__law_told => k_is)
    (case l__law_told => k_is)
    (case c__law_told => k_is)
    (case k__law_told => k_is)
    (case a_law => k_is)
    (case l_law => k_is)
    (case c_law => k_is)
    (case k_law => k_is)
    (case z_abs => k_is)
    (case z_any => k_is)
    (case z_dict => k_is)
    (case z_gcd => k_is)
    (case z_int => k_is)
    (case z_len => k_is)
    (case z_max => k_is)
    (case z_range => k_is)
    (case z_repr => k_is)
    (case z_sorted => k_is)
    (case z_str => k_is)
    (case z_tuple => k_is)
    (case z_zip => k_is)
    (case q_SURE_BITS => k_is)
    (case q_MOST_FIGURES => k_is)
    (case q_LONG_NUMBER => k_is)
    (case q_WHOLE => k_is)
    (case lk_WHOLE => k_is)
    (case z_super => k_is)
    (case z_opq => k_is)
    (case z_top => rfl)
    (case aC_TooGreat => k_is)
    (case xL_TooGreat => k_is)
    (case xG_TooGreat => k_is)
    (case iG_TooGreat => k_is)
    (case nC_TooGreat => k_is)
    (case sa_TooGreat => k_is)
    (case ga_TooGreat => k_is)
    (case gg_TooGreat => k_is)
    (case nf_TooGreat => k_is)
    (case iC_TooGreat => k_is)
    (case tI_TooGreat => k_is)
    (case kC_TooGreat => k_is)
    (case eC_TooGreat => k_is)
    (case tC_TooGreat => k_is)
    (case hC_TooGreat => k_is)
    (case sv_TooGreat => k_is)
    (case sc_TooGreat => k_is)
    (case lf_TooGreat => k_is)
    (case cf_TooGreat => k_is)
    (case lc_TooGreat => k_is)
    (case vc_TooGreat => rfl)
    (case fc_TooGreat => rfl)
    (case le_TooGreat => k_is)
    (case sb_TooGreat_TooGreat => k_is)
