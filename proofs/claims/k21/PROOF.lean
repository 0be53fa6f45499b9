import PyProof.Rows.All
import Wide.All
import OpenK.AllK
import Wide.FinOn
import HandS.ForMost
import HandS.ForExc
import HandS.Wide
import HandS.Gcd
import HandS.TupAny
import HandS.Flow
import HandS.Style
import HandS.ExcInit
import KE.KExcSuper
import KE.KSuper
import HandS.AnyAll
import HandS.Deep
import HandS.RaiseMore
import HandS.WideBits
import HandS.SortInts
import HandS.Star
import HandS.Text
import HandS.Zip
import KE.SortData
import KE.DataMinMax
import PyProof.ReprRoads
import PyProof.ReprLen
import PyProof.Rows.RegStrFacts
import HandS.TupLe
import HandS.CallLocal
import HandS.Small
import PySem.Challenge.RW_overtakings_k21_lots_by_members
set_option Elab.async false
set_option linter.all false
set_option maxRecDepth 100000
namespace PU
open PySem PySem.Spec L2
set_option autoImplicit false

/-- plain data -/
inductive D where
  | non | bl (b : Bool) | int (i : Int) | str (x : Str) | con (v : V)
  | lst (xs : List D) | tup (xs : List D) | dK (kvs : List (Key × D)) | dT (kvs : List (List Key × D))

mutual
inductive DP (K : PySem.W.Frag) (H : Hp) : V → D → Prop
  | non : DP K H .non .non
  | bl (b : Bool) : DP K H (.bl b) (.bl b)
  | int (i : Int) : DP K H (.int i) (.int i)
  | str (x : Str) : DP K H (.str x) (.str x)
  | con (v : V) : DP K H v (.con v)
  | lst {a : Addr} {xs : List V} {ds : List D} : H a = some (.lst xs) → DPs K H xs ds → DP K H (.ref a) (.lst ds)
  | tup {a : Addr} {xs : List V} {ds : List D} : SqT K H a xs → DPs K H xs ds → DP K H (.ref a) (.tup ds)
  | dK {a : Addr} {xs : List (Key × V)} {ds : List (Key × D)} : Rd H a (.dK xs) → DPk K H xs ds → DP K H (.ref a) (.dK ds)
  | dT {a : Addr} {xs : List (List Key × V)} {ds : List (List Key × D)} : Rd H a (.dT xs) → DPt K H xs ds → DP K H (.ref a) (.dT ds)
inductive DPs (K : PySem.W.Frag) (H : Hp) : List V → List D → Prop
  | nil : DPs K H [] []
  | cons {v : V} {vs : List V} {d : D} {ds : List D} : DP K H v d → DPs K H vs ds → DPs K H (v :: vs) (d :: ds)
inductive DPk (K : PySem.W.Frag) (H : Hp) : List (Key × V) → List (Key × D) → Prop
  | nil : DPk K H [] []
  | cons {k : Key} {v : V} {vs : List (Key × V)} {d : D} {ds : List (Key × D)} : DP K H v d → DPk K H vs ds → DPk K H ((k, v) :: vs) ((k, d) :: ds)
inductive DPt (K : PySem.W.Frag) (H : Hp) : List (List Key × V) → List (List Key × D) → Prop
  | nil : DPt K H [] []
  | cons {k : List Key} {v : V} {vs : List (List Key × V)} {d : D} {ds : List (List Key × D)} : DP K H v d → DPt K H vs ds → DPt K H ((k, v) :: vs) ((k, d) :: ds)
end

theorem same_tup {K : PySem.W.Frag} {H H' : Hp} {a : Addr} {xs : List V} (e : Same H H') (h : SqT K H a xs) : SqT K H' a xs := by
  rcases h with (h | ⟨o, h⟩) | h
  · exact .inl (.inl (e _ _ h))
  · exact .inl (.inr ⟨o, e _ _ h⟩)
  · exact .inr h
theorem same_rd {H H' : Hp} {a : Addr} {u : HO} (e : Same H H') (h : Rd H a u) : Rd H' a u := by
  rcases h with h | ⟨o, h⟩
  · exact .inl (e _ _ h)
  · exact .inr ⟨o, e _ _ h⟩
section
variable {K : PySem.W.Frag} {F F' : Hp}
mutual
theorem DP.mono (e : Same F F') : ∀ {v : V} {d : D}, DP K F v d → DP K F' v d
  | _, _, .non => .non
  | _, _, .bl b => .bl b
  | _, _, .int i => .int i
  | _, _, .str x => .str x
  | _, _, .con v => .con v
  | _, _, .lst h t => .lst (e _ _ h) (DPs.mono e t)
  | _, _, .tup h t => .tup (same_tup e h) (DPs.mono e t)
  | _, _, .dK h t => .dK (same_rd e h) (DPk.mono e t)
  | _, _, .dT h t => .dT (same_rd e h) (DPt.mono e t)
theorem DPs.mono (e : Same F F') : ∀ {v : List V} {d : List D}, DPs K F v d → DPs K F' v d
  | _, _, .nil => .nil
  | _, _, .cons h t => .cons (DP.mono e h) (DPs.mono e t)
theorem DPk.mono (e : Same F F') : ∀ {v : List (Key × V)} {d : List (Key × D)}, DPk K F v d → DPk K F' v d
  | _, _, .nil => .nil
  | _, _, .cons h t => .cons (DP.mono e h) (DPk.mono e t)
theorem DPt.mono (e : Same F F') : ∀ {v : List (List Key × V)} {d : List (List Key × D)}, DPt K F v d → DPt K F' v d
  | _, _, .nil => .nil
  | _, _, .cons h t => .cons (DP.mono e h) (DPt.mono e t)
end
theorem DPs.length : ∀ {v : List V} {d : List D}, DPs K F v d → v.length = d.length
  | _, _, .nil => rfl
  | _, _, .cons _ t => congrArg (· + 1) t.length
theorem DPs.append : ∀ {v w : List V} {d e : List D}, DPs K F v d → DPs K F w e → DPs K F (v ++ w) (d ++ e)
  | _, _, _, _, .nil, h => h
  | _, _, _, _, .cons h t, h' => .cons h (t.append h')
theorem DPs.get : ∀ {v : List V} {d : List D} {i : Nat} {x : D}, DPs K F v d → d[i]? = some x → ∃ y, v[i]? = some y ∧ DP K F y x
  | _, _, _, _, .nil, e => by simp at e
  | _, _, 0, _, .cons h _, e => by
    simp at e
    subst e
    exact ⟨_, rfl, h⟩
  | _, _, i + 1, x, .cons _ t, e => by
    obtain ⟨y, h1, h2⟩ := DPs.get (i := i) (x := x) t (by simpa using e)
    exact ⟨y, by simpa using h1, h2⟩
theorem DPs.get' : ∀ {v : List V} {d : List D} {i : Nat} {x : V}, DPs K F v d → v[i]? = some x → ∃ y, d[i]? = some y ∧ DP K F x y
  | _, _, _, _, .nil, e => by simp at e
  | _, _, 0, _, .cons h _, e => by
    simp at e
    subst e
    exact ⟨_, rfl, h⟩
  | _, _, i + 1, x, .cons _ t, e => by
    obtain ⟨y, h1, h2⟩ := DPs.get' (i := i) (x := x) t (by simpa using e)
    exact ⟨y, by simpa using h1, h2⟩
end

/-! ### the abstract state -/
inductive AV where
  | un | dat (d : D) | own (d : D) | src

/-- an object that one slot alone holds -/
inductive OwnP (K : PySem.W.Frag) (F : Hp) : HO → D → Prop
  | lst {xs : List V} {ds : List D} : DPs K F xs ds → OwnP K F (.lst xs) (.lst ds)
  | dK {xs : List (Key × V)} {ds : List (Key × D)} : DPk K F xs ds → OwnP K F (.dK xs) (.dK ds)
  | dT {xs : List (List Key × V)} {ds : List (List Key × D)} : DPt K F xs ds → OwnP K F (.dT xs) (.dT ds)
theorem OwnP.mono {K : PySem.W.Frag} {F F' : Hp} (e : Same F F') {o : HO} {d : D} (h : OwnP K F o d) : OwnP K F' o d := by
  cases h with
  | lst h => exact .lst (h.mono e)
  | dK h => exact .dK (h.mono e)
  | dT h => exact .dT (h.mono e)

/-- the drawing source: a dict at s, its cells' list at c -/
def SrcAt (H : Hp) (s c : Addr) : Prop := ∃ (ns : List Int) (l m t : Int),
  H s = some (.dK [(.inr "cells", .ref c), (.inr "left", .int l), (.inr "mixed", .int m), (.inr "turn", .int t)]) ∧ H c = some (.lst (ns.map V.int)) ∧
  (∀ x ∈ ns, 0 ≤ x) ∧ 0 ≤ l ∧ 0 ≤ m ∧ m < 2147483647 ∧ 0 ≤ t
theorem SrcAt.at {H H' : Hp} {s c : Addr} (h : SrcAt H s c) (e1 : H' s = H s) (e2 : H' c = H c) : SrcAt H' s c := by
  obtain ⟨ns, l, m, t, h1, h2, r⟩ := h
  exact ⟨ns, l, m, t, e1.trans h1, e2.trans h2, r⟩

/-- the entry: the source, the frozen part, the heap -/
structure Bas where
  ec : Str → Option Addr
  Z : Option (Addr × Addr)
  P : Hp
  F0 : Hp
  H0 : Hp
def NotSrc (Z : Option (Addr × Addr)) (b : Addr) : Prop := ∀ s c, Z = some (s, c) → b ≠ s ∧ b ≠ c

structure Bse (B : Bas) (F H : Hp) : Prop where
  fz : Same F H
  f0 : Same B.F0 F
  nf : ∀ b, F b ≠ none → B.F0 b ≠ none ∨ B.H0 b = none
  kp : ∀ b o, B.H0 b = some o → NotSrc B.Z b → H b = some o
  sr : ∀ s c, B.Z = some (s, c) → SrcAt H s c ∧ F s = none ∧ F c = none ∧ s ≠ c ∧ B.H0 s ≠ none ∧ B.H0 c ≠ none
  pr : ∀ b o, B.P b = some o → H b = some o ∧ F b = none ∧ B.H0 b = none

structure Rel (K : PySem.W.Frag) (B : Bas) (F H : Hp) (ρ : List AV) (σ : St) : Prop extends Bse B F H where
  len : σ.length = ρ.length
  sl : ∀ (i : Nat) (d : D), ρ[i]? = some (.dat d) → ∃ v, σ[i]? = some (some v) ∧ DP K F v d
  ow : ∀ (i : Nat) (d : D), ρ[i]? = some (.own d) → ∃ a ho, σ[i]? = some (some (.ref a)) ∧ F a = none ∧ B.H0 a = none ∧ B.P a = none ∧ H a = some ho ∧ OwnP K F ho d
  so : ∀ (i : Nat), ρ[i]? = some .src → ∃ s c, B.Z = some (s, c) ∧ σ[i]? = some (some (.ref s))
  ap : ∀ (i j : Nat) (d e : D) (a : Addr), i ≠ j → ρ[i]? = some (.own d) → ρ[j]? = some (.own e) → σ[i]? = some (some (.ref a)) → σ[j]? ≠ some (some (.ref a))

section
variable {K : PySem.W.Frag} {B : Bas} {F F' H H' : Hp} {ρ ρ' : List AV} {σ : St}
theorem srcAt_some {H : Hp} {s c : Addr} (h : SrcAt H s c) : H s ≠ none ∧ H c ≠ none := by
  obtain ⟨ns, l, m, t, h1, h2, _⟩ := h
  exact ⟨(by rw [h1]; exact fun z => nomatch z), (by rw [h2]; exact fun z => nomatch z)⟩
theorem Bse.free0 (R : Bse B F H) {p : Addr} (h : H p = none) : B.H0 p = none := by
  cases q : B.H0 p with
  | none => rfl
  | some o =>
    exfalso
    have ns : NotSrc B.Z p := fun s c e => by
      obtain ⟨a, _⟩ := R.sr s c e
      obtain ⟨h1, h2⟩ := srcAt_some a
      exact ⟨fun z => h1 (z ▸ h), fun z => h2 (z ▸ h)⟩
    rw [R.kp p o q ns] at h
    cases h
theorem Bse.freeF (R : Bse B F H) {p : Addr} (h : H p = none) : F p = none := by
  cases q : F p with
  | none => rfl
  | some o => rw [R.fz p o q] at h; cases h
theorem Bse.freeP (R : Bse B F H) {p : Addr} (h : H p = none) : B.P p = none := by
  cases q : B.P p with
  | none => rfl
  | some o => rw [(R.pr p o q).1] at h; cases h
theorem same_upd {H : Hp} {p : Addr} {o : HO} (h : H p = none) : Same H (upd H p o) := fun b x e => by
  rw [upd_ne (ne_of_none e h)]
  exact e
/-- a new object, frozen -/
theorem Bse.alloc (R : Bse B F H) {p : Addr} {o : HO} (h : H p = none) : Bse B (upd F p o) (upd H p o) where
  fz := fun b x e => by
    by_cases hb : b = p
    · subst hb; rw [upd_same] at e ⊢; exact e
    · rw [upd_ne hb] at e ⊢; exact R.fz b x e
  f0 := R.f0.trans (same_upd (R.freeF h))
  nf := fun b hb => by
    by_cases e : b = p
    · subst e; exact .inr (R.free0 h)
    · rw [upd_ne e] at hb; exact R.nf b hb
  kp := fun b x e n => by rw [upd_ne (ne_of_none (R.kp b x e n) h)]; exact R.kp b x e n
  sr := fun s c e => by
    obtain ⟨a, fs, fc, ne, r⟩ := R.sr s c e
    obtain ⟨h1, h2⟩ := srcAt_some a
    have n1 : s ≠ p := fun z => h1 (z ▸ h)
    have n2 : c ≠ p := fun z => h2 (z ▸ h)
    exact ⟨a.at (upd_ne n1) (upd_ne n2), by rw [upd_ne n1]; exact fs, by rw [upd_ne n2]; exact fc, ne, r⟩
  pr := fun b x e => by
    obtain ⟨h1, h2, h3⟩ := R.pr b x e
    have n : b ≠ p := ne_of_none h1 h
    exact ⟨by rw [upd_ne n]; exact h1, by rw [upd_ne n]; exact h2, h3⟩
/-- a new object, not frozen -/
theorem Bse.allocO (R : Bse B F H) {p : Addr} {o : HO} (h : H p = none) : Bse B F (upd H p o) where
  fz := R.fz.trans (same_upd h)
  f0 := R.f0
  nf := R.nf
  kp := fun b x e n => by rw [upd_ne (ne_of_none (R.kp b x e n) h)]; exact R.kp b x e n
  sr := fun s c e => by
    obtain ⟨a, fs, fc, ne, r⟩ := R.sr s c e
    obtain ⟨h1, h2⟩ := srcAt_some a
    exact ⟨a.at (upd_ne fun z => h1 (z ▸ h)) (upd_ne fun z => h2 (z ▸ h)), fs, fc, ne, r⟩
  pr := fun b x e => by
    obtain ⟨h1, h2, h3⟩ := R.pr b x e
    have n : b ≠ p := ne_of_none h1 h
    exact ⟨by rw [upd_ne n]; exact h1, h2, h3⟩
/-- an object of one's own is written -/
theorem Bse.write (R : Bse B F H) {p : Addr} {o : HO} (hf : F p = none) (h0 : B.H0 p = none) (hP : B.P p = none) : Bse B F (upd H p o) where
  fz := fun b x e => by rw [upd_ne (ne_of_none e hf)]; exact R.fz b x e
  f0 := R.f0
  nf := R.nf
  kp := fun b x e n => by rw [upd_ne (ne_of_none e h0)]; exact R.kp b x e n
  sr := fun s c e => by
    obtain ⟨a, fs, fc, ne, r1, r2⟩ := R.sr s c e
    exact ⟨a.at (upd_ne fun z => r1 (z ▸ h0)) (upd_ne fun z => r2 (z ▸ h0)), fs, fc, ne, r1, r2⟩
  pr := fun b x e => by
    obtain ⟨h1, h2, h3⟩ := R.pr b x e
    have n : b ≠ p := ne_of_none e hP
    exact ⟨by rw [upd_ne n]; exact h1, h2, h3⟩
/-- an object of one's own is frozen -/
theorem Bse.freeze (R : Bse B F H) {p : Addr} {o : HO} (hp : H p = some o) (hf : F p = none) (h0 : B.H0 p = none) (hP : B.P p = none) : Bse B (upd F p o) H where
  fz := fun b x e => by
    by_cases hb : b = p
    · subst hb; rw [upd_same] at e; cases e; exact hp
    · rw [upd_ne hb] at e; exact R.fz b x e
  f0 := R.f0.trans (same_upd hf)
  nf := fun b hb => by
    by_cases e : b = p
    · subst e; exact .inr h0
    · rw [upd_ne e] at hb; exact R.nf b hb
  kp := R.kp
  sr := fun s c e => by
    obtain ⟨a, fs, fc, ne, r1, r2⟩ := R.sr s c e
    exact ⟨a, by rw [upd_ne (show s ≠ p from fun z => r1 (z ▸ h0))]; exact fs, by rw [upd_ne (show c ≠ p from fun z => r2 (z ▸ h0))]; exact fc, ne, r1, r2⟩
  pr := fun b x e => by
    obtain ⟨h1, h2, h3⟩ := R.pr b x e
    have n : b ≠ p := ne_of_none e hP
    exact ⟨h1, by rw [upd_ne n]; exact h2, h3⟩
theorem Rel.alloc (R : Rel K B F H ρ σ) {p : Addr} {o : HO} (h : H p = none) : Rel K B (upd F p o) (upd H p o) ρ σ where
  toBse := R.toBse.alloc h
  len := R.len
  sl := fun i d e => let ⟨v, h1, h2⟩ := R.sl i d e; ⟨v, h1, h2.mono (same_upd (R.freeF h))⟩
  ow := fun i d e => by
    obtain ⟨a, ho, h1, h2, h3, hP, h4, h5⟩ := R.ow i d e
    have n : a ≠ p := ne_of_none h4 h
    exact ⟨a, ho, h1, by rw [upd_ne n]; exact h2, h3, hP, by rw [upd_ne n]; exact h4, h5.mono (same_upd (R.freeF h))⟩
  so := R.so
  ap := R.ap
theorem Rel.allocO (R : Rel K B F H ρ σ) {p : Addr} {o : HO} (h : H p = none) : Rel K B F (upd H p o) ρ σ where
  toBse := R.toBse.allocO h
  len := R.len
  sl := R.sl
  ow := fun i d e => by
    obtain ⟨a, ho, h1, h2, h3, hP, h4, h5⟩ := R.ow i d e
    exact ⟨a, ho, h1, h2, h3, hP, by rw [upd_ne (ne_of_none h4 h)]; exact h4, h5⟩
  so := R.so
  ap := R.ap
end
end PU
set_option Elab.async false
set_option linter.all false
set_option maxRecDepth 100000
namespace PU
open PySem PySem.Spec L2
set_option autoImplicit false

/-- an exception of the program's own: its class's name, its fields -/
structure XE where
  cls : Str
  fs : List (Str × D)
/-- fields -/
inductive DPf (K : PySem.W.Frag) (H : Hp) : List (Str × V) → List (Str × D) → Prop
  | nil : DPf K H [] []
  | cons {k : Str} {v : V} {vs : List (Str × V)} {d : D} {ds : List (Str × D)} : DP K H v d → DPf K H vs ds → DPf K H ((k, v) :: vs) ((k, d) :: ds)
def XP (K : PySem.W.Frag) (ec : Str → Option Addr) (x : XE) (cls : Value) (d : Option Addr) (F H : Hp) : Prop :=
  ∃ C, ec x.cls = some C ∧ cls = .ref C ∧ ((x.fs = [] ∧ d = none) ∨ ∃ dd vs, d = some dd ∧ F dd = some (.xd vs) ∧ DPf K F vs x.fs)

abbrev EK := XE → List AV → Prop
abbrev AE := EK → List AV → (D → List AV → Prop) → Prop
abbrev AT := EK → List AV → (Bool → List AV → Prop) → Prop
abbrev AA := EK → List AV → (List D → List AV → Prop) → Prop

section
variable (K : PySem.W.Frag) (B : Bas) (W : WX)
def cX (σ : St) (EX : EK) : Prop := ∀ x ρ', EX x ρ' → ∀ cls d F' H', Rel K B F' H' ρ' σ → XP K B.ec x cls d F' H' → W cls d σ H'
def cE (t : AE) : TE := fun σ H Q => ∃ ρ F EX Q0, Rel K B F H ρ σ ∧ t EX ρ Q0 ∧ (∀ d ρ', Q0 d ρ' → ∀ v F' H', Rel K B F' H' ρ' σ → Same F F' → DP K F' v d → Q v H') ∧ cX K B W σ EX
def cT (t : AT) : TT := fun σ H Q => ∃ ρ F EX Q0, Rel K B F H ρ σ ∧ t EX ρ Q0 ∧ (∀ d ρ', Q0 d ρ' → ∀ F' H', Rel K B F' H' ρ' σ → Same F F' → Q d H') ∧ cX K B W σ EX
def cA (t : AA) : TA := fun σ H Q => ∃ ρ F EX Q0, Rel K B F H ρ σ ∧ t EX ρ Q0 ∧ (∀ ds ρ', Q0 ds ρ' → ∀ vs F' H', Rel K B F' H' ρ' σ → Same F F' → DPs K F' vs ds → Q vs H') ∧ cX K B W σ EX
end
def SE (X : Cx) (B : Bas) (W : WX) (e : Expr) (t : AE) : Prop := PE X e (cE X.K B W t)
def ST (X : Cx) (B : Bas) (W : WX) (e : Expr) (t : AT) : Prop := PT X e (cT X.K B W t)
def SW (X : Cx) (B : Bas) (W : WX) (e : Expr) (t : AT) : Prop := PW X e (cT X.K B W t)
def SA (X : Cx) (B : Bas) (W : WX) (es : List Expr) (t : AA) : Prop := PA X es (cA X.K B W t)

theorem PE_imp {X : Cx} {e : Expr} {T T' : TE} (h : PE X e T) (i : ∀ σ H Q, T' σ H Q → T σ H Q) : PE X e T' := ⟨fun pins s σ H Q I q => h.run pins s σ H Q I (i _ _ _ q)⟩
theorem PT_imp {X : Cx} {e : Expr} {T T' : TT} (h : PT X e T) (i : ∀ σ H Q, T' σ H Q → T σ H Q) : PT X e T' := ⟨fun pins s σ H Q I q => h.run pins s σ H Q I (i _ _ _ q)⟩
theorem PW_imp {X : Cx} {e : Expr} {T T' : TT} (h : PW X e T) (i : ∀ σ H Q, T' σ H Q → T σ H Q) : PW X e T' := ⟨fun wh pins s σ H Q I q => h.run wh pins s σ H Q I (i _ _ _ q)⟩
theorem PA_imp {X : Cx} {e : List Expr} {T T' : TA} (h : PA X e T) (i : ∀ σ H Q, T' σ H Q → T σ H Q) : PA X e T' := ⟨fun pos pins s σ H Q I q => h.run pos pins s σ H Q I (i _ _ _ q)⟩
theorem PS_imp {X : Cx} {e : Stmt} {T T' : TS} (h : PS X e T) (i : ∀ D σ H, T' D σ H → T D σ H) : PS X e T' := ⟨fun pins s σ H D I q => h.run pins s σ H D I (i _ _ _ q)⟩
theorem PSs_imp {X : Cx} {e : List Stmt} {T T' : TS} (h : PSs X e T) (i : ∀ D σ H, T' D σ H → T D σ H) : PSs X e T' := ⟨fun pins s σ H D I q => h.run pins s σ H D I (i _ _ _ q)⟩
theorem PG_imp {X : Cx} {e : Expr} {T T' : TG} (h : PG X e T) (i : ∀ v σ H Q, T' v σ H Q → T v σ H Q) : PG X e T' := ⟨fun pins s σ H v u Q I r q => h.run pins s σ H v u Q I r (i _ _ _ _ q)⟩

section
variable {K : PySem.W.Frag} {B : Bas} {F F' H H' : Hp} {ρ ρ' : List AV} {σ : St} {W : WX}
theorem set_get {α : Type} {l : List α} {i j : Nat} {x y : α} (h : (l.set i x)[j]? = some y) : (j = i ∧ y = x) ∨ (j ≠ i ∧ l[j]? = some y) := by
  by_cases e : i = j
  · subst e
    by_cases hl : i < l.length
    · rw [List.getElem?_set_self hl] at h
      exact .inl ⟨rfl, (Option.some.inj h).symm⟩
    · rw [List.getElem?_eq_none (by simpa using hl)] at h
      cases h
  · rw [List.getElem?_set_ne e] at h
    exact .inr ⟨fun z => e z.symm, h⟩
/-- an own object becomes data -/
theorem Rel.freeze (R : Rel K B F H ρ σ) {i : Nat} {d : D} (h : ρ[i]? = some (.own d)) : ∃ a ho, σ[i]? = some (some (.ref a)) ∧ F a = none ∧ Rel K B (upd F a ho) H (ρ.set i (.dat d)) σ ∧ Same F (upd F a ho) ∧ DP K (upd F a ho) (.ref a) d := by
  obtain ⟨a, ho, h1, h2, h3, hP, h4, h5⟩ := R.ow i d h
  have sm : Same F (upd F a ho) := same_upd h2
  have dp : DP K (upd F a ho) (.ref a) d := by
    cases h5 with
    | lst q => exact .lst upd_same (q.mono sm)
    | dK q => exact .dK (.inl upd_same) (q.mono sm)
    | dT q => exact .dT (.inl upd_same) (q.mono sm)
  refine ⟨a, ho, h1, h2, ⟨R.toBse.freeze h4 h2 h3 hP, by rw [List.length_set]; exact R.len, fun j e q => ?_, fun j e q => ?_, fun j q => ?_, fun j k e e' b n q q' r => ?_⟩, sm, dp⟩
  · rcases set_get q with ⟨rfl, z⟩ | ⟨n, z⟩
    · cases z; exact ⟨_, h1, dp⟩
    · obtain ⟨v, x1, x2⟩ := R.sl j e z
      exact ⟨v, x1, x2.mono sm⟩
  · rcases set_get q with ⟨rfl, z⟩ | ⟨n, z⟩
    · cases z
    · obtain ⟨b, o, x1, x2, x3, xP, x4, x5⟩ := R.ow j e z
      have nb : b ≠ a := fun z' => R.ap i j d e a (Ne.symm n) h z h1 (z' ▸ x1)
      exact ⟨b, o, x1, by rw [upd_ne nb]; exact x2, x3, xP, x4, x5.mono sm⟩
  · rcases set_get q with ⟨rfl, z⟩ | ⟨n, z⟩
    · cases z
    · exact R.so j z
  · rcases set_get q with ⟨rfl, z⟩ | ⟨m, z⟩
    · cases z
    · rcases set_get q' with ⟨rfl, z'⟩ | ⟨m', z'⟩
      · cases z'
      · exact R.ap j k e e' b n z z' r
/-- data stored at a slot -/
theorem Rel.store (R : Rel K B F H ρ σ) {i : Nat} {v : V} {d : D} (h : DP K F v d) : Rel K B F H (ρ.set i (.dat d)) (σ.set i (some v)) := by
  refine ⟨R.toBse, by rw [List.length_set, List.length_set]; exact R.len, fun j e q => ?_, fun j e q => ?_, fun j q => ?_, fun j k e e' b n q q' r => ?_⟩
  · rcases set_get q with ⟨rfl, z⟩ | ⟨n, z⟩
    · cases z
      have hl : j < ρ.length := by
        have := (List.getElem?_eq_some_iff.mp q).1
        rwa [List.length_set] at this
      exact ⟨v, List.getElem?_set_self (by rw [R.len]; exact hl), h⟩
    · rw [List.getElem?_set_ne (Ne.symm n)]; exact R.sl j e z
  · rcases set_get q with ⟨rfl, z⟩ | ⟨n, z⟩
    · cases z
    · rw [List.getElem?_set_ne (Ne.symm n)]; exact R.ow j e z
  · rcases set_get q with ⟨rfl, z⟩ | ⟨n, z⟩
    · cases z
    · rw [List.getElem?_set_ne (Ne.symm n)]; exact R.so j z
  · rcases set_get q with ⟨rfl, z⟩ | ⟨m, z⟩
    · cases z
    · rcases set_get q' with ⟨rfl, z'⟩ | ⟨m', z'⟩
      · cases z'
      · rw [List.getElem?_set_ne (Ne.symm m)] at r
        rw [List.getElem?_set_ne (Ne.symm m')]
        exact R.ap j k e e' b n z z' r
/-- a new object of one's own stored at a slot -/
theorem Rel.storeO (R : Rel K B F H ρ σ) {i : Nat} {a : Addr} {o : HO} {d : D} (hF : F a = none) (h0 : B.H0 a = none) (hP : B.P a = none) (hH : H a = some o) (hp : OwnP K F o d)
    (fr : ∀ (j : Nat) (e : D), j ≠ i → ρ[j]? = some (.own e) → σ[j]? ≠ some (some (.ref a))) : Rel K B F H (ρ.set i (.own d)) (σ.set i (some (.ref a))) := by
  refine ⟨R.toBse, by rw [List.length_set, List.length_set]; exact R.len, fun j e q => ?_, fun j e q => ?_, fun j q => ?_, fun j k e e' b n q q' r => ?_⟩
  · rcases set_get q with ⟨rfl, z⟩ | ⟨n, z⟩
    · cases z
    · rw [List.getElem?_set_ne (Ne.symm n)]; exact R.sl j e z
  · rcases set_get q with ⟨rfl, z⟩ | ⟨n, z⟩
    · cases z
      have hl : j < ρ.length := by
        have := (List.getElem?_eq_some_iff.mp q).1
        rwa [List.length_set] at this
      exact ⟨a, o, List.getElem?_set_self (by rw [R.len]; exact hl), hF, h0, hP, hH, hp⟩
    · rw [List.getElem?_set_ne (Ne.symm n)]; exact R.ow j e z
  · rcases set_get q with ⟨rfl, z⟩ | ⟨n, z⟩
    · cases z
    · rw [List.getElem?_set_ne (Ne.symm n)]; exact R.so j z
  · rcases set_get q with ⟨rfl, z⟩ | ⟨m, z⟩
    · rcases set_get q' with ⟨rfl, z'⟩ | ⟨m', z'⟩
      · exact absurd rfl n
      · rw [List.getElem?_set_ne (Ne.symm m')]
        have hl : j < σ.length := by
          have := (List.getElem?_eq_some_iff.mp q).1
          rw [List.length_set] at this
          rw [R.len]; exact this
        rw [List.getElem?_set_self hl] at r
        cases r
        exact fr k e' m' z'
    · rcases set_get q' with ⟨rfl, z'⟩ | ⟨m', z'⟩
      · rw [List.getElem?_set_ne (Ne.symm m)] at r
        have hl : k < σ.length := by
          have := (List.getElem?_eq_some_iff.mp q').1
          rw [List.length_set] at this
          rw [R.len]; exact this
        rw [List.getElem?_set_self hl]
        intro y
        cases y
        exact fr j e m z r
      · rw [List.getElem?_set_ne (Ne.symm m)] at r
        rw [List.getElem?_set_ne (Ne.symm m')]
        exact R.ap j k e e' b n z z' r
/-- the own object at slot i is written -/
theorem Rel.writeO (R : Rel K B F H ρ σ) {i : Nat} {a : Addr} {d0 d : D} {o : HO} (h : ρ[i]? = some (.own d0)) (ha : σ[i]? = some (some (.ref a))) (hp : OwnP K F o d) : Rel K B F (upd H a o) (ρ.set i (.own d)) σ := by
  obtain ⟨a', ho, h1, h2, h3, hP, h4, h5⟩ := R.ow i d0 h
  rw [ha] at h1
  cases h1
  refine ⟨R.toBse.write h2 h3 hP, by rw [List.length_set]; exact R.len, fun j e q => ?_, fun j e q => ?_, fun j q => ?_, fun j k e e' b n q q' r => ?_⟩
  · rcases set_get q with ⟨rfl, z⟩ | ⟨n, z⟩
    · cases z
    · exact R.sl j e z
  · rcases set_get q with ⟨rfl, z⟩ | ⟨n, z⟩
    · cases z
      exact ⟨a, o, ha, h2, h3, hP, upd_same, hp⟩
    · obtain ⟨b, o', x1, x2, x3, xP, x4, x5⟩ := R.ow j e z
      have nb : b ≠ a := fun z' => R.ap i j d0 e a (Ne.symm n) h z ha (z' ▸ x1)
      exact ⟨b, o', x1, x2, x3, xP, by rw [upd_ne nb]; exact x4, x5⟩
  · rcases set_get q with ⟨rfl, z⟩ | ⟨n, z⟩
    · cases z
    · exact R.so j z
  · rcases set_get q with ⟨rfl, z⟩ | ⟨m, z⟩
    · rcases set_get q' with ⟨rfl, z'⟩ | ⟨m', z'⟩
      · exact absurd rfl n
      · exact R.ap j k d0 e' b n h z' r
    · rcases set_get q' with ⟨rfl, z'⟩ | ⟨m', z'⟩
      · exact R.ap j k e d0 b n z h r
      · exact R.ap j k e e' b n z z' r
/-- behind a call -/
theorem Rel.call (R : Rel K B F H ρ σ) {Z : Option (Addr × Addr)} {ec : Str → Option Addr} (hZ : Z = B.Z ∨ Z = none) (P : Bse ⟨ec, Z, fun _ => none, F, H⟩ F' H') : Rel K B F' H' ρ σ := by
  have nz : ∀ b, NotSrc B.Z b → NotSrc Z b := fun b n s c e => by
    rcases hZ with rfl | rfl
    · exact n s c e
    · cases e
  have old : ∀ b o, H b = some o → F b = none → F' b = none := fun b o h n => by
    cases q : F' b with
    | none => rfl
    | some u =>
      rcases P.nf b (by rw [q]; exact fun z => nomatch z) with z | z
      · exact absurd n z
      · rw [show (Bas.mk ec Z (fun _ => none) F H).H0 b = H b from rfl, h] at z; cases z
  have own : ∀ a, B.H0 a = none → NotSrc Z a := fun a h0 s c e => by
    rcases hZ with rfl | rfl
    · obtain ⟨_, _, _, _, r1, r2⟩ := R.sr s c e
      exact ⟨fun z => r1 (z ▸ h0), fun z => r2 (z ▸ h0)⟩
    · cases e
  refine ⟨⟨P.fz, R.f0.trans P.f0, fun b hb => ?_, fun b o e n => P.kp b o (R.kp b o e n) (nz b n), fun s c e => ?_, fun b o e => ?_⟩, R.len, fun j e q => ?_, fun j e q => ?_, R.so, R.ap⟩
  · rcases P.nf b hb with z | z
    · exact R.nf b z
    · exact .inr (R.toBse.free0 z)
  · obtain ⟨a, fs, fc, ne, r1, r2⟩ := R.sr s c e
    obtain ⟨h1, h2⟩ := srcAt_some a
    obtain ⟨os, es⟩ := Option.ne_none_iff_exists'.mp h1
    obtain ⟨oc, eC⟩ := Option.ne_none_iff_exists'.mp h2
    refine ⟨?_, old s os es fs, old c oc eC fc, ne, r1, r2⟩
    rcases hZ with rfl | rfl
    · exact (P.sr s c e).1
    · have n : ∀ b, NotSrc none b := fun b s c z => nomatch z
      exact a.at ((P.kp s os es (n s)).trans es.symm) ((P.kp c oc eC (n c)).trans eC.symm)
  · obtain ⟨h1, h2, h3⟩ := R.pr b o e
    exact ⟨P.kp b o h1 (own b h3), old b o h1 h2, h3⟩
  · obtain ⟨v, x1, x2⟩ := R.sl j e q
    exact ⟨v, x1, x2.mono P.f0⟩
  · obtain ⟨a, o, x1, x2, x3, xP, x4, x5⟩ := R.ow j e q
    exact ⟨a, o, x1, old a o x4 x2, x3, xP, P.kp a o x4 (own a x3), x5.mono P.f0⟩
theorem Rel.toCall (R : Rel K B F H ρ σ) {Z : Option (Addr × Addr)} {ec : Str → Option Addr} (hZ : Z = B.Z ∨ Z = none) : Bse ⟨ec, Z, fun _ => none, F, H⟩ F H where
  fz := R.fz
  f0 := Same.refl _
  nf := fun b h => .inl h
  kp := fun b o e _ => e
  sr := fun s c e => by
    rcases hZ with rfl | rfl
    · obtain ⟨a, fs, fc, ne, r1, r2⟩ := R.sr s c e
      obtain ⟨h1, h2⟩ := srcAt_some a
      exact ⟨a, fs, fc, ne, h1, h2⟩
    · cases e
  pr := fun _ _ e => nomatch e
end
end PU
set_option Elab.async false
set_option linter.all false
set_option maxRecDepth 100000
namespace PU
open PySem PySem.Spec L2
set_option autoImplicit false

/-! ### names, constants -/
@[simp] def aVar (i : Nat) : AE := fun _ ρ Q => match ρ[i]? with
  | some (.dat d) => Q d ρ
  | some (.own d) => Q d (ρ.set i (.dat d))
  | _ => False
@[simp] def aC (d : D) : AE := fun _ ρ Q => Q d ρ
section
variable {X : Cx} {B : Bas} {W : WX} {a b c e : Expr} {es : List Expr} {ta tb tc : AE} {pos : Pos}
theorem se_of (i : Nat) {e : Expr} (h : PE X e (tVar i)) : SE X B W e (aVar i) := by
  refine PE_imp h fun σ H Q q => ?_
  obtain ⟨ρ, F, EX, Q0, R, t, k, _⟩ := q
  unfold aVar at t
  split at t
  · rename_i d hd
    obtain ⟨v, h1, h2⟩ := R.sl i d hd
    exact ⟨v, h1, k d ρ t v F H R (Same.refl _) h2⟩
  · rename_i d hd
    obtain ⟨a, ho, h1, h2, R', sm, dp⟩ := R.freeze hd
    exact ⟨_, h1, k d _ t _ _ H R' sm dp⟩
  · exact t.elim
theorem se_c {v : V} {d : D} (h : PE X e (tC v)) (hd : ∀ F, DP X.K F v d) : SE X B W e (aC d) := by
  refine PE_imp h fun σ H Q q => ?_
  obtain ⟨ρ, F, EX, Q0, R, t, k, _⟩ := q
  exact k d ρ t v F H R (Same.refl _) (hd F)
theorem se_int {i : Int} {j : Nat} : SE X B W (.Constant (.int i) j pos) (aC (.int i)) := se_c pe_int fun _ => .int i
theorem se_bl {i : Bool} {j : Nat} : SE X B W (.Constant (.bool i) j pos) (aC (.bl i)) := se_c pe_bl fun _ => .bl i
theorem se_non {j : Nat} : SE X B W (.Constant .none j pos) (aC .non) := se_c pe_non fun _ => .non
theorem se_str {x : Str} {j : Nat} : SE X B W (.Constant (.str x) j pos) (aC (.str x)) := se_c pe_str fun _ => .str x

/-! ### operations of two -/
abbrev Op2 := D → D → (D → Prop) → Prop
def OpS (K : PySem.W.Frag) (B : Bas) (r : R2) (op : Op2) : Prop :=
  ∀ (F H : Hp) (ρ : List AV) (σ : L2.St) (x y : V) (d e : D) (Q0 : D → Prop) (Q : VK), Rel K B F H ρ σ → DP K F x d → DP K F y e → op d e Q0 →
    (∀ z, Q0 z → ∀ v F' H', Rel K B F' H' ρ σ → Same F F' → DP K F' v z → Q v H') → r x y H Q
@[simp] def aBin (op : Op2) (ta tb : AE) : AE := fun EX ρ Q => ta EX ρ fun d ρ1 => tb EX ρ1 fun e ρ2 => op d e fun z => Q z ρ2
theorem cBin {K : PySem.W.Frag} {r : R2} {op : Op2} (hs : OpS K B r op) {σ : L2.St} {H : Hp} {Q : VK} (q : cE K B W (aBin op ta tb) σ H Q) : tOp r (cE K B W ta) (cE K B W tb) σ H Q := by
  obtain ⟨ρ, F, EX, Q0, R, t, k, kx⟩ := q
  refine ⟨ρ, F, EX, _, R, t, fun d ρ1 t1 x F1 H1 R1 s1 p1 => ?_, kx⟩
  refine ⟨ρ1, F1, EX, _, R1, t1, fun e ρ2 t2 y F2 H2 R2' s2 p2 => ?_, kx⟩
  exact hs F2 H2 ρ2 σ x y d e _ Q R2' (p1.mono s2) p2 t2 fun z hz v F' H' R' s' p' => k z ρ2 hz v F' H' R' ((s1.trans s2).trans s') p'
theorem se_bin {o : Operator} {r : R2} {op : Op2} (ho : OpR X (binaryOp o) r) (hs : OpS X.K B r op) (ha : SE X B W a ta) (hb : SE X B W b tb) : SE X B W (.BinOp a o b pos) (aBin op ta tb) :=
  PE_imp (pe_op ho ha hb) fun _ _ _ q => cBin hs q
theorem se_cmp {o : CmpOp} {r : R2} {op : Op2} (ho : OpR X (compareOp o) r) (hs : OpS X.K B r op) (ha : SE X B W a ta) (hb : SE X B W b tb) (hm : behindInMarks o b = false) : SE X B W (.Compare a [o] [b] pos) (aBin op ta tb) :=
  PE_imp (pe_cmpR ho ha hb hm) fun _ _ _ q => cBin hs q
theorem OpS.or {K : PySem.W.Frag} {r r' : R2} {op op' : Op2} (h : OpS K B r op) (h' : OpS K B r' op') : OpS K B (fun x y H Q => r x y H Q ∨ r' x y H Q) (fun d e Q => op d e Q ∨ op' d e Q) := by
  intro F H ρ σ x y d e Q0 Q R p1 p2 q k
  rcases q with q | q
  · exact .inl (h F H ρ σ x y d e Q0 Q R p1 p2 q k)
  · exact .inr (h' F H ρ σ x y d e Q0 Q R p1 p2 q k)

/-- ints under a condition -/
@[simp] def dI (C : Int → Int → Prop) (g : Int → Int → D) : Op2 := fun d e Q => match d, e with
  | .int i, .int j => C i j ∧ Q (g i j)
  | _, _ => False
theorem dp_int {K : PySem.W.Frag} {F : Hp} {x : V} {i : Int} (h : DP K F x (.int i)) : x = .int i := by cases h; rfl
theorem dp_bl {K : PySem.W.Frag} {F : Hp} {x : V} {i : Bool} (h : DP K F x (.bl i)) : x = .bl i := by cases h; rfl
theorem dp_str {K : PySem.W.Frag} {F : Hp} {x : V} {i : Str} (h : DP K F x (.str i)) : x = .str i := by cases h; rfl
theorem dp_non {K : PySem.W.Frag} {F : Hp} {x : V} (h : DP K F x .non) : x = .non := by cases h; rfl
theorem opS_int {K : PySem.W.Frag} {C : Int → Int → Prop} {g : Int → Int → V} {g' : Int → Int → D} (hg : ∀ F i j, DP K F (g i j) (g' i j)) : OpS K B (rI C g) (dI C g') := by
  intro F H ρ σ x y d e Q0 Q R p1 p2 q k
  unfold dI at q
  split at q
  · rename_i i j
    exact ⟨i, j, dp_int p1, dp_int p2, q.1, k _ q.2 _ F H R (Same.refl _) (hg F i j)⟩
  · exact q.elim
theorem opS_int0 {K : PySem.W.Frag} {g : Int → Int → V} {g' : Int → Int → D} (hg : ∀ F i j, DP K F (g i j) (g' i j)) : OpS K B (rI0 g) (dI (fun _ _ => True) g') := by
  intro F H ρ σ x y d e Q0 Q R p1 p2 q k
  unfold dI at q
  split at q
  · rename_i i j
    exact ⟨i, j, dp_int p1, dp_int p2, k _ q.2 _ F H R (Same.refl _) (hg F i j)⟩
  · exact q.elim

/-- a + b -/
@[simp] def dAdd : Op2 := fun d e Q => match d, e with
  | .int i, .int j => Q (.int (i + j))
  | .str x, .str y => x.length + y.length ≤ sizeLine ∧ Q (.str (x ++ y))
  | .lst xs, .lst ys => xs.length + ys.length ≤ sizeLine ∧ Q (.lst (xs ++ ys))
  | .tup xs, .tup ys => xs.length + ys.length ≤ sizeLine ∧ Q (.tup (xs ++ ys))
  | .int i, .bl b => Q (.int (i + if b then 1 else 0))
  | _, _ => False
def rAddAll (K : PySem.W.Frag) : R2 := fun x y H Q =>
  (((rI0 fun i j => .int (i + j)) x y H Q ∨ (∃ i j, x = .str i ∧ y = .str j ∧ i.length + j.length ≤ sizeLine ∧ Q (.str (i ++ j)) H)) ∨ rCat x y H Q) ∨ (rCatA K x y H Q ∨ (∃ i k, x = .int i ∧ y = .bl k ∧ Q (.int (i + PyProof.Rows.b2i k)) H))
theorem op_addAll : OpR X (binaryOp .Add) (rAddAll X.K) := ((op_add.or op_add_str).or op_cat).or (op_catA.or op_add_ib)
theorem opS_add {K : PySem.W.Frag} : OpS K B (rAddAll K) dAdd := by
  intro F H ρ σ x y d e Q0 Q R p1 p2 q k
  unfold dAdd at q
  split at q
  · rename_i i j
    exact .inl (.inl (.inl ⟨i, j, dp_int p1, dp_int p2, k _ q _ F H R (Same.refl _) (.int _)⟩))
  · rename_i i j
    exact .inl (.inl (.inr ⟨i, j, dp_str p1, dp_str p2, q.1, k _ q.2 _ F H R (Same.refl _) (.str _)⟩))
  · rename_i xs ys
    cases p1 with
    | lst h1 t1 =>
      cases p2 with
      | lst h2 t2 =>
        have l1 := t1.length
        have l2 := t2.length
        refine .inl (.inr ⟨_, _, _, _, rfl, rfl, R.fz _ _ h1, R.fz _ _ h2, by rw [l1, l2]; exact q.1, fun p hp => ?_⟩)
        have sm : ∀ o, Same F (upd F p o) := fun o => same_upd (R.freeF hp)
        exact k _ q.2 _ _ _ (R.alloc hp) (sm _) (.lst upd_same ((t1.append t2).mono (sm _)))
  · rename_i xs ys
    cases p1 with
    | tup h1 t1 =>
      cases p2 with
      | tup h2 t2 =>
        have l1 := t1.length
        have l2 := t2.length
        refine .inr (.inl ⟨_, _, _, _, rfl, rfl, same_tup R.fz h1, same_tup R.fz h2, by rw [l1, l2]; exact q.1, fun z => ?_, fun z1 z2 => ?_, fun z1 z2 p hp => ?_⟩)
        · subst z
          cases t1
          exact k _ q.2 _ F H R (Same.refl _) (.tup h2 t2)
        · subst z2
          cases t2
          rw [List.append_nil] at q
          exact k _ q.2 _ F H R (Same.refl _) (.tup h1 t1)
        · have sm : ∀ o, Same F (upd F p o) := fun o => same_upd (R.freeF hp)
          exact k _ q.2 _ _ _ (R.alloc hp) (sm _) (.tup (SqT.of upd_same) ((t1.append t2).mono (sm _)))
  · rename_i i j
    exact .inr (.inr ⟨i, j, dp_int p1, dp_bl p2, k _ q _ F H R (Same.refl _) (.int _)⟩)
  · exact q.elim
theorem se_add (ha : SE X B W a ta) (hb : SE X B W b tb) : SE X B W (.BinOp a .Add b pos) (aBin dAdd ta tb) := se_bin op_addAll opS_add ha hb
/-- a - b -/
@[simp] def dSub : Op2 := fun d e Q => match d, e with
  | .int i, .int j => Q (.int (i - j))
  | .bl i, .bl j => Q (.int ((if i then 1 else 0) - if j then 1 else 0))
  | _, _ => False
theorem op_sub_bb : OpR X (binaryOp .Sub) (fun x y H Q => ∃ i k, x = .bl i ∧ y = .bl k ∧ Q (.int (PyProof.Rows.b2i i - PyProof.Rows.b2i k)) H) := by
  intro pins s σ H x y v u Q I rx ry h
  obtain ⟨i, k, rfl, rfl, q⟩ := h
  cases rx
  cases ry
  exact PyProof.Rows.sub_bool ⟨.int _, H, I.tok _, ⟨_, rfl⟩, q⟩
def rSubAll : R2 := fun x y H Q => (rI0 fun i j => .int (i - j)) x y H Q ∨ (∃ i k, x = .bl i ∧ y = .bl k ∧ Q (.int (PyProof.Rows.b2i i - PyProof.Rows.b2i k)) H)
theorem op_subAll : OpR X (binaryOp .Sub) rSubAll := op_sub.or op_sub_bb
theorem opS_sub {K : PySem.W.Frag} : OpS K B rSubAll dSub := by
  intro F H ρ σ x y d e Q0 Q R p1 p2 q k
  unfold dSub at q
  split at q
  · rename_i i j
    exact .inl ⟨i, j, dp_int p1, dp_int p2, k _ q _ F H R (Same.refl _) (.int _)⟩
  · rename_i i j
    exact .inr ⟨i, j, dp_bl p1, dp_bl p2, k _ q _ F H R (Same.refl _) (.int _)⟩
  · exact q.elim
theorem se_sub (ha : SE X B W a ta) (hb : SE X B W b tb) : SE X B W (.BinOp a .Sub b pos) (aBin dSub ta tb) := se_bin op_subAll opS_sub ha hb
/-- a * b -/
def MulOk (i j : Int) : Prop := CMul i j ∨ CMulW i j
def dMul : Op2 := fun d e Q => match d, e with
  | .int i, .int j => MulOk i j ∧ Q (.int (i * j))
  | .lst xs, .int k => -(2 ^ 63) ≤ k ∧ k < 2 ^ 63 ∧ xs.length * k.toNat ≤ sizeLine ∧ Q (.lst (List.replicate k.toNat xs).flatten)
  | _, _ => False
def rMulAll : R2 := fun x y H Q => ((rI CMul fun i j => .int (i * j)) x y H Q ∨ (rI CMulW fun i j => .int (i * j)) x y H Q) ∨ rRep x y H Q
theorem op_mulAll : OpR X (binaryOp .Mult) rMulAll := (op_mul.or op_mulW).or op_rep
theorem DPs.rep {K : PySem.W.Frag} {F : Hp} {v : List V} {d : List D} (h : DPs K F v d) : ∀ n : Nat, DPs K F (List.replicate n v).flatten (List.replicate n d).flatten
  | 0 => .nil
  | n + 1 => by
    rw [List.replicate_succ, List.replicate_succ, List.flatten_cons, List.flatten_cons]
    exact h.append (DPs.rep h n)
theorem opS_mul {K : PySem.W.Frag} : OpS K B rMulAll dMul := by
  intro F H ρ σ x y d e Q0 Q R p1 p2 q k
  unfold dMul at q
  split at q
  · rename_i i j
    rcases q with ⟨q1 | q1, q⟩
    · exact .inl (.inl ⟨i, j, dp_int p1, dp_int p2, q1, k _ q _ F H R (Same.refl _) (.int _)⟩)
    · exact .inl (.inr ⟨i, j, dp_int p1, dp_int p2, q1, k _ q _ F H R (Same.refl _) (.int _)⟩)
  · rename_i xs j
    obtain ⟨q1, q2, q3, q⟩ := q
    cases p1 with
    | lst h1 t1 =>
      refine .inr ⟨_, j, _, rfl, dp_int p2, R.fz _ _ h1, q1, q2, by rw [t1.length]; exact q3, fun p hp => ?_⟩
      have sm : ∀ o, Same F (upd F p o) := fun o => same_upd (R.freeF hp)
      exact k _ q _ _ _ (R.alloc hp) (sm _) (.lst upd_same ((t1.rep _).mono (sm _)))
  · exact q.elim
theorem se_mul (ha : SE X B W a ta) (hb : SE X B W b tb) : SE X B W (.BinOp a .Mult b pos) (aBin dMul ta tb) := se_bin op_mulAll opS_mul ha hb
/-- a // b, the divisor below 2 ^ 9000 -/
def DivOk (_ j : Int) : Prop := j ≠ 0 ∧ j.natAbs.log2 < 9000
@[simp] def dDiv : Op2 := dI DivOk fun i j => .int (i.fdiv j)
theorem op_divAll : OpR X (binaryOp .FloorDiv) (rI DivOk fun i j => .int (i.fdiv j)) := opI fun i j _ _ _ _ _ hc q =>
  PyProof.Rows.floordiv_int hc.1 q (.inl (PyProof.noPylong_of_log2 hc.2))
theorem se_div (ha : SE X B W a ta) (hb : SE X B W b tb) : SE X B W (.BinOp a .FloorDiv b pos) (aBin dDiv ta tb) := se_bin op_divAll (opS_int fun _ i j => .int _) ha hb
@[simp] def dMod : Op2 := dI (fun _ j => j ≠ 0) fun i j => .int (i.fmod j)
theorem se_mod (ha : SE X B W a ta) (hb : SE X B W b tb) : SE X B W (.BinOp a .Mod b pos) (aBin dMod ta tb) := se_bin op_modN (opS_int fun _ i j => .int _) ha hb
def dPow : Op2 := dI CPow fun i j => .int (i ^ j.toNat)
theorem se_pow (ha : SE X B W a ta) (hb : SE X B W b tb) : SE X B W (.BinOp a .Pow b pos) (aBin dPow ta tb) := se_bin op_pow (opS_int fun _ i j => .int _) ha hb

/-! ### comparisons -/
@[simp] def dLt : Op2 := dI (fun _ _ => True) fun i j => .bl (decide (i < j))
@[simp] def dLe : Op2 := dI (fun _ _ => True) fun i j => .bl (decide (i ≤ j))
@[simp] def dGt : Op2 := dI (fun _ _ => True) fun i j => .bl (decide (j < i))
@[simp] def dGe : Op2 := dI (fun _ _ => True) fun i j => .bl (decide (j ≤ i))
theorem opS_lt {K : PySem.W.Frag} : OpS K B (rI0 fun i j => .bl (decide (i < j))) dLt := opS_int0 fun _ _ _ => .bl _
theorem opS_le {K : PySem.W.Frag} : OpS K B (rI0 fun i j => .bl (decide (i ≤ j))) dLe := opS_int0 fun _ _ _ => .bl _
theorem opS_gt {K : PySem.W.Frag} : OpS K B (rI0 fun i j => .bl (decide (j < i))) dGt := opS_int0 fun _ _ _ => .bl _
theorem opS_ge {K : PySem.W.Frag} : OpS K B (rI0 fun i j => .bl (decide (j ≤ i))) dGe := opS_int0 fun _ _ _ => .bl _
theorem se_lt (ha : SE X B W a ta) (hb : SE X B W b tb) : SE X B W (.Compare a [.Lt] [b] pos) (aBin dLt ta tb) := se_cmp op_lt opS_lt ha hb (nomark _)
theorem se_le (ha : SE X B W a ta) (hb : SE X B W b tb) : SE X B W (.Compare a [.LtE] [b] pos) (aBin dLe ta tb) := se_cmp op_le opS_le ha hb (nomark _)
theorem se_gt (ha : SE X B W a ta) (hb : SE X B W b tb) : SE X B W (.Compare a [.Gt] [b] pos) (aBin dGt ta tb) := se_cmp op_gt opS_gt ha hb (nomark _)
theorem se_ge (ha : SE X B W a ta) (hb : SE X B W b tb) : SE X B W (.Compare a [.GtE] [b] pos) (aBin dGe ta tb) := se_cmp op_ge opS_ge ha hb (nomark _)

/-! ### == of plain data -/
mutual
def D.py : D → PyData
  | .non => .none
  | .bl b => .bool b
  | .int i => .int i
  | .str x => .str x
  | .lst xs => .list (D.pys xs)
  | .tup xs => .tuple (D.pys xs)
  | _ => .none
def D.pys : List D → List PyData
  | [] => []
  | x :: xs => x.py :: D.pys xs
end
/-- plain, to a depth -/
def D.shp : Nat → D → Prop
  | _, .non => True
  | _, .bl _ => True
  | _, .int _ => True
  | _, .str x => PyData.strOk x = true
  | n + 1, .lst xs => ∀ x ∈ xs, D.shp n x
  | n + 1, .tup xs => ∀ x ∈ xs, D.shp n x
  | _, _ => False
mutual
theorem shp_dp {K : PySem.W.Frag} {F H : Hp} (e : Same F H) : ∀ {d : D} {v : V} {n : Nat}, D.shp n d → DP K F v d → Dp K H v d.py
  | .non, _, _, _, h => by cases h; exact .non
  | .bl b, _, _, _, h => by cases h; exact .bl b
  | .int b, _, _, _, h => by cases h; exact .int b
  | .str b, _, _, _, h => by cases h; exact .str b
  | .lst xs, _, 0, s, h => by unfold D.shp at s; exact s.elim
  | .lst xs, _, n + 1, s, h => by
    cases h with
    | lst h t => exact .lst (SqL.of (e _ _ h)) (shp_dps e s t)
  | .tup xs, _, 0, s, h => by unfold D.shp at s; exact s.elim
  | .tup xs, _, n + 1, s, h => by
    cases h with
    | tup h t => exact .tup (same_tup e h) (shp_dps e s t)
  | .con v, _, n, s, h => by unfold D.shp at s; exact s.elim
  | .dK v, _, n, s, h => by unfold D.shp at s; exact s.elim
  | .dT v, _, n, s, h => by unfold D.shp at s; exact s.elim
theorem shp_dps {K : PySem.W.Frag} {F H : Hp} (e : Same F H) : ∀ {d : List D} {v : List V} {n : Nat}, (∀ x ∈ d, D.shp n x) → DPs K F v d → DpAll K H v (D.pys d)
  | [], _, _, _, h => by cases h; exact .nil
  | x :: xs, _, n, s, h => by
    cases h with
    | cons h t => exact .cons (shp_dp e (s x List.mem_cons_self) h) (shp_dps e (fun y hy => s y (List.mem_cons_of_mem _ hy)) t)
end
mutual
theorem shp_lay : ∀ {d : D} {n : Nat}, D.shp n d → d.py.canLay0 = true ∧ d.py.depth ≤ n
  | .non, _, _ => ⟨by simp [D.py, PyData.canLay0], by simp [D.py, PyData.depth]⟩
  | .bl b, _, _ => ⟨by simp [D.py, PyData.canLay0], by simp [D.py, PyData.depth]⟩
  | .int b, _, _ => ⟨by simp [D.py, PyData.canLay0], by simp [D.py, PyData.depth]⟩
  | .str b, n, s => ⟨by unfold D.shp at s; simpa [D.py, PyData.canLay0] using s, by simp [D.py, PyData.depth]⟩
  | .lst xs, 0, s => by unfold D.shp at s; exact s.elim
  | .lst xs, n + 1, s => by
    obtain ⟨h1, h2⟩ := shp_lays (d := xs) (n := n) s
    exact ⟨by simpa [D.py, PyData.canLay0] using h1, by simp only [D.py, PyData.depth]; omega⟩
  | .tup xs, 0, s => by unfold D.shp at s; exact s.elim
  | .tup xs, n + 1, s => by
    obtain ⟨h1, h2⟩ := shp_lays (d := xs) (n := n) s
    exact ⟨by simpa [D.py, PyData.canLay0] using h1, by simp only [D.py, PyData.depth]; omega⟩
  | .con v, n, s => by unfold D.shp at s; exact s.elim
  | .dK v, n, s => by unfold D.shp at s; exact s.elim
  | .dT v, n, s => by unfold D.shp at s; exact s.elim
theorem shp_lays : ∀ {d : List D} {n : Nat}, (∀ x ∈ d, D.shp n x) → PyData.canLayAll0 (D.pys d) = true ∧ PyData.depthAll (D.pys d) ≤ n
  | [], _, _ => ⟨by simp [D.pys, PyData.canLayAll0], by simp [D.pys, PyData.depthAll]⟩
  | x :: xs, n, s => by
    obtain ⟨h1, h2⟩ := shp_lay (s x List.mem_cons_self)
    obtain ⟨h3, h4⟩ := shp_lays (d := xs) (n := n) (fun y hy => s y (List.mem_cons_of_mem _ hy))
    exact ⟨by simp [D.pys, PyData.canLayAll0, h1, h3], by simp only [D.pys, PyData.depthAll]; omega⟩
end
theorem shp_shaped {d : D} (h : D.shp 64 d) : SeqAt.shaped d.py = true := by
  obtain ⟨h1, h2⟩ := shp_lay h
  unfold SeqAt.shaped
  rw [h1, decide_eq_true h2]
  rfl
def eqD (d e : D) : Bool := PyData.eqv d.py e.py
def dEq : Op2 := fun d e Q => D.shp 64 d ∧ D.shp 64 e ∧ Q (.bl (eqD d e))
def dNe : Op2 := fun d e Q => D.shp 64 d ∧ D.shp 64 e ∧ Q (.bl (!eqD d e))
theorem opS_eq {K : PySem.W.Frag} : OpS K B (rEqD K) dEq := by
  intro F H ρ σ x y d e Q0 Q R p1 p2 q k
  obtain ⟨s1, s2, q⟩ := q
  exact ⟨d.py, e.py, shp_dp R.fz s1 p1, shp_dp R.fz s2 p2, shp_shaped s1, shp_shaped s2, k _ q _ F H R (Same.refl _) (.bl _)⟩
theorem opS_ne {K : PySem.W.Frag} : OpS K B (rNeD K) dNe := by
  intro F H ρ σ x y d e Q0 Q R p1 p2 q k
  obtain ⟨s1, s2, q⟩ := q
  exact ⟨d.py, e.py, shp_dp R.fz s1 p1, shp_dp R.fz s2 p2, shp_shaped s1, shp_shaped s2, k _ q _ F H R (Same.refl _) (.bl _)⟩
theorem se_eq {k : Nat} (hr : Room k X.A) (ha : SE X B W a ta) (hb : SE X B W b tb) : SE X B W (.Compare a [.Eq] [b] pos) (aBin dEq ta tb) := se_cmp (op_eqD hr.units) opS_eq ha hb (nomark _)
theorem se_ne {k : Nat} (hr : Room k X.A) (ha : SE X B W a ta) (hb : SE X B W b tb) : SE X B W (.Compare a [.NotEq] [b] pos) (aBin dNe ta tb) := se_cmp (op_neD hr.units) opS_ne ha hb (nomark _)

/-! ### is None -/
@[simp] def isNon : D → Bool
  | .non => true
  | _ => false
@[simp] def opaqueD : D → Bool
  | .con _ => true
  | _ => false
@[simp] def dIs : Op2 := fun d e Q => isNon e = true ∧ opaqueD d = false ∧ Q (.bl (isNon d))
@[simp] def dIsNot : Op2 := fun d e Q => isNon e = true ∧ opaqueD d = false ∧ Q (.bl (!isNon d))
theorem dp_isNon {K : PySem.W.Frag} {F : Hp} {v : V} {d : D} (h : DP K F v d) (o : opaqueD d = false) : decide (v = V.non) = isNon d := by
  cases h with
  | con v => cases o
  | _ => first | rfl | (simp [isNon])
theorem opS_is {K : PySem.W.Frag} : OpS K B (fun x y H Q => y = .non ∧ Q (.bl (decide (x = .non))) H) dIs := by
  intro F H ρ σ x y d e Q0 Q R p1 p2 q k
  obtain ⟨e1, e2, q⟩ := q
  cases e <;> first | cases e1 | skip
  refine ⟨dp_non p2, ?_⟩
  rw [dp_isNon p1 e2]
  exact k _ q _ F H R (Same.refl _) (.bl _)
theorem opS_isNot {K : PySem.W.Frag} : OpS K B (fun x y H Q => y = .non ∧ Q (.bl (!decide (x = .non))) H) dIsNot := by
  intro F H ρ σ x y d e Q0 Q R p1 p2 q k
  obtain ⟨e1, e2, q⟩ := q
  cases e <;> first | cases e1 | skip
  refine ⟨dp_non p2, ?_⟩
  rw [dp_isNon p1 e2]
  exact k _ q _ F H R (Same.refl _) (.bl _)
theorem se_is (ha : SE X B W a ta) (hb : SE X B W b tb) : SE X B W (.Compare a [.Is] [b] pos) (aBin dIs ta tb) := se_cmp op_isN opS_is ha hb (nomark _)
theorem se_isNot (ha : SE X B W a ta) (hb : SE X B W b tb) : SE X B W (.Compare a [.IsNot] [b] pos) (aBin dIsNot ta tb) := se_cmp op_notN opS_isNot ha hb (nomark _)
end
end PU
set_option Elab.async false
set_option linter.all false
set_option maxRecDepth 100000
namespace PU
open PySem PySem.Spec L2
set_option autoImplicit false

section
variable {X : Cx} {B : Bas} {W : WX} {a b c e : Expr} {es rest : List Expr} {ta tb tc te : AE} {t u : AT} {s : AA} {pos : Pos}

/-! ### truth, tests -/
@[simp] def truQ (d : D) (Q : Bool → Prop) : Prop := match d with
  | .non => Q false
  | .bl b => Q b
  | .int i => Q (i != 0)
  | .str x => x.length ≤ sizeLine ∧ Q ((x.length : Int) != 0)
  | .lst xs => Q (!xs.isEmpty)
  | .tup xs => Q (!xs.isEmpty)
  | _ => False
theorem DPs.isEmpty {K : PySem.W.Frag} {F : Hp} {v : List V} {d : List D} (h : DPs K F v d) : v.isEmpty = d.isEmpty := by cases h <;> rfl
theorem truQ_of {K : PySem.W.Frag} {F H : Hp} {v : V} {d : D} {Q : Bool → Prop} (e : Same F H) (h : DP K F v d) (q : truQ d Q) : ∃ k, TruV K v H k ∧ Q k := by
  cases h with
  | non => exact ⟨false, rfl, q⟩
  | bl b => exact ⟨b, rfl, q⟩
  | int i => exact ⟨_, rfl, q⟩
  | str x => exact ⟨_, ⟨q.1, rfl⟩, q.2⟩
  | lst h t => exact ⟨_, .inl ⟨_, SqL.of (e _ _ h), rfl⟩, by rw [t.isEmpty]; exact q⟩
  | tup h t => exact ⟨_, .inr (.inl ⟨_, same_tup e h, rfl⟩), by rw [t.isEmpty]; exact q⟩
  | con v => exact q.elim
  | dK h t => exact q.elim
  | dT h t => exact q.elim
@[simp] def aTest (te : AE) : AT := fun EX ρ Q => te EX ρ fun d ρ' => truQ d fun k => Q k ρ'
theorem st_of (h : SE X B W e te) (he : ∀ whole, isTrue e X.env whole = (do let v ← whole; standAt e.pos; holding [v] (truthy v)) := by intro _; rfl) : ST X B W e (aTest te) := by
  refine PT_imp (pt_truth h he) fun σ H Q q => ?_
  obtain ⟨ρ, F, EX, Q0, R, t, k, kx⟩ := q
  refine ⟨ρ, F, EX, _, R, t, fun d ρ1 t1 v F1 H1 R1 s1 p1 => ?_, kx⟩
  obtain ⟨j, h1, h2⟩ := truQ_of R1.fz p1 t1
  exact ⟨j, h1, k j ρ1 h2 F1 H1 R1 s1⟩
@[simp] def blQ (d : D) (Q : Bool → Prop) : Prop := match d with
  | .bl b => Q b
  | _ => False
@[simp] def aTestB (te : AE) : AT := fun EX ρ Q => te EX ρ fun d ρ' => blQ d fun k => Q k ρ'
theorem blQ_of {K : PySem.W.Frag} {F : Hp} {v : V} {d : D} {Q : Bool → Prop} (h : DP K F v d) (q : blQ d Q) : ∃ k, v = .bl k ∧ Q k := by
  cases h with
  | bl b => exact ⟨b, rfl, q⟩
  | _ => exact q.elim
theorem st_cmp {o : CmpOp} {r : R2} {op : Op2} (ho : OpR X (compareOp o) r) (hs : OpS X.K B r op) (ha : SE X B W a ta) (hb : SE X B W b tb) (hm : behindInMarks o b = false) : ST X B W (.Compare a [o] [b] pos) (aTestB (aBin op ta tb)) := by
  refine PT_imp (pt_cmpR ho ha hb hm) fun σ H Q q => ?_
  obtain ⟨ρ, F, EX, Q0, R, t, k, kx⟩ := q
  refine cBin hs ⟨ρ, F, EX, _, R, t, fun d ρ1 t1 v F1 H1 R1 s1 p1 => ?_, kx⟩
  obtain ⟨j, h1, h2⟩ := blQ_of p1 t1
  exact ⟨j, h1, k j ρ1 h2 F1 H1 R1 s1⟩
theorem st_lt (ha : SE X B W a ta) (hb : SE X B W b tb) : ST X B W (.Compare a [.Lt] [b] pos) (aTestB (aBin dLt ta tb)) := st_cmp op_lt opS_lt ha hb (nomark _)
theorem st_le (ha : SE X B W a ta) (hb : SE X B W b tb) : ST X B W (.Compare a [.LtE] [b] pos) (aTestB (aBin dLe ta tb)) := st_cmp op_le opS_le ha hb (nomark _)
theorem st_gt (ha : SE X B W a ta) (hb : SE X B W b tb) : ST X B W (.Compare a [.Gt] [b] pos) (aTestB (aBin dGt ta tb)) := st_cmp op_gt opS_gt ha hb (nomark _)
theorem st_ge (ha : SE X B W a ta) (hb : SE X B W b tb) : ST X B W (.Compare a [.GtE] [b] pos) (aTestB (aBin dGe ta tb)) := st_cmp op_ge opS_ge ha hb (nomark _)
theorem st_eq {k : Nat} (hr : Room k X.A) (ha : SE X B W a ta) (hb : SE X B W b tb) : ST X B W (.Compare a [.Eq] [b] pos) (aTestB (aBin dEq ta tb)) := st_cmp (op_eqD hr.units) opS_eq ha hb (nomark _)
theorem st_ne {k : Nat} (hr : Room k X.A) (ha : SE X B W a ta) (hb : SE X B W b tb) : ST X B W (.Compare a [.NotEq] [b] pos) (aTestB (aBin dNe ta tb)) := st_cmp (op_neD hr.units) opS_ne ha hb (nomark _)
theorem st_is (ha : SE X B W a ta) (hb : SE X B W b tb) : ST X B W (.Compare a [.Is] [b] pos) (aTestB (aBin dIs ta tb)) := st_cmp op_isN opS_is ha hb (nomark _)
theorem st_isNot (ha : SE X B W a ta) (hb : SE X B W b tb) : ST X B W (.Compare a [.IsNot] [b] pos) (aTestB (aBin dIsNot ta tb)) := st_cmp op_notN opS_isNot ha hb (nomark _)
@[simp] def aNot (t : AT) : AT := fun EX ρ Q => t EX ρ fun k ρ' => Q (!k) ρ'
theorem st_not (h : ST X B W e t) : ST X B W (.UnaryOp .Not e pos) (aNot t) := by
  refine PT_imp (pt_not h) fun σ H Q q => ?_
  obtain ⟨ρ, F, EX, Q0, R, t, k, kx⟩ := q
  exact ⟨ρ, F, EX, _, R, t, fun d ρ1 t1 F1 H1 R1 s1 => k _ ρ1 t1 F1 H1 R1 s1, kx⟩
@[simp] def aAnd (t u : AT) : AT := fun EX ρ Q => t EX ρ fun k ρ' => if k = true then u EX ρ' Q else Q false ρ'
@[simp] def aOr (t u : AT) : AT := fun EX ρ Q => t EX ρ fun k ρ' => if k = true then Q true ρ' else u EX ρ' Q
theorem sw_and1 (h : ST X B W a t) : SW X B W (.BoolOp .And [a] pos) t := pw_and1 h
theorem sw_or1 (h : ST X B W a t) : SW X B W (.BoolOp .Or [a] pos) t := pw_or1 h
theorem sw_and (h : ST X B W a t) (h' : SW X B W (.BoolOp .And (b :: rest) pos) u) : SW X B W (.BoolOp .And (a :: b :: rest) pos) (aAnd t u) := by
  refine PW_imp (pw_and h h') fun σ H Q q => ?_
  obtain ⟨ρ, F, EX, Q0, R, t, k, kx⟩ := q
  refine ⟨ρ, F, EX, _, R, t, fun d ρ1 t1 F1 H1 R1 s1 => ?_, kx⟩
  cases d with
  | true => exact ⟨ρ1, F1, EX, Q0, R1, t1, fun d ρ2 t2 F2 H2 R2 s2 => k _ ρ2 t2 F2 H2 R2 (s1.trans s2), kx⟩
  | false => exact k _ ρ1 t1 F1 H1 R1 s1
theorem sw_or (h : ST X B W a t) (h' : SW X B W (.BoolOp .Or (b :: rest) pos) u) : SW X B W (.BoolOp .Or (a :: b :: rest) pos) (aOr t u) := by
  refine PW_imp (pw_or h h') fun σ H Q q => ?_
  obtain ⟨ρ, F, EX, Q0, R, t, k, kx⟩ := q
  refine ⟨ρ, F, EX, _, R, t, fun d ρ1 t1 F1 H1 R1 s1 => ?_, kx⟩
  cases d with
  | false => exact ⟨ρ1, F1, EX, Q0, R1, t1, fun d ρ2 t2 F2 H2 R2 s2 => k _ ρ2 t2 F2 H2 R2 (s1.trans s2), kx⟩
  | true => exact k _ ρ1 t1 F1 H1 R1 s1
theorem st_bool (h : SW X B W e t) : ST X B W e t := PW.pt h
/-! .. as values -/
@[simp] def aOrV (ta tb : AE) : AE := fun EX ρ Q => ta EX ρ fun d ρ' => truQ d fun k => if k = true then Q d ρ' else tb EX ρ' Q
@[simp] def aAndV (ta tb : AE) : AE := fun EX ρ Q => ta EX ρ fun d ρ' => truQ d fun k => if k = true then tb EX ρ' Q else Q d ρ'
@[simp] def aNotV (ta : AE) : AE := fun EX ρ Q => ta EX ρ fun d ρ' => truQ d fun k => Q (.bl (!k)) ρ'
theorem se_one {op : BoolOp} (h : SE X B W a ta) : SE X B W (.BoolOp op [a] pos) ta := pe_one h
theorem se_or (ha : SE X B W a ta) (hb : SE X B W (.BoolOp .Or (b :: rest) pos) tb) : SE X B W (.BoolOp .Or (a :: b :: rest) pos) (aOrV ta tb) := by
  refine PE_imp (pe_orT ha hb) fun σ H Q q => ?_
  obtain ⟨ρ, F, EX, Q0, R, t, k, kx⟩ := q
  refine ⟨ρ, F, EX, _, R, t, fun d ρ1 t1 v F1 H1 R1 s1 p1 => ?_, kx⟩
  obtain ⟨j, h1, h2⟩ := truQ_of R1.fz p1 t1
  refine ⟨j, h1, ?_⟩
  cases j with
  | true => exact k d ρ1 h2 v F1 H1 R1 s1 p1
  | false => exact ⟨ρ1, F1, EX, Q0, R1, h2, fun d ρ2 t2 v F2 H2 R2 s2 p2 => k _ ρ2 t2 v F2 H2 R2 (s1.trans s2) p2, kx⟩
theorem se_and (ha : SE X B W a ta) (hb : SE X B W (.BoolOp .And (b :: rest) pos) tb) : SE X B W (.BoolOp .And (a :: b :: rest) pos) (aAndV ta tb) := by
  refine PE_imp (pe_andT ha hb) fun σ H Q q => ?_
  obtain ⟨ρ, F, EX, Q0, R, t, k, kx⟩ := q
  refine ⟨ρ, F, EX, _, R, t, fun d ρ1 t1 v F1 H1 R1 s1 p1 => ?_, kx⟩
  obtain ⟨j, h1, h2⟩ := truQ_of R1.fz p1 t1
  refine ⟨j, h1, ?_⟩
  cases j with
  | false => exact k d ρ1 h2 v F1 H1 R1 s1 p1
  | true => exact ⟨ρ1, F1, EX, Q0, R1, h2, fun d ρ2 t2 v F2 H2 R2 s2 p2 => k _ ρ2 t2 v F2 H2 R2 (s1.trans s2) p2, kx⟩
theorem se_not (ha : SE X B W a ta) : SE X B W (.UnaryOp .Not a pos) (aNotV ta) := by
  refine PE_imp (pe_notT ha) fun σ H Q q => ?_
  obtain ⟨ρ, F, EX, Q0, R, t, k, kx⟩ := q
  refine ⟨ρ, F, EX, _, R, t, fun d ρ1 t1 v F1 H1 R1 s1 p1 => ?_, kx⟩
  obtain ⟨j, h1, h2⟩ := truQ_of R1.fz p1 t1
  exact ⟨j, h1, k _ ρ1 h2 _ F1 H1 R1 s1 (.bl _)⟩
@[simp] def aIf (t : AT) (ta tb : AE) : AE := fun EX ρ Q => t EX ρ fun k ρ' => if k = true then ta EX ρ' Q else tb EX ρ' Q
theorem se_if (h : ST X B W c t) (ha : SE X B W a ta) (hb : SE X B W b tb) : SE X B W (.IfExp c a b pos) (aIf t ta tb) := by
  refine PE_imp (pe_ifExp h ha hb) fun σ H Q q => ?_
  obtain ⟨ρ, F, EX, Q0, R, t, k, kx⟩ := q
  refine ⟨ρ, F, EX, _, R, t, fun d ρ1 t1 F1 H1 R1 s1 => ?_, kx⟩
  cases d with
  | true => exact ⟨ρ1, F1, EX, Q0, R1, t1, fun d ρ2 t2 v F2 H2 R2 s2 p2 => k _ ρ2 t2 v F2 H2 R2 (s1.trans s2) p2, kx⟩
  | false => exact ⟨ρ1, F1, EX, Q0, R1, t1, fun d ρ2 t2 v F2 H2 R2 s2 p2 => k _ ρ2 t2 v F2 H2 R2 (s1.trans s2) p2, kx⟩

/-! ### -a -/
@[simp] def aNeg (ta : AE) : AE := fun EX ρ Q => ta EX ρ fun d ρ' => match d with
  | .int i => Q (.int (-i)) ρ'
  | _ => False
theorem se_neg (ha : SE X B W a ta) : SE X B W (.UnaryOp .USub a pos) (aNeg ta) := by
  refine PE_imp (pe_un un_neg ha) fun σ H Q q => ?_
  obtain ⟨ρ, F, EX, Q0, R, t, k, kx⟩ := q
  refine ⟨ρ, F, EX, _, R, t, fun d ρ1 t1 v F1 H1 R1 s1 p1 => ?_, kx⟩
  cases p1 <;> first | exact (show False from t1).elim | skip
  exact ⟨_, rfl, k _ ρ1 t1 _ F1 H1 R1 s1 (.int _)⟩

/-! ### a op1 b op2 c -/
@[simp] def aChain (op op' : Op2) (ta tb tc : AE) : AE := fun EX ρ Q => ta EX ρ fun d ρ1 => tb EX ρ1 fun e ρ2 => op d e fun z => blQ z fun k => if k = true then tc EX ρ2 fun f ρ3 => op' e f fun y => Q y ρ3 else Q (.bl false) ρ2
theorem cChain {K : PySem.W.Frag} {r r' : R2} {op op' : Op2} (hs : OpS K B r op) (hs' : OpS K B r' op') {σ : L2.St} {H : Hp} {Q : VK} (q : cE K B W (aChain op op' ta tb tc) σ H Q) : tChain r r' (cE K B W ta) (cE K B W tb) (cE K B W tc) σ H Q := by
  obtain ⟨ρ, F, EX, Q0, R, t, k, kx⟩ := q
  refine ⟨ρ, F, EX, _, R, t, fun d ρ1 t1 x F1 H1 R1 s1 p1 => ?_, kx⟩
  refine ⟨ρ1, F1, EX, _, R1, t1, fun e ρ2 t2 y F2 H2 R2' s2 p2 => ?_, kx⟩
  refine hs F2 H2 ρ2 σ x y d e _ _ R2' (p1.mono s2) p2 t2 fun z hz v F' H' R' s' p' => ?_
  obtain ⟨j, rfl, h2⟩ := blQ_of p' hz
  refine ⟨j, rfl, ?_⟩
  cases j with
  | false => exact k _ ρ2 h2 _ F' H' R' ((s1.trans s2).trans s') (.bl _)
  | true =>
    refine ⟨ρ2, F', EX, _, R', h2, fun f ρ3 t3 w F3 H3 R3 s3 p3 => ?_, kx⟩
    exact hs' F3 H3 ρ3 σ y w e f _ Q R3 ((p2.mono s').mono s3) p3 t3 fun z hz v F4 H4 R4 s4 p4 => k z ρ3 hz v F4 H4 R4 ((((s1.trans s2).trans s').trans s3).trans s4) p4
theorem se_chain {o o' : CmpOp} {r r' : R2} {op op' : Op2} (ho : OpR X (compareOp o) r) (ho' : OpR X (compareOp o') r') (hs : OpS X.K B r op) (hs' : OpS X.K B r' op') (ha : SE X B W a ta) (hb : SE X B W b tb) (hc : SE X B W c tc)
    (hm : lastMarks [o, o'] [b, c] = false := by with_unfolding_all rfl) : SE X B W (.Compare a [o, o'] [b, c] pos) (aChain op op' ta tb tc) :=
  PE_imp (pe_chain ho ho' ha hb hc hm) fun _ _ _ q => cChain hs hs' q
theorem st_chain {o o' : CmpOp} {r r' : R2} {op op' : Op2} (ho : OpR X (compareOp o) r) (ho' : OpR X (compareOp o') r') (hs : OpS X.K B r op) (hs' : OpS X.K B r' op') (ha : SE X B W a ta) (hb : SE X B W b tb) (hc : SE X B W c tc)
    (hm : lastMarks [o, o'] [b, c] = false := by with_unfolding_all rfl) : ST X B W (.Compare a [o, o'] [b, c] pos) (aTestB (aChain op op' ta tb tc)) := by
  refine PT_imp (pt_chain ho ho' ha hb hc hm) fun σ H Q q => ?_
  obtain ⟨ρ, F, EX, Q0, R, t, k, kx⟩ := q
  refine cChain hs hs' ⟨ρ, F, EX, _, R, t, fun d ρ1 t1 v F1 H1 R1 s1 p1 => ?_, kx⟩
  obtain ⟨j, h1, h2⟩ := blQ_of p1 t1
  exact ⟨j, h1, k j ρ1 h2 F1 H1 R1 s1⟩

/-! ### argument lists, displays -/
@[simp] def aNil : AA := fun _ ρ Q => Q [] ρ
@[simp] def aCons (te : AE) (s : AA) : AA := fun EX ρ Q => te EX ρ fun d ρ1 => s EX ρ1 fun ds ρ2 => Q (d :: ds) ρ2
theorem sa_nil : SA X B W [] aNil := by
  refine PA_imp pa_nil fun σ H Q q => ?_
  obtain ⟨ρ, F, EX, Q0, R, t, k, kx⟩ := q
  exact k _ ρ t [] F H R (Same.refl _) .nil
theorem sa_cons (h : SE X B W e te) (h' : SA X B W es s) (hs : starEach (e :: es) X.env = (false, eval e X.env) :: starEach es X.env := by rfl) : SA X B W (e :: es) (aCons te s) := by
  refine PA_imp (pa_cons h h' hs) fun σ H Q q => ?_
  obtain ⟨ρ, F, EX, Q0, R, t, k, kx⟩ := q
  refine ⟨ρ, F, EX, _, R, t, fun d ρ1 t1 v F1 H1 R1 s1 p1 => ?_, kx⟩
  refine ⟨ρ1, F1, EX, _, R1, t1, fun ds ρ2 t2 vs F2 H2 R2 s2 p2 => ?_, kx⟩
  exact k _ ρ2 t2 _ F2 H2 R2 (s1.trans s2) (.cons (p1.mono s2) p2)
@[simp] def aTup (s : AA) : AE := fun EX ρ Q => s EX ρ fun ds ρ' => ds.length ≤ sizeLine ∧ Q (.tup ds) ρ'
theorem se_tup {x1 : Nat} (h : SA X B W es s) : SE X B W (.Tuple es x1 pos) (aTup s) := by
  refine PE_imp (pe_tup h) fun σ H Q q => ?_
  obtain ⟨ρ, F, EX, Q0, R, t, k, kx⟩ := q
  refine ⟨ρ, F, EX, _, R, t, fun ds ρ1 t1 vs F1 H1 R1 s1 p1 => ⟨by rw [p1.length]; exact t1.1, fun p hp => ?_⟩, kx⟩
  have sm : ∀ o, Same F1 (upd F1 p o) := fun o => same_upd (R1.freeF hp)
  exact k _ ρ1 t1.2 _ _ _ (R1.alloc hp) (s1.trans (sm _)) (.tup (SqT.of upd_same) (p1.mono (sm _)))

/-! ### fresh objects -/
def FreshAt (B : Bas) (F H : Hp) (ρ : List AV) (σ : L2.St) (a : Addr) (o : HO) : Prop :=
  F a = none ∧ B.H0 a = none ∧ B.P a = none ∧ H a = some o ∧ ∀ (j : Nat) (e : D), ρ[j]? = some (.own e) → σ[j]? ≠ some (some (.ref a))
def cF (K : PySem.W.Frag) (B : Bas) (W : WX) (t : AE) : TE := fun σ H Q => ∃ ρ F EX Q0, Rel K B F H ρ σ ∧ t EX ρ Q0 ∧
  (∀ d ρ', Q0 d ρ' → ∀ a o F' H', Rel K B F' H' ρ' σ → Same F F' → FreshAt B F' H' ρ' σ a o → OwnP K F' o d → Q (.ref a) H') ∧ cX K B W σ EX
def SF (X : Cx) (B : Bas) (W : WX) (e : Expr) (t : AE) : Prop := PE X e (cF X.K B W t)
theorem own_dp {K : PySem.W.Frag} {F : Hp} {a : Addr} {ho : HO} {d : D} (h2 : F a = none) (h5 : OwnP K F ho d) : DP K (upd F a ho) (.ref a) d := by
  have sm : Same F (upd F a ho) := same_upd h2
  cases h5 with
  | lst q => exact .lst upd_same (q.mono sm)
  | dK q => exact .dK (.inl upd_same) (q.mono sm)
  | dT q => exact .dT (.inl upd_same) (q.mono sm)
theorem Rel.freezeX {K : PySem.W.Frag} {F H : Hp} {ρ : List AV} {σ : L2.St} (R : Rel K B F H ρ σ) {a : Addr} {o : HO} (f : FreshAt B F H ρ σ a o) : Rel K B (upd F a o) H ρ σ := by
  obtain ⟨f1, f2, fP, f3, f4⟩ := f
  have sm : Same F (upd F a o) := same_upd f1
  refine ⟨R.toBse.freeze f3 f1 f2 fP, R.len, fun j e q => ?_, fun j e q => ?_, R.so, R.ap⟩
  · obtain ⟨v, x1, x2⟩ := R.sl j e q
    exact ⟨v, x1, x2.mono sm⟩
  · obtain ⟨b, o', x1, x2, x3, xP, x4, x5⟩ := R.ow j e q
    have nb : b ≠ a := fun z => f4 j e q (z ▸ x1)
    exact ⟨b, o', x1, by rw [upd_ne nb]; exact x2, x3, xP, x4, x5.mono sm⟩
theorem se_of_sf (h : SF X B W e te) : SE X B W e te := by
  refine PE_imp h fun σ H Q q => ?_
  obtain ⟨ρ, F, EX, Q0, R, t, k, kx⟩ := q
  refine ⟨ρ, F, EX, _, R, t, fun d ρ1 t1 a o F1 H1 R1 s1 f p1 => ?_, kx⟩
  exact k d ρ1 t1 _ _ H1 (R1.freezeX f) (s1.trans (same_upd f.1)) (own_dp f.1 p1)
theorem freshAt_new {K : PySem.W.Frag} {F H : Hp} {ρ : List AV} {σ : L2.St} (R : Rel K B F H ρ σ) {p : Addr} {o : HO} (hp : H p = none) : FreshAt B F (upd H p o) ρ σ p o :=
  ⟨R.freeF hp, R.toBse.free0 hp, R.toBse.freeP hp, upd_same, fun j e q z => by
    obtain ⟨a, o', x1, x2, x3, xP, x4, x5⟩ := R.ow j e q
    rw [x1] at z
    cases z
    rw [hp] at x4
    cases x4⟩
@[simp] def aLst (s : AA) : AE := fun EX ρ Q => s EX ρ fun ds ρ' => ds.length ≤ sizeLine ∧ Q (.lst ds) ρ'
theorem sf_lst (h : SA X B W es s) : SF X B W (.List es pos) (aLst s) := by
  refine PE_imp (pe_lst h) fun σ H Q q => ?_
  obtain ⟨ρ, F, EX, Q0, R, t, k, kx⟩ := q
  refine ⟨ρ, F, EX, _, R, t, fun ds ρ1 t1 vs F1 H1 R1 s1 p1 => ⟨by rw [p1.length]; exact t1.1, fun p hp => ?_⟩, kx⟩
  exact k _ ρ1 t1.2 _ _ _ _ (R1.allocO hp) s1 (freshAt_new R1 hp) (.lst p1)
def aNewK : AE := fun _ ρ Q => Q (.dK []) ρ
theorem sf_newK : SF X B W (.Dict [] [] pos) aNewK := by
  refine PE_imp pe_dnewK fun σ H Q q => ?_
  obtain ⟨ρ, F, EX, Q0, R, t, k, kx⟩ := q
  intro p hp
  exact k _ ρ t _ _ _ _ (R.allocO hp) (Same.refl _) (freshAt_new R hp) (.dK .nil)
def aNewT : AE := fun _ ρ Q => Q (.dT []) ρ
theorem sf_newT : SF X B W (.Dict [] [] pos) aNewT := by
  refine PE_imp pe_dnewT fun σ H Q q => ?_
  obtain ⟨ρ, F, EX, Q0, R, t, k, kx⟩ := q
  intro p hp
  exact k _ ρ t _ _ _ _ (R.allocO hp) (Same.refl _) (freshAt_new R hp) (.dT .nil)

/-! ### subscripts -/
def valD {κ : Type} [DecidableEq κ] (kvs : List (κ × D)) (k : κ) : Option D := (kvs.find? fun kv => decide (kv.1 = k)).map (·.2)
theorem DPk.val {K : PySem.W.Frag} {F : Hp} {k : Key} {d : D} : ∀ {vs : List (Key × V)} {ds : List (Key × D)}, DPk K F vs ds → valD ds k = some d → ∃ v, valV vs k = some v ∧ DP K F v d
  | _, _, .nil, h => by cases h
  | _, _, .cons (k := j) (d := e) h t, q => by
    by_cases hk : j = k
    · have e1 : ∀ r, valD ((j, e) :: r) k = some e := fun r => by simp [valD, List.find?_cons, hk]
      rw [e1] at q
      cases q
      exact ⟨_, valV_pos hk, h⟩
    · have e1 : ∀ r, valD ((j, e) :: r) k = valD r k := fun r => by simp [valD, List.find?_cons, hk]
      rw [e1] at q
      obtain ⟨v, h1, h2⟩ := DPk.val t q
      exact ⟨v, (valV_neg hk).trans h1, h2⟩
theorem DPk.valN {K : PySem.W.Frag} {F : Hp} {k : Key} : ∀ {vs : List (Key × V)} {ds : List (Key × D)}, DPk K F vs ds → valD ds k = none → valV vs k = none
  | _, _, .nil, h => rfl
  | _, _, .cons (k := j) (d := e) h t, q => by
    by_cases hk : j = k
    · have e1 : ∀ r, valD ((j, e) :: r) k = some e := fun r => by simp [valD, List.find?_cons, hk]
      rw [e1] at q
      cases q
    · have e1 : ∀ r, valD ((j, e) :: r) k = valD r k := fun r => by simp [valD, List.find?_cons, hk]
      rw [e1] at q
      exact (valV_neg hk).trans (DPk.valN t q)
def keyOf : D → Option Key
  | .int i => some (.inl i)
  | .str x => some (.inr x)
  | _ => none
theorem keyOf_dp {K : PySem.W.Frag} {F : Hp} {v : V} {d : D} {k : Key} (h : DP K F v d) (q : keyOf d = some k) : v = kV k := by
  cases h <;> first | cases q | skip
  · rfl
  · rfl
def dIdx : Op2 := fun d e Q => match d with
  | .lst xs => ∃ i x, e = .int i ∧ atI xs i = some x ∧ Q x
  | .tup xs => ∃ i x, e = .int i ∧ atI xs i = some x ∧ Q x
  | .str z => ∃ i c, e = .int i ∧ z.length ≤ sizeLine ∧ atI z.cps.toList i = some c ∧ Q (.str ⟨#[c]⟩)
  | .dK kvs => ∃ k x, keyOf e = some k ∧ valD kvs k = some x ∧ Q x
  | _ => False
def rIxD : R2 := fun x y H Q => ∃ a v, x = .ref a ∧ DGet H a y (some v) ∧ Q v H
theorem ix_dict (hu : X.A.units + 1 < cLine) : IxR X rIxD := by
  intro value slice pins s σ H x y v u Q I rx ry h hs
  obtain ⟨a, w, rfl, g, q⟩ := h
  cases rx
  exact PyProof.Rows.tail_any (ops := [.ref a, u]) (dict_typeIs I g) PySem.F.slot_dict_getitem.lookup (d_getItem hu I g ry fun w' s3 I3 rw' => ⟨w, H, I3, rw', q⟩) hs
def rIxAll (K : PySem.W.Frag) : R2 := fun x y H Q => rIx K x y H Q ∨ rIxD x y H Q
theorem ix_all {k : Nat} (hr : Room k X.A) : IxR X (rIxAll X.K) := IxR.or ix_seq (ix_dict (hu_of hr))
theorem DPs.at {K : PySem.W.Frag} {F : Hp} {v : List V} {d : List D} (h : DPs K F v d) {i : Int} {x : D} (q : atI d i = some x) : ∃ y, atI v i = some y ∧ DP K F y x := by
  unfold atI at q ⊢
  rw [h.length]
  cases e : ixN d.length i with
  | none => rw [e] at q; cases q
  | some j =>
    rw [e] at q
    obtain ⟨y, h1, h2⟩ := h.get (i := j) q
    exact ⟨y, h1, h2⟩
theorem rd_same {F H : Hp} {a : Addr} {u : HO} (e : Same F H) (h : Rd F a u) : Rd H a u := same_rd e h
theorem opS_idx {K : PySem.W.Frag} : OpS K B (rIxAll K) dIdx := by
  intro F H ρ σ x y d e Q0 Q R p1 p2 q k
  cases p1 with
  | lst h t =>
    obtain ⟨i, z, rfl, e1, q⟩ := q
    obtain ⟨v, e2, p⟩ := t.at e1
    exact .inl (.inl ⟨_, _, i, v, rfl, dp_int p2, SqL.of (R.fz _ _ h), e2, k _ q _ F H R (Same.refl _) p⟩)
  | tup h t =>
    obtain ⟨i, z, rfl, e1, q⟩ := q
    obtain ⟨v, e2, p⟩ := t.at e1
    exact .inl (.inr (.inl ⟨_, _, i, v, rfl, dp_int p2, same_tup R.fz h, e2, k _ q _ F H R (Same.refl _) p⟩))
  | str z =>
    obtain ⟨i, c, rfl, hz, e1, q⟩ := q
    exact .inl (.inr (.inr ⟨z, i, c, rfl, dp_int p2, hz, e1, k _ q _ F H R (Same.refl _) (.str _)⟩))
  | dK h t =>
    obtain ⟨j, z, e0, e1, q⟩ := q
    obtain ⟨v, e2, p⟩ := t.val e1
    exact .inr ⟨_, v, rfl, .inl ⟨_, j, rd_same R.fz h, keyOf_dp p2 e0, e2.symm⟩, k _ q _ F H R (Same.refl _) p⟩
  | _ => exact q.elim
theorem se_ix {k : Nat} (hr : Room k X.A) (ha : SE X B W a ta) (hb : SE X B W b tb) (hs : PlainIx b := by exact fun _ _ => rfl) : SE X B W (.Subscript a b pos) (aBin dIdx ta tb) :=
  PE_imp (pe_ix (ix_all hr) ha hb hs) fun _ _ _ q => cBin opS_idx q

/-! ### slices -/
abbrev AO := EK → List AV → (Option Int → List AV → Prop) → Prop
def cO (K : PySem.W.Frag) (B : Bas) (W : WX) (t : AO) : TO := fun σ H Q => ∃ ρ F EX Q0, Rel K B F H ρ σ ∧ t EX ρ Q0 ∧ (∀ d ρ', Q0 d ρ' → ∀ F' H', Rel K B F' H' ρ' σ → Same F F' → Q d H') ∧ cX K B W σ EX
def SO (X : Cx) (B : Bas) (W : WX) (e : Option Expr) (t : AO) : Prop := PO X e (cO X.K B W t)
@[simp] def aNoPart : AO := fun _ ρ Q => Q none ρ
@[simp] def aPart (te : AE) : AO := fun EX ρ Q => te EX ρ fun d ρ' => match d with
  | .int i => Q (some i) ρ'
  | _ => False
theorem PO_imp {X : Cx} {e : Option Expr} {T T' : TO} (h : PO X e T) (i : ∀ σ H Q, T' σ H Q → T σ H Q) : PO X e T' := ⟨fun pins s σ H Q I q => h.run pins s σ H Q I (i _ _ _ q)⟩
theorem so_none : SO X B W none aNoPart := by
  refine PO_imp po_none fun σ H Q q => ?_
  obtain ⟨ρ, F, EX, Q0, R, t, k, kx⟩ := q
  exact k _ ρ t F H R (Same.refl _)
theorem so_some (h : SE X B W e te) : SO X B W (some e) (aPart te) := by
  refine PO_imp (po_some h) fun σ H Q q => ?_
  obtain ⟨ρ, F, EX, Q0, R, t, k, kx⟩ := q
  refine ⟨ρ, F, EX, _, R, t, fun d ρ1 t1 v F1 H1 R1 s1 p1 => ?_, kx⟩
  cases p1 <;> first | exact (show False from t1).elim | skip
  exact ⟨_, rfl, k _ ρ1 t1 F1 H1 R1 s1⟩
def cutD {α : Type} (xs : List α) (lo hi : Option Int) : List α := (xs.drop (HT.sIx xs.length 0 lo)).take (HT.sIx xs.length xs.length hi - HT.sIx xs.length 0 lo)
theorem DPs.take {K : PySem.W.Frag} {F : Hp} : ∀ {v : List V} {d : List D} (n : Nat), DPs K F v d → DPs K F (v.take n) (d.take n)
  | _, _, 0, _ => .nil
  | _, _, _ + 1, .nil => .nil
  | _, _, n + 1, .cons h t => .cons h (DPs.take n t)
theorem DPs.drop {K : PySem.W.Frag} {F : Hp} : ∀ {v : List V} {d : List D} (n : Nat), DPs K F v d → DPs K F (v.drop n) (d.drop n)
  | _, _, 0, h => h
  | _, _, _ + 1, .nil => .nil
  | _, _, n + 1, .cons h t => DPs.drop n t
theorem DPs.cut {K : PySem.W.Frag} {F : Hp} {v : List V} {d : List D} (h : DPs K F v d) (lo hi : Option Int) : DPs K F (cutV v lo hi) (cutD d lo hi) := by
  unfold cutV cutD
  rw [h.length]
  exact (h.drop _).take _
def dCut (d : D) (lo hi : Option Int) (Q : D → Prop) : Prop := match d with
  | .lst xs => Q (.lst (cutD xs lo hi))
  | .tup xs => Q (.tup (cutD xs lo hi))
  | .str z => z.length ≤ sizeLine ∧ Q (.str (cutS z lo hi))
  | _ => False
@[simp] def aSl (te : AE) (tl th : AO) : AE := fun EX ρ Q => te EX ρ fun d ρ1 => tl EX ρ1 fun lo ρ2 => th EX ρ2 fun hi ρ3 => dCut d lo hi fun z => Q z ρ3
def rSlAll (K : PySem.W.Frag) : V → Option Int → Option Int → Hp → VK → Prop := fun x lo hi H Q => (rSlL K x lo hi H Q ∨ rSlA K x lo hi H Q) ∨ rSlS x lo hi H Q
theorem sl_all : SlR X (rSlAll X.K) := (sl_list.or sl_tupA).or sl_str
theorem se_sl {tl th : AO} {lo hi : Option Expr} {p2 : Pos} (he : SE X B W e te) (hl : SO X B W lo tl) (hu : SO X B W hi th) : SE X B W (.Subscript e (.Slice lo hi none p2) pos) (aSl te tl th) := by
  refine PE_imp (pe_slice sl_all he hl hu) fun σ H Q q => ?_
  obtain ⟨ρ, F, EX, Q0, R, t, k, kx⟩ := q
  refine ⟨ρ, F, EX, _, R, t, fun d ρ1 t1 v F1 H1 R1 s1 p1 => ?_, kx⟩
  refine ⟨ρ1, F1, EX, _, R1, t1, fun l ρ2 t2 F2 H2 R2 s2 => ?_, kx⟩
  refine ⟨ρ2, F2, EX, _, R2, t2, fun h ρ3 t3 F3 H3 R3 s3 => ?_, kx⟩
  have p3 := (p1.mono s2).mono s3
  have s13 := (s1.trans s2).trans s3
  have sm : ∀ p o, H3 p = none → Same F3 (upd F3 p o) := fun p o hp => same_upd (R3.freeF hp)
  cases p3 with
  | lst a b => exact .inl (.inl ⟨_, _, rfl, SqL.of (R3.fz _ _ a), fun p hp => k _ ρ3 t3 _ _ _ (R3.alloc hp) (s13.trans (sm p _ hp)) (.lst upd_same ((b.cut l h).mono (sm p _ hp)))⟩)
  | tup a b =>
    refine .inl (.inr ⟨_, _, rfl, same_tup R3.fz a, fun z => ?_, fun z p hp => k _ ρ3 t3 _ _ _ (R3.alloc hp) (s13.trans (sm p _ hp)) (.tup (SqT.of upd_same) ((b.cut l h).mono (sm p _ hp)))⟩)
    have e := b.cut l h
    rename_i x1 a1 xs ds
    have ew : cutV xs l h = xs := by
      unfold cutV
      rw [z.1, z.2]
      simp
    rw [ew] at e
    exact k _ ρ3 t3 _ _ _ R3 s13 (.tup a e)
  | str z => exact .inr ⟨z, rfl, t3.1, k _ ρ3 t3.2 _ _ _ R3 s13 (.str _)⟩
  | _ => exact (show False from t3).elim
/-- xs[::-1] of a list -/
@[simp] def aRevL (te : AE) : AE := fun EX ρ Q => te EX ρ fun d ρ' => match d with
  | .lst xs => Q (.lst xs.reverse) ρ'
  | _ => False
theorem DPs.reverse {K : PySem.W.Frag} {F : Hp} : ∀ {v : List V} {d : List D}, DPs K F v d → DPs K F v.reverse d.reverse
  | _, _, .nil => .nil
  | _, _, .cons h t => by
    rw [List.reverse_cons, List.reverse_cons]
    exact (DPs.reverse t).append (.cons h .nil)
theorem sf_revL {k : Nat} {p1 p2 p3 : Pos} (he : SE X B W e te) : SF X B W (.Subscript e (.Slice none none (some (.UnaryOp .USub (.Constant (.int 1) k p1) p2)) p3) pos) (aRevL te) := by
  refine PE_imp (pe_revL he) fun σ H Q q => ?_
  obtain ⟨ρ, F, EX, Q0, R, t, k, kx⟩ := q
  refine ⟨ρ, F, EX, _, R, t, fun d ρ1 t1 v F1 H1 R1 s1 p1 => ?_, kx⟩
  cases p1 with
  | lst a b => exact ⟨_, _, rfl, SqL.of (R1.fz _ _ a), fun p hp => k _ ρ1 t1 _ _ _ _ (R1.allocO hp) s1 (freshAt_new R1 hp) (.lst b.reverse)⟩
  | _ => exact (show False from t1).elim
end
end PU
set_option Elab.async false
set_option linter.all false
set_option maxRecDepth 100000
namespace PU
open PySem PySem.Spec L2
set_option autoImplicit false

/-! ### what a def does: to data, by the wished end and the wished exception -/
abbrev AF := List D → (D → Prop) → (XE → Prop) → Prop
def spOf (K : PySem.W.Frag) (ec : Str → Option Addr) (n : Nat) (A : AF) : Sp := fun vs H Q E => ∃ (F : Hp) (ds : List D) (Q0 : D → Prop) (E0 : XE → Prop),
  ds.length = n ∧ Bse ⟨ec, none, fun _ => none, F, H⟩ F H ∧ DPs K F vs ds ∧ A ds Q0 E0 ∧ (∀ d, Q0 d → ∀ v F' H', Bse ⟨ec, none, fun _ => none, F, H⟩ F' H' → DP K F' v d → Q v H') ∧
  (∀ x, E0 x → ∀ cls d F' H', Bse ⟨ec, none, fun _ => none, F, H⟩ F' H' → XP K ec x cls d F' H' → E cls d H')
/-- .. whose first argument is the source -/
def spOfZ (K : PySem.W.Frag) (ec : Str → Option Addr) (n : Nat) (A : AF) : Sp := fun vs H Q E => ∃ (s c : Addr) (vs' : List V) (F : Hp) (ds : List D) (Q0 : D → Prop) (E0 : XE → Prop),
  vs = .ref s :: vs' ∧ ds.length = n ∧ Bse ⟨ec, some (s, c), fun _ => none, F, H⟩ F H ∧ DPs K F vs' ds ∧ A ds Q0 E0 ∧ (∀ d, Q0 d → ∀ v F' H', Bse ⟨ec, some (s, c), fun _ => none, F, H⟩ F' H' → DP K F' v d → Q v H') ∧
  (∀ x, E0 x → ∀ cls d F' H', Bse ⟨ec, some (s, c), fun _ => none, F, H⟩ F' H' → XP K ec x cls d F' H' → E cls d H')
/-- room for calls, no display under way -/
structure RoomG (k : Nat) (A : Around) : Prop extends L2.Room k A where
  gd : A.guards = some []
theorem RoomG.down {i k : Nat} {A : Around} (r : RoomG k A) (h : i ≤ k) : RoomG i A := ⟨r.toRoom.mono h, r.gd⟩
theorem RoomG.into {k : Nat} {A : Around} (r : RoomG (k + 1) A) (env : Env) : RoomG k (A.deeper env) := ⟨r.toRoom.deeper env, r.gd⟩
/-- a def's promise, where no display is under way -/
structure FnG (P : Program) (w : World) (K : PySem.W.Frag) (mg : Str → Option Value) (base : Heap) (k : Nat) (f : Addr) (fd : FuncData) (ps : List Str) (sp : Sp) : Prop where
  len : ∀ vs H Q E, sp vs H Q E → vs.length = ps.length
  go : ∀ (A : Around) (outer : List Env) (s : Shared) (H : Hp) (args : Args) (us : List Value) (vs : List V) (Q : VK) (E : XK), RoomG k A → Env0 P w K mg base A outer s H → BindsTo s fd args (ps.zip us) → Vals vs us → sp vs H Q E →
    codeAny (model P w) A (.call (.ref f) args) (CR (L2.CX P w) outer P w H s Q E) s
theorem FnG.weak {P : Program} {w : World} {K : PySem.W.Frag} {mg : Str → Option Value} {base : Heap} {k : Nat} {f : Addr} {fd : FuncData} {ps : List Str} {sp sp' : Sp} (d : FnG P w K mg base k f fd ps sp) (h : ∀ vs H Q E, sp' vs H Q E → sp vs H Q E) :
    FnG P w K mg base k f fd ps sp' := ⟨fun vs H Q E q => d.len vs H Q E (h _ _ _ _ q), fun A outer s H args us vs Q E r e b v q => d.go A outer s H args us vs Q E r e b v (h _ _ _ _ q)⟩
section
open PySem.W PySem.Calls PyProof.Rows
variable {P : Program} {w : World} {K : PySem.W.Frag} {mg : Str → Option Value} {base : Heap}
theorem fnG_of {k : Nat} {f : Addr} {name qual : Str} {params : Arguments} {body : List Stmt} {scope : Scope} {dV kV doc pm cdv ct oc : Value} {an od : Option Addr} {osl : Array (Option Value)} {N ps : List Str} {sp : Sp}
    (lk : K.lookup f = some ⟨oc, od, .func (PySem.W.fnOf name qual params body scope dV kV doc pm an cdv ct), osl⟩) (hcd : PySem.W.codeIn K cdv qual = true) (S : FnScope N ps scope) (len : ∀ vs H Q E, sp vs H Q E → vs.length = ps.length)
    (body_ok : ∀ (A : Around) (outer : List Env) (s : Shared) (H : Hp) (vs : List V) (Q : VK) (E : XK), RoomG k (A.deeper (envOfC qual scope s.heap.objs.size f cdv)) → sp vs H Q E →
      ∃ t, PSs (cxOf (L2.CX P w) P w K mg base N qual scope f cdv A outer s H E) body t ∧ t { nx := fun _ H' => Q .non H', rt := Q } (L2.start N vs) H) : FnG P w K mg base (k + 1) f (PySem.W.fnOf name qual params body scope dV kV doc pm an cdv ct) ps sp := by
  refine ⟨len, fun A outer s H args us vs Q E room env bind vals promise => ?_⟩
  have count := len _ _ _ _ promise
  have held : ∀ b o, base.get? b = some o → s.heap.get? b = some o := fun b o z => (env.bs b o z).1
  have inK : K.In s.heap := env.mod.kin.keeps held
  have kinds : ∀ y ∈ ps.zip us, scope.names.lookup y.1 = some .local ∨ (scope.names.lookup y.1 = some .cell ∧ ((cellsFrom (s.heap.objs.size + 1) scope.names []).lookup y.1).isSome = true) := by
    rintro ⟨n, v⟩ hy
    cases S.par n (List.of_mem_zip hy).1 with
    | inl z => exact .inl z
    | inr z => exact .inr ⟨z, PySem.W.cellsFrom_some _ _ _ (.inl z)⟩
  refine codeAny_call_function room.toRoom.depth (inK _ _ lk) rfl S.co S.gen rfl (codeRec_of inK hcd) (bind _ _ _ _ (wpAny_newFunctionEnv_cells S.kind kinds fun env' he s1 x => ?_))
  subst he
  obtain ⟨t, ht, hq⟩ := body_ok A outer s H vs Q E (room.into _) promise
  have I := inv_start (CX := L2.CX P w) (E := E) S room.hd env count vals x
  refine ⟨(env.mod.nolimit.keeps held).keeps x.toInCall.keep, codeAny_func (wpAny_mono (ht.run [] s1 _ H _ I hq) (fun fl s' hs => ?_) fun e s' z => z)⟩
  cases fl with
  | ret u =>
    obtain ⟨v, σ', H', J, rv, q⟩ := hs
    exact ⟨v, H', J.os, J.bare, J.base, J.hok, rv, q⟩
  | next =>
    obtain ⟨σ', H', J, q⟩ := hs
    exact ⟨V.non, H', J.os, J.bare, J.base, J.hok, rfl, q⟩
  | brk => exact hs.elim fun _ z => z.elim fun _ z => z.2.elim
  | cont => exact hs.elim fun _ z => z.elim fun _ z => z.2.elim
end
section
variable {X : Cx} {k : Nat} {f : Addr} {fd : FuncData} {ps : List Str} {sp : Sp} {E : L2.St → XK} {x : Str} {p pos : Pos} {e : Expr} {es : List Expr} {t : TA}
theorem goG {pins : List (Addr × Obj)} {σ : L2.St} {H : Hp} {s : Shared} {Q : VK} {us : List Value} {vs : List V} (d : FnG X.prog X.w X.K X.mg X.base k f fd ps sp) (hr : RoomG k X.A) (hb : Binds X.K fd ps []) (hx : PassesAt (L2.CX X.prog X.w) X σ (E σ))
    (I : Inv X pins σ H s) (r : Vals vs us) (h : sp vs H Q (E σ)) : wpAny (model X.prog X.w) X.A (call (.ref f) us) (EP X pins σ Q) X.xe s := by
  have n : us.length = ps.length := r.length ▸ d.len _ _ _ _ h
  have b := hb s us I.kIn (by simpa using n)
  rw [List.append_nil] at b
  refine wpAny_call (codeAny_mono (d.go X.A X.stack s H ⟨us, []⟩ us vs Q (E σ) hr I.env0 b r h) fun r s' z => ?_)
  match r, z with
  | .error e, z => exact hx pins H s e s' I z
  | .ok (.ret u), z => exact I.after z
  | .ok .next, z => exact z.elim
  | .ok .brk, z => exact z.elim
  | .ok .cont, z => exact z.elim
theorem pe_callG (d : FnG X.prog X.w X.K X.mg X.base k f fd ps sp) (hr : RoomG k X.A) (hg : Gl X x) (hm : X.mg x = some (.ref f)) (hk : PySem.W.keepIn X.K (.ref f) = true) (hb : Binds X.K fd ps []) (hx : ∀ σ, PassesAt (L2.CX X.prog X.w) X σ (E σ)) (ha : PA X (e :: es) t)
    (hdb : (x == ("__debug__" : Str)) = false := by decide) (he : starEach (e :: es) X.env = (false, eval e X.env) :: starEach es X.env := by rfl) (hpl : (backTo pos (starEach es X.env)).any (·.1) = false := by rfl) : PE X (.Call (.Name x p) (e :: es) [] pos) (tCallS sp E t) :=
  ⟨fun pins s σ H Q I h => wpAny_Call_Name_kw (ld_glob I hg hm (PySem.W.callWith_K (h₀ := X.base) I.ok.mod.kin hk (thn (ha.run pos pins s σ H _ I h) fun us s1 ⟨vs, H1, J, r, q⟩ => ⟨J.kIn, goG d hr hb (hx σ) J r q⟩) he hpl) hdb)⟩
theorem pe_callG0 (d : FnG X.prog X.w X.K X.mg X.base k f fd ps sp) (hr : RoomG k X.A) (hg : Gl X x) (hm : X.mg x = some (.ref f)) (hk : PySem.W.keepIn X.K (.ref f) = true) (hb : Binds X.K fd ps []) (hx : ∀ σ, PassesAt (L2.CX X.prog X.w) X σ (E σ))
    (hdb : (x == ("__debug__" : Str)) = false := by decide) : PE X (.Call (.Name x p) [] [] pos) (tCallS sp E tNil) :=
  ⟨fun pins s σ H Q I h => wpAny_Call_Name_kw (ld_glob I hg hm (PySem.W.callWith_K0 I.kIn hk (goG (us := []) d hr hb (hx σ) I .nil h)) hdb)⟩
end
/-- a def of the text that keeps a promise -/
structure DefOk (P : Program) (w : World) (K : PySem.W.Frag) (mg : Str → Option Value) (base : Heap) (nm : Str) (k : Nat) (sp : Sp) : Prop where
  ex : ∃ f fd ps, mg nm = some (.ref f) ∧ PySem.W.keepIn K (.ref f) = true ∧ Binds K fd ps [] ∧ FnG P w K mg base k f fd ps sp
theorem DefOk.imp {P : Program} {w : World} {K : PySem.W.Frag} {mg : Str → Option Value} {base : Heap} {nm : Str} {k : Nat} {sp sp' : Sp} (d : DefOk P w K mg base nm k sp) (h : ∀ vs H Q E, sp' vs H Q E → sp vs H Q E) : DefOk P w K mg base nm k sp' := by
  obtain ⟨f, fd, ps, h1, h2, h3, h4⟩ := d.ex
  exact ⟨f, fd, ps, h1, h2, h3, h4.weak h⟩
theorem spOf_imp {K : PySem.W.Frag} {ec : Str → Option Addr} {n : Nat} {A A' : AF} (h : ∀ ds Q E, A' ds Q E → A ds Q E) : ∀ vs H Q E, spOf K ec n A' vs H Q E → spOf K ec n A vs H Q E :=
  fun _ _ _ _ ⟨F, ds, Q0, E0, h1, h2, h3, h4, h5⟩ => ⟨F, ds, Q0, E0, h1, h2, h3, h _ _ _ h4, h5⟩
theorem spOfZ_imp {K : PySem.W.Frag} {ec : Str → Option Addr} {n : Nat} {A A' : AF} (h : ∀ ds Q E, A' ds Q E → A ds Q E) : ∀ vs H Q E, spOfZ K ec n A' vs H Q E → spOfZ K ec n A vs H Q E :=
  fun _ _ _ _ ⟨s, c, vs', F, ds, Q0, E0, h0, h1, h2, h3, h4, h5⟩ => ⟨s, c, vs', F, ds, Q0, E0, h0, h1, h2, h3, h _ _ _ h4, h5⟩

section
variable {X : Cx} {B : Bas} {W : WX} {a b c e : Expr} {es rest : List Expr} {ta tb tc te : AE} {t u : AT} {s : AA} {pos p : Pos} {A : AF} {n k : Nat} {x : Str}
@[simp] def aCall (n : Nat) (A : AF) (s : AA) : AE := fun EX ρ Q => s EX ρ fun ds ρ' => ds.length = n ∧ A ds (fun d => Q d ρ') fun x => EX x ρ'
theorem se_call {ec : Str → Option Addr} (hec : B.ec = ec) (d : DefOk X.prog X.w X.K X.mg X.base x k (spOf X.K ec n A)) (tk : Takes X W) (hr : RoomG k X.A) (hg : Gl X x) (ha : SA X B W (e :: es) s) (hdb : (x == ("__debug__" : Str)) = false := by decide)
    (he : starEach (e :: es) X.env = (false, eval e X.env) :: starEach es X.env := by rfl) (hpl : (backTo pos (starEach es X.env)).any (·.1) = false := by rfl) : SE X B W (.Call (.Name x p) (e :: es) [] pos) (aCall n A s) := by
  subst hec
  obtain ⟨f, fd, ps, h1, h2, h3, h4⟩ := d.ex
  refine PE_imp (pe_callG h4 hr hg h1 h2 h3 (fun σ => passAt tk σ) ha hdb he hpl) fun σ H Q q => ?_
  obtain ⟨ρ, F, EX, Q0, R, t, k, kx⟩ := q
  refine ⟨ρ, F, EX, _, R, t, fun ds ρ1 t1 vs F1 H1 R1 s1 p1 => ?_, kx⟩
  refine ⟨F1, ds, _, _, t1.1, R1.toCall (.inr rfl), p1, t1.2, fun d hd v F' H' P pd => ?_, fun x hx cls d F' H' P px => ?_⟩
  · exact k _ ρ1 hd v F' H' (R1.call (.inr rfl) P) (s1.trans P.f0) pd
  · exact kx x ρ1 hx cls d F' H' (R1.call (.inr rfl) P) px
/-- f() -/
@[simp] def aCall0 (A : AF) : AE := fun EX ρ Q => A [] (fun d => Q d ρ) fun x => EX x ρ
theorem se_call0 {ec : Str → Option Addr} (hec : B.ec = ec) (d : DefOk X.prog X.w X.K X.mg X.base x k (spOf X.K ec 0 A)) (tk : Takes X W) (hr : RoomG k X.A) (hg : Gl X x) (hdb : (x == ("__debug__" : Str)) = false := by decide) : SE X B W (.Call (.Name x p) [] [] pos) (aCall0 A) := by
  subst hec
  obtain ⟨f, fd, ps, h1, h2, h3, h4⟩ := d.ex
  refine PE_imp (pe_callG0 h4 hr hg h1 h2 h3 (fun σ => passAt tk σ) hdb) fun σ H Q q => ?_
  obtain ⟨ρ, F, EX, Q0, R, t, k, kx⟩ := q
  refine ⟨F, [], _, _, rfl, R.toCall (.inr rfl), .nil, t, fun d hd v F' H' P pd => ?_, fun x hx cls d F' H' P px => ?_⟩
  · exact k _ ρ hd v F' H' (R.call (.inr rfl) P) P.f0 pd
  · exact kx x ρ hx cls d F' H' (R.call (.inr rfl) P) px
/-- f(source, ..) -/
@[simp] def aCallZ (i n : Nat) (A : AF) (s : AA) : AE := fun EX ρ Q => (∃ u, ρ[i]? = some u ∧ u = .src) ∧ s EX ρ fun ds ρ' => ds.length = n ∧ A ds (fun d => Q d ρ') fun x => EX x ρ'
theorem se_callZ {y : Str} {q : Pos} {ec : Str → Option Addr} (i : Nat) (hec : B.ec = ec) (d : DefOk X.prog X.w X.K X.mg X.base x k (spOfZ X.K ec n A)) (tk : Takes X W) (hr : RoomG k X.A) (hg : Gl X x) (hy : PE X (.Name y q) (tVar i)) (ha : SA X B W es s) (hdb : (x == ("__debug__" : Str)) = false := by decide)
    (he : starEach (.Name y q :: es) X.env = (false, eval (.Name y q) X.env) :: starEach es X.env := by rfl) (hpl : (backTo pos (starEach es X.env)).any (·.1) = false := by rfl) : SE X B W (.Call (.Name x p) (.Name y q :: es) [] pos) (aCallZ i n A s) := by
  subst hec
  obtain ⟨f, fd, ps, h1, h2, h3, h4⟩ := d.ex
  refine PE_imp (pe_callG h4 hr hg h1 h2 h3 (fun σ => passAt tk σ) (pa_cons hy ha he) hdb he hpl) fun σ H Q q => ?_
  obtain ⟨ρ, F, EX, Q0, R, ⟨⟨_, hs, rfl⟩, t⟩, k, kx⟩ := q
  obtain ⟨s, c, eZ, es⟩ := R.so i hs
  refine ⟨_, es, ρ, F, EX, _, R, t, fun ds ρ1 t1 vs F1 H1 R1 s1 p1 => ?_, kx⟩
  refine ⟨s, c, vs, F1, ds, _, _, rfl, t1.1, R1.toCall (.inl eZ.symm), p1, t1.2, fun d hd v F' H' P pd => ?_, fun x hx cls d F' H' P px => ?_⟩
  · exact k _ ρ1 hd v F' H' (R1.call (.inl eZ.symm) P) (s1.trans P.f0) pd
  · exact kx x ρ1 hx cls d F' H' (R1.call (.inl eZ.symm) P) px

/-! ### built-ins -/
abbrev OpN := List D → (D → Prop) → Prop
def OpNS (K : PySem.W.Frag) (B : Bas) (r : List V → Hp → VK → Prop) (op : OpN) : Prop :=
  ∀ (F H : Hp) (ρ : List AV) (σ : L2.St) (xs : List V) (ds : List D) (Q0 : D → Prop) (Q : VK), Rel K B F H ρ σ → DPs K F xs ds → op ds Q0 →
    (∀ z, Q0 z → ∀ v F' H', Rel K B F' H' ρ σ → Same F F' → DP K F' v z → Q v H') → r xs H Q
/-- .. that make a new object -/
def OpNF (K : PySem.W.Frag) (B : Bas) (r : List V → Hp → VK → Prop) (op : OpN) : Prop :=
  ∀ (F H : Hp) (ρ : List AV) (σ : L2.St) (xs : List V) (ds : List D) (Q0 : D → Prop) (Q : VK), Rel K B F H ρ σ → DPs K F xs ds → op ds Q0 →
    (∀ z, Q0 z → ∀ a o F' H', Rel K B F' H' ρ σ → Same F F' → FreshAt B F' H' ρ σ a o → OwnP K F' o z → Q (.ref a) H') → r xs H Q
@[simp] def aOp (op : OpN) (s : AA) : AE := fun EX ρ Q => s EX ρ fun ds ρ' => op ds fun z => Q z ρ'
theorem cOp {K : PySem.W.Frag} {r : List V → Hp → VK → Prop} {op : OpN} (hs : OpNS K B r op) {σ : L2.St} {H : Hp} {Q : VK} (q : cE K B W (aOp op s) σ H Q) : tCB r (cA K B W s) σ H Q := by
  obtain ⟨ρ, F, EX, Q0, R, t, k, kx⟩ := q
  refine ⟨ρ, F, EX, _, R, t, fun ds ρ1 t1 vs F1 H1 R1 s1 p1 => ?_, kx⟩
  exact hs F1 H1 ρ1 σ vs ds _ Q R1 p1 t1 fun z hz v F' H' R' s' p' => k z ρ1 hz v F' H' R' (s1.trans s') p'
theorem cOpF {K : PySem.W.Frag} {r : List V → Hp → VK → Prop} {op : OpN} (hs : OpNF K B r op) {σ : L2.St} {H : Hp} {Q : VK} (q : cF K B W (aOp op s) σ H Q) : tCB r (cA K B W s) σ H Q := by
  obtain ⟨ρ, F, EX, Q0, R, t, k, kx⟩ := q
  refine ⟨ρ, F, EX, _, R, t, fun ds ρ1 t1 vs F1 H1 R1 s1 p1 => ?_, kx⟩
  exact hs F1 H1 ρ1 σ vs ds _ Q R1 p1 t1 fun z hz a o F' H' R' s' f p' => k z ρ1 hz a o F' H' R' (s1.trans s') f p'
theorem se_B {id : String} {r : List V → Hp → VK → Prop} {op : OpN} (hc : CallR X (.builtin id) r) (hs : OpNS X.K B r op) (hg : Gl X x) (hm : X.mg x = none) (hv : bootBuiltins x = some (.builtin id)) (ha : SA X B W (e :: es) s) (hn : x ≠ "__name__" := by decide) (hdb : (x == ("__debug__" : Str)) = false := by decide)
    (he : starEach (e :: es) X.env = (false, eval e X.env) :: starEach es X.env := by rfl) (hpl : (backTo pos (starEach es X.env)).any (·.1) = false := by rfl) : SE X B W (.Call (.Name x p) (e :: es) [] pos) (aOp op s) :=
  PE_imp (pe_callB hc hg hm hv ha hn hdb he hpl) fun _ _ _ q => cOp hs q
theorem sf_B {id : String} {r : List V → Hp → VK → Prop} {op : OpN} (hc : CallR X (.builtin id) r) (hs : OpNF X.K B r op) (hg : Gl X x) (hm : X.mg x = none) (hv : bootBuiltins x = some (.builtin id)) (ha : SA X B W (e :: es) s) (hn : x ≠ "__name__" := by decide) (hdb : (x == ("__debug__" : Str)) = false := by decide)
    (he : starEach (e :: es) X.env = (false, eval e X.env) :: starEach es X.env := by rfl) (hpl : (backTo pos (starEach es X.env)).any (·.1) = false := by rfl) : SF X B W (.Call (.Name x p) (e :: es) [] pos) (aOp op s) :=
  PE_imp (pe_callB hc hg hm hv ha hn hdb he hpl) fun _ _ _ q => cOpF hs q
theorem se_Ty {T : String} {r : List V → Hp → VK → Prop} {op : OpN} (hc : CallR X (.type T) r) (hs : OpNS X.K B r op) (hg : Gl X x) (hm : X.mg x = none) (hv : bootBuiltins x = some (.type T)) (ha : SA X B W (e :: es) s) (hn : x ≠ "__name__" := by decide) (hdb : (x == ("__debug__" : Str)) = false := by decide)
    (he : starEach (e :: es) X.env = (false, eval e X.env) :: starEach es X.env := by rfl) (hpl : (backTo pos (starEach es X.env)).any (·.1) = false := by rfl) : SE X B W (.Call (.Name x p) (e :: es) [] pos) (aOp op s) :=
  PE_imp (pe_callTy hc hg hm hv ha hn hdb he hpl) fun _ _ _ q => cOp hs q
theorem sf_Ty {T : String} {r : List V → Hp → VK → Prop} {op : OpN} (hc : CallR X (.type T) r) (hs : OpNF X.K B r op) (hg : Gl X x) (hm : X.mg x = none) (hv : bootBuiltins x = some (.type T)) (ha : SA X B W (e :: es) s) (hn : x ≠ "__name__" := by decide) (hdb : (x == ("__debug__" : Str)) = false := by decide)
    (he : starEach (e :: es) X.env = (false, eval e X.env) :: starEach es X.env := by rfl) (hpl : (backTo pos (starEach es X.env)).any (·.1) = false := by rfl) : SF X B W (.Call (.Name x p) (e :: es) [] pos) (aOp op s) :=
  PE_imp (pe_callTy hc hg hm hv ha hn hdb he hpl) fun _ _ _ q => cOpF hs q
theorem se_Bfun {id : String} {r : List V → Hp → VK → Prop} {op : OpN} (hc : CallR X (.builtin id) r) (hs : OpNS X.K B r op) (hg : Gl X x) (hm : X.mg x = some (.builtin id)) (ha : SA X B W (e :: es) s) (hdb : (x == ("__debug__" : Str)) = false := by decide)
    (he : starEach (e :: es) X.env = (false, eval e X.env) :: starEach es X.env := by rfl) (hpl : (backTo pos (starEach es X.env)).any (·.1) = false := by rfl) : SE X B W (.Call (.Name x p) (e :: es) [] pos) (aOp op s) :=
  PE_imp (pe_callBfun hc hg hm ha hdb he hpl) fun _ _ _ q => cOp hs q
theorem CallR.or {f : Value} {r r' : List V → Hp → VK → Prop} (h : CallR X f r) (h' : CallR X f r') : CallR X f (fun xs H Q => r xs H Q ∨ r' xs H Q) := by
  intro pins s σ H xs us Q I r q
  rcases q with q | q
  · exact h pins s σ H xs us Q I r q
  · exact h' pins s σ H xs us Q I r q
theorem dps1 {K : PySem.W.Frag} {F : Hp} {xs : List V} {d : D} (h : DPs K F xs [d]) : ∃ v, xs = [v] ∧ DP K F v d := by
  cases h with
  | cons h t => cases t; exact ⟨_, rfl, h⟩
theorem dps2 {K : PySem.W.Frag} {F : Hp} {xs : List V} {d e : D} (h : DPs K F xs [d, e]) : ∃ v w, xs = [v, w] ∧ DP K F v d ∧ DP K F w e := by
  cases h with
  | cons h t =>
    cases t with
    | cons h' t => cases t; exact ⟨_, _, rfl, h, h'⟩

/-! len -/
@[simp] def dLen : OpN := fun ds Q => match ds with
  | [.lst xs] => Q (.int xs.length)
  | [.tup xs] => Q (.int xs.length)
  | [.str x] => x.length ≤ sizeLine ∧ Q (.int x.length)
  | [.dK kvs] => Q (.int kvs.length)
  | _ => False
def rLenD : List V → Hp → VK → Prop := fun xs H Q => ∃ a kvs, xs = [V.ref a] ∧ Rd H a (.dK kvs) ∧ Q (.int kvs.length) H
theorem call_lenRd : CallR X (.builtin "len") rLenD := by
  intro pins s σ H xs us Q I r h
  obtain ⟨a, kvs, rfl, e, q⟩ := h
  obtain ⟨u, rfl, r1⟩ := vals1 r
  cases r1
  exact d_len I e fun t s' I' => ⟨.int kvs.length, H, I', ⟨_, rfl⟩, q⟩
theorem DPk.length {K : PySem.W.Frag} {F : Hp} : ∀ {v : List (Key × V)} {d : List (Key × D)}, DPk K F v d → v.length = d.length
  | _, _, .nil => rfl
  | _, _, .cons _ t => congrArg (· + 1) t.length
theorem opN_len {K : PySem.W.Frag} : OpNS K B (fun xs H Q => (∃ x n, xs = [x] ∧ LenV K x H n ∧ Q (.int n) H) ∨ rLenD xs H Q) dLen := by
  intro F H ρ σ xs ds Q0 Q R p q k
  unfold dLen at q
  split at q
  · obtain ⟨v, rfl, h⟩ := dps1 p
    cases h with
    | lst h t => exact .inl ⟨_, _, rfl, .inl ⟨_, SqL.of (R.fz _ _ h), rfl⟩, k _ q _ F H R (Same.refl _) (by rw [t.length]; exact .int _)⟩
  · obtain ⟨v, rfl, h⟩ := dps1 p
    cases h with
    | tup h t => exact .inl ⟨_, _, rfl, .inr ⟨_, same_tup R.fz h, rfl⟩, k _ q _ F H R (Same.refl _) (by rw [t.length]; exact .int _)⟩
  · obtain ⟨v, rfl, h⟩ := dps1 p
    cases h with
    | str h => exact .inl ⟨_, _, rfl, ⟨q.1, rfl⟩, k _ q.2 _ F H R (Same.refl _) (.int _)⟩
  · obtain ⟨v, rfl, h⟩ := dps1 p
    cases h with
    | dK h t => exact .inr ⟨_, _, rfl, rd_same R.fz h, k _ q _ F H R (Same.refl _) (by rw [t.length]; exact .int _)⟩
  · exact q.elim
theorem se_len (hg : Gl X "len") (hm : X.mg "len" = none) (ha : SA X B W (e :: es) s)
    (he : starEach (e :: es) X.env = (false, eval e X.env) :: starEach es X.env := by rfl) (hpl : (backTo pos (starEach es X.env)).any (·.1) = false := by rfl) : SE X B W (.Call (.Name "len" p) (e :: es) [] pos) (aOp dLen s) :=
  se_B (CallR.or call_len call_lenRd) opN_len hg hm PySem.boot_len ha (by decide) (by decide) he hpl
/-! abs, max, min, int -/
@[simp] def dAbs : OpN := fun ds Q => match ds with
  | [.int i] => Q (.int (if i < 0 then -i else i))
  | _ => False
theorem opN_abs {K : PySem.W.Frag} : OpNS K B (fun xs H Q => ∃ i, xs = [.int i] ∧ Q (.int (if i < 0 then -i else i)) H) dAbs := by
  intro F H ρ σ xs ds Q0 Q R p q k
  unfold dAbs at q
  split at q
  · obtain ⟨v, rfl, h⟩ := dps1 p
    rw [dp_int h]
    exact ⟨_, rfl, k _ q _ F H R (Same.refl _) (.int _)⟩
  · exact q.elim
theorem se_abs (hg : Gl X "abs") (hm : X.mg "abs" = none) (ha : SA X B W (e :: es) s)
    (he : starEach (e :: es) X.env = (false, eval e X.env) :: starEach es X.env := by rfl) (hpl : (backTo pos (starEach es X.env)).any (·.1) = false := by rfl) : SE X B W (.Call (.Name "abs" p) (e :: es) [] pos) (aOp dAbs s) :=
  se_B call_abs opN_abs hg hm (by decide +kernel) ha (by decide) (by decide) he hpl
@[simp] def dMax2 : OpN := fun ds Q => match ds with
  | [.int i, .int j] => Q (.int (max i j))
  | _ => False
@[simp] def dMin2 : OpN := fun ds Q => match ds with
  | [.int i, .int j] => Q (.int (min i j))
  | _ => False
theorem opN_max2 {K : PySem.W.Frag} : OpNS K B (fun xs H Q => ∃ i j, xs = [.int i, .int j] ∧ Q (.int (if j > i then j else i)) H) dMax2 := by
  intro F H ρ σ xs ds Q0 Q R p q k
  unfold dMax2 at q
  split at q
  · rename_i i j
    obtain ⟨v, w, rfl, h, h'⟩ := dps2 p
    rw [dp_int h, dp_int h']
    refine ⟨_, _, rfl, k _ q _ F H R (Same.refl _) ?_⟩
    have e : (if j > i then j else i) = max i j := by split <;> omega
    rw [e]
    exact .int _
  · exact q.elim
theorem opN_min2 {K : PySem.W.Frag} : OpNS K B (fun xs H Q => ∃ i j, xs = [.int i, .int j] ∧ Q (.int (if j < i then j else i)) H) dMin2 := by
  intro F H ρ σ xs ds Q0 Q R p q k
  unfold dMin2 at q
  split at q
  · rename_i i j
    obtain ⟨v, w, rfl, h, h'⟩ := dps2 p
    rw [dp_int h, dp_int h']
    refine ⟨_, _, rfl, k _ q _ F H R (Same.refl _) ?_⟩
    have e : (if j < i then j else i) = min i j := by split <;> omega
    rw [e]
    exact .int _
  · exact q.elim
theorem se_max2 (hc : X.calm = true) (hg : Gl X "max") (hm : X.mg "max" = none) (ha : SA X B W (a :: b :: []) s)
    (he : starEach (a :: b :: []) X.env = (false, eval a X.env) :: starEach (b :: []) X.env := by rfl) (hpl : (backTo pos (starEach (b :: []) X.env)).any (·.1) = false := by rfl) : SE X B W (.Call (.Name "max" p) (a :: b :: []) [] pos) (aOp dMax2 s) :=
  se_B (call_max2 hc) opN_max2 hg hm (by decide +kernel) ha (by decide) (by decide) he hpl
theorem se_min2 (hc : X.calm = true) (hg : Gl X "min") (hm : X.mg "min" = none) (ha : SA X B W (a :: b :: []) s)
    (he : starEach (a :: b :: []) X.env = (false, eval a X.env) :: starEach (b :: []) X.env := by rfl) (hpl : (backTo pos (starEach (b :: []) X.env)).any (·.1) = false := by rfl) : SE X B W (.Call (.Name "min" p) (a :: b :: []) [] pos) (aOp dMin2 s) :=
  se_B (call_min2 hc) opN_min2 hg hm (by decide +kernel) ha (by decide) (by decide) he hpl
@[simp] def dInt : OpN := fun ds Q => match ds with
  | [.int i] => Q (.int i)
  | [.bl b] => Q (.int (if b then 1 else 0))
  | _ => False
theorem opN_int {K : PySem.W.Frag} : OpNS K B (fun xs H Q => (∃ i, xs = [.int i] ∧ Q (.int i) H) ∨ ∃ k, xs = [.bl k] ∧ Q (.int (if k then 1 else 0)) H) dInt := by
  intro F H ρ σ xs ds Q0 Q R p q k
  unfold dInt at q
  split at q
  · obtain ⟨v, rfl, h⟩ := dps1 p
    rw [dp_int h]
    exact .inl ⟨_, rfl, k _ q _ F H R (Same.refl _) (.int _)⟩
  · obtain ⟨v, rfl, h⟩ := dps1 p
    rw [dp_bl h]
    exact .inr ⟨_, rfl, k _ q _ F H R (Same.refl _) (.int _)⟩
  · exact q.elim
theorem se_intc (hg : Gl X "int") (hm : X.mg "int" = none) (ha : SA X B W (e :: es) s)
    (he : starEach (e :: es) X.env = (false, eval e X.env) :: starEach es X.env := by rfl) (hpl : (backTo pos (starEach es X.env)).any (·.1) = false := by rfl) : SE X B W (.Call (.Name "int" p) (e :: es) [] pos) (aOp dInt s) :=
  se_Ty call_int1 opN_int hg hm (by decide +kernel) ha (by decide) (by decide) he hpl
def dStrI : OpN := fun ds Q => match ds with
  | [.int i] => i.natAbs.log2 < 1920 ∧ Q (.str (toString i))
  | _ => False
theorem opN_strI {K : PySem.W.Frag} : OpNS K B (fun xs H Q => ∃ i, xs = [.int i] ∧ i.natAbs.log2 < 1920 ∧ Q (.str (toString i)) H) dStrI := by
  intro F H ρ σ xs ds Q0 Q R p q k
  unfold dStrI at q
  split at q
  · obtain ⟨v, rfl, h⟩ := dps1 p
    rw [dp_int h]
    exact ⟨_, rfl, q.1, k _ q.2 _ F H R (Same.refl _) (.str _)⟩
  · exact q.elim
theorem se_strI (hg : Gl X "str") (hm : X.mg "str" = none) (ha : SA X B W (e :: es) s)
    (he : starEach (e :: es) X.env = (false, eval e X.env) :: starEach es X.env := by rfl) (hpl : (backTo pos (starEach es X.env)).any (·.1) = false := by rfl) : SE X B W (.Call (.Name "str" p) (e :: es) [] pos) (aOp dStrI s) :=
  se_Ty call_str_int opN_strI hg hm (by decide +kernel) ha (by decide) (by decide) he hpl
def dGcd : OpN := fun ds Q => match ds with
  | [.int i, .int j] => Q (.int ((Nat.gcd i.natAbs j.natAbs : Nat) : Int))
  | _ => False
theorem opN_gcd {K : PySem.W.Frag} : OpNS K B rGcd dGcd := by
  intro F H ρ σ xs ds Q0 Q R p q k
  unfold dGcd at q
  split at q
  · obtain ⟨v, w, rfl, h, h'⟩ := dps2 p
    rw [dp_int h, dp_int h']
    exact ⟨_, _, rfl, k _ q _ F H R (Same.refl _) (.int _)⟩
  · exact q.elim
theorem se_gcd (hg : Gl X "gcd") (hm : X.mg "gcd" = some (.builtin "math.gcd")) (ha : SA X B W (e :: es) s)
    (he : starEach (e :: es) X.env = (false, eval e X.env) :: starEach es X.env := by rfl) (hpl : (backTo pos (starEach es X.env)).any (·.1) = false := by rfl) : SE X B W (.Call (.Name "gcd" p) (e :: es) [] pos) (aOp dGcd s) :=
  se_Bfun cr_gcd opN_gcd hg hm ha (by decide) he hpl
/-! tuple(..), list(..) -/
def dSeq : D → Option (List D)
  | .lst xs => some xs
  | .tup xs => some xs
  | _ => none
@[simp] def dTuple : OpN := fun ds Q => match ds with
  | [.lst xs] => Q (.tup xs)
  | [.tup xs] => Q (.tup xs)
  | _ => False
theorem opN_tuple {K : PySem.W.Frag} : OpNS K B (fun xs H Q => ∃ p ys, xs = [.ref p] ∧ ((SqL K H p ys ∧ ∀ l, H l = none → Q (.ref l) (upd H l (.tup ys))) ∨ (SqT K H p ys ∧ Q (.ref p) H))) dTuple := by
  intro F H ρ σ xs ds Q0 Q R p q k
  unfold dTuple at q
  split at q
  · obtain ⟨v, rfl, h⟩ := dps1 p
    cases h with
    | lst h t =>
      refine ⟨_, _, rfl, .inl ⟨SqL.of (R.fz _ _ h), fun l hl => ?_⟩⟩
      have sm : ∀ o, Same F (upd F l o) := fun o => same_upd (R.freeF hl)
      exact k _ q _ _ _ (R.alloc hl) (sm _) (.tup (SqT.of upd_same) (t.mono (sm _)))
  · obtain ⟨v, rfl, h⟩ := dps1 p
    cases h with
    | tup h t => exact ⟨_, _, rfl, .inr ⟨same_tup R.fz h, k _ q _ F H R (Same.refl _) (.tup h t)⟩⟩
  · exact q.elim
theorem se_tuplec (hg : Gl X "tuple") (hm : X.mg "tuple" = none) (ha : SA X B W (e :: es) s)
    (he : starEach (e :: es) X.env = (false, eval e X.env) :: starEach es X.env := by rfl) (hpl : (backTo pos (starEach es X.env)).any (·.1) = false := by rfl) : SE X B W (.Call (.Name "tuple" p) (e :: es) [] pos) (aOp dTuple s) :=
  se_Ty call_tuple_of opN_tuple hg hm (by decide +kernel) ha (by decide) (by decide) he hpl
@[simp] def dList : OpN := fun ds Q => match ds with
  | [.lst xs] => Q (.lst xs)
  | [.tup xs] => Q (.lst xs)
  | _ => False
theorem opN_list {K : PySem.W.Frag} : OpNF K B (fun xs H Q => ∃ p ys, xs = [.ref p] ∧ (SqL K H p ys ∨ SqT K H p ys) ∧ ∀ l, H l = none → Q (.ref l) (upd H l (.lst ys))) dList := by
  intro F H ρ σ xs ds Q0 Q R p q k
  unfold dList at q
  split at q
  · obtain ⟨v, rfl, h⟩ := dps1 p
    cases h with
    | lst h t => exact ⟨_, _, rfl, .inl (SqL.of (R.fz _ _ h)), fun l hl => k _ q _ _ _ _ (R.allocO hl) (Same.refl _) (freshAt_new R hl) (.lst t)⟩
  · obtain ⟨v, rfl, h⟩ := dps1 p
    cases h with
    | tup h t => exact ⟨_, _, rfl, .inr (same_tup R.fz h), fun l hl => k _ q _ _ _ _ (R.allocO hl) (Same.refl _) (freshAt_new R hl) (.lst t)⟩
  · exact q.elim
theorem sf_listc (hg : Gl X "list") (hm : X.mg "list" = none) (ha : SA X B W (e :: es) s)
    (he : starEach (e :: es) X.env = (false, eval e X.env) :: starEach es X.env := by rfl) (hpl : (backTo pos (starEach es X.env)).any (·.1) = false := by rfl) : SF X B W (.Call (.Name "list" p) (e :: es) [] pos) (aOp dList s) :=
  sf_Ty call_list_of opN_list hg hm (by decide +kernel) ha (by decide) (by decide) he hpl
end
end PU
set_option Elab.async false
set_option linter.all false
set_option maxRecDepth 100000
namespace PU
open PySem PySem.Spec L2
set_option autoImplicit false

/-! ### statements -/
structure AEnds where
  nx : List AV → Prop
  rt : D → Prop
  bk : List AV → Prop := fun _ => False
  ct : List AV → Prop := fun _ => False
  ex : EK := fun _ _ => False
abbrev AS := AEnds → List AV → Prop
section
variable (K : PySem.W.Frag) (B : Bas) (W : WX)
def cN (F : Hp) (P : List AV → Prop) (N : L2.St → Hp → Prop) : Prop := ∀ ρ' σ' F' H', P ρ' → Rel K B F' H' ρ' σ' → Same F F' → N σ' H'
def cR (P : D → Prop) (N : VK) : Prop := ∀ d, P d → ∀ v F' H', Bse B F' H' → DP K F' v d → N v H'
structure cEnds (F : Hp) (A : AEnds) (D : Ends) : Prop where
  nx : cN K B F A.nx D.nx
  rt : cR K B A.rt D.rt
  bk : cN K B F A.bk D.bk
  ct : cN K B F A.ct D.ct
  ex : ∀ σ, cX K B W σ A.ex
def cS (t : AS) : TS := fun D σ H => ∃ ρ F A, Rel K B F H ρ σ ∧ t A ρ ∧ cEnds K B W F A D
end
def SS (X : Cx) (B : Bas) (W : WX) (st : Stmt) (t : AS) : Prop := PS X st (cS X.K B W t)
def SSs (X : Cx) (B : Bas) (W : WX) (st : List Stmt) (t : AS) : Prop := PSs X st (cS X.K B W t)

section
variable {X : Cx} {B : Bas} {W : WX} {a b c e : Expr} {es : List Expr} {sts sts' : List Stmt} {st : Stmt} {ta tb tc te : AE} {t u : AS} {tt : AT} {s : AA} {pos p : Pos}
theorem cN.mono {K : PySem.W.Frag} {F F' : Hp} {P : List AV → Prop} {N : L2.St → Hp → Prop} (h : cN K B F P N) (s : Same F F') : cN K B F' P N := fun ρ' σ' F2 H2 q R s2 => h ρ' σ' F2 H2 q R (s.trans s2)
theorem cEnds.mono {K : PySem.W.Frag} {F F' : Hp} {A : AEnds} {D : Ends} (h : cEnds K B W F A D) (s : Same F F') : cEnds K B W F' A D := ⟨h.nx.mono s, h.rt, h.bk.mono s, h.ct.mono s, h.ex⟩
@[simp] def aSkip : AS := fun A ρ => A.nx ρ
@[simp] def aSeq (t u : AS) : AS := fun A ρ => t { A with nx := u A } ρ
theorem ss_nil : SSs X B W [] aSkip := by
  refine PSs_imp pss_nil fun D σ H q => ?_
  obtain ⟨ρ, F, A, R, t, k⟩ := q
  exact k.nx ρ σ F H t R (Same.refl _)
theorem ss_cons (h : SS X B W st t) (h' : SSs X B W sts u) : SSs X B W (st :: sts) (aSeq t u) := by
  refine PSs_imp (pss_cons h h') fun D σ H q => ?_
  obtain ⟨ρ, F, A, R, t, k⟩ := q
  exact ⟨ρ, F, _, R, t, ⟨fun ρ' σ' F' H' q' R' s' => ⟨ρ', F', A, R', q', k.mono s'⟩, k.rt, k.bk, k.ct, k.ex⟩⟩
theorem ss_one (h : SS X B W st t) : SSs X B W [st] t := pss_one h
theorem ss_pass : SS X B W (.Pass pos) aSkip := by
  refine PS_imp ps_pass fun D σ H q => ?_
  obtain ⟨ρ, F, A, R, t, k⟩ := q
  exact k.nx ρ σ F H t R (Same.refl _)
@[simp] def aBreak : AS := fun A ρ => A.bk ρ
@[simp] def aCont : AS := fun A ρ => A.ct ρ
theorem ss_break : SS X B W (.Break pos) aBreak := by
  refine PS_imp ps_break fun D σ H q => ?_
  obtain ⟨ρ, F, A, R, t, k⟩ := q
  exact k.bk ρ σ F H t R (Same.refl _)
theorem ss_continue : SS X B W (.Continue pos) aCont := by
  refine PS_imp ps_continue fun D σ H q => ?_
  obtain ⟨ρ, F, A, R, t, k⟩ := q
  exact k.ct ρ σ F H t R (Same.refl _)
@[simp] def aDrop (te : AE) : AS := fun A ρ => te A.ex ρ fun _ ρ' => A.nx ρ'
theorem ss_expr (h : SE X B W e te) (hs : swapsWith e none pos.line X.env = pure false := by rfl) : SS X B W (.Expr e pos) (aDrop te) := by
  refine PS_imp (ps_expr h hs) fun D σ H q => ?_
  obtain ⟨ρ, F, A, R, t, k⟩ := q
  exact ⟨ρ, F, A.ex, _, R, t, fun d ρ' t' v F' H' R' s' p' => k.nx ρ' σ F' H' t' R' s', k.ex σ⟩
@[simp] def aRet (te : AE) : AS := fun A ρ => te A.ex ρ fun d _ => A.rt d
theorem ss_ret (h : SE X B W e te) : SS X B W (.Return (some e) pos) (aRet te) := by
  refine PS_imp (ps_ret h) fun D σ H q => ?_
  obtain ⟨ρ, F, A, R, t, k⟩ := q
  exact ⟨ρ, F, A.ex, _, R, t, fun d ρ' t' v F' H' R' s' p' => k.rt d t' v F' H' R'.toBse p', k.ex σ⟩
@[simp] def aIfS (tt : AT) (t u : AS) : AS := fun A ρ => tt A.ex ρ fun b ρ' => if b = true then t A ρ' else u A ρ'
theorem ss_if (h : ST X B W c tt) (h1 : SSs X B W sts t) (h2 : SSs X B W sts' u) : SS X B W (.If c sts sts' pos) (aIfS tt t u) := by
  refine PS_imp (ps_if h h1 h2) fun D σ H q => ?_
  obtain ⟨ρ, F, A, R, t, k⟩ := q
  refine ⟨ρ, F, A.ex, _, R, t, fun d ρ' t' F' H' R' s' => ?_, k.ex σ⟩
  cases d with
  | true => exact ⟨ρ', F', A, R', t', k.mono s'⟩
  | false => exact ⟨ρ', F', A, R', t', k.mono s'⟩

/-! ### stores -/
@[simp] def aSet (i : Nat) (te : AE) : AS := fun A ρ => te A.ex ρ fun d ρ' => A.nx (ρ'.set i (.dat d))
theorem cSet {K : PySem.W.Frag} {i : Nat} {D : Ends} {σ : L2.St} {H : Hp} (q : cS K B W (aSet i te) D σ H) : tAsg (cE K B W te) (gName i) D σ H := by
  obtain ⟨ρ, F, A, R, t, k⟩ := q
  exact ⟨ρ, F, A.ex, _, R, t, fun d ρ' t' v F' H' R' s' p' => k.nx _ _ F' H' t' (R'.store p') s', k.ex σ⟩
theorem ss_set {i : Nat} {x : Str} {pos' : Pos} (hN : X.N.Nodup) (hi : X.N[i]? = some x) (hx : Loc X.env.scope x) (h : SE X B W e te) (hs : swapsWith e (some (.Name x pos')) pos.line X.env = pure false := by rfl)
    (hf : X.fn x = true ∨ X.env.scope.names.lookup x = some .local := by first | exact .inl rfl | exact .inr rfl | assumption) : SS X B W (.Assign [.Name x pos'] e pos) (aSet i te) :=
  PS_imp (ps_set hN hi hx h hs hf) fun _ _ _ q => cSet q
/-- a new object of one's own -/
@[simp] def aSetO (i : Nat) (te : AE) : AS := fun A ρ => te A.ex ρ fun d ρ' => A.nx (ρ'.set i (.own d))
theorem cSetO {K : PySem.W.Frag} {i : Nat} {D : Ends} {σ : L2.St} {H : Hp} (q : cS K B W (aSetO i te) D σ H) : tAsg (cF K B W te) (gName i) D σ H := by
  obtain ⟨ρ, F, A, R, t, k⟩ := q
  refine ⟨ρ, F, A.ex, _, R, t, fun d ρ' t' a o F' H' R' s' f p' => ?_, k.ex σ⟩
  obtain ⟨f1, f2, fP, f3, f4⟩ := f
  exact k.nx _ _ F' H' t' (R'.storeO f1 f2 fP f3 p' fun j e _ => f4 j e) s'
theorem ss_setO {i : Nat} {x : Str} {pos' : Pos} (hN : X.N.Nodup) (hi : X.N[i]? = some x) (hx : Loc X.env.scope x) (h : SF X B W e te) (hs : swapsWith e (some (.Name x pos')) pos.line X.env = pure false := by rfl)
    (hf : X.fn x = true ∨ X.env.scope.names.lookup x = some .local := by first | exact .inl rfl | exact .inr rfl | assumption) : SS X B W (.Assign [.Name x pos'] e pos) (aSetO i te) :=
  PS_imp (ps_set hN hi hx h hs hf) fun _ _ _ q => cSetO q
/-- a, b = x, y -/
def aPar (i j : Nat) (s : AA) : AS := fun A ρ => s A.ex ρ fun ds ρ' => match ds with
  | [d, e] => A.nx ((ρ'.set i (.dat d)).set j (.dat e))
  | _ => False
theorem ss_par {i j : Nat} {x y : Str} {px py pt : Pos} {kt k2 : Nat} {pt2 : Pos} (hc : X.calm = true) (hN : X.N.Nodup) (hi : X.N[i]? = some x) (hj : X.N[j]? = some y) (hij : i ≠ j)
    (hx : X.env.scope.names.lookup x = some .local) (hy : X.env.scope.names.lookup y = some .local) (ha : SA X B W [a, b] s)
    (hw : swappedStores [.Tuple [.Name x px, .Name y py] kt pt] (.Tuple [a, b] k2 pt2) X.env = pure (some [x, y]) := by rfl)
    (hs : swapsWithSole [.Tuple [.Name x px, .Name y py] kt pt] (.Tuple [a, b] k2 pt2) pos.line X.env = pure false := by rfl) :
    SS X B W (.Assign [.Tuple [.Name x px, .Name y py] kt pt] (.Tuple [a, b] k2 pt2) pos) (aPar i j s) := by
  refine PS_imp (ps_par hc hN hi hj hij hx hy ha hw hs) fun D σ H q => ?_
  obtain ⟨ρ, F, A, R, t, k⟩ := q
  refine ⟨ρ, F, A.ex, _, R, t, fun ds ρ' t' vs F' H' R' s' p' => ?_, k.ex σ⟩
  split at t'
  · obtain ⟨v, w, rfl, h1, h2⟩ := dps2 p'
    exact ⟨v, w, rfl, k.nx _ _ F' H' t' ((R'.store h1).store h2) s'⟩
  · exact t'.elim

/-! ### targets -/
abbrev AG := D → List AV → (List AV → Prop) → Prop
abbrev AGs := List D → List AV → (List AV → Prop) → Prop
def Only (vs : List Nat) (σ σ' : L2.St) : Prop := σ'.length = σ.length ∧ ∀ j, j ∉ vs → σ'[j]? = σ[j]?
theorem Only.refl {vs : List Nat} {σ : L2.St} : Only vs σ σ := ⟨rfl, fun _ _ => rfl⟩
theorem Only.trans {vs : List Nat} {σ σ1 σ2 : L2.St} (h : Only vs σ σ1) (h' : Only vs σ1 σ2) : Only vs σ σ2 := ⟨h'.1.trans h.1, fun j hj => (h'.2 j hj).trans (h.2 j hj)⟩
def cG (K : PySem.W.Frag) (B : Bas) (vs : List Nat) (g : AG) : TG := fun v σ H Q => ∃ ρ F d N, Rel K B F H ρ σ ∧ DP K F v d ∧ g d ρ N ∧ ∀ ρ' σ' F' H', N ρ' → Rel K B F' H' ρ' σ' → Same F F' → Only vs σ σ' → Q σ' H'
def cGs (K : PySem.W.Frag) (B : Bas) (vs : List Nat) (g : AGs) : TGs := fun us σ H Q => ∃ ρ F ds N, Rel K B F H ρ σ ∧ DPs K F us ds ∧ g ds ρ N ∧ ∀ ρ' σ' F' H', N ρ' → Rel K B F' H' ρ' σ' → Same F F' → Only vs σ σ' → Q σ' H'
def SG (X : Cx) (B : Bas) (vs : List Nat) (e : Expr) (g : AG) : Prop := PG X e (cG X.K B vs g)
def SGs (X : Cx) (B : Bas) (vs : List Nat) (e : List Expr) (g : AGs) : Prop := PGs X e (cGs X.K B vs g)
@[simp] def gSet (i : Nat) : AG := fun d ρ N => N (ρ.set i (.dat d))
theorem sg_of {vs : List Nat} {i : Nat} (h : PG X e (gName i)) (hv : i ∈ vs) : SG X B vs e (gSet i) := by
  refine PG_imp h fun v σ H Q q => ?_
  obtain ⟨ρ, F, d, N, R, p, t, k⟩ := q
  refine k _ _ F H t (R.store p) (Same.refl _) ⟨by rw [List.length_set], fun j hj => ?_⟩
  rw [List.getElem?_set_ne]
  rintro rfl
  exact hj hv
theorem PGs_imp {X : Cx} {e : List Expr} {T T' : TGs} (h : PGs X e T) (i : ∀ v σ H Q, T' v σ H Q → T v σ H Q) : PGs X e T' := ⟨fun pins s σ H v u Q I r q => h.run pins s σ H v u Q I r (i _ _ _ _ q)⟩
@[simp] def gsNil : AGs := fun ds ρ N => match ds with
  | [] => N ρ
  | _ => False
@[simp] def gsCons (g : AG) (r : AGs) : AGs := fun ds ρ N => match ds with
  | d :: ds => g d ρ fun ρ' => r ds ρ' N
  | _ => False
theorem sgs_nil {vs : List Nat} : SGs X B vs [] gsNil := by
  refine PGs_imp pgs_nil fun v σ H Q q => ?_
  obtain ⟨ρ, F, d, N, R, p, t, k⟩ := q
  cases p with
  | nil => exact ⟨rfl, k _ _ F H t R (Same.refl _) Only.refl⟩
  | cons => exact t.elim
theorem sgs_cons {vs : List Nat} {g : AG} {r : AGs} (h : SG X B vs e g) (h' : SGs X B vs es r) (hs : (assignEach (e :: es) X.env).map (·.2) = assign e X.env :: (assignEach es X.env).map (·.2) := by rfl) : SGs X B vs (e :: es) (gsCons g r) := by
  refine PGs_imp (pgs_cons h h' hs) fun v σ H Q q => ?_
  obtain ⟨ρ, F, d, N, R, p, t, k⟩ := q
  cases p with
  | nil => exact t.elim
  | cons p1 p2 =>
    refine ⟨_, _, rfl, ρ, F, _, _, R, p1, t, fun ρ1 σ1 F1 H1 t1 R1 s1 o1 => ?_⟩
    exact ⟨ρ1, F1, _, N, R1, p2.mono s1, t1, fun ρ2 σ2 F2 H2 t2 R2 s2 o2 => k ρ2 σ2 F2 H2 t2 R2 (s1.trans s2) (o1.trans o2)⟩
/-- (a, b, ..) of a tuple or a list of that length -/
@[simp] def gTupA (n : Nat) (r : AGs) : AG := fun d ρ N => match d with
  | .tup ds => ds.length = n ∧ r ds ρ N
  | .lst ds => ds.length = n ∧ r ds ρ N
  | _ => False
theorem PG_or {X : Cx} {e : Expr} {T T' : TG} (h : PG X e T) (h' : PG X e T') : PG X e (fun v σ H Q => T v σ H Q ∨ T' v σ H Q) := ⟨fun pins s σ H v u Q I r q => q.elim (h.run pins s σ H v u Q I r) (h'.run pins s σ H v u Q I r)⟩
theorem sg_tup {vs : List Nat} {n k : Nat} {r : AGs} (hc : X.calm = true) (h : SGs X B vs es r) (hn : (assignEach es X.env).length = n := by rfl) (hst : (assignEach es X.env).findIdx? (·.1) = none := by rfl) : SG X B vs (.Tuple es k pos) (gTupA n r) := by
  refine PG_imp (PG_or (pg_tup hc h hn hst) (pg_lst hc h hn hst)) fun v σ H Q q => ?_
  obtain ⟨ρ, F, d, N, R, p, t, k⟩ := q
  cases p with
  | tup h1 h2 => exact .inl ⟨_, _, rfl, same_tup R.fz h1, h2.length.trans t.1, ρ, F, _, N, R, h2, t.2, k⟩
  | lst h1 h2 => exact .inr ⟨_, _, rfl, SqL.of (R.fz _ _ h1), h2.length.trans t.1, ρ, F, _, N, R, h2, t.2, k⟩
  | _ => exact t.elim
@[simp] def aAsg (te : AE) (g : AG) : AS := fun A ρ => te A.ex ρ fun d ρ' => g d ρ' A.nx
theorem ss_asg {vs : List Nat} {tg : Expr} {g : AG} (h : SE X B W e te) (hg : SG X B vs tg g) (hs : swapsWithSole [tg] e pos.line X.env = pure false := by rfl) (hw : swappedStores [tg] e X.env = pure none := by rfl)
    (h1 : (assignEach [tg] X.env).map (·.2) = [assign tg X.env] := by rfl) : SS X B W (.Assign [tg] e pos) (aAsg te g) := by
  refine PS_imp (ps_asg h hg hs hw h1) fun D σ H q => ?_
  obtain ⟨ρ, F, A, R, t, k⟩ := q
  refine ⟨ρ, F, A.ex, _, R, t, fun d ρ' t' v F' H' R' s' p' => ?_, k.ex σ⟩
  exact ⟨ρ', F', d, _, R', p', t', fun ρ2 σ2 F2 H2 t2 R2 s2 _ => k.nx ρ2 σ2 F2 H2 t2 R2 (s'.trans s2)⟩
/-- name op= e, by the operator's plain form -/
@[simp] def aAug (i : Nat) (op : Op2) (te : AE) : AS := fun A ρ => match ρ[i]? with
  | some (.dat d) => te A.ex ρ fun e ρ' => op d e fun z => A.nx (ρ'.set i (.dat z))
  | _ => False
theorem ss_aug {i : Nat} {x : Str} {o : Operator} {r : R2} {op : Op2} {pos' : Pos} (hN : X.N.Nodup) (hi : X.N[i]? = some x) (hx : Loc X.env.scope x) (h : SE X B W e te) (ho : OpR X (inplaceOp o) r) (hs : OpS X.K B r op)
    (hf : X.fn x = true ∨ X.env.scope.names.lookup x = some .local := by first | exact .inl rfl | exact .inr rfl | assumption) : SS X B W (.AugAssign (.Name x pos') o e pos) (aAug i op te) := by
  refine PS_imp (ps_aug (ti := r) hN hi hx h (fun pins s σ H x y v u Q I r1 r2 q => ho pins s σ H x y v u Q I r1 r2 q) hf) fun D σ H q => ?_
  obtain ⟨ρ, F, A, R, t, k⟩ := q
  unfold aAug at t
  split at t
  · rename_i d hd
    obtain ⟨v, h1, h2⟩ := R.sl i d hd
    refine ⟨v, h1, ρ, F, A.ex, _, R, t, fun e ρ' t' w F' H' R' s' p' => ?_, k.ex σ⟩
    exact hs F' H' ρ' σ v w d e _ _ R' (h2.mono s') p' t' fun z hz y F2 H2 R2 s2 p2 => k.nx _ _ F2 H2 hz (R2.store p2) (s'.trans s2)
  · exact t.elim
def rIAdd : R2 := fun x y H Q => (rI0 fun i j => .int (i + j)) x y H Q ∨ (∃ i j, x = .str i ∧ y = .str j ∧ i.length + j.length ≤ sizeLine ∧ Q (.str (i ++ j)) H)
def dIAdd : Op2 := fun d e Q => match d, e with
  | .int i, .int j => Q (.int (i + j))
  | .str x, .str y => x.length + y.length ≤ sizeLine ∧ Q (.str (x ++ y))
  | _, _ => False
theorem opS_iadd {K : PySem.W.Frag} : OpS K B rIAdd dIAdd := by
  intro F H ρ σ x y d e Q0 Q R p1 p2 q k
  unfold dIAdd at q
  split at q
  · rename_i i j
    exact .inl ⟨i, j, dp_int p1, dp_int p2, k _ q _ F H R (Same.refl _) (.int _)⟩
  · rename_i i j
    exact .inr ⟨i, j, dp_str p1, dp_str p2, q.1, k _ q.2 _ F H R (Same.refl _) (.str _)⟩
  · exact q.elim
theorem ss_iadd {i : Nat} {x : Str} {pos' : Pos} (hN : X.N.Nodup) (hi : X.N[i]? = some x) (hx : Loc X.env.scope x) (h : SE X B W e te)
    (hf : X.fn x = true ∨ X.env.scope.names.lookup x = some .local := by first | exact .inl rfl | exact .inr rfl | assumption) : SS X B W (.AugAssign (.Name x pos') .Add e pos) (aAug i dIAdd te) := ss_aug hN hi hx h (iop_add.or iop_add_str) opS_iadd hf
theorem iop_mulW : OpR X (inplaceOp .Mult) (rI CMulW fun i j => .int (i * j)) := opI fun _ _ _ _ _ _ _ hc q => PyProof.Rows.imul_int q hc.ok
def rIMul : R2 := fun x y H Q => (rI CMul fun i j => .int (i * j)) x y H Q ∨ (rI CMulW fun i j => .int (i * j)) x y H Q
def dIMul : Op2 := dI MulOk fun i j => .int (i * j)
theorem opS_imul {K : PySem.W.Frag} : OpS K B rIMul dIMul := by
  intro F H ρ σ x y d e Q0 Q R p1 p2 q k
  unfold dIMul dI at q
  split at q
  · rename_i i j
    rcases q with ⟨q1 | q1, q⟩
    · exact .inl ⟨i, j, dp_int p1, dp_int p2, q1, k _ q _ F H R (Same.refl _) (.int _)⟩
    · exact .inr ⟨i, j, dp_int p1, dp_int p2, q1, k _ q _ F H R (Same.refl _) (.int _)⟩
  · exact q.elim
theorem ss_imul {i : Nat} {x : Str} {pos' : Pos} (hN : X.N.Nodup) (hi : X.N[i]? = some x) (hx : Loc X.env.scope x) (h : SE X B W e te)
    (hf : X.fn x = true ∨ X.env.scope.names.lookup x = some .local := by first | exact .inl rfl | exact .inr rfl | assumption) : SS X B W (.AugAssign (.Name x pos') .Mult e pos) (aAug i dIMul te) := ss_aug hN hi hx h (iop_mul.or iop_mulW) opS_imul hf

/-! ### an own list or dict at a slot: looked at, changed -/
/-- the slot's value without letting go of it -/
@[simp] def lookA (ρ : List AV) (i : Nat) (Q : D → Prop) : Prop := match ρ[i]? with
  | some (.dat d) => Q d
  | some (.own d) => Q d
  | _ => False
/-- a value seen: a reading that is good for the moment -/
def Seen (K : PySem.W.Frag) (F H : Hp) (v : V) (d : D) : Prop := DP K F v d ∨ ∃ a o, v = .ref a ∧ H a = some o ∧ OwnP K F o d
theorem Rel.look {K : PySem.W.Frag} {F H : Hp} {ρ : List AV} {σ : L2.St} (R : Rel K B F H ρ σ) {i : Nat} {Q : D → Prop} (h : lookA ρ i Q) : ∃ v d, σ[i]? = some (some v) ∧ Seen K F H v d ∧ Q d := by
  unfold lookA at h
  split at h
  · rename_i d hd
    obtain ⟨v, h1, h2⟩ := R.sl i d hd
    exact ⟨v, d, h1, .inl h2, h⟩
  · rename_i d hd
    obtain ⟨a, o, h1, h2, h3, hP, h4, h5⟩ := R.ow i d hd
    exact ⟨_, d, h1, .inr ⟨a, o, rfl, h4, h5⟩, h⟩
  · exact h.elim
theorem Seen.lst {K : PySem.W.Frag} {F H : Hp} {v : V} {ds : List D} (e : Same F H) (h : Seen K F H v (.lst ds)) : ∃ a vs, v = .ref a ∧ H a = some (.lst vs) ∧ DPs K F vs ds := by
  rcases h with h | ⟨a, o, rfl, h1, h2⟩
  · cases h with
    | lst h t => exact ⟨_, _, rfl, e _ _ h, t⟩
  · cases h2 with
    | lst t => exact ⟨_, _, rfl, h1, t⟩
theorem Seen.dK {K : PySem.W.Frag} {F H : Hp} {v : V} {ds : List (Key × D)} (e : Same F H) (h : Seen K F H v (.dK ds)) : ∃ a vs, v = .ref a ∧ Rd H a (.dK vs) ∧ DPk K F vs ds := by
  rcases h with h | ⟨a, o, rfl, h1, h2⟩
  · cases h with
    | dK h t => exact ⟨_, _, rfl, rd_same e h, t⟩
  · cases h2 with
    | dK t => exact ⟨_, _, rfl, .inl h1, t⟩
/-- len(x), x a name -/
@[simp] def aLenN (i : Nat) : AE := fun _ ρ Q => lookA ρ i fun d => dLen [d] fun z => Q z ρ
theorem se_lenN {y : Str} {q : Pos} (i : Nat) (hg : Gl X "len") (hm : X.mg "len" = none) (hy : PE X (.Name y q) (tVar i))
    (he : starEach (.Name y q :: []) X.env = (false, eval (.Name y q) X.env) :: starEach [] X.env := by rfl) (hpl : (backTo pos (starEach [] X.env)).any (·.1) = false := by rfl) : SE X B W (.Call (.Name "len" p) (.Name y q :: []) [] pos) (aLenN i) := by
  refine PE_imp (pe_callB (CallR.or call_len call_lenRd) hg hm PySem.boot_len (pa_cons hy pa_nil) (by decide) (by decide) he hpl) fun σ H Q q => ?_
  obtain ⟨ρ, F, EX, Q0, R, t, k, kx⟩ := q
  obtain ⟨v, d, h1, h2, t⟩ := R.look t
  refine ⟨v, h1, ?_⟩
  unfold dLen at t
  split at t
  · rename_i xs e
    cases e
    obtain ⟨a, vs, rfl, h3, h4⟩ := h2.lst R.fz
    exact .inl ⟨_, _, rfl, .inl ⟨_, SqL.of h3, rfl⟩, k _ _ t _ F H R (Same.refl _) (by rw [h4.length]; exact .int _)⟩
  · rename_i xs e
    cases e
    rcases h2 with h2 | ⟨_, _, _, _, h2⟩
    · cases h2 with
      | tup h3 h4 => exact .inl ⟨_, _, rfl, .inr ⟨_, same_tup R.fz h3, rfl⟩, k _ _ t _ F H R (Same.refl _) (by rw [h4.length]; exact .int _)⟩
    · cases h2
  · rename_i xs e
    cases e
    rcases h2 with h2 | ⟨_, _, _, _, h2⟩
    · cases h2 with
      | str x => exact .inl ⟨_, _, rfl, ⟨t.1, rfl⟩, k _ _ t.2 _ F H R (Same.refl _) (.int _)⟩
    · cases h2
  · rename_i xs e
    cases e
    obtain ⟨a, vs, rfl, h3, h4⟩ := h2.dK R.fz
    exact .inr ⟨_, _, rfl, h3, k _ _ t _ F H R (Same.refl _) (by rw [h4.length]; exact .int _)⟩
  · exact t.elim
/-- x[e], x a name -/
@[simp] def aIxN (i : Nat) (te : AE) : AE := fun EX ρ Q => (∃ v, ρ[i]? = some v ∧ v ≠ .un ∧ v ≠ .src) ∧ te EX ρ fun e ρ' => lookA ρ' i fun d => dIdx d e fun z => Q z ρ'
theorem Rel.slotV {K : PySem.W.Frag} {F H : Hp} {ρ : List AV} {σ : L2.St} (R : Rel K B F H ρ σ) {i : Nat} {u : AV} (h : ρ[i]? = some u) (h1 : u ≠ .un) : ∃ v, σ[i]? = some (some v) := by
  cases u with
  | un => exact absurd rfl h1
  | dat d => obtain ⟨v, q, _⟩ := R.sl i d h; exact ⟨v, q⟩
  | own d => obtain ⟨a, o, q, _⟩ := R.ow i d h; exact ⟨_, q⟩
  | src => obtain ⟨s, c, _, q⟩ := R.so i h; exact ⟨_, q⟩
theorem se_ixN {k : Nat} {y : Str} {q : Pos} (i : Nat) (hr : Room k X.A) (hy : PE X (.Name y q) (tVar i)) (hb : SE X B W b tb) (hs : PlainIx b := by exact fun _ _ => rfl) : SE X B W (.Subscript (.Name y q) b pos) (aIxN i tb) := by
  refine PE_imp (pe_ix (ix_all hr) hy hb hs) fun σ H Q q => ?_
  obtain ⟨ρ, F, EX, Q0, R, ⟨⟨u, hu, hu1, _⟩, t⟩, k, kx⟩ := q
  obtain ⟨v, hv⟩ := R.slotV hu hu1
  refine ⟨v, hv, ρ, F, EX, _, R, t, fun e ρ' t' w F' H' R' s' p2 => ?_, kx⟩
  obtain ⟨v', d, h1, h2, t'⟩ := R'.look t'
  have ev : v' = v := by rw [hv] at h1; cases h1; rfl
  rw [ev] at h2
  rcases h2 with h2 | ⟨a, o, ea, h3, h4⟩
  · exact opS_idx F' H' ρ' σ v w d e _ Q R' h2 p2 t' fun z hz y F2 H2 R2 s2 p2 => k z ρ' hz y F2 H2 R2 (s'.trans s2) p2
  · rw [ea]
    cases h4 with
    | lst t4 =>
      obtain ⟨j, x, rfl, e1, t'⟩ := t'
      obtain ⟨y, e2, p⟩ := t4.at e1
      exact .inl (.inl ⟨_, _, j, y, rfl, dp_int p2, SqL.of h3, e2, k _ _ t' _ F' H' R' s' p⟩)
    | dK t4 =>
      obtain ⟨j, x, e0, e1, t'⟩ := t'
      obtain ⟨y, e2, p⟩ := t4.val e1
      exact .inr ⟨_, y, rfl, .inl ⟨_, j, .inl h3, keyOf_dp p2 e0, e2.symm⟩, k _ _ t' _ F' H' R' s' p⟩
    | dT t4 => exact t'.elim
/-- the own list at a slot -/
@[simp] def ownL (ρ : List AV) (i : Nat) (Q : List D → Prop) : Prop := match ρ[i]? with
  | some (.own (.lst ds)) => Q ds
  | _ => False
theorem Rel.ownL {K : PySem.W.Frag} {F H : Hp} {ρ : List AV} {σ : L2.St} (R : Rel K B F H ρ σ) {i : Nat} {Q : List D → Prop} (h : PU.ownL ρ i Q) : ∃ a vs ds, ρ[i]? = some (.own (.lst ds)) ∧ σ[i]? = some (some (.ref a)) ∧ H a = some (.lst vs) ∧ DPs K F vs ds ∧ Q ds := by
  unfold PU.ownL at h
  split at h
  · rename_i ds hd
    obtain ⟨a, o, h1, h2, h3, hP, h4, h5⟩ := R.ow i _ hd
    cases h5 with
    | lst t => exact ⟨a, _, ds, hd, h1, h4, t, h⟩
  · exact h.elim
/-- x.append(e) -/
@[simp] def aAppend (i : Nat) (te : AE) : AE := fun EX ρ Q => (PU.ownL ρ i fun _ => True) ∧ te EX ρ fun e ρ' => PU.ownL ρ' i fun ds => ds.length < sizeLine ∧ Q .non (ρ'.set i (.own (.lst (ds ++ [e]))))
theorem se_append {y : Str} {q apos : Pos} (i : Nat) (hy : PE X (.Name y q) (tVar i)) (hb : SE X B W b tb)
    (hbase : attributeBase (.Name y q) "append" X.env (eval (.Name y q) X.env) = eval (.Name y q) X.env := by rfl)
    (hfew : ((backTo pos (starEach (b :: []) X.env)).all (fun x => !x.1) && (backToKw pos (keywordEach [] X.env)).all (fun x => x.1.isSome)
      && decide ((b :: []).length + ([] : List Keyword).length + (if ([] : List Keyword).isEmpty then 0 else 1) < 30)) = true := by rfl)
    (hline : (apos.endLine == pos.line) = true := by rfl) (hs : starEach (b :: []) X.env = (false, eval b X.env) :: starEach [] X.env := by rfl) (hplain : (backTo pos (starEach [] X.env)).any (·.1) = false := by rfl) :
    SE X B W (.Call (.Attribute (.Name y q) "append" apos) (b :: []) [] pos) (aAppend i tb) := by
  refine PE_imp (pe_bm PySem.F.plainAttrs_list PySem.F.slot_list_append PySem.F.type_list_append mt_append hy (pa_cons hb pa_nil hs) hbase hfew hline hs hplain) fun σ H Q q => ?_
  obtain ⟨ρ, F, EX, Q0, R, ⟨t0, t⟩, k, kx⟩ := q
  obtain ⟨a, vs, ds, h1, h2, h3, h4, _⟩ := R.ownL t0
  refine ⟨_, h2, .inl ⟨rfl, _, SqL.of h3⟩, ρ, F, EX, _, R, t, fun e ρ' t' w F' H' R' s' p2 => ?_, kx⟩
  obtain ⟨a', vs', ds', g1, g2, g3, g4, t', t''⟩ := R'.ownL t'
  have ea : a' = a := by rw [h2] at g2; cases g2; rfl
  subst ea
  refine ⟨_, _, _, rfl, rfl, g3, by rw [g4.length]; exact t', ?_⟩
  exact k _ _ t'' _ F' _ (R'.writeO g1 g2 (.lst (g4.append (.cons p2 .nil)))) s' .non
/-- x.pop() -/
@[simp] def aPop (i : Nat) : AE := fun EX ρ Q => PU.ownL ρ i fun ds => ∃ y, ds[ds.length - 1]? = some y ∧ Q y (ρ.set i (.own (.lst ds.dropLast)))
theorem DPs.dropLast {K : PySem.W.Frag} {F : Hp} {v : List V} {d : List D} (h : DPs K F v d) : DPs K F v.dropLast d.dropLast := by
  rw [List.dropLast_eq_take, List.dropLast_eq_take, h.length]
  exact h.take _
theorem se_pop {y : Str} {q apos : Pos} (i : Nat) (hy : PE X (.Name y q) (tVar i))
    (hbase : attributeBase (.Name y q) "pop" X.env (eval (.Name y q) X.env) = eval (.Name y q) X.env := by rfl) (hline : (apos.endLine == pos.line) = true := by rfl) : SE X B W (.Call (.Attribute (.Name y q) "pop" apos) [] [] pos) (aPop i) := by
  refine PE_imp (pe_bm0 PySem.F.plainAttrs_list PySem.F.slot_list_pop PySem.F.type_list_pop mt_pop hy hbase hline) fun σ H Q q => ?_
  obtain ⟨ρ, F, EX, Q0, R, t, k, kx⟩ := q
  obtain ⟨a, vs, ds, h1, h2, h3, h4, y, e1, t⟩ := R.ownL t
  obtain ⟨v, e2, p⟩ := h4.get e1
  refine ⟨_, h2, .inl ⟨rfl, _, SqL.of h3⟩, _, _, v, rfl, rfl, h3, by rw [h4.length]; exact e2, ?_⟩
  exact k _ _ t _ F _ (R.writeO h1 h2 (.lst h4.dropLast)) (Same.refl _) p
/-- x.pop(e) -/
@[simp] def aPopAt (i : Nat) (te : AE) : AE := fun EX ρ Q => (PU.ownL ρ i fun _ => True) ∧ te EX ρ fun e ρ' => PU.ownL ρ' i fun ds => ∃ (j : Nat) (y : D), e = .int j ∧ ds.length ≤ 2 ^ 62 ∧ ds[j]? = some y ∧ Q y (ρ'.set i (.own (.lst (ds.eraseIdx j))))
theorem DPs.eraseIdx {K : PySem.W.Frag} {F : Hp} : ∀ {v : List V} {d : List D} (n : Nat), DPs K F v d → DPs K F (v.eraseIdx n) (d.eraseIdx n)
  | _, _, _, .nil => .nil
  | _, _, 0, .cons _ t => t
  | _, _, n + 1, .cons h t => .cons h (DPs.eraseIdx n t)
theorem se_popAt {y : Str} {q apos : Pos} (i : Nat) (hy : PE X (.Name y q) (tVar i)) (hb : SE X B W b tb)
    (hbase : attributeBase (.Name y q) "pop" X.env (eval (.Name y q) X.env) = eval (.Name y q) X.env := by rfl)
    (hfew : ((backTo pos (starEach (b :: []) X.env)).all (fun x => !x.1) && (backToKw pos (keywordEach [] X.env)).all (fun x => x.1.isSome)
      && decide ((b :: []).length + ([] : List Keyword).length + (if ([] : List Keyword).isEmpty then 0 else 1) < 30)) = true := by rfl)
    (hline : (apos.endLine == pos.line) = true := by rfl) (hs : starEach (b :: []) X.env = (false, eval b X.env) :: starEach [] X.env := by rfl) (hplain : (backTo pos (starEach [] X.env)).any (·.1) = false := by rfl) :
    SE X B W (.Call (.Attribute (.Name y q) "pop" apos) (b :: []) [] pos) (aPopAt i tb) := by
  refine PE_imp (pe_bm PySem.F.plainAttrs_list PySem.F.slot_list_pop PySem.F.type_list_pop mt_popAt hy (pa_cons hb pa_nil hs) hbase hfew hline hs hplain) fun σ H Q q => ?_
  obtain ⟨ρ, F, EX, Q0, R, ⟨t0, t⟩, k, kx⟩ := q
  obtain ⟨a, vs, ds, h1, h2, h3, h4, _⟩ := R.ownL t0
  refine ⟨_, h2, .inl ⟨rfl, _, SqL.of h3⟩, ρ, F, EX, _, R, t, fun e ρ' t' w F' H' R' s' p2 => ?_, kx⟩
  obtain ⟨a', vs', ds', g1, g2, g3, g4, j, y, rfl, hlt, e1, t'⟩ := R'.ownL t'
  have ea : a' = a := by rw [h2] at g2; cases g2; rfl
  subst ea
  rw [dp_int p2]
  obtain ⟨v, e2, p⟩ := g4.get e1
  have hj : j < ds'.length := (List.getElem?_eq_some_iff.mp e1).1
  refine ⟨_, _, (j : Int), j, v, rfl, rfl, g3, by omega, by omega, ?_, e2, ?_⟩
  · exact PySem.StrLaws.seqIndex_nonneg (by omega) (by rw [g4.length]; omega)
  · exact k _ _ t' _ F' _ (R'.writeO g1 g2 (.lst (g4.eraseIdx j))) s' p
/-- x.extend(e) -/
@[simp] def aExtend (i : Nat) (te : AE) : AE := fun EX ρ Q => (PU.ownL ρ i fun _ => True) ∧ te EX ρ fun e ρ' => PU.ownL ρ' i fun ds => match e with
  | .lst es => ds.length + es.length ≤ sizeLine ∧ Q .non (ρ'.set i (.own (.lst (ds ++ es))))
  | _ => False
theorem se_extend {y : Str} {q apos : Pos} (i : Nat) (hy : PE X (.Name y q) (tVar i)) (hb : SE X B W b tb)
    (hbase : attributeBase (.Name y q) "extend" X.env (eval (.Name y q) X.env) = eval (.Name y q) X.env := by rfl)
    (hfew : ((backTo pos (starEach (b :: []) X.env)).all (fun x => !x.1) && (backToKw pos (keywordEach [] X.env)).all (fun x => x.1.isSome)
      && decide ((b :: []).length + ([] : List Keyword).length + (if ([] : List Keyword).isEmpty then 0 else 1) < 30)) = true := by rfl)
    (hline : (apos.endLine == pos.line) = true := by rfl) (hs : starEach (b :: []) X.env = (false, eval b X.env) :: starEach [] X.env := by rfl) (hplain : (backTo pos (starEach [] X.env)).any (·.1) = false := by rfl) :
    SE X B W (.Call (.Attribute (.Name y q) "extend" apos) (b :: []) [] pos) (aExtend i tb) := by
  refine PE_imp (pe_bm PySem.F.plainAttrs_list PySem.F.slot_list_extend PySem.F.type_list_extend mt_extend hy (pa_cons hb pa_nil hs) hbase hfew hline hs hplain) fun σ H Q q => ?_
  obtain ⟨ρ, F, EX, Q0, R, ⟨t0, t⟩, k, kx⟩ := q
  obtain ⟨a, vs, ds, h1, h2, h3, h4, _⟩ := R.ownL t0
  refine ⟨_, h2, .inl ⟨rfl, _, SqL.of h3⟩, ρ, F, EX, _, R, t, fun e ρ' t' w F' H' R' s' p2 => ?_, kx⟩
  obtain ⟨a', vs', ds', g1, g2, g3, g4, t'⟩ := R'.ownL t'
  have ea : a' = a := by rw [h2] at g2; cases g2; rfl
  subst ea
  cases p2 with
  | lst g5 g6 =>
    refine ⟨_, _, _, _, rfl, rfl, g3, R'.fz _ _ g5, by rw [g4.length, g6.length]; exact t'.1, ?_⟩
    exact k _ _ t'.2 _ F' _ (R'.writeO g1 g2 (.lst (g4.append g6))) s' .non
  | _ => exact t'.elim
/-- x[e1] = e2, x an own list -/
def aPut (i : Nat) (te ti : AE) : AS := fun A ρ => te A.ex ρ fun z ρ1 => (PU.ownL ρ1 i fun _ => True) ∧ ti A.ex ρ1 fun e ρ2 => PU.ownL ρ2 i fun ds => ∃ (k : Int) (j : Nat), e = .int k ∧ ixN ds.length k = some j ∧ A.nx (ρ2.set i (.own (.lst (ds.set j z))))
theorem DPs.set {K : PySem.W.Frag} {F : Hp} {x : V} {y : D} (h : DP K F x y) : ∀ {v : List V} {d : List D} (n : Nat), DPs K F v d → DPs K F (v.set n x) (d.set n y)
  | _, _, _, .nil => .nil
  | _, _, 0, .cons _ t => .cons h t
  | _, _, n + 1, .cons g t => .cons g (DPs.set h n t)
theorem ss_put {y : Str} {q pt : Pos} {ti : AE} (i : Nat) (hv : SE X B W e te) (hy : PE X (.Name y q) (tVar i)) (hi : SE X B W b ti)
    (hs : swapsWithSole [.Subscript (.Name y q) b pt] e pos.line X.env = pure false := by rfl) (hw : swappedStores [.Subscript (.Name y q) b pt] e X.env = pure none := by rfl)
    (h1 : (assignEach [.Subscript (.Name y q) b pt] X.env).map (·.2) = [assign (.Subscript (.Name y q) b pt) X.env] := by rfl)
    (ha : ∀ v, assign (.Subscript (.Name y q) b pt) X.env v = (do
      let ov ← holding [v] (eval (.Name y q) X.env)
      let iv ← holding [v, ov] (eval b X.env)
      standAt pt
      holding [v, ov, iv] (setItem ov iv v)
      release [v, ov, iv] []) := by intro _; rfl) : SS X B W (.Assign [.Subscript (.Name y q) b pt] e pos) (aPut i te ti) := by
  refine PS_imp (ps_asg hv (pg_sub hy hi set_list ha) hs hw h1) fun D σ H q => ?_
  obtain ⟨ρ, F, A, R, t, k⟩ := q
  refine ⟨ρ, F, A.ex, _, R, t, fun z ρ1 t1 v F1 H1 R1 s1 p1 => ?_, k.ex σ⟩
  obtain ⟨t0, t1⟩ := t1
  obtain ⟨a, vs, ds, h1, h2, h3, h4, _⟩ := R1.ownL t0
  refine ⟨_, h2, ρ1, F1, A.ex, _, R1, t1, fun e ρ2 t2 w F2 H2 R2 s2 p2 => ?_, k.ex σ⟩
  obtain ⟨a', vs', ds', g1, g2, g3, g4, kk, j, rfl, ej, t2⟩ := R2.ownL t2
  have ea : a' = a := by rw [h2] at g2; cases g2; rfl
  subst ea
  rw [dp_int p2]
  refine ⟨_, _, kk, j, rfl, rfl, g3, by rw [g4.length]; exact ej, ?_⟩
  exact k.nx _ _ F2 _ t2 (R2.writeO g1 g2 (.lst (g4.set (p1.mono s2) j))) (s1.trans s2)
end
end PU
set_option Elab.async false
set_option linter.all false
set_option maxRecDepth 100000
namespace PU
open PySem PySem.Spec L2
set_option autoImplicit false

/-! ### what is walked -/
structure WalksD (K : PySem.W.Frag) (F : Hp) (J : It) (ds : List D) : Prop where
  go : ∀ i F1 H, Same F F1 → Same F1 H → i < ds.length → J.go i H
  stop : ∀ i F1 H, Same F F1 → Same F1 H → ds.length ≤ i → J.stop i H
  yld : ∀ i F1 H x H', Same F F1 → Same F1 H → i < ds.length → J.yld i H x H' → ∃ d, ds[i]? = some d ∧ ((H' = H ∧ DP K F1 x d) ∨ ∃ p o, H p = none ∧ H' = upd H p o ∧ DP K (upd F1 p o) x d)
theorem WalksD.mono {K : PySem.W.Frag} {F F' : Hp} {J : It} {ds : List D} (h : WalksD K F J ds) (s : Same F F') : WalksD K F' J ds :=
  ⟨fun i F1 H a b c => h.go i F1 H (s.trans a) b c, fun i F1 H a b c => h.stop i F1 H (s.trans a) b c, fun i F1 H x H' a b c e => h.yld i F1 H x H' (s.trans a) b c e⟩
abbrev AI := EK → List AV → (List D → List AV → Prop) → Prop
def cI (K : PySem.W.Frag) (B : Bas) (W : WX) (t : AI) : TI := fun σ H R => ∃ ρ F EX Q0, Rel K B F H ρ σ ∧ t EX ρ Q0 ∧ (∀ ds ρ', Q0 ds ρ' → ∀ J F' H', Rel K B F' H' ρ' σ → Same F F' → WalksD K F' J ds → R J H') ∧ cX K B W σ EX
def SI (X : Cx) (B : Bas) (W : WX) (tg it : Expr) (t : AI) : Prop := PI X tg it (cI X.K B W t)
theorem PI_imp {X : Cx} {tg e : Expr} {T T' : TI} (h : PI X tg e T) (i : ∀ σ H Q, T' σ H Q → T σ H Q) : PI X tg e T' := ⟨fun pins s σ H Q I q => h.run pins s σ H Q I (i _ _ _ q)⟩
theorem walks_lst {K : PySem.W.Frag} {F : Hp} {a : Addr} {vs : List V} {ds : List D} (h : F a = some (.lst vs)) (p : DPs K F vs ds) : WalksD K F (Itl K a) ds where
  go := fun i F1 H s s' l => by
    have l' : i < vs.length := by rw [p.length]; exact l
    exact ⟨vs, vs[i], SqL.of (s' _ _ (s _ _ h)), by simp [l']⟩
  stop := fun i F1 H s s' l => ⟨vs, SqL.of (s' _ _ (s _ _ h)), by rw [p.length]; exact l⟩
  yld := fun i F1 H x H' s s' l y => by
    obtain ⟨rfl, y⟩ := y
    have e := y vs (SqL.of (s' _ _ (s _ _ h)))
    obtain ⟨d, e1, e2⟩ := p.get' e
    exact ⟨d, e1, .inl ⟨rfl, e2.mono s⟩⟩
theorem walks_tup {K : PySem.W.Frag} {F : Hp} {a : Addr} {vs : List V} {ds : List D} (h : SqT K F a vs) (p : DPs K F vs ds) : WalksD K F (Itt K a) ds where
  go := fun i F1 H s s' l => by
    have l' : i < vs.length := by rw [p.length]; exact l
    exact ⟨vs, vs[i], same_tup (s.trans s') h, by simp [l']⟩
  stop := fun i F1 H s s' l => ⟨vs, same_tup (s.trans s') h, by rw [p.length]; exact l⟩
  yld := fun i F1 H x H' s s' l y => by
    obtain ⟨rfl, y⟩ := y
    have e := y vs (same_tup (s.trans s') h)
    obtain ⟨d, e1, e2⟩ := p.get' e
    exact ⟨d, e1, .inl ⟨rfl, e2.mono s⟩⟩
def chars (x : Str) : List D := x.cps.toList.map fun c => .str ⟨#[c]⟩
theorem walks_str {K : PySem.W.Frag} {F : Hp} {x : Str} : WalksD K F (Its x) (chars x) where
  go := fun i F1 H s s' l => by
    show i < x.cps.size
    simpa [chars] using l
  stop := fun i F1 H s s' l => by
    show x.cps.size ≤ i
    simpa [chars] using l
  yld := fun i F1 H y H' s s' l h => by
    obtain ⟨rfl, c, e, rfl⟩ := h
    refine ⟨.str ⟨#[c]⟩, ?_, .inl ⟨rfl, .str _⟩⟩
    unfold chars
    rw [List.getElem?_map, Array.getElem?_toList, e]
    rfl
def upto (lo : Int) (n : Nat) : List D := (List.range n).map fun i => .int (lo + (i : Nat))
theorem walks_rng {K : PySem.W.Frag} {F : Hp} {lo : Int} {n : Nat} : WalksD K F (Itr lo n) (upto lo n) where
  go := fun i F1 H s s' l => by
    show i < n
    simpa [upto] using l
  stop := fun i F1 H s s' l => by
    show n ≤ i
    simpa [upto] using l
  yld := fun i F1 H y H' s s' l h => by
    obtain ⟨rfl, rfl⟩ := h
    have l' : i < n := by simpa [upto] using l
    refine ⟨.int (lo + (i : Nat)), ?_, .inl ⟨rfl, .int _⟩⟩
    unfold upto
    rw [List.getElem?_map, List.getElem?_range l']
    rfl

section
variable {X : Cx} {B : Bas} {W : WX} {a b c e tg iter : Expr} {es : List Expr} {sts sts' : List Stmt} {ta tb tc te : AE} {t u : AS} {tt : AT} {s : AA} {pos p : Pos}
/-- an expression whose value is walked: a list, a tuple, a text -/
@[simp] def iterD (d : D) (Q : List D → Prop) : Prop := match d with
  | .lst xs => Q xs
  | .tup xs => Q xs
  | .str x => Q (chars x)
  | _ => False
@[simp] def aIt (te : AE) : AI := fun EX ρ Q => te EX ρ fun d ρ' => iterD d fun xs => Q xs ρ'
def iAny (K : PySem.W.Frag) (tl : TE) : TI := fun σ H R => tl σ H fun x H1 => (∃ a, x = .ref a ∧ (∃ xs, SqL K H1 a xs) ∧ R (Itl K a) H1) ∨ (∃ a, x = .ref a ∧ (∃ xs, SqT K H1 a xs) ∧ R (Itt K a) H1) ∨ ∃ z, x = .str z ∧ R (Its z) H1
theorem pi_any {l : Expr} {tl : TE} (hl : PE X l tl) : PI X tg l (iAny X.K tl) := by
  refine ⟨fun pins s σ H R I h => ?_⟩
  refine thn (hl.run pins s σ H _ I h) fun v s1 ⟨x, H1, I1, r1, q1⟩ => ?_
  rcases q1 with ⟨a, e, ⟨xs, hq⟩, q⟩ | ⟨a, e, ⟨xs, hq⟩, q⟩ | ⟨z, e, q⟩
  · subst e
    cases r1
    obtain ⟨its, rv, p, hz⟩ := I1.list hq
    refine PySem.wpAny_pyIter_list p.isList ?_
    refine ⟨s1.heap.objs.size, [s1.heap.objs.size], _, _, H1, rfl, I1.kept (t' := s1.toks) fun b o e => Heap.get?_push_of_some _ e, turn_list a _, ⟨_, Heap.get?_push_size _ rfl, rfl, rfl⟩, fun b hb => ?_, q⟩
    have e : b = s1.heap.objs.size := by simpa using hb
    subst e
    exact I1.fpOk (Nat.le_refl _) (I1.hok.fresh (Nat.le_refl _))
  · subst e
    cases r1
    obtain ⟨its, rv, p, hz⟩ := I1.tuple hq
    refine PySem.wpAny_pyIter_tuple (show s1.heap.IsTuple a its.toArray from p) ?_
    refine ⟨s1.heap.objs.size, [s1.heap.objs.size], _, _, H1, rfl, I1.kept (t' := s1.toks) fun b o e => Heap.get?_push_of_some _ e, turn_tuple a _, ⟨_, Heap.get?_push_size _ rfl, rfl, rfl⟩, fun b hb => ?_, q⟩
    have e : b = s1.heap.objs.size := by simpa using hb
    subst e
    exact I1.fpOk (Nat.le_refl _) (I1.hok.fresh (Nat.le_refl _))
  · subst e
    obtain ⟨t, rfl⟩ := r1
    cases ha : z.cps.all (· < 128)
    · exact wpAny_pyIter_wide ha (pi_one (tk := s1.toks) I1 _ (turn_str _ z t "str_iterator" (.inr rfl)) ⟨_, Heap.get?_push_size _ rfl, rfl, rfl⟩ q)
    · exact wpAny_pyIter_ascii ha (pi_one (tk := s1.toks) I1 _ (turn_str _ z t "str_ascii_iterator" (.inl rfl)) ⟨_, Heap.get?_push_size _ rfl, rfl, rfl⟩ q)
theorem si_of (h : SE X B W e te) : SI X B W tg e (aIt te) := by
  refine PI_imp (pi_any h) fun σ H Q q => ?_
  obtain ⟨ρ, F, EX, Q0, R, t, k, kx⟩ := q
  refine ⟨ρ, F, EX, _, R, t, fun d ρ1 t1 v F1 H1 R1 s1 p1 => ?_, kx⟩
  cases p1 with
  | lst h1 h2 => exact .inl ⟨_, rfl, ⟨_, SqL.of (R1.fz _ _ h1)⟩, k _ ρ1 t1 _ F1 H1 R1 s1 (walks_lst h1 h2)⟩
  | tup h1 h2 => exact .inr (.inl ⟨_, rfl, ⟨_, same_tup R1.fz h1⟩, k _ ρ1 t1 _ F1 H1 R1 s1 (walks_tup h1 h2)⟩)
  | str x => exact .inr (.inr ⟨x, rfl, k _ ρ1 t1 _ F1 H1 R1 s1 walks_str⟩)
  | _ => exact t1.elim
def Small (i : Int) : Prop := -(2 ^ 62) ≤ i ∧ i < 2 ^ 62
@[simp] def aRng1 (s : AA) : AI := fun EX ρ Q => s EX ρ fun ds ρ' => match ds with
  | [.int j] => Small j ∧ Q (upto 0 j.toNat) ρ'
  | _ => False
theorem si_range1 (hg : Gl X "range") (hm : X.mg "range" = none) (ha : SA X B W [a] s) (hs : starEach [a] X.env = [(false, eval a X.env)] := by rfl) : SI X B W tg (.Call (.Name "range" p) [a] [] pos) (aRng1 s) := by
  refine PI_imp (pi_range1 hg hm ha hs) fun σ H Q q => ?_
  obtain ⟨ρ, F, EX, Q0, R, t, k, kx⟩ := q
  refine ⟨ρ, F, EX, _, R, t, fun ds ρ1 t1 vs F1 H1 R1 s1 p1 => ?_, kx⟩
  split at t1
  · obtain ⟨v, rfl, h⟩ := dps1 p1
    exact ⟨_, by rw [dp_int h], t1.1.1, t1.1.2, k _ ρ1 t1.2 _ F1 H1 R1 s1 walks_rng⟩
  · exact t1.elim
@[simp] def aRng2 (s : AA) : AI := fun EX ρ Q => s EX ρ fun ds ρ' => match ds with
  | [.int i, .int j] => Small i ∧ Small j ∧ Q (upto i (j - i).toNat) ρ'
  | _ => False
theorem si_range2 (hg : Gl X "range") (hm : X.mg "range" = none) (ha : SA X B W [a, b] s) (hs : starEach [a, b] X.env = [(false, eval a X.env), (false, eval b X.env)] := by rfl) (hs2 : starEach [b] X.env = [(false, eval b X.env)] := by rfl) :
    SI X B W tg (.Call (.Name "range" p) [a, b] [] pos) (aRng2 s) := by
  refine PI_imp (pi_range2 hg hm ha hs hs2) fun σ H Q q => ?_
  obtain ⟨ρ, F, EX, Q0, R, t, k, kx⟩ := q
  refine ⟨ρ, F, EX, _, R, t, fun ds ρ1 t1 vs F1 H1 R1 s1 p1 => ?_, kx⟩
  split at t1
  · obtain ⟨v, w, rfl, h, h'⟩ := dps2 p1
    exact ⟨_, _, by rw [dp_int h, dp_int h'], ⟨t1.1.1, t1.1.2, t1.2.1.1, t1.2.1.2⟩, k _ ρ1 t1.2.2 _ F1 H1 R1 s1 walks_rng⟩
  · exact t1.elim

/-! ### for -/
def aForL (g : AG) (body : AS) : List D → AEnds → List AV → Prop
  | [], A, ρ => A.nx ρ
  | d :: ds, A, ρ => g d ρ fun ρ' => body { A with nx := aForL g body ds A, ct := aForL g body ds A, bk := A.nx } ρ'
@[simp] def aFor (ti : AI) (g : AG) (body : AS) : AS := fun A ρ => ti A.ex ρ fun ds ρ' => aForL g body ds A ρ'
/-- a turn's item, frozen -/
theorem WalksD.item {K : PySem.W.Frag} {F F1 H H' : Hp} {J : It} {ds : List D} (w : WalksD K F J ds) {ρ : List AV} {σ : L2.St} (R : Rel K B F1 H ρ σ) (s : Same F F1) {i : Nat} {d : D} {x : V} (hi : ds[i]? = some d) (y : J.yld i H x H') :
    ∃ F2, Rel K B F2 H' ρ σ ∧ Same F1 F2 ∧ DP K F2 x d := by
  have l : i < ds.length := (List.getElem?_eq_some_iff.mp hi).1
  obtain ⟨d', e, h⟩ := w.yld i F1 H x H' s R.fz l y
  rw [hi] at e
  cases e
  rcases h with ⟨rfl, h⟩ | ⟨p, o, hp, rfl, h⟩
  · exact ⟨F1, R, Same.refl _, h⟩
  · exact ⟨_, R.alloc hp, same_upd (R.freeF hp), h⟩
theorem drop_cons {α : Type} {l : List α} {i : Nat} {d : α} (h : l[i]? = some d) : l.drop i = d :: l.drop (i + 1) := by
  obtain ⟨h1, h2⟩ := List.getElem?_eq_some_iff.mp h
  rw [List.drop_eq_getElem_cons h1, h2]
theorem ss_for {vs : List Nat} {ti : AI} {g : AG} (hp : PassesOwn (model X.prog X.w) X.A X.env X.xe) (hc : X.calm = true) (hi : SI X B W tg iter ti) (hg : SG X B vs tg g) (hb : SSs X B W sts t)
    (hs : ∀ x, foldedSetIterable iter X.env x = pure x := by intro _; rfl) : SS X B W (.For tg iter sts [] pos) (aFor ti g t) := by
  refine PS_imp (ps_for hp hc hi hg hb hs) fun D σ H q => ?_
  obtain ⟨ρ, F, A, R, t0, k⟩ := q
  refine ⟨ρ, F, A.ex, _, R, t0, fun ds ρ1 t1 J F1 H1 R1 s1 w1 => ?_, k.ex σ⟩
  refine ⟨fun i m σ H => m = ds.length - i ∧ i ≤ ds.length ∧ ∃ ρ F2, Rel X.K B F2 H ρ σ ∧ Same F1 F2 ∧ aForL g t (ds.drop i) A ρ, ⟨_, rfl, Nat.zero_le _, ρ1, F1, R1, Same.refl _, t1⟩, ?_⟩
  rintro i m σ' H' ⟨rfl, hi, ρ2, F2, R2, s2, t2⟩
  by_cases hlt : i < ds.length
  · obtain ⟨d, hd⟩ : ∃ d, ds[i]? = some d := ⟨ds[i], by simp [hlt]⟩
    rw [drop_cons hd] at t2
    refine .inr ⟨w1.go i F2 H' s2 R2.fz hlt, fun σ3 H3 => ∃ ρ3 F3, Rel X.K B F3 H3 ρ3 σ3 ∧ Same F1 F3 ∧ aForL g t (ds.drop (i + 1)) A ρ3, fun σ3 H3 ⟨ρ3, F3, R3, s3, t3⟩ => ⟨_, by omega, rfl, hlt, ρ3, F3, R3, s3, t3⟩, fun x H4 y => ?_⟩
    obtain ⟨F4, R4, s4, p4⟩ := w1.item R2 s2 hd y
    refine ⟨ρ2, F4, d, _, R4, p4, t2, fun ρ5 σ5 F5 H5 n5 R5 s5 _ => ⟨ρ5, F5, _, R5, n5, ?_⟩⟩
    have s15 : Same F1 F5 := (s2.trans s4).trans s5
    have k5 := k.mono (s1.trans s15)
    exact ⟨fun ρ6 σ6 F6 H6 q6 R6 s6 => ⟨ρ6, F6, R6, s15.trans s6, q6⟩, k5.rt, k5.nx, fun ρ6 σ6 F6 H6 q6 R6 s6 => ⟨ρ6, F6, R6, s15.trans s6, q6⟩, k5.ex⟩
  · have e : i = ds.length := by omega
    subst e
    rw [List.drop_length] at t2
    exact .inl ⟨w1.stop _ F2 H' s2 R2.fz (Nat.le_refl _), k.nx ρ2 σ' F2 H' t2 R2 (s1.trans s2)⟩

/-! ### while -/
def aWhile (tt : AT) (t : AS) : AS := fun A ρ => ∃ Wm : Nat → List AV → Prop, (∃ m, Wm m ρ) ∧ ∀ m ρ, Wm m ρ → tt A.ex ρ fun b ρ' => if b = true then t { A with nx := fun ρ2 => ∃ m', m' < m ∧ Wm m' ρ2, ct := fun ρ2 => ∃ m', m' < m ∧ Wm m' ρ2, bk := A.nx } ρ' else A.nx ρ'
theorem ss_while (hp : PassesOwn (model X.prog X.w) X.A X.env X.xe) (hc : ST X B W c tt) (hb : SSs X B W sts t) : SS X B W (.While c sts [] pos) (aWhile tt t) := by
  refine PS_imp (ps_while hp hc hb) fun D σ H q => ?_
  obtain ⟨ρ, F, A, R, ⟨Wm, ⟨m0, w0⟩, turn⟩, k⟩ := q
  refine ⟨fun m σ H => ∃ ρ F2, Rel X.K B F2 H ρ σ ∧ Same F F2 ∧ Wm m ρ, ⟨m0, ρ, F, R, Same.refl _, w0⟩, ?_⟩
  rintro m σ' H' ⟨ρ2, F2, R2, s2, w2⟩
  refine ⟨ρ2, F2, A.ex, _, R2, turn m ρ2 w2, fun b ρ3 t3 F3 H3 R3 s3 => ?_, k.ex σ'⟩
  have k3 := k.mono (s2.trans s3)
  cases b with
  | false => exact k3.nx ρ3 σ' F3 H3 t3 R3 (Same.refl _)
  | true =>
    refine ⟨fun σ4 H4 => ∃ m', m' < m ∧ ∃ ρ4 F4, Rel X.K B F4 H4 ρ4 σ4 ∧ Same F F4 ∧ Wm m' ρ4, fun σ4 H4 q => q, ρ3, F3, _, R3, t3, ?_⟩
    refine ⟨fun ρ4 σ4 F4 H4 q4 R4 s4 => ?_, k3.rt, k3.nx, fun ρ4 σ4 F4 H4 q4 R4 s4 => ?_, k3.ex⟩
    · obtain ⟨m', hm, w4⟩ := q4
      exact ⟨m', hm, ρ4, F4, R4, (s2.trans s3).trans s4, w4⟩
    · obtain ⟨m', hm, w4⟩ := q4
      exact ⟨m', hm, ρ4, F4, R4, (s2.trans s3).trans s4, w4⟩
/-- while, by a word and a measure -/
theorem aWhile_by {tt : AT} {t : AS} {A : AEnds} {ρ : List AV} (I : List AV → Prop) (μ : List AV → Nat) (h0 : I ρ)
    (h : ∀ ρ, I ρ → tt A.ex ρ fun b ρ' => if b = true then t { A with nx := fun ρ2 => ∃ m', m' < μ ρ ∧ m' = μ ρ2 ∧ I ρ2, ct := fun ρ2 => ∃ m', m' < μ ρ ∧ m' = μ ρ2 ∧ I ρ2, bk := A.nx } ρ' else A.nx ρ') : aWhile tt t A ρ := by
  refine ⟨fun m ρ => m = μ ρ ∧ I ρ, ⟨_, rfl, h0⟩, ?_⟩
  rintro m ρ ⟨rfl, i⟩
  exact h ρ i
end
end PU
set_option Elab.async false
set_option linter.all false
set_option maxRecDepth 100000
namespace PU
open PySem PySem.Spec L2
set_option autoImplicit false

/-! ### comprehensions -/
@[simp] def wipeA (ρ : List AV) : List Nat → List AV
  | [] => ρ
  | v :: vs => (wipeA ρ vs).set v .un
@[simp] def keepV : Option AV → AV
  | some (.dat d) => .dat d
  | some .src => .src
  | _ => .un
@[simp] def unw (ρ ρ3 : List AV) : List Nat → List AV
  | [] => ρ3
  | v :: vs => (unw ρ ρ3 vs).set v (keepV ρ[v]?)
abbrev Bas.wP (B : Bas) (P : Hp) : Bas := { B with P := P }
section
variable {K : PySem.W.Frag} {B : Bas} {F F' H H' : Hp} {ρ ρ' : List AV} {σ σ' : L2.St}
theorem wipeA_len : ∀ vs : List Nat, (wipeA ρ vs).length = ρ.length
  | [] => rfl
  | v :: vs => by unfold wipeA; rw [List.length_set, wipeA_len vs]
theorem wipeA_get : ∀ {vs : List Nat} {i : Nat} {v : AV}, (wipeA ρ vs)[i]? = some v → v ≠ .un → i ∉ vs ∧ ρ[i]? = some v
  | [], _, _, h, _ => ⟨by simp, h⟩
  | v :: vs, i, x, h, n => by
    unfold wipeA at h
    rcases set_get h with ⟨rfl, z⟩ | ⟨m, z⟩
    · exact absurd z n
    · obtain ⟨h1, h2⟩ := wipeA_get z n
      exact ⟨by simp only [List.mem_cons, not_or]; exact ⟨m, h1⟩, h2⟩
theorem wipe_get : ∀ {vs : List Nat} {i : Nat}, i ∉ vs → (wipe σ vs)[i]? = σ[i]?
  | [], _, _ => rfl
  | v :: vs, i, h => by
    simp only [List.mem_cons, not_or] at h
    unfold wipe
    rw [List.getElem?_set_ne (Ne.symm h.1)]
    exact wipe_get h.2
theorem wipe_only : ∀ {vs : List Nat}, (∀ j, j ∉ vs → σ'[j]? = σ[j]?) → σ'.length = σ.length → wipe σ' vs = wipe σ vs := fun {vs} h hl => by
  have e : ∀ (τ : L2.St) (vs : List Nat) (i : Nat), i ∈ vs → (wipe τ vs)[i]? = if i < τ.length then some none else none := by
    intro τ vs
    induction vs with
    | nil => intro i hi; simp at hi
    | cons v vs ih =>
      intro i hi
      unfold wipe
      by_cases hv : v = i
      · subst hv
        by_cases hl : v < τ.length
        · rw [if_pos hl, List.getElem?_set_self (by rw [wipe_length]; exact hl)]
        · rw [if_neg hl, List.getElem?_eq_none (by rw [List.length_set, wipe_length]; omega)]
      · rw [List.getElem?_set_ne hv]
        exact ih i (by simpa [Ne.symm hv] using hi)
  apply List.ext_getElem?
  intro i
  by_cases hi : i ∈ vs
  · rw [e _ _ _ hi, e _ _ _ hi, hl]
  · rw [wipe_get hi, wipe_get hi, h i hi]
theorem Rel.wiped (R : Rel K B F H ρ σ) (vs : List Nat) : Rel K B F H (wipeA ρ vs) (wipe σ vs) := by
  refine ⟨R.toBse, by rw [wipeA_len, wipe_length]; exact R.len, fun i d e => ?_, fun i d e => ?_, fun i e => ?_, fun i j d e a n q q' r => ?_⟩
  · obtain ⟨h1, h2⟩ := wipeA_get e (fun z => nomatch z)
    rw [wipe_get h1]; exact R.sl i d h2
  · obtain ⟨h1, h2⟩ := wipeA_get e (fun z => nomatch z)
    rw [wipe_get h1]; exact R.ow i d h2
  · obtain ⟨h1, h2⟩ := wipeA_get e (fun z => nomatch z)
    rw [wipe_get h1]; exact R.so i h2
  · obtain ⟨h1, h2⟩ := wipeA_get q (fun z => nomatch z)
    obtain ⟨h3, h4⟩ := wipeA_get q' (fun z => nomatch z)
    rw [wipe_get h1] at r
    rw [wipe_get h3]
    exact R.ap i j d e a n h2 h4 r
theorem unw_len {ρ3 : List AV} : ∀ vs : List Nat, (unw ρ ρ3 vs).length = ρ3.length
  | [] => rfl
  | v :: vs => by unfold unw; rw [List.length_set, unw_len vs]
theorem unw_get {ρ3 : List AV} : ∀ {vs : List Nat} {i : Nat} {v : AV}, (unw ρ ρ3 vs)[i]? = some v → v ≠ .un → (i ∉ vs ∧ ρ3[i]? = some v) ∨ (ρ[i]? = some v ∧ (v = .src ∨ ∃ d, v = .dat d))
  | [], _, _, h, _ => .inl ⟨by simp, h⟩
  | v :: vs, i, x, h, n => by
    unfold unw at h
    rcases set_get h with ⟨rfl, z⟩ | ⟨m, z⟩
    · refine .inr ?_
      unfold keepV at z
      split at z
      · rename_i d hd
        exact ⟨by rw [hd, z], .inr ⟨d, z⟩⟩
      · rename_i hd
        exact ⟨by rw [hd, z], .inl z⟩
      · exact absurd z n
    · rcases unw_get z n with ⟨h1, h2⟩ | h2
      · exact .inl ⟨by simp only [List.mem_cons, not_or]; exact ⟨m, h1⟩, h2⟩
      · exact .inr h2
/-- back from a block -/
theorem Rel.unwiped {σ2 : L2.St} {ρ3 : List AV} {vs : List Nat} (R0 : Rel K B F H ρ σ) {B' : Bas} (hZ : B'.Z = B.Z) (R : Rel K B' F' H' ρ3 σ2) (s : Same F F') (o : ∀ j, j ∉ vs → σ2[j]? = σ[j]?) (ol : σ2.length = σ.length) : Rel K B' F' H' (unw ρ ρ3 vs) σ := by
  refine ⟨R.toBse, by rw [unw_len, ← R.len]; exact ol.symm, fun i d e => ?_, fun i d e => ?_, fun i e => ?_, fun i j d e a n q q' r => ?_⟩
  · rcases unw_get e (fun z => nomatch z) with ⟨h1, h2⟩ | ⟨h2, _⟩
    · rw [← o i h1]; exact R.sl i d h2
    · obtain ⟨v, x1, x2⟩ := R0.sl i d h2
      exact ⟨v, x1, x2.mono s⟩
  · rcases unw_get e (fun z => nomatch z) with ⟨h1, h2⟩ | ⟨h2, h3⟩
    · rw [← o i h1]; exact R.ow i d h2
    · rcases h3 with h3 | ⟨_, h3⟩ <;> cases h3
  · rcases unw_get e (fun z => nomatch z) with ⟨h1, h2⟩ | ⟨h2, h3⟩
    · rw [← o i h1]; exact R.so i h2
    · obtain ⟨s, c, x1, x2⟩ := R0.so i h2
      exact ⟨s, c, hZ.trans x1, x2⟩
  · rcases unw_get q (fun z => nomatch z) with ⟨h1, h2⟩ | ⟨h2, h3⟩
    · rcases unw_get q' (fun z => nomatch z) with ⟨h1', h2'⟩ | ⟨h2', h3'⟩
      · rw [← o i h1] at r
        rw [← o j h1']
        exact R.ap i j d e a n h2 h2' r
      · rcases h3' with h3 | ⟨_, h3⟩ <;> cases h3
    · rcases h3 with h3 | ⟨_, h3⟩ <;> cases h3
/-- a new object under protection -/
theorem Rel.protect (R : Rel K B F H ρ σ) {p : Addr} {o : HO} (h : H p = none) : Rel K (B.wP (upd B.P p o)) F (upd H p o) ρ σ := by
  have R' := R.allocO (o := o) h
  refine ⟨⟨R'.fz, R'.f0, R'.nf, R'.kp, R'.sr, fun b x e => ?_⟩, R'.len, R'.sl, fun i d e => ?_, R'.so, R'.ap⟩
  · have e : upd B.P p o b = some x := e
    by_cases hb : b = p
    · subst hb
      rw [upd_same] at e
      cases e
      exact ⟨upd_same, R.freeF h, R.toBse.free0 h⟩
    · rw [upd_ne hb] at e
      exact R'.pr b x e
  · obtain ⟨a, ho, h1, h2, h3, hP, h4, h5⟩ := R.ow i d e
    have n : a ≠ p := ne_of_none h4 h
    exact ⟨a, ho, h1, h2, h3, by show upd B.P p o a = none; rw [upd_ne n]; exact hP, by rw [upd_ne n]; exact h4, h5⟩
theorem Rel.reprotect {P : Hp} {p : Addr} {o o' : HO} (hP : P p = none) (R : Rel K (B.wP (upd P p o)) F H ρ σ) : Rel K (B.wP (upd P p o')) F (upd H p o') ρ σ := by
  obtain ⟨h1, h2, h3⟩ := R.pr p o upd_same
  have ns : NotSrc B.Z p := fun s c e => by
    obtain ⟨_, _, _, _, r1, r2⟩ := R.sr s c e
    exact ⟨fun z => r1 (z ▸ h3), fun z => r2 (z ▸ h3)⟩
  refine ⟨⟨fun b x e => ?_, R.f0, R.nf, fun b x e n => ?_, fun s c e => ?_, fun b x e => ?_⟩, R.len, R.sl, fun i d e => ?_, R.so, R.ap⟩
  · rw [upd_ne (ne_of_none e h2)]; exact R.fz b x e
  · rw [upd_ne (ne_of_none e h3)]; exact R.kp b x e n
  · obtain ⟨a, fs, fc, ne, r1, r2⟩ := R.sr s c e
    obtain ⟨n1, n2⟩ := ns s c e
    exact ⟨a.at (upd_ne (Ne.symm n1)) (upd_ne (Ne.symm n2)), fs, fc, ne, r1, r2⟩
  · have e : upd P p o' b = some x := e
    by_cases hb : b = p
    · subst hb
      rw [upd_same] at e
      cases e
      exact ⟨upd_same, h2, h3⟩
    · rw [upd_ne hb] at e
      obtain ⟨g1, g2, g3⟩ := R.pr b x (by show upd P p o b = some x; rw [upd_ne hb]; exact e)
      exact ⟨by rw [upd_ne hb]; exact g1, g2, g3⟩
  · obtain ⟨a, ho, g1, g2, g3, gP, g4, g5⟩ := R.ow i d e
    have n : a ≠ p := fun z => by
      have gP : upd P p o a = none := gP
      rw [z, upd_same] at gP
      cases gP
    have gP : upd P p o a = none := gP
    rw [upd_ne n] at gP
    exact ⟨a, ho, g1, g2, g3, by show upd P p o' a = none; rw [upd_ne n]; exact gP, by rw [upd_ne n]; exact g4, g5⟩
theorem Rel.release {p : Addr} {o : HO} (hP : B.P p = none) (R : Rel K (B.wP (upd B.P p o)) F H ρ σ) : Rel K B F H ρ σ ∧ FreshAt B F H ρ σ p o := by
  obtain ⟨h1, h2, h3⟩ := R.pr p o upd_same
  have own : ∀ (i : Nat) (d : D), ρ[i]? = some (.own d) → ∃ a ho, σ[i]? = some (some (.ref a)) ∧ F a = none ∧ B.H0 a = none ∧ B.P a = none ∧ H a = some ho ∧ OwnP K F ho d ∧ a ≠ p := fun i d e => by
    obtain ⟨a, ho, g1, g2, g3, gP, g4, g5⟩ := R.ow i d e
    have n : a ≠ p := fun z => by
      have gP : upd B.P p o a = none := gP
      rw [z, upd_same] at gP
      cases gP
    have gP : upd B.P p o a = none := gP
    rw [upd_ne n] at gP
    exact ⟨a, ho, g1, g2, g3, gP, g4, g5, n⟩
  refine ⟨⟨⟨R.fz, R.f0, R.nf, R.kp, R.sr, fun b x e => ?_⟩, R.len, R.sl, fun i d e => ?_, R.so, R.ap⟩, h2, h3, hP, h1, fun j e q z => ?_⟩
  · have n : b ≠ p := ne_of_none e hP
    exact R.pr b x (by show upd B.P p o b = some x; rw [upd_ne n]; exact e)
  · obtain ⟨a, ho, g1, g2, g3, gP, g4, g5, _⟩ := own i d e
    exact ⟨a, ho, g1, g2, g3, gP, g4, g5⟩
  · obtain ⟨a, ho, g1, g2, g3, gP, g4, g5, n⟩ := own j e q
    rw [g1] at z
    cases z
    exact n rfl
end
abbrev ownS (own : List (Str × Nat)) : List Nat := own.map (·.2)
def noEX : EK := fun _ _ => False
def W0 : WX := fun _ _ _ _ => False
def aLcL (g : AG) (tt : AT) (te : AE) (vs : List Nat) : List D → List D → List AV → (List D → List AV → Prop) → Prop
  | [], acc, ρ, Q => Q acc ρ
  | d :: ds, acc, ρ, Q => g d (wipeA ρ vs) fun ρ1 => tt noEX ρ1 fun b ρ2 => if b = true then te noEX ρ2 fun y ρ3 => acc.length < sizeLine ∧ aLcL g tt te vs ds (acc ++ [y]) (unw ρ ρ3 vs) Q else aLcL g tt te vs ds acc (unw ρ ρ2 vs) Q
@[simp] def aLc (ti : AI) (g : AG) (tt : AT) (te : AE) (vs : List Nat) : AE := fun EX ρ Q => ti EX ρ fun ds ρ' => aLcL g tt te vs ds [] ρ' fun acc ρ2 => Q (.lst acc) ρ2
@[simp] def aYes : AT := fun _ ρ Q => Q true ρ
def uE (K : PySem.W.Frag) (B : Bas) (t : AE) : TE := fun σ H Q => ∃ P, cE K (B.wP P) W0 t σ H Q
def uT (K : PySem.W.Frag) (B : Bas) (t : AT) : TT := fun σ H Q => ∃ P, cT K (B.wP P) W0 t σ H Q
def uG (K : PySem.W.Frag) (B : Bas) (vs : List Nat) (t : AG) : TG := fun v σ H Q => ∃ P, cG K (B.wP P) vs t v σ H Q
def STs (X : Cx) (B : Bas) (W : WX) (ifs : List Expr) (t : AT) : Prop := PTs X ifs (cT X.K B W t)
section
variable {X : Cx} {B : Bas} {W : WX} {a b c e tg iter elt : Expr} {es ifs : List Expr} {ta tb tc te : AE} {t u : AS} {tt : AT} {s : AA} {pos p : Pos} {ti : AI} {g : AG}
theorem sts_nil : STs X B W [] aYes := by
  refine ⟨fun pins s σ H Q I q => pts_nil.run pins s σ H Q I ?_⟩
  obtain ⟨ρ, F, EX, Q0, R, t, k, kx⟩ := q
  exact k _ ρ t F H R (Same.refl _)
theorem sts_one (h : ST X B W c tt) : STs X B W [c] tt := pts_one h
theorem PE_ex {T : Hp → TE} (h : ∀ P, PE X e (T P)) : PE X e (fun σ H Q => ∃ P, T P σ H Q) := ⟨fun pins s σ H Q I ⟨P, q⟩ => (h P).run pins s σ H Q I q⟩
theorem PG_ex {T : Hp → TG} (h : ∀ P, PG X e (T P)) : PG X e (fun v σ H Q => ∃ P, T P v σ H Q) := ⟨fun pins s σ H v u Q I r ⟨P, q⟩ => (h P).run pins s σ H v u Q I r q⟩
theorem PTs_ex {T : Hp → TT} (h : ∀ P, PTs X ifs (T P)) : PTs X ifs (fun σ H Q => ∃ P, T P σ H Q) := ⟨fun pins s σ H Q I ⟨P, q⟩ => (h P).run pins s σ H Q I q⟩

/-- the comprehension's concrete reading from its abstract one -/
theorem cLc {K : PySem.W.Frag} {vs : List Nat} {σ : L2.St} {H : Hp} {Q : VK} (q : cF K B W (aLc ti g tt te vs) σ H Q) : tLc (cI K B W ti) (uG K B vs g) (uT K B tt) (uE K B te) vs σ H Q := by
  obtain ⟨ρ, F, EX, Q0, R, t0, k, kx⟩ := q
  refine ⟨ρ, F, EX, _, R, t0, fun ds ρ1 t1 J F1 H1 R1 s1 w1 => ?_, kx⟩
  intro D hD
  have hP : B.P D = none := R1.toBse.freeP hD
  refine ⟨fun i m H => m = ds.length - i ∧ i ≤ ds.length ∧ ∃ ρ F2 av acc, Rel K (B.wP (upd B.P D (.lst av))) F2 H ρ σ ∧ Same F1 F2 ∧ DPs K F2 av acc ∧ aLcL g tt te vs (ds.drop i) acc ρ (fun acc ρ2 => Q0 (.lst acc) ρ2),
    ⟨_, rfl, Nat.zero_le _, ρ1, F1, [], [], R1.protect hD, Same.refl _, .nil, t1⟩, ?_⟩
  rintro i m H' ⟨rfl, hi, ρ2, F2, av, acc, R2, s2, p2, t2⟩
  by_cases hlt : i < ds.length
  · obtain ⟨d, hd⟩ : ∃ d, ds[i]? = some d := ⟨ds[i], by simp [hlt]⟩
    rw [drop_cons hd] at t2
    refine .inr ⟨w1.go i F2 H' s2 R2.fz hlt, fun H3 => ∃ ρ3 F3 av3 acc3, Rel K (B.wP (upd B.P D (.lst av3))) F3 H3 ρ3 σ ∧ Same F1 F3 ∧ DPs K F3 av3 acc3 ∧ aLcL g tt te vs (ds.drop (i + 1)) acc3 ρ3 (fun acc ρ2 => Q0 (.lst acc) ρ2),
      fun H3 ⟨ρ3, F3, av3, acc3, R3, s3, p3, t3⟩ => ⟨_, by omega, rfl, hlt, ρ3, F3, av3, acc3, R3, s3, p3, t3⟩, fun x H4 y => ?_⟩
    obtain ⟨F4, R4, s4, q4⟩ := w1.item R2 s2 hd y
    refine ⟨_, wipeA ρ2 vs, F4, d, _, R4.wiped vs, q4, t2, fun ρ5 σ5 F5 H5 n5 R5 s5 o5 => ?_⟩
    have o5' : ∀ j, j ∉ vs → σ5[j]? = σ[j]? := fun j hj => (o5.2 j hj).trans (wipe_get hj)
    have l5 : σ5.length = σ.length := o5.1.trans (wipe_length _ _)
    refine ⟨?_, ?_⟩
    · exact wipe_only o5' l5
    refine ⟨_, ρ5, F5, _, _, R5, n5, fun b ρ6 t6 F6 H6 R6 s6 => ?_, fun _ _ z => z.elim⟩
    have s16 : Same F1 F6 := ((s2.trans s4).trans s5).trans s6
    cases b with
    | false => exact ⟨_, F6, av, acc, R2.unwiped (B' := B.wP (upd B.P D (.lst av))) rfl R6 ((s4.trans s5).trans s6) o5' l5, s16, p2.mono ((s4.trans s5).trans s6), t6⟩
    | true =>
      refine ⟨_, ρ6, F6, _, _, R6, t6, fun y ρ7 t7 v F7 H7 R7 s7 q7 => ?_, fun _ _ z => z.elim⟩
      have s27 : Same F2 F7 := ((s4.trans s5).trans s6).trans s7
      have p7 := p2.mono s27
      refine ⟨av, (R7.pr D (.lst av) upd_same).1, by rw [p7.length]; exact t7.1, ?_⟩
      refine ⟨_, F7, av ++ [v], acc ++ [y], ?_, s2.trans s27, p7.append (.cons q7 .nil), t7.2⟩
      exact (R2.unwiped (B' := B.wP (upd B.P D (.lst av))) rfl R7 s27 o5' l5).reprotect hP
  · have e : i = ds.length := by omega
    subst e
    rw [List.drop_length] at t2
    obtain ⟨R3, f3⟩ := R2.release hP
    exact .inl ⟨w1.stop _ F2 H' s2 R2.fz (Nat.le_refl _), k _ ρ2 t2 D _ F2 H' R3 (s1.trans s2) f3 (.lst p2)⟩
theorem sf_lc {scope : Scope} {own : List (Str × Nat)} (hc : X.calm = true) (hN : X.N.Nodup) (hi : SI X B W tg iter ti) (ok : BlkOk X.N X.env.scope scope own)
    (hg : ∀ (s : Shared) (H : Hp) (C : Addr) (cl : List (Str × Addr)) (fp : List Addr) (P : Hp), SG (X.blk s H scope (compEnvC scope cl C X.env) fp) (B.wP P) (ownS own) tg g)
    (ht : ∀ (s : Shared) (H : Hp) (C : Addr) (cl : List (Str × Addr)) (fp : List Addr) (P : Hp), STs (X.blk s H scope (compEnvC scope cl C X.env) fp) (B.wP P) W0 ifs tt)
    (he : ∀ (s : Shared) (H : Hp) (C : Addr) (cl : List (Str × Addr)) (fp : List Addr) (P : Hp), SE (X.blk s H scope (compEnvC scope cl C X.env) fp) (B.wP P) W0 elt te) (hs : ∀ x, foldedSetIterable iter X.env x = pure x := by intro _; rfl) :
    SF X B W (.ListComp elt [⟨tg, iter, ifs, 0⟩] scope pos) (aLc ti g tt te (ownS own)) :=
  PE_imp (pe_lc (g := uG X.K B (ownS own) g) (tt := uT X.K B tt) (te := uE X.K B te) hc hN hi ok (fun s H C cl fp => PG_ex (T := fun P => cG X.K (B.wP P) (ownS own) g) fun P => hg s H C cl fp P) (fun s H C cl fp => PTs_ex (T := fun P => cT X.K (B.wP P) W0 tt) fun P => ht s H C cl fp P) (fun s H C cl fp => PE_ex (T := fun P => cE X.K (B.wP P) W0 te) fun P => he s H C cl fp P) hs) fun _ _ _ q => cLc q
/-- y = [..], y a local on the same row -/
theorem ps_lcS {i : Nat} {y : Str} {py : Pos} {scope : Scope} {own : List (Str × Nat)} {spos : Pos} (hc : X.calm = true) (hN : X.N.Nodup) (hy : X.N[i]? = some y) (hyl : X.env.scope.names.lookup y = some .local)
    (hsw : swapsWith (.ListComp elt [⟨tg, iter, ifs, 0⟩] scope pos) (some (.Name y py)) spos.line X.env = pure true) (hi : SI X B W tg iter ti) (ok : BlkOk X.N X.env.scope scope own)
    (hg : ∀ (s : Shared) (H : Hp) (C : Addr) (cl : List (Str × Addr)) (fp : List Addr) (P : Hp), SG (X.blk s H scope (compEnvC scope cl C X.env) fp) (B.wP P) (ownS own) tg g)
    (ht : ∀ (s : Shared) (H : Hp) (C : Addr) (cl : List (Str × Addr)) (fp : List Addr) (P : Hp), STs (X.blk s H scope (compEnvC scope cl C X.env) fp) (B.wP P) W0 ifs tt)
    (he : ∀ (s : Shared) (H : Hp) (C : Addr) (cl : List (Str × Addr)) (fp : List Addr) (P : Hp), SE (X.blk s H scope (compEnvC scope cl C X.env) fp) (B.wP P) W0 elt te) (hs : ∀ x, foldedSetIterable iter X.env x = pure x := by intro _; rfl) :
    PS X (.Assign [.Name y py] (.ListComp elt [⟨tg, iter, ifs, 0⟩] scope pos) spos) (tAsg (tLc (cI X.K B W ti) (uG X.K B (ownS own) g) (uT X.K B tt) (uE X.K B te) (ownS own)) (gName i)) :=
  ps_setLc hc hN hy hyl hsw hi ok (fun s H C cl fp => PG_ex (T := fun P => cG X.K (B.wP P) (ownS own) g) fun P => hg s H C cl fp P) (fun s H C cl fp => PTs_ex (T := fun P => cT X.K (B.wP P) W0 tt) fun P => ht s H C cl fp P) (fun s H C cl fp => PE_ex (T := fun P => cE X.K (B.wP P) W0 te) fun P => he s H C cl fp P) hs
theorem tLc_mono {wi : TI} {g : TG} {tt : TT} {te : TE} {vs : List Nat} {σ : L2.St} {H : Hp} {Q Q' : VK} (hw : ∀ R R' : It → Hp → Prop, (∀ J H, R J H → R' J H) → wi σ H R → wi σ H R') (hq : ∀ v H, Q v H → Q' v H) (h : tLc wi g tt te vs σ H Q) : tLc wi g tt te vs σ H Q' := by
  refine hw _ _ (fun J H1 h1 D hD => ?_) h
  obtain ⟨Wm, h0, turn⟩ := h1 D hD
  refine ⟨Wm, h0, fun i m H w => ?_⟩
  rcases turn i m H w with ⟨a, b⟩ | b
  · exact .inl ⟨a, hq _ _ b⟩
  · exact .inr b
theorem cI_mono {K : PySem.W.Frag} {σ : L2.St} {H : Hp} : ∀ R R' : It → Hp → Prop, (∀ J H, R J H → R' J H) → cI K B W ti σ H R → cI K B W ti σ H R' := by
  rintro R R' h ⟨ρ, F, EX, Q0, r, t, k, kx⟩
  exact ⟨ρ, F, EX, Q0, r, t, fun ds ρ' q J F' H' r' s' w' => h _ _ (k ds ρ' q J F' H' r' s' w'), kx⟩
theorem ss_setLcO {i : Nat} {y : Str} {py : Pos} {scope : Scope} {own : List (Str × Nat)} {spos : Pos} (hc : X.calm = true) (hN : X.N.Nodup) (hy : X.N[i]? = some y) (hyl : X.env.scope.names.lookup y = some .local)
    (hsw : swapsWith (.ListComp elt [⟨tg, iter, ifs, 0⟩] scope pos) (some (.Name y py)) spos.line X.env = pure true) (hi : SI X B W tg iter ti) (ok : BlkOk X.N X.env.scope scope own)
    (hg : ∀ (s : Shared) (H : Hp) (C : Addr) (cl : List (Str × Addr)) (fp : List Addr) (P : Hp), SG (X.blk s H scope (compEnvC scope cl C X.env) fp) (B.wP P) (ownS own) tg g)
    (ht : ∀ (s : Shared) (H : Hp) (C : Addr) (cl : List (Str × Addr)) (fp : List Addr) (P : Hp), STs (X.blk s H scope (compEnvC scope cl C X.env) fp) (B.wP P) W0 ifs tt)
    (he : ∀ (s : Shared) (H : Hp) (C : Addr) (cl : List (Str × Addr)) (fp : List Addr) (P : Hp), SE (X.blk s H scope (compEnvC scope cl C X.env) fp) (B.wP P) W0 elt te) (hs : ∀ x, foldedSetIterable iter X.env x = pure x := by intro _; rfl) :
    SS X B W (.Assign [.Name y py] (.ListComp elt [⟨tg, iter, ifs, 0⟩] scope pos) spos) (aSetO i (aLc ti g tt te (ownS own))) :=
  PS_imp (ps_lcS hc hN hy hyl hsw hi ok hg ht he hs) fun D σ H q => cLc (cSetO q)
theorem ss_setLc {i : Nat} {y : Str} {py : Pos} {scope : Scope} {own : List (Str × Nat)} {spos : Pos} (hc : X.calm = true) (hN : X.N.Nodup) (hy : X.N[i]? = some y) (hyl : X.env.scope.names.lookup y = some .local)
    (hsw : swapsWith (.ListComp elt [⟨tg, iter, ifs, 0⟩] scope pos) (some (.Name y py)) spos.line X.env = pure true) (hi : SI X B W tg iter ti) (ok : BlkOk X.N X.env.scope scope own)
    (hg : ∀ (s : Shared) (H : Hp) (C : Addr) (cl : List (Str × Addr)) (fp : List Addr) (P : Hp), SG (X.blk s H scope (compEnvC scope cl C X.env) fp) (B.wP P) (ownS own) tg g)
    (ht : ∀ (s : Shared) (H : Hp) (C : Addr) (cl : List (Str × Addr)) (fp : List Addr) (P : Hp), STs (X.blk s H scope (compEnvC scope cl C X.env) fp) (B.wP P) W0 ifs tt)
    (he : ∀ (s : Shared) (H : Hp) (C : Addr) (cl : List (Str × Addr)) (fp : List Addr) (P : Hp), SE (X.blk s H scope (compEnvC scope cl C X.env) fp) (B.wP P) W0 elt te) (hs : ∀ x, foldedSetIterable iter X.env x = pure x := by intro _; rfl) :
    SS X B W (.Assign [.Name y py] (.ListComp elt [⟨tg, iter, ifs, 0⟩] scope pos) spos) (aSet i (aLc ti g tt te (ownS own))) := by
  refine PS_imp (ps_lcS hc hN hy hyl hsw hi ok hg ht he hs) fun D σ H q => ?_
  obtain ⟨ρ, F, A, R, t, k⟩ := q
  refine cLc (Q := fun x H1 => gName i x σ H1 D.nx) ⟨ρ, F, A.ex, _, R, t, fun d ρ1 t1 a o F1 H1 R1 s1 f p1 => ?_, k.ex σ⟩
  exact k.nx _ _ _ H1 t1 ((R1.freezeX f).store (own_dp f.1 p1)) (s1.trans (same_upd f.1))
end
end PU
set_option Elab.async false
set_option linter.all false
set_option maxRecDepth 100000
namespace PU
open PySem PySem.Spec L2
set_option autoImplicit false

/-! ### a def by its body -/
@[simp] def startA (N : List Str) (ds : List D) : List AV := ds.map .dat ++ List.replicate (N.length - ds.length) .un
@[simp] def startZ (N : List Str) (ds : List D) : List AV := .src :: (ds.map .dat ++ List.replicate (N.length - (ds.length + 1)) .un)
@[simp] def runA (N : List Str) (t : AS) : AF := fun ds Q E => t { nx := fun _ => Q .non, rt := Q, ex := fun x _ => E x } (startA N ds)
@[simp] def runZ (N : List Str) (t : AS) : AF := fun ds Q E => t { nx := fun _ => Q .non, rt := Q, ex := fun x _ => E x } (startZ N ds)
theorem startA_get {N : List Str} {ds : List D} {i : Nat} {u : AV} (h : (startA N ds)[i]? = some u) : (i < ds.length ∧ ∃ d, ds[i]? = some d ∧ u = .dat d) ∨ u = .un := by
  unfold startA at h
  by_cases hi : i < ds.length
  · rw [List.getElem?_append_left (by simpa using hi), List.getElem?_map] at h
    cases e : ds[i]? with
    | none => rw [e] at h; cases h
    | some d => rw [e] at h; cases h; exact .inl ⟨hi, d, rfl, rfl⟩
  · rw [List.getElem?_append_right (by simpa using hi), List.getElem?_replicate] at h
    split at h
    · cases h; exact .inr rfl
    · cases h
theorem start_get {N : List Str} {vs : List V} {i : Nat} {v : V} (h : vs[i]? = some v) : (L2.start N vs)[i]? = some (some v) := by
  have hi : i < vs.length := (List.getElem?_eq_some_iff.mp h).1
  unfold L2.start
  rw [List.getElem?_append_left (by simpa using hi), List.getElem?_map, h]
  rfl
theorem rel_start {K : PySem.W.Frag} {ec : Str → Option Addr} {F H : Hp} {N : List Str} {vs : List V} {ds : List D} (b : Bse ⟨ec, none, fun _ => none, F, H⟩ F H) (p : DPs K F vs ds) (hl : ds.length ≤ N.length) :
    Rel K ⟨ec, none, fun _ => none, F, H⟩ F H (startA N ds) (L2.start N vs) := by
  refine ⟨b, ?_, fun i d e => ?_, fun i d e => ?_, fun i e => ?_, fun i j d e a n q q' r => ?_⟩
  · unfold L2.start startA
    simp [p.length]
  · rcases startA_get e with ⟨hi, d', h1, h2⟩ | h
    · cases h2
      obtain ⟨v, h3, h4⟩ := p.get h1
      exact ⟨v, start_get h3, h4⟩
    · cases h
  · rcases startA_get e with ⟨hi, d', h1, h2⟩ | h
    · cases h2
    · cases h
  · rcases startA_get e with ⟨hi, d', h1, h2⟩ | h
    · cases h2
    · cases h
  · rcases startA_get q with ⟨hi, d', h1, h2⟩ | h
    · cases h2
    · cases h
theorem startZ_get {N : List Str} {ds : List D} {i : Nat} {u : AV} (h : (startZ N ds)[i]? = some u) : (i = 0 ∧ u = .src) ∨ (∃ j, i = j + 1 ∧ j < ds.length ∧ ∃ d, ds[j]? = some d ∧ u = .dat d) ∨ u = .un := by
  unfold startZ at h
  cases i with
  | zero => simp at h; exact .inl ⟨rfl, h.symm⟩
  | succ j =>
    rw [List.getElem?_cons_succ] at h
    by_cases hi : j < ds.length
    · rw [List.getElem?_append_left (by simpa using hi), List.getElem?_map] at h
      cases e : ds[j]? with
      | none => rw [e] at h; cases h
      | some d => rw [e] at h; cases h; exact .inr (.inl ⟨j, rfl, hi, d, e, rfl⟩)
    · rw [List.getElem?_append_right (by simpa using hi), List.getElem?_replicate] at h
      split at h
      · cases h; exact .inr (.inr rfl)
      · cases h
theorem rel_startZ {K : PySem.W.Frag} {ec : Str → Option Addr} {F H : Hp} {N : List Str} {vs : List V} {ds : List D} {s c : Addr} (b : Bse ⟨ec, some (s, c), fun _ => none, F, H⟩ F H) (p : DPs K F vs ds) (hl : ds.length + 1 ≤ N.length) :
    Rel K ⟨ec, some (s, c), fun _ => none, F, H⟩ F H (startZ N ds) (L2.start N (.ref s :: vs)) := by
  refine ⟨b, ?_, fun i d e => ?_, fun i d e => ?_, fun i e => ?_, fun i j d e a n q q' r => ?_⟩
  · unfold L2.start startZ
    simp [p.length]
  · rcases startZ_get e with ⟨_, h⟩ | ⟨j, rfl, hj, d', h1, h2⟩ | h
    · cases h
    · cases h2
      obtain ⟨v, h3, h4⟩ := p.get h1
      exact ⟨v, start_get (by rw [List.getElem?_cons_succ]; exact h3), h4⟩
    · cases h
  · rcases startZ_get e with ⟨_, h⟩ | ⟨j, rfl, hj, d', h1, h2⟩ | h
    · cases h
    · cases h2
    · cases h
  · rcases startZ_get e with ⟨rfl, h⟩ | ⟨j, rfl, hj, d', h1, h2⟩ | h
    · exact ⟨s, c, rfl, start_get rfl⟩
    · cases h2
    · cases h
  · rcases startZ_get q with ⟨_, h⟩ | ⟨j, rfl, hj, d', h1, h2⟩ | h
    · cases h
    · cases h2
    · cases h
section
variable {P : Program} {w : World} {K : PySem.W.Frag} {mg : Str → Option Value} {base : Heap}
/-- what a body is asked to show -/
def BodyOk (P : Program) (w : World) (K : PySem.W.Frag) (mg : Str → Option Value) (base : Heap) (ec : Str → Option Addr) (qual : Str) (st : Stmt) (f : Addr) (N : List Str) (k : Nat) (t : AS) : Prop :=
  ∀ (cdv : Value) (A : Around) (outer : List Env) (s : Shared) (H : Hp) (E : XK) (B : Bas) (W : WX), B.ec = ec → RoomG k (A.deeper (PyProof.Rows.envOfC qual (defScope st) s.heap.objs.size f cdv)) →
    Takes (cxOf (L2.CX P w) P w K mg base N qual (defScope st) f cdv A outer s H E) W →
    SSs (cxOf (L2.CX P w) P w K mg base N qual (defScope st) f cdv A outer s H E) B W (defBody st) t
theorem okG_of {x qual : Str} {st : Stmt} {f : Addr} {fd : FuncData} {N ps : List Str} {k : Nat} {sp : Sp} (F : L2.Fun K x qual st f fd) (S : FnScope N ps (defScope st)) (len : ∀ vs H Q E, sp vs H Q E → vs.length = ps.length)
    (body_ok : ∀ (cdv : Value) (A : Around) (outer : List Env) (s : Shared) (H : Hp) (vs : List V) (Q : VK) (E : XK), RoomG k (A.deeper (PyProof.Rows.envOfC qual (defScope st) s.heap.objs.size f cdv)) → sp vs H Q E →
      ∃ t, PSs (cxOf (L2.CX P w) P w K mg base N qual (defScope st) f cdv A outer s H E) (defBody st) t ∧ t { nx := fun _ H' => Q .non H', rt := Q } (L2.start N vs) H) : FnG P w K mg base (k + 1) f fd ps sp := by
  obtain ⟨oc, od, kV, doc, pm, an, cdv, ct, osl, rfl, lk, hcd⟩ := F.ex
  exact fnG_of lk hcd S len fun A outer s H vs Q E hr hsp => body_ok cdv A outer s H vs Q E hr hsp
theorem def_ok {x qual : Str} {st : Stmt} {f : Addr} {fd : FuncData} {N ps : List Str} {k : Nat} {ec : Str → Option Addr} {t : AS} (F : Fun K x qual st f fd) (S : FnScope N ps (defScope st)) (hm : mg x = some (.ref f)) (bd : Binds K fd ps [])
    (body : BodyOk P w K mg base ec qual st f N k t) : DefOk P w K mg base x (k + 1) (spOf K ec ps.length (runA N t)) := by
  have hpl : ps.length ≤ N.length := by have := congrArg List.length S.pre; rw [List.length_take] at this; omega
  refine ⟨f, fd, ps, hm, F.kp, bd, okG_of F S (fun vs H Q E h => ?_) (fun cdv A outer s H vs Q E hr h => ?_)⟩
  · obtain ⟨F0, ds, Q0, E0, h1, h2, h3, _⟩ := h
    rw [h3.length, h1]
  · obtain ⟨F0, ds, Q0, E0, h1, h2, h3, h4, h5, h6⟩ := h
    refine ⟨_, body cdv A outer s H E ⟨ec, none, fun _ => none, F0, H⟩ (fun cls d _ H => E cls d H) rfl hr (takes_of rfl rfl rfl rfl), startA N ds, F0, _, rel_start h2 h3 (by omega), h4, ?_⟩
    refine ⟨fun ρ' σ' F' H' q R s' => h5 .non q .non F' H' R.toBse .non, h5, fun _ _ _ _ q => q.elim, fun _ _ _ _ q => q.elim, fun σ x ρ' q cls d F' H' R xp => h6 x q cls d F' H' R.toBse xp⟩
theorem def_okZ {x qual : Str} {st : Stmt} {f : Addr} {fd : FuncData} {N ps : List Str} {k n : Nat} {ec : Str → Option Addr} {t : AS} (F : Fun K x qual st f fd) (S : FnScope N ps (defScope st)) (hm : mg x = some (.ref f)) (bd : Binds K fd ps [])
    (hn : ps.length = n + 1) (body : BodyOk P w K mg base ec qual st f N k t) : DefOk P w K mg base x (k + 1) (spOfZ K ec n (runZ N t)) := by
  have hpl : ps.length ≤ N.length := by have := congrArg List.length S.pre; rw [List.length_take] at this; omega
  refine ⟨f, fd, ps, hm, F.kp, bd, okG_of F S (fun vs H Q E h => ?_) (fun cdv A outer s H vs Q E hr h => ?_)⟩
  · obtain ⟨s, c, vs', F0, ds, Q0, E0, rfl, h1, h2, h3, _⟩ := h
    rw [List.length_cons, h3.length, h1, hn]
  · obtain ⟨sa, c, vs', F0, ds, Q0, E0, rfl, h1, h2, h3, h4, h5, h6⟩ := h
    refine ⟨_, body cdv A outer s H E ⟨ec, some (sa, c), fun _ => none, F0, H⟩ (fun cls d _ H => E cls d H) rfl hr (takes_of rfl rfl rfl rfl), startZ N ds, F0, _, rel_startZ h2 h3 (by omega), h4, ?_⟩
    refine ⟨fun ρ' σ' F' H' q R s' => h5 .non q .non F' H' R.toBse .non, h5, fun _ _ _ _ q => q.elim, fun _ _ _ _ q => q.elim, fun σ x ρ' q cls d F' H' R xp => h6 x q cls d F' H' R.toBse xp⟩
theorem mod_const {X : Cx} {B : Bas} {W : WX} {x : Str} {v : V} {u : Value} {d : D} {pos : Pos} (hg : Gl X x) (hm : X.mg x = some u) (r : RelV v u) (h : ∀ F, DP X.K F v d) (hd : (x == ("__debug__" : Str)) = false := by decide) : SE X B W (.Name x pos) (aC d) :=
  se_c (pe_glob hg hm r hd) h
end
end PU
set_option Elab.async false
set_option linter.all false
set_option maxRecDepth 100000
namespace PU
open PySem PySem.Spec L2
set_option autoImplicit false

/-! ### exceptions with super().__init__(f); self.f = f -/
/-- the text of such an __init__ -/
def supB (f : Str) (a1 a2 a3 a4 a5 a6 b1 b2 b3 b4 : Pos) : List Stmt :=
  [.Expr (.Call (.Attribute (.Call (.Name "super" a1) [] [] a2) "__init__" a3) [.Name f a4] [] a5) a6, .Assign [.Attribute (.Name "self" b1) f b2] (.Name f b3) b4]
/-- what the written part says of the class at C, of its __init__ at fI (its code at cda, the cell of the class at cc) -/
structure ExcT (P : Program) (K : PySem.W.Frag) (mg : Str → Option Value) (C fI cda cc : Addr) (qual : Str) (pa : Arguments) (body : List Stmt) (sc : Scope) : Prop where
  cls : ∃ nm q N bs bm sn sub ab col dd k0 k1 k2 k3 k5, K.lookup C = some (excClassObj nm q C N bs bm true sn sub ab col dd k0 k1 k2 k3 k5 "ValueError.__new__") ∧ PySem.HandSPX.refsVE bm = true
  sa : PySem.W.findIn K (.ref C) "__setattr__" = some (some (.builtin "object.__setattr__"))
  ga : PySem.W.findIn K (.ref C) "__getattribute__" = some (some (.builtin "BaseException.__getattribute__"))
  gg : PySem.W.findIn K (.ref C) "__getattr__" = some none
  iC : PySem.W.findIn K (.ref C) "__init__" = some (some (.ref fI))
  tI : PySem.W.typeIn K (.ref fI) = some (.type "function")
  kC : PySem.W.keepIn K (.ref C) = true
  exC : PySem.W.subIn K (.ref C) (.type "BaseException") = some true
  tyC : PySem.W.typeIn K (.ref C) = some (.type "type")
  hdC : PySem.W.hasDictIn K C = true
  exi : PySem.W.excInitIn K C PySem.HandSPX.veTail "ValueError.__new__" = true
  sup : PySem.W.ks_superIn K C C "__init__" = some (some (.builtin "ValueError.__init__"))
  sbV : PySem.W.subIn K (.ref C) (.type "ValueError") = some true
  sbC : PySem.W.mroIn K C (.ref C) = some true
  opq : PySem.W.nsIn K cStatics "thirdparty.any" = some none
  fn : ∃ (oc : Value) (od : Option Addr) (kV doc pm : Value) (an : Option Addr) (ct : Value) (osl : Array (Option Value)), K.lookup fI = some ⟨oc, od, .func (PySem.W.ksFn "__init__" qual pa body sc .none kV doc pm an (.ref cda) ct cc), osl⟩
  cod : PySem.W.codeIn K (.ref cda) qual = true
  fil : ∃ ccl cdd vs ccs file tf, K.lookup cda = some ⟨ccl, cdd, .fields vs, ccs⟩ ∧ vs[2]? = some (.str file tf) ∧ ((P.main.file : Str) == file) = true
  cel : ∃ cl cld csl, K.lookup cc = some ⟨cl, cld, .cell (some (.ref C)), csl⟩
  top : (P.main.scope.names.lookup ("super" : Str)).isSome = false
  msup : mg "super" = none
/-- its scope, its parameters -/
structure IniS (f : Str) (pa : Arguments) (sc : Scope) (a1 a2 a3 a4 a5 a6 b1 b2 b3 b4 : Pos) : Prop where
  inter : ∀ qual L fI cdv cc, interactive (PySem.W.ksEnv qual sc L fI cdv cc) = false
  sw1 : ∀ qual L fI cdv cc, swapsWith (.Call (.Attribute (.Call (.Name "super" a1) [] [] a2) "__init__" a3) [.Name f a4] [] a5) none a6.line (PySem.W.ksEnv qual sc L fI cdv cc) = pure false
  sw2 : ∀ qual L fI cdv cc, swapsWith (.Name f b3) (some (.Attribute (.Name "self" b1) f b2)) b4.line (PySem.W.ksEnv qual sc L fI cdv cc) = pure false
  evl : ∀ qual L fI cdv cc, ∃ pl : Sem Bool, eval (.Call (.Attribute (.Call (.Name "super" a1) [] [] a2) "__init__" a3) [.Name f a4] [] a5) (PySem.W.ksEnv qual sc L fI cdv cc) = (do
    let ov ← attributeBase (.Call (.Name "super" a1) [] [] a2) "__init__" (PySem.W.ksEnv qual sc L fI cdv cc) (eval (.Call (.Name "super" a1) [] [] a2) (PySem.W.ksEnv qual sc L fI cdv cc))
    standAt a3.atName
    let (g, first) ← holding [ov] (getMethod ov "__init__" pl)
    callWith a5 g first (backTo a5 (starEach [.Name f a4] (PySem.W.ksEnv qual sc L fI cdv cc))) [])
  kd : sc.kind = .function
  co : sc.isCoroutine = false
  ge : sc.isGenerator = false
  nocell : ∀ x ∈ sc.names, x.2 ≠ .cell
  lself : sc.names.lookup ("self" : Str) = some .local
  lf : sc.names.lookup f = some .local
  lsup : sc.names.lookup ("super" : Str) = some .globalImplicit
  lcls : sc.names.lookup ("__class__" : Str) = some .free
  ne : f ≠ ("self" : Str)
  nd : (f == ("__debug__" : Str)) = false
  hd : ∃ ar, (pa.posonlyargs ++ pa.args).head? = some ar ∧ ar.arg = ("self" : Str)
  bnd : ∀ (q : Str) (body : List Stmt) (dV kV doc pm : Value) (an : Option Addr) (cdv ct : Value) (cc : Addr) (s : Shared) (x v : Value), BindsTo s (PySem.W.ksFn "__init__" q pa body sc .none kV doc pm an cdv ct cc) ⟨[x, v], []⟩ [(("self" : Str), x), (f, v)]
structure Ini1 (h₀ h' : Heap) (x C dx t1 : Addr) (f : Str) (v : Value) : Prop where
  keep : ∀ b o, h₀.get? b = some o → h'.get? b = some o
  obj : h'.get? x = some { cls := .ref C, dict := some dx, data := .fields #[.ref t1, .none, .none, .none, .bool false, .none] }
  dbig : h₀.objs.size ≤ dx
  dne : dx ≠ x
  ns : h'.Ns1 dx (fun y => if y = f then some v else none)
section
open PySem.W PySem.Calls PyProof.Rows PySem.HandSPX
variable {P : Program} {w : World} {A : Around} {E : Value → Shared → Prop} {R : Result → Shared → Prop} {s : Shared} {K : Frag} {mg : Str → Option Value} {base : Heap} {C fI cda cc : Addr} {qual f : Str} {pa : Arguments} {sc : Scope} {a1 a2 a3 a4 a5 a6 b1 b2 b3 b4 : Pos}
theorem ldK {M : Model} {env : Env} {m : Str → Option Value} {y : Str} {pos : Pos} {v : Value} {Q : Value → Shared → Prop} (hn : s.heap.Ns env.locals m) (hk : env.scope.kind = .function) (hl : env.kindOf y = some .local) (hd : (y == ("__debug__" : Str)) = false) (hv : m y = some v) (q : Q v s) :
    wpAny M A (eval (.Name y pos) env) Q E s := wpAny_Name (wpAny_loadName_local hk hl hn hv q) hd
theorem ini1 (T : ExcT P K mg C fI cda cc qual pa (supB f a1 a2 a3 a4 a5 a6 b1 b2 b3 b4) sc) (S : IniS f pa sc a1 a2 a3 a4 a5 a6 b1 b2 b3 b4) (Mo : L2.Mod K mg base) (noF : findIn K (.ref C) f = some none) {h₀ : Heap} {x t0 : Addr} {v : Value} (X0 : K.In h₀) (bk : ∀ b o, base.get? b = some o → h₀.get? b = some o)
    (k0 : ∀ b o, h₀.get? b = some o → s.heap.get? b = some o) (sz : h₀.objs.size ≤ s.heap.objs.size) (hlim : s.heap.NoLimit) (hx : s.heap.get? x = some (excO C t0)) (hx0 : h₀.get? x = none) (hroom : A.depth < recursionLimit)
    (hq : ∀ h' tk dx t1, Ini1 h₀ h' x C dx t1 f v → R (.ok (.ret .none)) { s with heap := h', toks := tk }) :
    codeAny (model P w) A (.call (.ref fI) ⟨[.ref x, v], []⟩) R s := by
  obtain ⟨oc, od, kV, doc, pm, an, ct, osl, ho⟩ := T.fn
  obtain ⟨ccl, cdd, vs, ccs, file, tf, hcode, hvs, hfile⟩ := T.fil
  obtain ⟨cl, cld, csl, hcel⟩ := T.cel
  obtain ⟨ar, har, hself⟩ := S.hd
  obtain ⟨nm, q, N, bs, bm, sn, sub, ab, col, dd, k1, k2, k3, k4, k5, hC, hbm⟩ := T.cls
  have hcl : clsIn K C = some { name := nm, bases := bs, mro := .ref C :: bm, ns := N, qualname := q, hasDict := true, slotNames := sn, subclasses := sub, abstract := ab, collection := col, hasDel := false } := by
    unfold clsIn
    rw [hC] <;> rfl
  refine ks_codeAny_call_defAt (fd := ksFn "__init__" qual pa _ sc .none kV doc pm an (.ref cda) ct cc) (body := supB f a1 a2 a3 a4 a5 a6 b1 b2 b3 b4) (binds := [(("self" : Str), .ref x), (f, v)]) hroom (k0 _ _ (X0 _ _ ho)) rfl hlim
    (codeRec_of (X0.keeps k0) T.cod) rfl (S.bnd _ _ .none _ _ _ _ _ _ _ _ _ _) S.nocell ?_ (fun h₁ hns hk₁ => ?_) S.co S.ge S.kd
  · intro y hy
    rcases List.mem_cons.mp hy with rfl | hy
    · exact S.lself
    · rcases List.mem_cons.mp hy with rfl | hy
      · exact S.lf
      · cases hy
  obtain ⟨L, eL⟩ : ∃ L, L = s.heap.objs.size := ⟨_, rfl⟩
  obtain ⟨m, em⟩ : ∃ m : Str → Option Value, m = fun y => [(("self" : Str), Value.ref x), (f, v)].reverse.lookup y := ⟨_, rfl⟩
  rw [← eL] at hns ⊢
  rw [← em] at hns
  have mself : m "self" = some (.ref x) := by
    rw [em]
    have e : (("self" : Str) == f) = false := by simpa using Ne.symm S.ne
    simp [List.lookup, e]
  have mf : m f = some v := by
    rw [em]
    simp [List.lookup]
  have hxL : x ≠ L := by rw [eL]; exact Nat.ne_of_lt (Heap.lt_size hx)
  have Fr1 : Fr h₀ L h₁ m := ⟨hns, fun b o e => hk₁ b o (k0 b o e), by rw [eL]; exact sz⟩
  have N1 : News h₀ L h₁ [(x, excObj C t0 none .none)] := fun p hp => by
    rcases List.mem_cons.mp hp with rfl | hp
    · exact ⟨hk₁ _ _ hx, hxL, hx0⟩
    · cases hp
  have X1 : K.In h₁ := X0.keeps Fr1.keep
  show _root_.PySem.wpAt (model P w) (A.deeper (ksEnv qual sc L fI (.ref cda) cc)) (.func (supB f a1 a2 a3 a4 a5 a6 b1 b2 b3 b4) (ksEnv qual sc L fI (.ref cda) cc)) (execs _ (ksEnv qual sc L fI (.ref cda) cc)) _ _ _
  obtain ⟨mb, hb1, hb2⟩ := Mo.blt
  have bk1 : ∀ b o, base.get? b = some o → h₁.get? b = some o := fun b o e => Fr1.keep b o (bk b o e)
  have hboot : bootBuiltins "super" = some (.type "super") := by decide +kernel
  obtain ⟨pl, hev⟩ := S.evl qual L fI (.ref cda) cc
  refine ks_wpAt_execs_cons (ks_wpAt_Expr_any (ks_wpAt_MethodCall (pl := pl) ?_ hev) (S.inter _ _ _ _ _) (S.sw1 _ _ _ _ _))
  refine ks_wpAt_super_base (env := ksEnv qual sc L fI (.ref cda) cc) (f := fI) (cc := cda) (ar := ar) S.lsup S.lcls (by decide +kernel) rfl (X1 _ _ ho) rfl har rfl (X1 _ _ hcode) rfl hvs hfile T.top ?_
  refine ks_loadName_global S.kd S.lsup (loadGlobal_builtin (env := ksEnv qual sc L fI (.ref cda) cc) (Mo.glob.keeps bk1) T.msup (hb1.keeps bk1) ((hb2 _ (by decide +kernel)).trans hboot) ⟨rfl, ?_⟩)
  refine wpAny_loadName_free S.kd S.lcls rfl ⟨_, X1 _ _ hcel, rfl⟩ ?_
  rw [hself]
  refine wpAny_loadName_local S.kd S.lself hns mself ?_
  refine ks_wpAny_isType_cls (X1 _ _ hC) rfl ⟨rfl, ?_⟩
  refine ks_wpAny_call_super (X1 _ _ hC) rfl (N1 _ List.mem_cons_self).1 rfl (fun c z => nomatch z) (looks_mroIn X1 T.sbC) (fun h2 e2 k2' => ?_)
  obtain ⟨Fr2, N2, _⟩ := ks_newsPush (s := { s with heap := h₁ }) Fr1 N1 rfl e2 k2'
  refine kxs_method kxs_ValueError (s := ⟨h2, _, _, _, _⟩) Fr2 X0 N2 List.mem_cons_self (InstAt.of_exc0 N2 (List.mem_cons_of_mem _ List.mem_cons_self)) T.opq T.sup T.sbV (by decide +kernel) (fun u h3 Fr3 N3 _ => ?_)
  refine kxs_callWith1 (i := "ValueError.__init__") N3 List.mem_cons_self (spliced_more (ldK (env := ksEnv qual sc L fI (.ref cda) cc) Fr3.ns S.kd S.lf S.nd mf (spliced_none ⟨kxs_at N3 List.mem_cons_self, ?_⟩)))
  have sol : [v].length ≤ sizeLine := by rw [sizeLine_eq]; exact (by decide : 1 ≤ 16777216)
  have nx : ∀ p ∈ [(x, excObj C t0 none .none)], p.1 ≠ x ∨ True := fun _ _ => .inr trivial
  have hu1 := (N3 _ List.mem_cons_self).1
  have hs1 := (N3 _ (List.mem_cons_of_mem _ List.mem_cons_self)).1
  have hx1 := (N3 _ (List.mem_cons_of_mem _ (List.mem_cons_of_mem _ List.mem_cons_self))).1
  have nu : u ≠ x := fun z => by
    rw [z, hx1] at hu1
    exact absurd (congrArg (fun o : Obj => o.cls) (Option.some.inj hu1)) (by simp)
  have ns : h₁.objs.size ≠ x := fun z => by
    rw [show (h₁.objs.size, ks_superObj C x C).1 = x from z, hx1] at hs1
    exact absurd (congrArg (fun o : Obj => o.cls) (Option.some.inj hs1)) (by simp)
  refine kxs_call (nw := fun o => [(u, kxs_mw "ValueError.__init__" x), (h₁.objs.size, ks_superObj C x C), (x, o)]) (s := ⟨h3, _, _, _, _⟩) Fr3 X0 N3 PySem.F.excBase_ValueError T.exi List.mem_cons_self (.tail nu (.tail ns (.head fun _ z => nomatch z))) sol (fun t1 h4 Fr4 N4 _ => ?_)
  have hx4 := (N4 (x, excObj C t1 none .none) (by simp)).1
  have X4 : K.In h4 := X0.keeps Fr4.keep
  show _root_.PySem.wpAt _ _ _ (execs _ _) _ _ _
  refine wpAt_of_wpAny (wpAny_execs_cons (plainObj_wpAny_Assign_Attribute ?_ (S.sw2 _ _ _ _ _)))
  refine ldK (env := ksEnv qual sc L fI (.ref cda) cc) Fr4.ns S.kd S.lf S.nd mf (ldK (env := ksEnv qual sc L fI (.ref cda) cc) Fr4.ns S.kd S.lself (by decide) mself ?_)
  refine set_plain (s := ⟨h4, _, _, _, _⟩) X4 (ox := excO C t1) (od := none) ⟨hx4, rfl, rfl, trivial⟩ T.sa ?_
  refine exc_osa X4 hx4 hcl (show refsVE (.ref C :: bm) = true from hbm) rfl noF (fun h5 tk5 dx k5' dn dne hx5 hn5 => ?_)
  show wpAny _ _ (execs _ _) _ _ _
  have z4 : L < h4.objs.size := Fr4.ns.lt
  refine wpAny_execs_nil (hq h5 tk5 dx t1 ⟨fun b o e => ?_, hx5, Nat.le_trans Fr4.above (Nat.le_of_lt (Nat.lt_of_lt_of_le z4 dn)), dne, hn5⟩)
  exact k5' b o (fun z => by rw [z, hx0] at e; cases e) (Fr4.keep b o e)
end

/-- a made exception -/
structure MadeX (h h' : Heap) (e C d : Addr) (f : Str) (v : Value) : Prop where
  keep : ∀ b o, h.get? b = some o → h'.get? b = some o
  new : h.objs.size ≤ e
  obj : ∃ oe vs, h'.get? e = some oe ∧ oe.cls = .ref C ∧ oe.dict = some d ∧ oe.data = .fields vs ∧ vs[1]? = some .none
  dbig : h.objs.size ≤ d
  dne : d ≠ e
  ns : h'.Ns1 d (fun y => if y = f then some v else none)
section
open PySem.W PySem.Calls PyProof.Rows PySem.HandSPX
variable {P : Program} {w : World} {A : Around} {E : Value → Shared → Prop} {R : Result → Shared → Prop} {s : Shared} {K : Frag} {mg : Str → Option Value} {base : Heap} {C fI cda cc : Addr} {qual f : Str} {pa : Arguments} {sc : Scope} {a1 a2 a3 a4 a5 a6 b1 b2 b3 b4 : Pos}
theorem made1 (T : ExcT P K mg C fI cda cc qual pa (supB f a1 a2 a3 a4 a5 a6 b1 b2 b3 b4) sc) (S : IniS f pa sc a1 a2 a3 a4 a5 a6 b1 b2 b3 b4) (Mo : L2.Mod K mg base) (noF : findIn K (.ref C) f = some none) {v : Value} (X : K.In s.heap) (bk : ∀ b o, base.get? b = some o → s.heap.get? b = some o) (hlim : s.heap.NoLimit) (hroom : A.depth + 1 < recursionLimit)
    (hq : ∀ h' tk e d, MadeX s.heap h' e C d f v → R (.ok (.ret (.ref e))) { s with heap := h', toks := tk }) : codeAny (model P w) A (.call (.ref C) ⟨[v], []⟩) R s := by
  obtain ⟨nm, q, N, bs, bm, sn, sub, ab, col, dd, k0, k1, k2, k3, k5, hC, hbm⟩ := T.cls
  obtain ⟨hp, g, dr, tk, os⟩ := s
  have k : ∀ b o, hp.get? b = some o → ((hp.push (kdv_tup [v])).push (excO C hp.objs.size)).get? b = some o := fun b o e => Heap.get?_push_of_some _ (Heap.get?_push_of_some _ e)
  have hget : ((hp.push (kdv_tup [v])).push (excO C hp.objs.size)).get? (hp.objs.size + 1) = some (excO C hp.objs.size) := by heap_get
  have hnx : hp.get? (hp.objs.size + 1) = none := by
    cases e : hp.get? (hp.objs.size + 1) with
    | none => rfl
    | some o => exact absurd (Nat.lt_of_succ_lt (Heap.lt_size e)) (Nat.lt_irrefl _)
  have sol : [v].length ≤ sizeLine := by rw [sizeLine_eq]; exact (by decide : 1 ≤ 16777216)
  refine call_own F.excBase_ValueError (fun X => refsVE_contains X bm hbm) (X _ _ hC) (looks_findIn X T.iC) (fun self => bind_fn X self T.tI) sol ?_
  refine ini1 (s := ⟨(hp.push (kdv_tup [v])).push (excO C hp.objs.size), g, dr, tk, os⟩) T S Mo noF (h₀ := hp) X bk k ?_ (hlim.keeps k) hget hnx ?_ fun h' tk' dx t1 I => ?_
  · rw [Heap.size_push, Heap.size_push]; omega
  · show A.depth + 1 < recursionLimit
    exact hroom
  · exact ⟨rfl, hq h' tk' (hp.objs.size + 1) dx ⟨I.keep, Nat.le_succ _, ⟨_, _, I.obj, rfl, rfl, rfl, rfl⟩, I.dbig, I.dne, I.ns⟩⟩
end
section
open PyProof.Rows
theorem relO_one {v : V} {v' : Value} {y : Str} (r : RelV v v') (f : Str) : RelO (List.lookup f [(y, v)]) (if f = y then some v' else none) := by
  by_cases hw : f = y
  · subst hw
    rw [if_pos rfl]
    have q : List.lookup f [(f, v)] = some v := by simp [List.lookup]
    rw [q]
    exact r
  · rw [if_neg hw]
    have qw : (f == y) = false := by simpa using hw
    have q2 : List.lookup f [(y, v)] = none := by simp [List.lookup, qw]
    rw [q2]
    trivial
variable {X : Cx} {C fI cda cc : Addr} {qual f cn : Str} {pa : Arguments} {sc : Scope} {body : List Stmt} {a1 a2 a3 a4 a5 a6 b1 b2 b3 b4 : Pos}
/-- cn(e): the class's facts, its room -/
structure Exc1 (P : Program) (K : PySem.W.Frag) (mg : Str → Option Value) (base : Heap) (cn f : Str) (C : Addr) : Prop where
  gC : mg cn = some (.ref C)
  noF : PySem.W.findIn K (.ref C) f = some none
  te : PySem.W.exmOne K (.ref C) (.ref C) = some true
  made : ∃ fI cda cc qual pa sc a1 a2 a3 a4 a5 a6 b1 b2 b3 b4, ExcT P K mg C fI cda cc qual pa (supB f a1 a2 a3 a4 a5 a6 b1 b2 b3 b4) sc ∧ IniS f pa sc a1 a2 a3 a4 a5 a6 b1 b2 b3 b4
/-- cn(e) -/
def tMk1 (f : Str) (C : Addr) (ta : TA) : L2.St → Hp → XK → Prop := fun σ H Q => ta σ H fun vs H1 => ∃ v, vs = [v] ∧ ∀ d, H1 d = none → Q (.ref C) (some d) (upd H1 d (.xd [(f, v)]))
theorem pmk1 {a : Expr} {ta : TA} {p pos : Pos} {k : Nat} (T : Exc1 X.prog X.K X.mg X.base cn f C) (hr : Room k X.A) (ha : PA X [a] ta) (hg : Gl X cn) (hdb : (cn == ("__debug__" : Str)) = false := by decide)
    (he : starEach (a :: []) X.env = (false, eval a X.env) :: starEach [] X.env := by rfl) (hpl : (backTo pos (starEach [] X.env)).any (·.1) = false := by rfl) :
    PMk X (.Call (.Name cn p) [a] [] pos) (tMk1 f C ta) := by
  intro pins s σ H Q I h
  obtain ⟨fI, cda, cc, qual, pa, sc, a1, a2, a3, a4, a5, a6, b1, b2, b3, b4, T1, S1⟩ := T.made
  refine wpAny_Call_Name_kw (ld_glob I hg T.gC ?_ hdb)
  refine PySem.W.callWith_K (h₀ := X.base) I.ok.mod.kin T1.kC (thn (ha.run pos pins s σ H _ I h) fun us s1 hh => ?_) he hpl
  obtain ⟨vs, H1, I1, r1, v, ev, q1⟩ := hh
  subst ev
  refine ⟨I1.kIn, ?_⟩
  cases r1 with
  | cons rv rn =>
    rename_i v' us'
    cases rn
    show wpAny _ _ (call (.ref C) [v']) _ _ _
    have hlim := I1.nolimit
    have hbk := I1.bk
    obtain ⟨hp, g, dr, tk, os⟩ := s1
    refine wpAny_call (made1 T1 S1 I1.ok.mod T.noF I1.kIn hbk hlim (by have := hr.dp; omega) fun h' tk' e d M => ?_)
    show MkP X pins σ Q (.ref e) ⟨h', g, dr, tk', os⟩
    obtain ⟨oe, fv, hoe, hc, hd, hdat, h1⟩ := M.obj
    have hns := M.ns
    obtain ⟨G', g1, g2⟩ := restrict h' fun b => decide (b ≠ e)
    have gk : ∀ b, b ≠ e → G'.get? b = h'.get? b := fun b hb => g1 b (decide_eq_true hb)
    have ge : G'.get? e = none := g2 e (by simp)
    have old : ∀ b o, hp.get? b = some o → G'.get? b = some o := fun b o q => (gk b (Nat.ne_of_lt (Nat.lt_of_lt_of_le (Heap.lt_size q) M.new))).trans (M.keep b o q)
    have ob : ObjOk X.prog X.w (upd H1 d (.xd [(f, v)])) G' d (.xd [(f, v)]) := ⟨_, hns.at (fun o q => (gk d M.dne).trans q), fun g => relO_one rv g⟩
    have J : Inv X pins σ (upd H1 d (.xd [(f, v)])) ⟨G', g, dr, tk', os⟩ := I1.laid (t' := tk') old M.dbig ob
    refine ⟨e, oe, fv, ⟨G', g, dr, tk', os⟩, _, .ref C, some d, rfl, J, fun b o q => ?_, ge, hoe, ⟨hc, hd⟩, hdat, h1, ?_, rfl, I1.bare, raises_own T1.exC T1.tyC, q1 d (I1.hok.fresh M.dbig)⟩
    · by_cases hb : b = e
      · have q' : G'.get? b = some o := q
        rw [hb, ge] at q'; cases q'
      · exact (gk b hb).symm.trans q
    · rw [upd_ne (Ne.symm M.dne)]
      exact I1.hok.fresh M.new
/-- e.f in the suite that holds the exception at a -/
def tField (f : Str) (C : Addr) (a : Addr) (cls : Value) (d : Option Addr) (te : TE) : TE := fun σ H Q => te σ H fun x H1 => x = .ref a ∧ cls = .ref C ∧ ∃ (dd : Addr) (vs : List (Str × V)) (v : V), d = some dd ∧ H1 dd = some (.xd vs) ∧ List.lookup f vs = some v ∧ Q v H1
theorem pe_field {a : Addr} {oe : Obj} {cls : Value} {d : Option Addr} {pn : List (Addr × Obj)} {e : Expr} {te : TE} {pos : Pos} (T : Exc1 X.prog X.K X.mg X.base cn f C) (hz : Zc cls d oe) (hf : ∃ vs, oe.data = .fields vs) (he : PE (X.suite a ((a, oe) :: pn)) e te)
    (hb : attributeBase e f X.env (eval e X.env) = eval e X.env := by rfl) : PE (X.suite a ((a, oe) :: pn)) (.Attribute e f pos) (tField f C a cls d te) := by
  refine ⟨fun pins s σ H Q I h => ?_⟩
  obtain ⟨fI, cda, cc, qual, pa, sc, a1, a2, a3, a4, a5, a6, b1, b2, b3, b4, T1, S1⟩ := T.made
  refine attr_of hb (thn (he.run pins s σ H _ I h) fun u s1 hh => ?_)
  obtain ⟨x, H1, I1, rx, ex, ec, dd, vl, v, ed, ea, l, q⟩ := hh
  subst ex
  obtain rfl : u = Value.ref a := rx
  subst ec
  subst ed
  obtain ⟨ha, _⟩ := I1.pin (a, oe) (List.mem_append_left _ List.mem_cons_self)
  obtain ⟨vs, hd⟩ := hf
  have hx : ObjOk X.prog X.w H1 s1.heap dd (.xd vl) := I1.hok dd _ ea
  obtain ⟨mA, hns, hr⟩ := hx
  obtain ⟨od, ho, hl⟩ := lookIn_ns hns
  obtain ⟨u, hu, ru⟩ := RelO.some_of (v := v) (o := mA f) (by rw [← l]; exact hr f)
  have J : PySem.W.InstAt s1.heap a oe C (some od) := ⟨ha, hz.1, by unfold PySem.W.notCls; rw [hd] <;> rfl, by rw [hz.2]; exact ho⟩
  exact HandSPX.exc_get I1.kIn J T1.ga T1.gg T1.exC (PySem.W.findObj_own T1.hdC T.noF rfl (by rw [hl, hu])) (handed_of ru) ⟨v, H1, I1.tok _, ru, q⟩
end

/-! ### raise -/
section
variable {X : Cx} {B : Bas} {W : WX} {a : Expr} {s : AA} {C : Addr} {cn f : Str}
@[simp] def aRaise1 (cn f : Str) (s : AA) : AS := fun A ρ => s A.ex ρ fun ds ρ' => ∃ d, ds = [d] ∧ A.ex ⟨cn, [(f, d)]⟩ ρ'
theorem ss_raise1 {p pos pos2 : Pos} {k : Nat} {ec : Str → Option Addr} (hB : B.ec = ec) (hc : X.calm = true) (T : Exc1 X.prog X.K X.mg X.base cn f C) (hec : ec cn = some C) (hr : Room k X.A) (tk : Takes X W) (ha : SA X B W [a] s) (hg : Gl X cn) (hdb : (cn == ("__debug__" : Str)) = false := by decide)
    (he : starEach (a :: []) X.env = (false, eval a X.env) :: starEach [] X.env := by rfl) (hpl : (backTo pos (starEach [] X.env)).any (·.1) = false := by rfl) : SS X B W (.Raise (some (.Call (.Name cn p) [a] [] pos)) none pos2) (aRaise1 cn f s) := by
  subst hB
  refine PS_imp (ps_raise hc tk (pmk1 T hr ha hg hdb he hpl)) fun D σ H q => ?_
  obtain ⟨ρ, F, A, R, t, k⟩ := q
  refine ⟨ρ, F, A.ex, _, R, t, fun ds ρ1 t1 vs F1 H1 R1 s1 p1 => ?_, k.ex σ⟩
  obtain ⟨d, rfl, t1⟩ := t1
  obtain ⟨v, rfl, pv⟩ := dps1 p1
  refine ⟨v, rfl, fun dd hd => ?_⟩
  have sm : ∀ o, Same F1 (upd F1 dd o) := fun o => same_upd (R1.freeF hd)
  exact k.ex σ _ ρ1 t1 _ _ _ _ (R1.alloc hd) ⟨C, hec, rfl, .inr ⟨dd, _, rfl, upd_same, .cons (pv.mono (sm _)) .nil⟩⟩
end
end PU
set_option Elab.async false
set_option linter.all false
set_option maxRecDepth 100000
namespace PU
open PySem PySem.Spec L2
set_option autoImplicit false

/-! ### try: .. except n as e: .. -/
abbrev Bas.upF (B : Bas) (F : Hp) : Bas := { B with F0 := F }
section
variable {K : PySem.W.Frag} {B : Bas} {F F' H H' : Hp} {ρ ρ' : List AV} {σ σ' : L2.St}
theorem Bse.up (R : Bse B F H) : Bse (B.upF F) F H := ⟨R.fz, Same.refl _, fun b h => .inl h, R.kp, R.sr, R.pr⟩
theorem Bse.down (R : Bse B F H) (S : Bse (B.upF F) F' H') : Bse B F' H' :=
  ⟨S.fz, R.f0.trans S.f0, fun b h => (S.nf b h).elim (fun z => R.nf b z) .inr, S.kp, S.sr, S.pr⟩
theorem Rel.up (R : Rel K B F H ρ σ) : Rel K (B.upF F) F H ρ σ := ⟨R.toBse.up, R.len, R.sl, R.ow, R.so, R.ap⟩
theorem Rel.down (R : Bse B F H) (S : Rel K (B.upF F) F' H' ρ' σ') : Rel K B F' H' ρ' σ' := ⟨R.down S.toBse, S.len, S.sl, S.ow, S.so, S.ap⟩
/-- a slot is emptied -/
theorem Rel.forget (R : Rel K B F H ρ σ) (i : Nat) : Rel K B F H (ρ.set i .un) (σ.set i none) := by
  refine ⟨R.toBse, by rw [List.length_set, List.length_set]; exact R.len, fun j d q => ?_, fun j d q => ?_, fun j q => ?_, fun j k d e a n q q' r => ?_⟩
  · rcases set_get q with ⟨rfl, z⟩ | ⟨n, z⟩
    · cases z
    · rw [List.getElem?_set_ne (Ne.symm n)]; exact R.sl j d z
  · rcases set_get q with ⟨rfl, z⟩ | ⟨n, z⟩
    · cases z
    · rw [List.getElem?_set_ne (Ne.symm n)]; exact R.ow j d z
  · rcases set_get q with ⟨rfl, z⟩ | ⟨n, z⟩
    · cases z
    · rw [List.getElem?_set_ne (Ne.symm n)]; exact R.so j z
  · rcases set_get q with ⟨rfl, z⟩ | ⟨m, z⟩
    · cases z
    · rcases set_get q' with ⟨rfl, z'⟩ | ⟨m', z'⟩
      · cases z'
      · rw [List.getElem?_set_ne (Ne.symm m)] at r
        rw [List.getElem?_set_ne (Ne.symm m')]
        exact R.ap j k d e a n z z' r
end
/-- what the suite knows of its exception -/
def HoldX (K : PySem.W.Frag) (B : Bas) (x : XE) (cls : Value) (d : Option Addr) : Prop := ∃ H, XP K B.ec x cls d B.F0 H
/-- the clause asked of the classes that may come -/
def XmOk (K : PySem.W.Frag) (ec : Str → Option Addr) (c : Value) (m : Str → Bool) : Prop := ∀ n C, ec n = some C → PySem.W.exmOne K (.ref C) c = some (m n)
theorem PSs_ex {α : Type} {X : Cx} {st : List Stmt} {T : α → TS} {P : α → Prop} (h : ∀ a, P a → PSs X st (T a)) : PSs X st (fun D σ H => ∃ a, P a ∧ T a D σ H) :=
  ⟨fun pins s σ H D I q => let ⟨a, p, q⟩ := q; (h a p).run pins s σ H D I q⟩
theorem DPf.lookup {K : PySem.W.Frag} {F : Hp} {f : Str} {d : D} : ∀ {vs : List (Str × V)} {ds : List (Str × D)}, DPf K F vs ds → ds.lookup f = some d → ∃ v, vs.lookup f = some v ∧ DP K F v d
  | _, _, .nil, h => by cases h
  | _, _, .cons (k := k) h t, q => by
    by_cases e : (f == k) = true
    · simp only [List.lookup, e] at q ⊢
      cases q
      exact ⟨_, rfl, h⟩
    · have e' : (f == k) = false := by simpa using e
      simp only [List.lookup, e'] at q ⊢
      exact DPf.lookup t q
theorem DPf.mono {K : PySem.W.Frag} {F F' : Hp} (e : Same F F') : ∀ {vs : List (Str × V)} {ds : List (Str × D)}, DPf K F vs ds → DPf K F' vs ds
  | _, _, .nil => .nil
  | _, _, .cons h t => .cons (h.mono e) (DPf.mono e t)
theorem dp_con {K : PySem.W.Frag} {F : Hp} {x v : V} (h : DP K F x (.con v)) : x = v := by cases h; rfl
section
variable {X : Cx} {B : Bas} {W : WX} {body suite : List Stmt} {b₀ : Stmt} {t : AS} {su : XE → Addr → AS} {C : Addr} {cn f : Str}
@[simp] def aTry (m : Str → Bool) (i : Nat) (t : AS) (su : XE → Addr → AS) : AS := fun A ρ =>
  t { A with ex := fun x ρ' => if m x.cls = true then ∀ a, su x a { nx := fun ρ2 => A.nx (ρ2.set i .un), rt := A.rt, bk := fun ρ2 => A.bk (ρ2.set i .un), ct := fun ρ2 => A.ct (ρ2.set i .un) } (ρ'.set i (.dat (.con (.ref a)))) else A.ex x ρ' } ρ
theorem ss_try {x n : Str} {c : Value} {i : Nat} {m : Str → Bool} {np pos pos' : Pos} {ec : Str → Option Addr} (hB : B.ec = ec) (hs : X.stack = X.env :: X.outer) (hf : X.env.frame = some X.env.locals) (hN : X.N.Nodup) (hi : X.N[i]? = some n) (hln : X.env.kindOf n = some .local) (hc : Names X x c) (tk : Takes X W) (hm : XmOk X.K ec c m)
    (hb : ∀ (B' : Bas) (W' : WX) (pn : List (Addr × Obj)) (xe : Value → Shared → Prop), B'.ec = ec → Takes (X.tr pn xe) W' → PassesOwn (model X.prog X.w) X.A X.env xe → SSs (X.tr pn xe) B' W' body t)
    (hsu : ∀ (x : XE) (B' : Bas) (a : Addr) (oe : Obj) (cls : Value) (d : Option Addr) (pn : List (Addr × Obj)), B'.ec = ec → m x.cls = true → HoldX X.K B' x cls d → Zc cls d oe → (∃ vs, oe.data = .fields vs) → SSs (X.suite a ((a, oe) :: pn)) B' W0 (b₀ :: suite) (su x a)) :
    SS X B W (.Try body [.ExceptHandler (some (.Name x np)) (some n) (b₀ :: suite) pos'] [] [] pos) (aTry m i t su) := by
  subst hB
  refine PS_imp (ps_try_as (i := i) (tb := fun W' D σ H => ∃ B' : Bas, B'.ec = B.ec ∧ cS X.K B' W' t D σ H) (ts := fun a cls d D σ H => ∃ p : XE × Bas, (p.2.ec = B.ec ∧ m p.1.cls = true ∧ HoldX X.K p.2 p.1 cls d) ∧ cS X.K p.2 W0 (su p.1 a) D σ H) (Wout := W) hs hf hN hi hln hc tk
    (fun W' pn xe tk' po => PSs_ex fun B' hB' => hb B' W' pn xe hB' tk' po) (fun a oe cls d pn hz hd => PSs_ex fun p hp => hsu p.1 p.2 a oe cls d pn hp.1 hp.2.1 hp.2.2 hz hd)) fun D σ H q => ?_
  obtain ⟨ρ, F, A, R, t0, k⟩ := q
  have RB := R.toBse
  refine ⟨B.upF F, rfl, ρ, F, _, R.up, t0, ⟨fun ρ2 σ2 F2 H2 q2 R2 s2 => k.nx ρ2 σ2 F2 H2 q2 (R2.down RB) s2, fun d2 q2 v2 F2 H2 R2 p2 => k.rt d2 q2 v2 F2 H2 (RB.down R2) p2,
    fun ρ2 σ2 F2 H2 q2 R2 s2 => k.bk ρ2 σ2 F2 H2 q2 (R2.down RB) s2, fun ρ2 σ2 F2 H2 q2 R2 s2 => k.ct ρ2 σ2 F2 H2 q2 (R2.down RB) s2, fun σ1 y ρ1 hy cls d F1 H1 R1 hx => ?_⟩⟩
  have s1 : Same F F1 := R1.f0
  have RB1 : Bse B F1 H1 := RB.down R1.toBse
  obtain ⟨Cy, hCy, rfl, hfs⟩ := hx
  refine ⟨m y.cls, hm _ _ hCy, fun hmt a ha => ?_, fun hmf => ?_⟩
  · have hy' := hy
    simp only [hmt, if_true] at hy'
    refine ⟨(y, B.upF F1), ⟨rfl, hmt, H1, Cy, hCy, rfl, hfs⟩, _, F1, _, ((R1.down RB).up).store (.con _), hy' a, ?_⟩
    refine ⟨fun ρ2 σ2 F2 H2 q2 R2 s2 => k.nx _ _ F2 H2 q2 ((R2.down RB1).forget i) (s1.trans s2), fun d2 q2 v2 F2 H2 R2 p2 => k.rt d2 q2 v2 F2 H2 (RB1.down R2) p2,
      fun ρ2 σ2 F2 H2 q2 R2 s2 => k.bk _ _ F2 H2 q2 ((R2.down RB1).forget i) (s1.trans s2), fun ρ2 σ2 F2 H2 q2 R2 s2 => k.ct _ _ F2 H2 q2 ((R2.down RB1).forget i) (s1.trans s2), fun _ _ _ z => z.elim⟩
  · have hy' := hy
    simp only [hmf, Bool.false_eq_true, if_false] at hy'
    exact k.ex σ1 y ρ1 hy' _ d F1 H1 (R1.down RB) ⟨Cy, hCy, rfl, hfs⟩
/-- e.f, e the exception that the suite holds -/
@[simp] def aFld (i : Nat) (f : Str) (x : XE) (a : Addr) : AE := fun _ ρ Q => (∃ u, ρ[i]? = some u ∧ u = .dat (.con (.ref a))) ∧ ∃ d, x.fs.lookup f = some d ∧ Q d ρ
theorem se_fld {i : Nat} {x : XE} {a : Addr} {oe : Obj} {cls : Value} {d : Option Addr} {pn : List (Addr × Obj)} {n g : Str} {pos p : Pos} {ec : Str → Option Addr} (hB : B.ec = ec) (T : Exc1 X.prog X.K X.mg X.base cn g C) (hec : ec cn = some C) (hx : HoldX X.K B x cls d) (hcn : x.cls = cn) (noF : f = g)
    (hz : Zc cls d oe) (hf : ∃ vs, oe.data = .fields vs) (hy : PE (X.suite a ((a, oe) :: pn)) (.Name n p) (tVar i))
    (hb : attributeBase (.Name n p) f X.env (eval (.Name n p) X.env) = eval (.Name n p) X.env := by rfl) : SE (X.suite a ((a, oe) :: pn)) B W (.Attribute (.Name n p) f pos) (aFld i f x a) := by
  subst hB noF
  refine PE_imp (pe_field T hz hf hy hb) fun σ H Q q => ?_
  obtain ⟨ρ, F, EX, Q0, R, ⟨⟨_, hs, rfl⟩, d0, hl, t⟩, k, kx⟩ := q
  obtain ⟨v, h1, h2⟩ := R.sl i _ hs
  rw [dp_con h2] at h1
  obtain ⟨H', Cy, hCy, rfl, hfs⟩ := hx
  rw [hcn, hec] at hCy
  cases hCy
  rcases hfs with ⟨e, _⟩ | ⟨dd, vs, rfl, h3, h4⟩
  · rw [e] at hl; cases hl
  · obtain ⟨u, h5, h6⟩ := h4.lookup hl
    exact ⟨_, h1, rfl, rfl, dd, vs, u, rfl, R.fz _ _ (R.f0 _ _ h3), h5, k _ ρ t u F H R (Same.refl _) (h6.mono R.f0)⟩
end
end PU
set_option Elab.async false
set_option linter.all false
set_option maxRecDepth 100000
namespace PU
open PySem PySem.Spec L2
set_option autoImplicit false

section
variable {X : Cx} {B : Bas} {W : WX} {a b c e e2 tg : Expr} {es : List Expr} {ta tb tc te : AE} {s : AA} {pos p : Pos}

/-! ### repr -/
def dRepr : OpN := fun ds Q => match ds with
  | [d] => D.shp 64 d ∧ d.py.showable = true ∧ d.py.shown.length ≤ sizeLine ∧ Q (.str d.py.shown)
  | _ => False
def rRepr (K : PySem.W.Frag) : List V → Hp → VK → Prop := fun xs H Q => ∃ x d, xs = [x] ∧ Dp K H x d ∧ d.canLay0 = true ∧ d.depth ≤ 64 ∧ d.showable = true ∧ d.shown.length ≤ sizeLine ∧ Q (.str d.shown) H
theorem call_reprG {k : Nat} (hr : RoomG k X.A) : CallR X (.builtin "repr") (rRepr X.K) := by
  intro pins s σ H xs us Q I r h
  obtain ⟨x, d, rfl, hd, hc, hz, hsh, hl, q⟩ := h
  obtain ⟨u, rfl, rx⟩ := vals1 r
  obtain ⟨as, hrd⟩ := Dp.reads I d x u hd rx
  have hu : X.A.units + (d.depth + 1) < cLine := by have := hr.un; omega
  have fin : ∀ h' t tk, (∀ b o, s.heap.get? b = some o → h'.get? b = some o) → EP X pins σ Q (.str d.shown t) { s with heap := h', toks := tk } := fun h' t tk k => ⟨.str d.shown, H, I.kept (t' := tk) k, ⟨_, rfl⟩, q⟩
  have fin0 : ∀ t tk, EP X pins σ Q (.str d.shown t) { s with toks := tk } := fun t tk => ⟨.str d.shown, H, I.tok _, ⟨_, rfl⟩, q⟩
  cases hrd with
  | none => exact PySem.P.repr_of_none (fin0 _ _)
  | bool b => exact PySem.P.repr_of_bool (by cases b <;> exact fin0 _ _)
  | int i t => exact PySem.P.repr_of_int (by simpa [PyData.showable] using hsh) (fin0 _ _)
  | str z t => exact PySem.P.repr_of_str (fin0 _ _) hl
  | list h1 h2 h3 h4 => exact PySem.repr_of_reads' (.list h1 h2 h3 h4) hsh (PyData.noDict_hsm (PyData.hasDict_of_canLay _ hc)) hr.gd hu (fun _ _ z => z) (fun h' t tk k => fin h' t tk k) hl
  | tuple h1 h2 h3 h4 => exact PySem.repr_of_reads' (.tuple h1 h2 h3 h4) hsh (PyData.noDict_hsm (PyData.hasDict_of_canLay _ hc)) hr.gd hu (fun _ _ z => z) (fun h' t tk k => fin h' t tk k) hl
  | dict h1 h2 h3 h4 h5 => exact absurd hc (by simp [PyData.canLay0])
theorem opN_repr {K : PySem.W.Frag} : OpNS K B (rRepr K) dRepr := by
  intro F H ρ σ xs ds Q0 Q R p q k
  unfold dRepr at q
  split at q
  · obtain ⟨v, rfl, h⟩ := dps1 p
    obtain ⟨q1, q2, q3, q4⟩ := q
    obtain ⟨l1, l2⟩ := shp_lay q1
    exact ⟨v, _, rfl, shp_dp R.fz q1 h, l1, l2, q2, q3, k _ q4 _ F H R (Same.refl _) (.str _)⟩
  · exact q.elim
theorem se_repr {k : Nat} (hr : RoomG k X.A) (hg : Gl X "repr") (hm : X.mg "repr" = none) (ha : SA X B W (e :: es) s)
    (he : starEach (e :: es) X.env = (false, eval e X.env) :: starEach es X.env := by rfl) (hpl : (backTo pos (starEach es X.env)).any (·.1) = false := by rfl) : SE X B W (.Call (.Name "repr" p) (e :: es) [] pos) (aOp dRepr s) :=
  se_B (call_reprG hr) opN_repr hg hm (by decide +kernel) ha (by decide) (by decide) he hpl

/-! ### ==, texts at once -/
@[simp] def dEq2 : Op2 := fun d e Q => match d, e with
  | .str x, .str y => Q (.bl (decide (x = y)))
  | d, e => dEq d e Q
@[simp] def dNe2 : Op2 := fun d e Q => match d, e with
  | .str x, .str y => Q (.bl (!decide (x = y)))
  | d, e => dNe d e Q
theorem dec_str {x y : Str} : decide (V.str x = V.str y) = decide (x = y) := by
  rw [Bool.eq_iff_iff]; simp
theorem opS_eq2 {K : PySem.W.Frag} : OpS K B (fun x y H Q => rEq x y H Q ∨ rEqD K x y H Q) dEq2 := by
  intro F H ρ σ x y d e Q0 Q R p1 p2 q k
  unfold dEq2 at q
  split at q
  · rw [dp_str p1, dp_str p2]
    refine .inl ⟨rfl, ?_⟩
    rw [dec_str]
    exact k _ q _ F H R (Same.refl _) (.bl _)
  · exact .inr (opS_eq F H ρ σ x y _ _ _ Q R p1 p2 q k)
theorem opS_ne2 {K : PySem.W.Frag} : OpS K B (fun x y H Q => rNe x y H Q ∨ rNeD K x y H Q) dNe2 := by
  intro F H ρ σ x y d e Q0 Q R p1 p2 q k
  unfold dNe2 at q
  split at q
  · rw [dp_str p1, dp_str p2]
    refine .inl ⟨rfl, ?_⟩
    rw [dec_str]
    exact k _ q _ F H R (Same.refl _) (.bl _)
  · exact .inr (opS_ne F H ρ σ x y _ _ _ Q R p1 p2 q k)
theorem se_eq2 {k : Nat} (hr : Room k X.A) (ha : SE X B W a ta) (hb : SE X B W b tb) : SE X B W (.Compare a [.Eq] [b] pos) (aBin dEq2 ta tb) := se_cmp (op_eq.or (op_eqD hr.units)) opS_eq2 ha hb (nomark _)
theorem se_ne2 {k : Nat} (hr : Room k X.A) (ha : SE X B W a ta) (hb : SE X B W b tb) : SE X B W (.Compare a [.NotEq] [b] pos) (aBin dNe2 ta tb) := se_cmp (op_ne.or (op_neD hr.units)) opS_ne2 ha hb (nomark _)

/-! ### in -/
/-- behind the in stands no display that the machine folds -/
def inD (d : D) (xs : List D) : Bool := xs.any fun z => eqD z d
def dIn (neg : Bool) : Op2 := fun d e Q => match e with
  | .lst xs => D.shp 63 d ∧ (∀ x ∈ xs, D.shp 63 x) ∧ Q (.bl (neg ^^ inD d xs))
  | .tup xs => D.shp 63 d ∧ (∀ x ∈ xs, D.shp 63 x) ∧ Q (.bl (neg ^^ inD d xs))
  | _ => False
def rInG (K : PySem.W.Frag) (neg : Bool) : R2 := fun x y H Q =>
  (∃ d ds, Dp K H x d ∧ (Dp K H y (.list ds) ∨ Dp K H y (.tuple ds)) ∧ d.canLay0 = true ∧ d.depth ≤ 63 ∧ PyData.canLayAll0 ds = true ∧ Q (.bl (neg ^^ ds.any fun z => PyData.eqv z d)) H)
theorem op_inG {k : Nat} (hr : Room k X.A) : OpR X (compareOp .In) (rInG X.K false) := by
  intro pins s σ H x y v u Q I rx ry h
  obtain ⟨d, ds, hd, he, cd, zd, ce, q⟩ := h
  obtain ⟨as, r1⟩ := Dp.reads I d x v hd rx
  have hu : X.A.units + 1 + min (PyData.depthAll ds) d.depth < cLine := by have := hr.un; omega
  rw [Bool.false_xor] at q
  rcases he with he | he
  · obtain ⟨bs, r2⟩ := Dp.reads I (.list ds) y u he ry
    exact SeqAt.in_list_reads r2 r1 ce cd hu ⟨.bl _, H, I, rfl, q⟩
  · obtain ⟨bs, r2⟩ := Dp.reads I (.tuple ds) y u he ry
    exact SeqAt.in_tuple_reads r2 r1 ce cd hu ⟨.bl _, H, I, rfl, q⟩
theorem op_notInG {k : Nat} (hr : Room k X.A) : OpR X (compareOp .NotIn) (rInG X.K true) := by
  intro pins s σ H x y v u Q I rx ry h
  obtain ⟨d, ds, hd, he, cd, zd, ce, q⟩ := h
  obtain ⟨as, r1⟩ := Dp.reads I d x v hd rx
  have hu : X.A.units + 1 + min (PyData.depthAll ds) d.depth < cLine := by have := hr.un; omega
  rw [Bool.true_xor] at q
  rcases he with he | he
  · obtain ⟨bs, r2⟩ := Dp.reads I (.list ds) y u he ry
    exact SeqAt.notIn_list_reads r2 r1 ce cd hu ⟨.bl _, H, I, rfl, q⟩
  · obtain ⟨bs, r2⟩ := Dp.reads I (.tuple ds) y u he ry
    exact SeqAt.notIn_tuple_reads r2 r1 ce cd hu ⟨.bl _, H, I, rfl, q⟩
theorem any_pys (d : D) : ∀ xs : List D, ((D.pys xs).any fun z => PyData.eqv z d.py) = inD d xs
  | [] => rfl
  | x :: xs => by
    show ((x.py :: D.pys xs).any _) = ((x :: xs).any _)
    rw [List.any_cons, List.any_cons]
    exact congrArg (eqD x d || ·) (any_pys d xs)
theorem len_depth {n : Nat} : ∀ {ds : List D}, (∀ x ∈ ds, D.shp n x) → PyData.canLayAll0 (D.pys ds) = true := fun h => (shp_lays h).1
theorem opS_in {K : PySem.W.Frag} {neg : Bool} : OpS K B (rInG K neg) (dIn neg) := by
  intro F H ρ σ x y d e Q0 Q R p1 p2 q k
  unfold dIn at q
  split at q
  · rename_i xs
    obtain ⟨q1, q2, q⟩ := q
    cases p2 with
    | lst h2 t2 =>
      obtain ⟨l1, l2⟩ := shp_lay q1
      refine ⟨d.py, D.pys xs, shp_dp R.fz q1 p1, .inl (.lst (SqL.of (R.fz _ _ h2)) (shp_dps R.fz q2 t2)), l1, l2, len_depth q2, ?_⟩
      rw [any_pys]
      exact k _ q _ F H R (Same.refl _) (.bl _)
  · rename_i xs
    obtain ⟨q1, q2, q⟩ := q
    cases p2 with
    | tup h2 t2 =>
      obtain ⟨l1, l2⟩ := shp_lay q1
      refine ⟨d.py, D.pys xs, shp_dp R.fz q1 p1, .inr (.tup (same_tup R.fz h2) (shp_dps R.fz q2 t2)), l1, l2, len_depth q2, ?_⟩
      rw [any_pys]
      exact k _ q _ F H R (Same.refl _) (.bl _)
  · exact q.elim
theorem se_in {k : Nat} (hr : Room k X.A) (ha : SE X B W a ta) (hb : SE X B W b tb) (hm : behindInMarks .In b = false := by rfl) : SE X B W (.Compare a [.In] [b] pos) (aBin (dIn false) ta tb) := se_cmp (op_inG hr) opS_in ha hb hm
theorem se_notIn {k : Nat} (hr : Room k X.A) (ha : SE X B W a ta) (hb : SE X B W b tb) (hm : behindInMarks .NotIn b = false := by rfl) : SE X B W (.Compare a [.NotIn] [b] pos) (aBin (dIn true) ta tb) := se_cmp (op_notInG hr) opS_in ha hb hm

/-! ### sorted, of a list -/
abbrev leD : D → D → Bool := PySem.W.dataLe false D.py
def dSorted : OpN := fun ds Q => match ds with
  | [.lst xs] => (∀ x ∈ xs, D.shp 63 x) ∧ PySem.W.AllAlike (xs.map D.py) ∧ PySem.W.Sortable (xs.map D.py) ∧ Q (.lst (xs.mergeSort leD))
  | _ => False
def rSortD (K : PySem.W.Frag) : List V → Hp → VK → Prop := fun vs H Q => ∃ (a : Addr) (xs : List (V × PyData)), vs = [V.ref a] ∧ SqL K H a (xs.map (·.1)) ∧ (∀ x ∈ xs, Dp K H x.1 x.2 ∧ x.2.depth ≤ 63) ∧ PySem.W.AllAlike (xs.map (·.2)) ∧ PySem.W.Sortable (xs.map (·.2)) ∧
  ∀ p, H p = none → Q (.ref p) (upd H p (.lst ((xs.mergeSort (PySem.W.dataLe false (·.2))).map (·.1))))
theorem each_of {α : Type} {R : Value → α → Prop} {f : α → V} : ∀ {xs : List α} {us : List Value}, Vals (xs.map f) us → (∀ x ∈ xs, ∀ u, RelV (f x) u → R u x) → PySem.W.EachIs R us xs
  | [], _, r, _ => by
    cases r
    exact .nil
  | x :: xs, _, r, h => by
    cases r with
    | cons r1 r2 => exact .cons (h x List.mem_cons_self _ r1) (each_of r2 fun y hy => h y (List.mem_cons_of_mem _ hy))
theorem vals_of_each {α : Type} {f : α → V} : ∀ {xs : List α} {us : List Value}, PySem.W.EachIs (fun u x => RelV (f x) u) us xs → Vals (xs.map f) us
  | _, _, .nil => .nil
  | _, _, .cons h t => .cons h (vals_of_each t)
theorem cr_sortD {k : Nat} (hr : Room k X.A) : CallR X (.builtin "sorted") (rSortD X.K) := by
  intro pins s σ H vs us Q I r h
  obtain ⟨a, xs, rfl, hs, hd, hal, hso, q⟩ := h
  obtain ⟨its, rv, hl, hz⟩ := I.list hs
  obtain ⟨u, rfl, ru⟩ := vals1 r
  obtain rfl : u = Value.ref a := ru
  have hz' : xs.length ≤ sizeLine := by simpa using hz
  have hlen : its.length = xs.length := by simpa using rv.length.symm
  refine PySem.W.sorted_data (β := V × PyData) (R := fun u x => RelV x.1 u) (enc := (·.2)) (bs := xs) hl.isList (each_of (f := (·.1)) rv fun x _ u ru => ru) (each_of (f := (·.1)) rv fun x hx u ru => Dp.reads I x.2 x.1 u (hd x hx).1 ru) hal hso hz' (fun b hb => ?_) fun out hout he => ?_
  · have := (hd b hb).2
    have := hr.un
    omega
  · obtain ⟨ep, he'⟩ := PyProof.Rows.sortedAll_at s.heap its (List.toArray out)
    have hlen2 : ((xs.mergeSort (PySem.W.dataLe false (·.2))).map (·.1)).length ≤ sizeLine := by simpa using hz'
    exact ⟨.ref _, upd H (s.heap.objs.size + 1) (.lst _), I.laid (t' := s.toks) (fun _ _ => PyProof.Rows.sortedAll_old) (Nat.le_succ _) ⟨hlen2, out, ep, vals_of_each he, he'⟩, rfl, q _ (I.hok.fresh (Nat.le_succ _))⟩
theorem zip_fst {K : PySem.W.Frag} {F : Hp} : ∀ {vs : List V} {ds : List D}, DPs K F vs ds → (vs.zip ds).map (·.1) = vs ∧ (vs.zip ds).map (·.2) = ds ∧ ∀ p ∈ vs.zip ds, DP K F p.1 p.2
  | _, _, .nil => ⟨rfl, rfl, fun _ h => nomatch h⟩
  | _, _, .cons h t => by
    obtain ⟨h1, h2, h3⟩ := zip_fst t
    refine ⟨by simpa using h1, by simpa using h2, fun p hp => ?_⟩
    rcases List.mem_cons.mp hp with rfl | hp
    · exact h
    · exact h3 p hp
theorem dps_of {K : PySem.W.Frag} {F : Hp} : ∀ {ps : List (V × D)}, (∀ p ∈ ps, DP K F p.1 p.2) → DPs K F (ps.map (·.1)) (ps.map (·.2))
  | [], _ => .nil
  | p :: ps, h => .cons (h p List.mem_cons_self) (dps_of fun q hq => h q (List.mem_cons_of_mem _ hq))
theorem opN_sorted {K : PySem.W.Frag} : OpNF K B (rSortD K) dSorted := by
  intro F H ρ σ xs ds Q0 Q R p q k
  unfold dSorted at q
  split at q
  · rename_i zs
    obtain ⟨v, rfl, h⟩ := dps1 p
    obtain ⟨q1, q2, q3, q⟩ := q
    cases h with
    | lst h t =>
      rename_i a vs
      obtain ⟨e1, e2, e3⟩ := zip_fst t
      have g1 : ((vs.zip zs).map fun p => (p.1, p.2.py)).map (·.1) = vs := by rw [List.map_map]; exact e1
      have g2 : ((vs.zip zs).map fun p => (p.1, p.2.py)).map (·.2) = zs.map D.py := by
        rw [List.map_map]
        have : (fun p : V × D => p.2.py) = D.py ∘ (·.2) := rfl
        show (vs.zip zs).map (fun p : V × D => p.2.py) = _
        rw [this, ← List.map_map, e2]
      refine ⟨a, (vs.zip zs).map fun p => (p.1, p.2.py), rfl, by rw [g1]; exact SqL.of (R.fz _ _ h), fun x hx => ?_, by rw [g2]; exact q2, by rw [g2]; exact q3, fun p hp => ?_⟩
      · obtain ⟨y, hy, rfl⟩ := List.mem_map.mp hx
        have hm : y.2 ∈ zs := by rw [← e2]; exact List.mem_map.mpr ⟨y, hy, rfl⟩
        exact ⟨shp_dp R.fz (q1 _ hm) (e3 y hy), (shp_lay (q1 _ hm)).2⟩
      · have m1 : (((vs.zip zs).map fun p => (p.1, p.2.py)).mergeSort (PySem.W.dataLe false (·.2))).map (·.1) = ((vs.zip zs).mergeSort (PySem.W.dataLe false fun p => p.2.py)).map (·.1) := by
          rw [← List.map_mergeSort (s := PySem.W.dataLe false (·.2)) (f := fun p : V × D => (p.1, p.2.py)) (fun a _ b _ => rfl), List.map_map]
          rfl
        have m2 : ((vs.zip zs).mergeSort (PySem.W.dataLe false fun p => p.2.py)).map (·.2) = zs.mergeSort leD := by
          rw [List.map_mergeSort (r := PySem.W.dataLe false fun p : V × D => p.2.py) (s := leD) (f := fun p : V × D => p.2) (fun a _ b _ => rfl), e2]
        rw [m1]
        refine k _ q _ _ _ _ (R.allocO hp) (Same.refl _) (freshAt_new R hp) (.lst ?_)
        rw [← m2]
        exact dps_of fun p hp => e3 p (List.mem_mergeSort.mp hp)
  · exact q.elim
theorem sf_sorted {k : Nat} (hr : Room k X.A) (hg : Gl X "sorted") (hm : X.mg "sorted" = none) (ha : SA X B W (e :: es) s)
    (he : starEach (e :: es) X.env = (false, eval e X.env) :: starEach es X.env := by rfl) (hpl : (backTo pos (starEach es X.env)).any (·.1) = false := by rfl) : SF X B W (.Call (.Name "sorted" p) (e :: es) [] pos) (aOp dSorted s) :=
  sf_B (cr_sortD hr) opN_sorted hg hm (by decide +kernel) ha (by decide) (by decide) he hpl
end
end PU
set_option Elab.async false
set_option linter.all false
set_option maxRecDepth 100000
namespace PU
open PySem PySem.Spec L2 StX RZ
set_option autoImplicit false
section
variable {X : Cx} {B : Bas} {W : WX} {a b c e e2 tg : Expr} {es : List Expr} {ta tb tc te : AE} {s : AA} {pos p : Pos}

/-! ### lists of ints, of truths -/
def intsOf : List D → Option (List Int)
  | [] => some []
  | .int i :: xs => (intsOf xs).map (i :: ·)
  | _ => none
def blsOf : List D → Option (List Bool)
  | [] => some []
  | .bl i :: xs => (blsOf xs).map (i :: ·)
  | _ => none
theorem intsOf_dp {K : PySem.W.Frag} {F : Hp} : ∀ {vs : List V} {ds : List D} {ns : List Int}, DPs K F vs ds → intsOf ds = some ns → vs = ns.map V.int
  | _, _, _, .nil, h => by cases h; rfl
  | _, _, ns, .cons (d := d) h t, q => by
    cases d <;> first | cases q | skip
    rename_i ds i
    have q' : (intsOf ds).map (i :: ·) = some ns := q
    obtain ⟨l, h1, rfl⟩ := Option.map_eq_some_iff.mp q'
    rw [dp_int h, intsOf_dp t h1]
    rfl
theorem blsOf_dp {K : PySem.W.Frag} {F : Hp} : ∀ {vs : List V} {ds : List D} {ns : List Bool}, DPs K F vs ds → blsOf ds = some ns → vs = ns.map V.bl
  | _, _, _, .nil, h => by cases h; rfl
  | _, _, ns, .cons (d := d) h t, q => by
    cases d <;> first | cases q | skip
    rename_i ds i
    have q' : (blsOf ds).map (i :: ·) = some ns := q
    obtain ⟨l, h1, rfl⟩ := Option.map_eq_some_iff.mp q'
    rw [dp_bl h, blsOf_dp t h1]
    rfl
theorem intsOf_map (ns : List Int) : intsOf (ns.map .int) = some ns := by
  induction ns with
  | nil => rfl
  | cons n ns ih =>
    show (intsOf (ns.map .int)).map (n :: ·) = _
    rw [ih]; rfl
theorem blsOf_map (ns : List Bool) : blsOf (ns.map .bl) = some ns := by
  induction ns with
  | nil => rfl
  | cons n ns ih =>
    show (blsOf (ns.map .bl)).map (n :: ·) = _
    rw [ih]; rfl
def dMaxL : OpN := fun ds Q => match ds with
  | [.lst xs] => ∃ ns, intsOf xs = some ns ∧ ns ≠ [] ∧ ∀ m, m ∈ ns → (∀ y, y ∈ ns → y ≤ m) → Q (.int m)
  | _ => False
def dMinL : OpN := fun ds Q => match ds with
  | [.lst xs] => ∃ ns, intsOf xs = some ns ∧ ns ≠ [] ∧ ∀ m, m ∈ ns → (∀ y, y ∈ ns → m ≤ y) → Q (.int m)
  | _ => False
def dSumL : OpN := fun ds Q => match ds with
  | [.lst xs] => ∃ ns, intsOf xs = some ns ∧ Q (.int ns.sum)
  | _ => False
def dAnyL : OpN := fun ds Q => match ds with
  | [.lst xs] => ∃ ns, blsOf xs = some ns ∧ Q (.bl (ns.any id))
  | _ => False
def dAllL : OpN := fun ds Q => match ds with
  | [.lst xs] => ∃ ns, blsOf xs = some ns ∧ Q (.bl (ns.all id))
  | _ => False
theorem ne_nil_len {α : Type} {l : List α} (h : l ≠ []) : 0 < l.length := List.length_pos_iff.mpr h
theorem opN_maxL {K : PySem.W.Frag} : OpNS K B (rMax K) dMaxL := by
  intro F H ρ σ xs ds Q0 Q R p q k
  unfold dMaxL at q
  split at q
  · obtain ⟨v, rfl, h⟩ := dps1 p
    obtain ⟨ns, h1, h2, q⟩ := q
    cases h with
    | lst h t => exact ⟨_, ns, rfl, by rw [← intsOf_dp t h1]; exact SqL.of (R.fz _ _ h), ne_nil_len h2, fun m m1 m2 => k _ (q m m1 m2) _ F H R (Same.refl _) (.int _)⟩
  · exact q.elim
theorem opN_minL {K : PySem.W.Frag} : OpNS K B (rMin K) dMinL := by
  intro F H ρ σ xs ds Q0 Q R p q k
  unfold dMinL at q
  split at q
  · obtain ⟨v, rfl, h⟩ := dps1 p
    obtain ⟨ns, h1, h2, q⟩ := q
    cases h with
    | lst h t => exact ⟨_, ns, rfl, by rw [← intsOf_dp t h1]; exact SqL.of (R.fz _ _ h), ne_nil_len h2, fun m m1 m2 => k _ (q m m1 m2) _ F H R (Same.refl _) (.int _)⟩
  · exact q.elim
theorem opN_sumL {K : PySem.W.Frag} : OpNS K B (rSum K) dSumL := by
  intro F H ρ σ xs ds Q0 Q R p q k
  unfold dSumL at q
  split at q
  · obtain ⟨v, rfl, h⟩ := dps1 p
    obtain ⟨ns, h1, q⟩ := q
    cases h with
    | lst h t => exact ⟨_, ns, rfl, by rw [← intsOf_dp t h1]; exact SqL.of (R.fz _ _ h), k _ q _ F H R (Same.refl _) (.int _)⟩
  · exact q.elim
theorem opN_anyL {K : PySem.W.Frag} : OpNS K B (rAny K) dAnyL := by
  intro F H ρ σ xs ds Q0 Q R p q k
  unfold dAnyL at q
  split at q
  · obtain ⟨v, rfl, h⟩ := dps1 p
    obtain ⟨ns, h1, q⟩ := q
    cases h with
    | lst h t => exact ⟨_, ns, rfl, by rw [← blsOf_dp t h1]; exact SqL.of (R.fz _ _ h), k _ q _ F H R (Same.refl _) (.bl _)⟩
  · exact q.elim
theorem opN_allL {K : PySem.W.Frag} : OpNS K B (rAll K) dAllL := by
  intro F H ρ σ xs ds Q0 Q R p q k
  unfold dAllL at q
  split at q
  · obtain ⟨v, rfl, h⟩ := dps1 p
    obtain ⟨ns, h1, q⟩ := q
    cases h with
    | lst h t => exact ⟨_, ns, rfl, by rw [← blsOf_dp t h1]; exact SqL.of (R.fz _ _ h), k _ q _ F H R (Same.refl _) (.bl _)⟩
  · exact q.elim
theorem se_maxL (hc : X.calm = true) (hg : Gl X "max") (hm : X.mg "max" = none) (ha : SA X B W (e :: es) s)
    (he : starEach (e :: es) X.env = (false, eval e X.env) :: starEach es X.env := by rfl) (hpl : (backTo pos (starEach es X.env)).any (·.1) = false := by rfl) : SE X B W (.Call (.Name "max" p) (e :: es) [] pos) (aOp dMaxL s) :=
  se_B (cr_max hc) opN_maxL hg hm (by decide +kernel) ha (by decide) (by decide) he hpl
theorem se_minL (hc : X.calm = true) (hg : Gl X "min") (hm : X.mg "min" = none) (ha : SA X B W (e :: es) s)
    (he : starEach (e :: es) X.env = (false, eval e X.env) :: starEach es X.env := by rfl) (hpl : (backTo pos (starEach es X.env)).any (·.1) = false := by rfl) : SE X B W (.Call (.Name "min" p) (e :: es) [] pos) (aOp dMinL s) :=
  se_B (cr_min hc) opN_minL hg hm (by decide +kernel) ha (by decide) (by decide) he hpl
theorem se_sumL (hc : X.calm = true) (hg : Gl X "sum") (hm : X.mg "sum" = none) (ha : SA X B W (e :: es) s)
    (he : starEach (e :: es) X.env = (false, eval e X.env) :: starEach es X.env := by rfl) (hpl : (backTo pos (starEach es X.env)).any (·.1) = false := by rfl) : SE X B W (.Call (.Name "sum" p) (e :: es) [] pos) (aOp dSumL s) :=
  se_B (cr_sum hc) opN_sumL hg hm (by decide +kernel) ha (by decide) (by decide) he hpl
theorem se_anyL (hc : X.calm = true) (hg : Gl X "any") (hm : X.mg "any" = none) (ha : SA X B W (e :: es) s)
    (he : starEach (e :: es) X.env = (false, eval e X.env) :: starEach es X.env := by rfl) (hpl : (backTo pos (starEach es X.env)).any (·.1) = false := by rfl) : SE X B W (.Call (.Name "any" p) (e :: es) [] pos) (aOp dAnyL s) :=
  se_B (cr_any hc) opN_anyL hg hm (by decide +kernel) ha (by decide) (by decide) he hpl
theorem se_allL (hc : X.calm = true) (hg : Gl X "all") (hm : X.mg "all" = none) (ha : SA X B W (e :: es) s)
    (he : starEach (e :: es) X.env = (false, eval e X.env) :: starEach es X.env := by rfl) (hpl : (backTo pos (starEach es X.env)).any (·.1) = false := by rfl) : SE X B W (.Call (.Name "all" p) (e :: es) [] pos) (aOp dAllL s) :=
  se_B (cr_all hc) opN_allL hg hm (by decide +kernel) ha (by decide) (by decide) he hpl

/-! ### int(text), text * int, bit_length -/
def dIntS : OpN := fun ds Q => match ds with
  | [.str x] => ∃ n, PySem.intText? x = some n ∧ x.length ≤ 640 ∧ Q (.int n)
  | _ => False
theorem opN_intS {K : PySem.W.Frag} : OpNS K B (fun xs H Q => ∃ a n, xs = [.str a] ∧ PySem.intText? a = some n ∧ a.length ≤ 640 ∧ Q (.int n) H) dIntS := by
  intro F H ρ σ xs ds Q0 Q R p q k
  unfold dIntS at q
  split at q
  · obtain ⟨v, rfl, h⟩ := dps1 p
    obtain ⟨n, h1, h2, q⟩ := q
    rw [dp_str h]
    exact ⟨_, n, rfl, h1, h2, k _ q _ F H R (Same.refl _) (.int _)⟩
  · exact q.elim
theorem se_intS (hg : Gl X "int") (hm : X.mg "int" = none) (ha : SA X B W (e :: es) s)
    (he : starEach (e :: es) X.env = (false, eval e X.env) :: starEach es X.env := by rfl) (hpl : (backTo pos (starEach es X.env)).any (·.1) = false := by rfl) : SE X B W (.Call (.Name "int" p) (e :: es) [] pos) (aOp dIntS s) :=
  se_Ty call_int_str opN_intS hg hm (by decide +kernel) ha (by decide) (by decide) he hpl
@[simp] def aBits (te : AE) : AE := fun EX ρ Q => te EX ρ fun d ρ' => match d with
  | .int i => Q (.int (Builtin.Int.intBits i : Nat)) ρ'
  | _ => False
theorem se_bits {apos : Pos} (ho : SE X B W e te) (hbase : attributeBase e "bit_length" X.env (eval e X.env) = eval e X.env := by rfl) (hline : (apos.endLine == pos.line) = true := by rfl) : SE X B W (.Call (.Attribute e "bit_length" apos) [] [] pos) (aBits te) := by
  refine PE_imp (pe_bits ho hbase hline) fun σ H Q q => ?_
  obtain ⟨ρ, F, EX, Q0, R, t, k, kx⟩ := q
  refine ⟨ρ, F, EX, _, R, t, fun d ρ1 t1 v F1 H1 R1 s1 p1 => ?_, kx⟩
  split at t1
  · exact ⟨_, dp_int p1, k _ ρ1 t1 _ F1 H1 R1 s1 (.int _)⟩
  · exact t1.elim
/-- a text of some length, n times -/
def repS (x : Str) (n : Nat) : Str := ⟨(List.replicate n x.cps).foldl (· ++ ·) #[]⟩
def dRepS : Op2 := fun d e Q => match d, e with
  | .str x, .int n => 2 ≤ n ∧ n ≤ 100000 ∧ x.length ≤ 100 ∧ x.length ≠ 0 ∧ (repS x n.toNat).length ≤ sizeLine ∧ Q (.str (repS x n.toNat))
  | _, _ => False
theorem op_repS : OpR X (binaryOp .Mult) (fun x y H Q => ∃ (z : Str) (n : Int), x = .str z ∧ y = .int n ∧ 2 ≤ n ∧ n ≤ 100000 ∧ z.length ≤ 100 ∧ z.length ≠ 0 ∧ (repS z n.toNat).length ≤ sizeLine ∧ Q (.str (repS z n.toNat)) H) := by
  intro pins s σ H x y v u Q I rx ry h
  obtain ⟨z, n, rfl, rfl, h1, h2, h3, h4, h5, q⟩ := h
  obtain ⟨t, rfl⟩ := rx
  obtain ⟨t', rfl⟩ := ry
  have e1 : ¬ n < 1 := by omega
  have e2 : (n == 1 || z.length == 0) = false := by
    rw [Bool.or_eq_false_iff]
    exact ⟨by simpa using (by omega : n ≠ 1), by simpa using h4⟩
  refine PySem.P.mul_str ?_ (fun _ _ => ?_) (fun _ _ => ?_) ?_
  · rw [decide_eq_false (by omega), decide_eq_false (by omega)]; rfl
  · have : (z.length : Int) ≤ (2 ^ 63 - 1) / n := Int.le_ediv_of_mul_le (by omega) (by
      have hz : (z.length : Int) ≤ 100 := by omega
      have := Int.mul_le_mul hz h2 (by omega) (by omega)
      omega)
    omega
  · have : z.length * n.toNat ≤ 100 * 100000 := Nat.mul_le_mul h3 (by omega)
    have hs : ¬ z.length * n.toNat > sizeLine := by rw [sizeLine_eq]; omega
    exact decide_eq_false hs
  · rw [if_neg e1, if_neg (by rw [e2]; decide)]
    exact ⟨h5, .str (repS z n.toNat), H, I.tok _, ⟨_, rfl⟩, q⟩
theorem opS_repS {K : PySem.W.Frag} : OpS K B (fun x y H Q => ∃ (z : Str) (n : Int), x = .str z ∧ y = .int n ∧ 2 ≤ n ∧ n ≤ 100000 ∧ z.length ≤ 100 ∧ z.length ≠ 0 ∧ (repS z n.toNat).length ≤ sizeLine ∧ Q (.str (repS z n.toNat)) H) dRepS := by
  intro F H ρ σ x y d e Q0 Q R p1 p2 q k
  unfold dRepS at q
  split at q
  · obtain ⟨h1, h2, h3, h4, h5, q⟩ := q
    exact ⟨_, _, dp_str p1, dp_int p2, h1, h2, h3, h4, h5, k _ q _ F H R (Same.refl _) (.str _)⟩
  · exact q.elim
theorem se_repS (ha : SE X B W a ta) (hb : SE X B W b tb) : SE X B W (.BinOp a .Mult b pos) (aBin dRepS ta tb) := se_bin op_repS opS_repS ha hb

/-! ### stars in displays -/
@[simp] def aStar (te : AE) (s : AA) : AA := fun EX ρ Q => te EX ρ fun d ρ1 => match d with
  | .lst xs => s EX ρ1 fun ds ρ2 => Q (xs ++ ds) ρ2
  | .tup xs => s EX ρ1 fun ds ρ2 => Q (xs ++ ds) ρ2
  | _ => False
theorem sa_star (h : SE X B W e te) (h' : SA X B W es s) (hs : starEach (.Starred e p :: es) X.env = (true, eval e X.env) :: starEach es X.env := by rfl) : SA X B W (.Starred e p :: es) (aStar te s) := by
  refine PA_imp (pa_star h h' hs) fun σ H Q q => ?_
  obtain ⟨ρ, F, EX, Q0, R, t, k, kx⟩ := q
  refine ⟨ρ, F, EX, _, R, t, fun d ρ1 t1 v F1 H1 R1 s1 p1 => ?_, kx⟩
  cases p1 with
  | lst h1 t2 =>
    refine ⟨_, _, rfl, .inr (SqL.of (R1.fz _ _ h1)), ρ1, F1, EX, _, R1, t1, fun ds ρ2 t3 vs F2 H2 R2 s2 p2 => ?_, kx⟩
    exact k _ ρ2 t3 _ F2 H2 R2 (s1.trans s2) ((t2.mono s2).append p2)
  | tup h1 t2 =>
    refine ⟨_, _, rfl, .inl (same_tup R1.fz h1), ρ1, F1, EX, _, R1, t1, fun ds ρ2 t3 vs F2 H2 R2 s2 p2 => ?_, kx⟩
    exact k _ ρ2 t3 _ F2 H2 R2 (s1.trans s2) ((t2.mono s2).append p2)
  | _ => exact t1.elim

/-! ### zip, enumerate -/
def zipD (xs ys : List D) : List D := List.zipWith (fun x y => .tup [x, y]) xs ys
theorem zipD_get {xs ys : List D} {i : Nat} (h : i < (zipD xs ys).length) : ∃ x y, xs[i]? = some x ∧ ys[i]? = some y ∧ (zipD xs ys)[i]? = some (.tup [x, y]) := by
  unfold zipD at *
  rw [List.length_zipWith] at h
  have h1 : i < xs.length := by omega
  have h2 : i < ys.length := by omega
  refine ⟨xs[i], ys[i], by simp [h1], by simp [h2], ?_⟩
  rw [List.getElem?_zipWith]
  simp [h1, h2]
theorem walks_zipL {K : PySem.W.Frag} {F : Hp} {a b : Addr} {vs ws : List V} {ds es : List D} (h : F a = some (.lst vs)) (p : DPs K F vs ds) (h' : F b = some (.lst ws)) (p' : DPs K F ws es) : WalksD K F (Itz K a b) (zipD ds es) where
  go := fun i F1 H s s' l => by
    obtain ⟨x, y, e1, e2, _⟩ := zipD_get l
    obtain ⟨u, f1, _⟩ := p.get e1
    obtain ⟨u', f2, _⟩ := p'.get e2
    exact ⟨vs, ws, u, u', SqL.of (s' _ _ (s _ _ h)), SqL.of (s' _ _ (s _ _ h')), f1, f2⟩
  stop := fun i F1 H s s' l => ⟨vs, ws, SqL.of (s' _ _ (s _ _ h)), SqL.of (s' _ _ (s _ _ h')), by
    rw [p.length, p'.length]
    unfold zipD at l
    rw [List.length_zipWith] at l
    omega⟩
  yld := fun i F1 H x H' s s' l y => by
    obtain ⟨T, u, u', rfl, hT, rfl, y1, y2⟩ := y
    obtain ⟨d, e, e1, e2, e3⟩ := zipD_get l
    have f1 := y1 vs (SqL.of (s' _ _ (s _ _ h)))
    have f2 := y2 ws (SqL.of (s' _ _ (s _ _ h')))
    obtain ⟨d', g1, g2⟩ := p.get' f1
    obtain ⟨e', g3, g4⟩ := p'.get' f2
    rw [e1] at g1
    rw [e2] at g3
    cases g1
    cases g3
    have sm : ∀ o, Same F1 (upd F1 T o) := fun o => same_upd (by
      cases q : F1 T with
      | none => rfl
      | some z => rw [s' _ _ q] at hT; cases hT)
    exact ⟨_, e3, .inr ⟨T, _, hT, rfl, .tup (SqT.of upd_same) (.cons ((g2.mono s).mono (sm _)) (.cons ((g4.mono s).mono (sm _)) .nil))⟩⟩
theorem walks_zipT {K : PySem.W.Frag} {F : Hp} {a b : Addr} {vs ws : List V} {ds es : List D} (h : SqT K F a vs) (p : DPs K F vs ds) (h' : SqT K F b ws) (p' : DPs K F ws es) : WalksD K F (ItzT K a b) (zipD ds es) where
  go := fun i F1 H s s' l => by
    obtain ⟨x, y, e1, e2, _⟩ := zipD_get l
    obtain ⟨u, f1, _⟩ := p.get e1
    obtain ⟨u', f2, _⟩ := p'.get e2
    exact ⟨vs, ws, u, u', same_tup (s.trans s') h, same_tup (s.trans s') h', f1, f2⟩
  stop := fun i F1 H s s' l => ⟨vs, ws, same_tup (s.trans s') h, same_tup (s.trans s') h', by
    rw [p.length, p'.length]
    unfold zipD at l
    rw [List.length_zipWith] at l
    omega⟩
  yld := fun i F1 H x H' s s' l y => by
    obtain ⟨T, u, u', rfl, hT, rfl, y1, y2⟩ := y
    obtain ⟨d, e, e1, e2, e3⟩ := zipD_get l
    have f1 := y1 vs (same_tup (s.trans s') h)
    have f2 := y2 ws (same_tup (s.trans s') h')
    obtain ⟨d', g1, g2⟩ := p.get' f1
    obtain ⟨e', g3, g4⟩ := p'.get' f2
    rw [e1] at g1
    rw [e2] at g3
    cases g1
    cases g3
    have sm : ∀ o, Same F1 (upd F1 T o) := fun o => same_upd (by
      cases q : F1 T with
      | none => rfl
      | some z => rw [s' _ _ q] at hT; cases hT)
    exact ⟨_, e3, .inr ⟨T, _, hT, rfl, .tup (SqT.of upd_same) (.cons ((g2.mono s).mono (sm _)) (.cons ((g4.mono s).mono (sm _)) .nil))⟩⟩
@[simp] def aZip (s : AA) : AI := fun EX ρ Q => s EX ρ fun ds ρ' => match ds with
  | [.lst xs, .lst ys] => Q (zipD xs ys) ρ'
  | [.tup xs, .tup ys] => Q (zipD xs ys) ρ'
  | _ => False
theorem si_zip {tpos : Pos} {elts : List Expr} {kk : Nat} (hg : Gl X "zip") (hm : X.mg "zip" = none) (ha : SA X B W [e, e2] s)
    (hs : starEach [e, e2] X.env = (false, eval e X.env) :: starEach [e2] X.env := by rfl) (hpl : (backTo pos (starEach [e2] X.env)).any (·.1) = false := by rfl) : SI X B W (.Tuple elts kk tpos) (.Call (.Name "zip" p) [e, e2] [] pos) (aZip s) := by
  refine PI_imp (pi_zipA hg hm ha hs hpl) fun σ H Q q => ?_
  obtain ⟨ρ, F, EX, Q0, R, t, k, kx⟩ := q
  refine ⟨ρ, F, EX, _, R, t, fun ds ρ1 t1 vs F1 H1 R1 s1 p1 => ?_, kx⟩
  split at t1
  · obtain ⟨v, w, rfl, h, h'⟩ := dps2 p1
    cases h with
    | lst h1 h2 =>
      cases h' with
      | lst h3 h4 => exact ⟨_, _, _, _, rfl, .inl ⟨SqL.of (R1.fz _ _ h1), SqL.of (R1.fz _ _ h3), k _ ρ1 t1 _ F1 H1 R1 s1 (walks_zipL h1 h2 h3 h4)⟩⟩
  · obtain ⟨v, w, rfl, h, h'⟩ := dps2 p1
    cases h with
    | tup h1 h2 =>
      cases h' with
      | tup h3 h4 => exact ⟨_, _, _, _, rfl, .inr ⟨same_tup R1.fz h1, same_tup R1.fz h3, k _ ρ1 t1 _ F1 H1 R1 s1 (walks_zipT h1 h2 h3 h4)⟩⟩
  · exact t1.elim
def enumD (n : Nat) : List D → List D
  | [] => []
  | x :: xs => .tup [.int (n : Nat), x] :: enumD (n + 1) xs
theorem enumD_len : ∀ {xs : List D} {n : Nat}, (enumD n xs).length = xs.length
  | [], _ => rfl
  | _ :: _, _ => congrArg (· + 1) enumD_len
theorem enumD_get : ∀ {xs : List D} {n i : Nat} {x : D}, xs[i]? = some x → (enumD n xs)[i]? = some (.tup [.int ((n + i : Nat) : Int), x])
  | [], _, _, _, h => by simp at h
  | y :: ys, n, 0, x, h => by
    simp at h
    subst h
    rfl
  | y :: ys, n, i + 1, x, h => by
    have := enumD_get (xs := ys) (n := n + 1) (i := i) (x := x) (by simpa using h)
    show (enumD (n + 1) ys)[i]? = _
    rw [this, show n + 1 + i = n + (i + 1) by omega]
theorem walks_enum {K : PySem.W.Frag} {F : Hp} {a : Addr} {vs : List V} {ds : List D} (h : F a = some (.lst vs)) (p : DPs K F vs ds) : WalksD K F (Ite K a) (enumD 0 ds) where
  go := fun i F1 H s s' l => by
    have l' : i < vs.length := by rw [p.length, ← enumD_len (n := 0)]; exact l
    exact ⟨vs, vs[i], SqL.of (s' _ _ (s _ _ h)), by simp [l']⟩
  stop := fun i F1 H s s' l => ⟨vs, SqL.of (s' _ _ (s _ _ h)), by rw [p.length, ← enumD_len (n := 0)]; exact l⟩
  yld := fun i F1 H x H' s s' l y => by
    obtain ⟨T, u, rfl, hT, rfl, y1⟩ := y
    have f1 := y1 vs (SqL.of (s' _ _ (s _ _ h)))
    obtain ⟨d, g1, g2⟩ := p.get' f1
    have sm : ∀ o, Same F1 (upd F1 T o) := fun o => same_upd (by
      cases q : F1 T with
      | none => rfl
      | some z => rw [s' _ _ q] at hT; cases hT)
    have e := enumD_get (n := 0) g1
    rw [Nat.zero_add] at e
    exact ⟨_, e, .inr ⟨T, _, hT, rfl, .tup (SqT.of upd_same) (.cons (.int _) (.cons ((g2.mono s).mono (sm _)) .nil))⟩⟩
@[simp] def aEnum (s : AA) : AI := fun EX ρ Q => s EX ρ fun ds ρ' => match ds with
  | [.lst xs] => Q (enumD 0 xs) ρ'
  | _ => False
theorem si_enum {tpos : Pos} {elts : List Expr} {kk : Nat} (hg : Gl X "enumerate") (hm : X.mg "enumerate" = none) (ha : SA X B W [e] s) (hs : starEach [e] X.env = [(false, eval e X.env)] := by rfl) :
    SI X B W (.Tuple elts kk tpos) (.Call (.Name "enumerate" p) [e] [] pos) (aEnum s) := by
  refine PI_imp (pi_enum hg hm ha hs) fun σ H Q q => ?_
  obtain ⟨ρ, F, EX, Q0, R, t, k, kx⟩ := q
  refine ⟨ρ, F, EX, _, R, t, fun ds ρ1 t1 vs F1 H1 R1 s1 p1 => ?_, kx⟩
  split at t1
  · obtain ⟨v, rfl, h⟩ := dps1 p1
    cases h with
    | lst h1 h2 => exact ⟨_, _, rfl, SqL.of (R1.fz _ _ h1), k _ ρ1 t1 _ F1 H1 R1 s1 (walks_enum h1 h2)⟩
  · exact t1.elim
end
end PU
set_option Elab.async false
set_option linter.all false
set_option maxRecDepth 100000
namespace PU
open PySem PySem.Spec L2 StX RZ
set_option autoImplicit false
section
variable {X : Cx} {B : Bas} {W : WX} {a b c e e2 tg : Expr} {es : List Expr} {ta tb tc te : AE} {s : AA} {pos p : Pos}

/-! ### is, of truths -/
@[simp] def dIs2 : Op2 := fun d e Q => match d, e with
  | .bl x, .bl y => Q (.bl (decide (x = y)))
  | d, e => dIs d e Q
@[simp] def dIsNot2 : Op2 := fun d e Q => match d, e with
  | .bl x, .bl y => Q (.bl (!decide (x = y)))
  | d, e => dIsNot d e Q
theorem opS_is2 {K : PySem.W.Frag} : OpS K B (fun x y H Q => (∃ a b, x = .bl a ∧ y = .bl b ∧ Q (.bl (decide (a = b))) H) ∨ (y = .non ∧ Q (.bl (decide (x = .non))) H)) dIs2 := by
  intro F H ρ σ x y d e Q0 Q R p1 p2 q k
  unfold dIs2 at q
  split at q
  · exact .inl ⟨_, _, dp_bl p1, dp_bl p2, k _ q _ F H R (Same.refl _) (.bl _)⟩
  · exact .inr (opS_is F H ρ σ x y _ _ _ Q R p1 p2 q k)
theorem opS_isNot2 {K : PySem.W.Frag} : OpS K B (fun x y H Q => (∃ a b, x = .bl a ∧ y = .bl b ∧ Q (.bl (!decide (a = b))) H) ∨ (y = .non ∧ Q (.bl (!decide (x = .non))) H)) dIsNot2 := by
  intro F H ρ σ x y d e Q0 Q R p1 p2 q k
  unfold dIsNot2 at q
  split at q
  · exact .inl ⟨_, _, dp_bl p1, dp_bl p2, k _ q _ F H R (Same.refl _) (.bl _)⟩
  · exact .inr (opS_isNot F H ρ σ x y _ _ _ Q R p1 p2 q k)
theorem se_is2 (ha : SE X B W a ta) (hb : SE X B W b tb) : SE X B W (.Compare a [.Is] [b] pos) (aBin dIs2 ta tb) := se_cmp (op_is_bl.or op_isN) opS_is2 ha hb (nomark _)
theorem se_isNot2 (ha : SE X B W a ta) (hb : SE X B W b tb) : SE X B W (.Compare a [.IsNot] [b] pos) (aBin dIsNot2 ta tb) := se_cmp (op_isnot_bl.or op_notN) opS_isNot2 ha hb (nomark _)

/-! ### a def held as a value -/
/-- the def at f keeps A -/
def FnAt (P : Program) (w : World) (K : PySem.W.Frag) (mg : Str → Option Value) (base : Heap) (ec : Str → Option Addr) (k : Nat) (f : Addr) (n : Nat) (A : AF) : Prop :=
  ∃ fd ps, PySem.W.keepIn K (.ref f) = true ∧ Binds K fd ps [] ∧ FnG P w K mg base k f fd ps (spOf K ec n A)
/-- g(..), g the slot i -/
@[simp] def aCallV (FA : Addr → Nat → AF → Prop) (i n : Nat) (s : AA) : AE := fun EX ρ Q => ∃ f A, (∃ u, ρ[i]? = some u ∧ u = .dat (.con (.ref f))) ∧ FA f n A ∧ s EX ρ fun ds ρ' => ds.length = n ∧ A ds (fun d => Q d ρ') fun x => EX x ρ'
/-- some def's promise, whatever the address -/
structure AtF where
  f : Addr
  A : AF
theorem PE_ex1 {α : Type} {X : Cx} {e : Expr} {T : α → TE} {P : α → Prop} (h : ∀ a, P a → PE X e (T a)) : PE X e (fun σ H Q => ∃ a, P a ∧ T a σ H Q) :=
  ⟨fun pins s σ H Q I q => let ⟨a, p, q⟩ := q; (h a p).run pins s σ H Q I q⟩
def tCallV (i : Nat) (f : Addr) (sp : Sp) (E : L2.St → XK) (t : TA) : TE := fun σ H Q => σ[i]? = some (some (.ref f)) ∧ t σ H fun vs H1 => sp vs H1 Q (E σ)
theorem pe_callV {x : Str} {i k : Nat} {f : Addr} {fd : FuncData} {ps : List Str} {sp : Sp} {E : L2.St → XK} {t : TA} (d : FnG X.prog X.w X.K X.mg X.base k f fd ps sp) (hr : RoomG k X.A) (hN : X.N[i]? = some x) (hv : Vis X.env.scope x) (hk : PySem.W.keepIn X.K (.ref f) = true) (hb : Binds X.K fd ps []) (hx : ∀ σ, PassesAt (L2.CX X.prog X.w) X σ (E σ)) (ha : PA X (e :: es) t)
    (hdb : (x == ("__debug__" : Str)) = false := by decide) (hcd : (x == ("__classdict__" : Str)) = false := by decide)
    (he : starEach (e :: es) X.env = (false, eval e X.env) :: starEach es X.env := by rfl) (hpl : (backTo pos (starEach es X.env)).any (·.1) = false := by rfl) : PE X (.Call (.Name x p) (e :: es) [] pos) (tCallV i f sp E t) := by
  refine ⟨fun pins s σ H Q I h => ?_⟩
  obtain ⟨hs, ht⟩ := h
  have look := (pe_var (pos := p) hN hv hdb hcd).run pins s σ H (fun v H1 => v = .ref f ∧ H1 = H) I ⟨.ref f, hs, rfl, rfl⟩
  refine wpAny_Call_Name_kw (thn look fun u s1 ⟨v, H1, J, r1, q1⟩ => ?_)
  obtain ⟨rfl, rfl⟩ := q1
  cases r1
  exact PySem.W.callWith_K (h₀ := X.base) I.ok.mod.kin hk (thn (ha.run pos pins s1 σ _ _ J ht) fun us s2 ⟨vs, H2, J2, r, q⟩ => ⟨J2.kIn, goG d hr hb (hx σ) J2 r q⟩) he hpl
theorem se_callV {x : Str} {i n k : Nat} {ec : Str → Option Addr} (hec : B.ec = ec) (tk : Takes X W) (hr : RoomG k X.A) (hN : X.N[i]? = some x) (hv : Vis X.env.scope x) (ha : SA X B W (e :: es) s)
    (hdb : (x == ("__debug__" : Str)) = false := by decide) (hcd : (x == ("__classdict__" : Str)) = false := by decide)
    (he : starEach (e :: es) X.env = (false, eval e X.env) :: starEach es X.env := by rfl) (hpl : (backTo pos (starEach es X.env)).any (·.1) = false := by rfl) :
    SE X B W (.Call (.Name x p) (e :: es) [] pos) (aCallV (FnAt X.prog X.w X.K X.mg X.base ec k) i n s) := by
  subst hec
  refine PE_imp (PE_ex1 (α := AtF) (P := fun a => FnAt X.prog X.w X.K X.mg X.base B.ec k a.f n a.A) (T := fun a => tCallV i a.f (spOf X.K B.ec n a.A) (WE W) (cA X.K B W s)) fun a ha' => ?_) fun σ H Q q => ?_
  · obtain ⟨fd, ps, h2, h3, h4⟩ := ha'
    exact pe_callV h4 hr hN hv h2 h3 (fun σ => passAt tk σ) ha hdb hcd he hpl
  · obtain ⟨ρ, F, EX, Q0, R, ⟨f, A, ⟨_, hs, rfl⟩, hA, t⟩, k, kx⟩ := q
    obtain ⟨v, h1, h2⟩ := R.sl i _ hs
    rw [dp_con h2] at h1
    refine ⟨⟨f, A⟩, hA, h1, ρ, F, EX, _, R, t, fun ds ρ1 t1 vs F1 H1 R1 s1 p1 => ?_, kx⟩
    refine ⟨F1, ds, _, _, t1.1, R1.toCall (.inr rfl), p1, t1.2, fun d hd v F' H' P pd => ?_, fun x hx cls d F' H' P px => ?_⟩
    · exact k _ ρ1 hd v F' H' (R1.call (.inr rfl) P) (s1.trans P.f0) pd
    · exact kx x ρ1 hx cls d F' H' (R1.call (.inr rfl) P) px
/-- a def of the text as a value -/
theorem DefOk.at {P : Program} {w : World} {K : PySem.W.Frag} {mg : Str → Option Value} {base : Heap} {ec : Str → Option Addr} {nm : Str} {k n : Nat} {A : AF} {f : Addr} (d : DefOk P w K mg base nm k (spOf K ec n A)) (h : mg nm = some (.ref f)) : FnAt P w K mg base ec k f n A := by
  obtain ⟨f', fd, ps, h1, h2, h3, h4⟩ := d.ex
  rw [h] at h1
  cases h1
  exact ⟨fd, ps, h2, h3, h4⟩

theorem st_eq2 {k : Nat} (hr : Room k X.A) (ha : SE X B W a ta) (hb : SE X B W b tb) : ST X B W (.Compare a [.Eq] [b] pos) (aTestB (aBin dEq2 ta tb)) := st_cmp (op_eq.or (op_eqD hr.units)) opS_eq2 ha hb (nomark _)
theorem st_ne2 {k : Nat} (hr : Room k X.A) (ha : SE X B W a ta) (hb : SE X B W b tb) : ST X B W (.Compare a [.NotEq] [b] pos) (aTestB (aBin dNe2 ta tb)) := st_cmp (op_ne.or (op_neD hr.units)) opS_ne2 ha hb (nomark _)
theorem st_in {k : Nat} (hr : Room k X.A) (ha : SE X B W a ta) (hb : SE X B W b tb) (hm : behindInMarks .In b = false := by rfl) : ST X B W (.Compare a [.In] [b] pos) (aTestB (aBin (dIn false) ta tb)) := st_cmp (op_inG hr) opS_in ha hb hm
theorem st_notIn {k : Nat} (hr : Room k X.A) (ha : SE X B W a ta) (hb : SE X B W b tb) (hm : behindInMarks .NotIn b = false := by rfl) : ST X B W (.Compare a [.NotIn] [b] pos) (aTestB (aBin (dIn true) ta tb)) := st_cmp (op_notInG hr) opS_in ha hb hm
theorem st_is2 (ha : SE X B W a ta) (hb : SE X B W b tb) : ST X B W (.Compare a [.Is] [b] pos) (aTestB (aBin dIs2 ta tb)) := st_cmp (op_is_bl.or op_isN) opS_is2 ha hb (nomark _)
theorem st_isNot2 (ha : SE X B W a ta) (hb : SE X B W b tb) : ST X B W (.Compare a [.IsNot] [b] pos) (aTestB (aBin dIsNot2 ta tb)) := st_cmp (op_isnot_bl.or op_notN) opS_isNot2 ha hb (nomark _)
end
end PU
set_option Elab.async false
set_option linter.all false
set_option maxRecDepth 100000
namespace PU
open PySem PySem.Spec L2 StX RZ
set_option autoImplicit false

/-! ### a, b, .. = .., some of them new objects of one's own -/
inductive OV where
  | dat (d : D) | own (d : D)
inductive DOs (K : PySem.W.Frag) (F H : Hp) (ρ : List AV) (σ : L2.St) : Bas → List V → List OV → Prop
  | nil {B : Bas} : DOs K F H ρ σ B [] []
  | dat {B : Bas} {v : V} {vs : List V} {d : D} {os : List OV} : DP K F v d → DOs K F H ρ σ B vs os → DOs K F H ρ σ B (v :: vs) (.dat d :: os)
  | own {B : Bas} {a : Addr} {o : HO} {vs : List V} {d : D} {os : List OV} : FreshAt B F H ρ σ a o → OwnP K F o d → DOs K F H ρ σ (B.wP (upd B.P a o)) vs os → DOs K F H ρ σ B (.ref a :: vs) (.own d :: os)
abbrev AO2 := EK → List AV → (List OV → List AV → Prop) → Prop
def cAo (K : PySem.W.Frag) (B : Bas) (W : WX) (t : AO2) : TA := fun σ H Q => ∃ ρ F EX Q0, Rel K B F H ρ σ ∧ t EX ρ Q0 ∧ (∀ os ρ', Q0 os ρ' → ∀ vs F' H', Rel K B F' H' ρ' σ → Same F F' → DOs K F' H' ρ' σ B vs os → Q vs H') ∧ cX K B W σ EX
def SAo (X : Cx) (B : Bas) (W : WX) (es : List Expr) (t : AO2) : Prop := PA X es (cAo X.K B W t)
section
variable {K : PySem.W.Frag} {B : Bas} {F F' H H' : Hp} {ρ ρ' : List AV} {σ : L2.St}
theorem Rel.guard (R : Rel K B F H ρ σ) {p : Addr} {o : HO} (f : FreshAt B F H ρ σ p o) : Rel K (B.wP (upd B.P p o)) F H ρ σ := by
  obtain ⟨f1, f2, f3, f4, f5⟩ := f
  refine ⟨⟨R.fz, R.f0, R.nf, R.kp, R.sr, fun b x e => ?_⟩, R.len, R.sl, fun i d e => ?_, R.so, R.ap⟩
  · have e : upd B.P p o b = some x := e
    by_cases hb : b = p
    · subst hb
      rw [upd_same] at e
      cases e
      exact ⟨f4, f1, f2⟩
    · rw [upd_ne hb] at e
      exact R.pr b x e
  · obtain ⟨a, ho, h1, h2, h3, hP, h4, h5⟩ := R.ow i d e
    have n : a ≠ p := fun z => f5 i d e (z ▸ h1)
    exact ⟨a, ho, h1, h2, h3, by show upd B.P p o a = none; rw [upd_ne n]; exact hP, h4, h5⟩
theorem DOs.shift {F1 H1 : Hp} {ρ1 : List AV} {σ1 : L2.St} (sm : Same F F1) (hf : ∀ b o, F b = none → H b = some o → F1 b = none ∧ H1 b = some o) {Bx : Bas} {vs : List V} {os : List OV} (h : DOs K F H ρ σ Bx vs os) :
    ∀ {P2 : Hp}, (∀ b, Bx.P b = none → P2 b = none ∧ ∀ o, FreshAt Bx F H ρ σ b o → ∀ (j : Nat) (e : D), ρ1[j]? = some (.own e) → σ1[j]? ≠ some (some (.ref b))) →
      (∀ (P : Hp) b o, (∀ c, P c = none → Bx.P c = none) → FreshAt (Bx.wP P) F H ρ σ b o → ∀ (j : Nat) (e : D), ρ1[j]? = some (.own e) → σ1[j]? ≠ some (some (.ref b))) → DOs K F1 H1 ρ1 σ1 (Bx.wP P2) vs os := by
  induction h with
  | nil => intro P2 _ _; exact .nil
  | dat h t ih => intro P2 q1 q2; exact .dat (h.mono sm) (ih q1 q2)
  | own f q t ih =>
    rename_i B0 a o vs d os
    intro P2 q1 q2
    obtain ⟨f1, f2, f3, f4, f5⟩ := f
    obtain ⟨g1, g4⟩ := hf a o f1 f4
    refine .own ⟨g1, f2, (q1 a f3).1, g4, (q1 a f3).2 o ⟨f1, f2, f3, f4, f5⟩⟩ (q.mono sm) ?_
    have key := ih (P2 := upd P2 a o) (fun b hb => ?_) (fun P b ob hP fb => ?_)
    · exact key
    · have hb : upd B0.P a o b = none := hb
      have n : b ≠ a := fun z => by rw [z, upd_same] at hb; cases hb
      rw [upd_ne n] at hb
      refine ⟨by rw [upd_ne n]; exact (q1 b hb).1, fun ob fb => ?_⟩
      obtain ⟨u1, u2, u3, u4, u5⟩ := fb
      exact (q1 b hb).2 ob ⟨u1, u2, hb, u4, u5⟩
    · obtain ⟨u1, u2, u3, u4, u5⟩ := fb
      refine q2 P b ob (fun c hc => ?_) ⟨u1, u2, u3, u4, u5⟩
      have z : upd B0.P a o c = none := hP c hc
      by_cases e : c = a
      · rw [e]; exact f3
      · rwa [upd_ne e] at z
@[simp] def putO : List Nat → List OV → List AV → List AV
  | i :: is, .dat d :: os, ρ => putO is os (ρ.set i (.dat d))
  | i :: is, .own d :: os, ρ => putO is os (ρ.set i (.own d))
  | _, _, ρ => ρ
def putV : List Nat → List V → L2.St → L2.St
  | i :: is, v :: vs, σ => putV is vs (σ.set i (some v))
  | _, _, σ => σ
theorem Rel.putO : ∀ {is : List Nat} {vs : List V} {os : List OV} {B : Bas} {ρ : List AV} {σ : L2.St}, is.length = os.length → Rel K B F H ρ σ → DOs K F H ρ σ B vs os → Rel K B F H (PU.putO is os ρ) (putV is vs σ)
  | [], _, _, _, _, _, hl, R, h => by
    cases h with
    | nil => exact R
    | dat => cases hl
    | own => cases hl
  | i :: is, _, _, B, ρ, σ, hl, R, h => by
    cases h with
    | nil => cases hl
    | dat h t =>
      rename_i v vs d os
      refine Rel.putO (is := is) (by simpa using hl) (R.store h) ?_
      have := t.shift (F1 := F) (H1 := H) (ρ1 := ρ.set i (.dat d)) (σ1 := σ.set i (some v)) (Same.refl _) (fun b o x y => ⟨x, y⟩) (P2 := B.P) (fun b hb => ⟨hb, fun o f j e q => ?_⟩) (fun P b o hP f j e q => ?_)
      · exact this
      · rcases set_get q with ⟨rfl, z⟩ | ⟨n, z⟩
        · cases z
        · rw [List.getElem?_set_ne (Ne.symm n)]
          exact f.2.2.2.2 j e z
      · rcases set_get q with ⟨rfl, z⟩ | ⟨n, z⟩
        · cases z
        · rw [List.getElem?_set_ne (Ne.symm n)]
          exact f.2.2.2.2 j e z
    | own f q t =>
      rename_i a o vs d os
      have f' := f
      obtain ⟨f1, f2, f3, f4, f5⟩ := f
      refine Rel.putO (is := is) (by simpa using hl) (R.storeO f1 f2 f3 f4 q fun j e _ => f5 j e) ?_
      have hh : ∀ (P : Hp) (b : Addr) (ob : HO), P b = none → (∀ c, P c = none → upd B.P a o c = none) → FreshAt (B.wP P) F H ρ σ b ob → ∀ (j : Nat) (e : D), (ρ.set i (.own d))[j]? = some (.own e) → (σ.set i (some (.ref a)))[j]? ≠ some (some (.ref b)) := by
        intro P b ob hb hP fb j e qq
        have n : b ≠ a := fun z => by
          have := hP b hb
          rw [z, upd_same] at this
          cases this
        rcases set_get qq with ⟨rfl, z⟩ | ⟨m, z⟩
        · have hlt : j < σ.length := by
            have := (List.getElem?_eq_some_iff.mp qq).1
            rw [List.length_set] at this
            rw [R.len]; exact this
          rw [List.getElem?_set_self hlt]
          intro y
          cases y
          exact n rfl
        · rw [List.getElem?_set_ne (Ne.symm m)]
          exact fb.2.2.2.2 j e z
      have := t.shift (F1 := F) (H1 := H) (ρ1 := ρ.set i (.own d)) (σ1 := σ.set i (some (.ref a))) (Same.refl _) (fun b o x y => ⟨x, y⟩) (P2 := B.P) (fun b hb => ⟨?_, fun ob fb j e qq => ?_⟩) (fun P b ob hP fb j e qq => ?_)
      · exact this
      · have hb : upd B.P a o b = none := hb
        by_cases n : b = a
        · rw [n]; exact f3
        · rwa [upd_ne n] at hb
      · exact hh _ b ob hb (fun _ z => z) fb j e qq
      · exact hh P b ob fb.2.2.1 hP fb j e qq
end
section
variable {X : Cx} {B : Bas} {W : WX} {a b c e : Expr} {es : List Expr} {te : AE} {s : AA} {so : AO2} {pos : Pos}
@[simp] def aoNil : AO2 := fun _ ρ Q => Q [] ρ
@[simp] def aoD (te : AE) (s : AO2) : AO2 := fun EX ρ Q => te EX ρ fun d ρ1 => s EX ρ1 fun ds ρ2 => Q (.dat d :: ds) ρ2
@[simp] def aoO (te : AE) (s : AO2) : AO2 := fun EX ρ Q => te EX ρ fun d ρ1 => s EX ρ1 fun ds ρ2 => Q (.own d :: ds) ρ2
theorem sao_nil : SAo X B W [] aoNil := by
  refine PA_imp pa_nil fun σ H Q q => ?_
  obtain ⟨ρ, F, EX, Q0, R, t, k, kx⟩ := q
  exact k _ ρ t [] F H R (Same.refl _) .nil
theorem sao_d (h : SE X B W e te) (h' : SAo X B W es so) (hs : starEach (e :: es) X.env = (false, eval e X.env) :: starEach es X.env := by rfl) : SAo X B W (e :: es) (aoD te so) := by
  refine PA_imp (pa_cons h h' hs) fun σ H Q q => ?_
  obtain ⟨ρ, F, EX, Q0, R, t, k, kx⟩ := q
  refine ⟨ρ, F, EX, _, R, t, fun d ρ1 t1 v F1 H1 R1 s1 p1 => ?_, kx⟩
  refine ⟨ρ1, F1, EX, _, R1, t1, fun os ρ2 t2 vs F2 H2 R2 s2 p2 => ?_, kx⟩
  exact k _ ρ2 t2 _ F2 H2 R2 (s1.trans s2) (.dat (p1.mono s2) p2)
theorem PA_ex {α : Type} {T : α → TA} (h : ∀ a, PA X es (T a)) : PA X es (fun σ H Q => ∃ a, T a σ H Q) := ⟨fun pos pins s σ H Q I q => let ⟨a, q⟩ := q; (h a).run pos pins s σ H Q I q⟩
theorem sao_o (h : SF X B W e te) (h' : ∀ P, SAo X (B.wP P) W es so) (hs : starEach (e :: es) X.env = (false, eval e X.env) :: starEach es X.env := by rfl) : SAo X B W (e :: es) (aoO te so) := by
  refine PA_imp (pa_cons h (PA_ex (T := fun P => cAo X.K (B.wP P) W so) h') hs) fun σ H Q q => ?_
  obtain ⟨ρ, F, EX, Q0, R, t, k, kx⟩ := q
  refine ⟨ρ, F, EX, _, R, t, fun d ρ1 t1 a o F1 H1 R1 s1 f p1 => ?_, kx⟩
  have hP := f.2.2.1
  refine ⟨upd B.P a o, ρ1, F1, EX, _, R1.guard f, t1, fun os ρ2 t2 vs F2 H2 R2 s2 p2 => ?_, fun x ρ' hx cls d F' H' R' xp => ?_⟩
  · obtain ⟨R3, f3⟩ := R2.release hP
    exact k _ ρ2 t2 _ F2 H2 R3 (s1.trans s2) (.own f3 (p1.mono s2) p2)
  · exact kx x ρ' hx cls d F' H' (R'.release hP).1 xp
@[simp] def aParO (is : List Nat) (s : AO2) : AS := fun A ρ => s A.ex ρ fun os ρ' => is.length = os.length ∧ A.nx (putO is os ρ')
theorem DOs.len {K : PySem.W.Frag} {F H : Hp} {ρ : List AV} {σ : L2.St} {B : Bas} {vs : List V} {os : List OV} (h : DOs K F H ρ σ B vs os) : vs.length = os.length := by
  induction h with
  | nil => rfl
  | dat _ _ ih => exact congrArg (· + 1) ih
  | own _ _ _ ih => exact congrArg (· + 1) ih
theorem ss_par2 {i j : Nat} {x y : Str} {px py pt : Pos} {kt k2 : Nat} {pt2 : Pos} (hc : X.calm = true) (hN : X.N.Nodup) (hi : X.N[i]? = some x) (hj : X.N[j]? = some y) (hij : i ≠ j)
    (hx : X.env.scope.names.lookup x = some .local) (hy : X.env.scope.names.lookup y = some .local) (ha : SAo X B W [a, b] so)
    (hw : swappedStores [.Tuple [.Name x px, .Name y py] kt pt] (.Tuple [a, b] k2 pt2) X.env = pure (some [x, y]) := by rfl)
    (hs : swapsWithSole [.Tuple [.Name x px, .Name y py] kt pt] (.Tuple [a, b] k2 pt2) pos.line X.env = pure false := by rfl) :
    SS X B W (.Assign [.Tuple [.Name x px, .Name y py] kt pt] (.Tuple [a, b] k2 pt2) pos) (aParO [i, j] so) := by
  refine PS_imp (ps_par hc hN hi hj hij hx hy ha hw hs) fun D σ H q => ?_
  obtain ⟨ρ, F, A, R, t, k⟩ := q
  refine ⟨ρ, F, A.ex, _, R, t, fun os ρ' t' vs F' H' R' s' p' => ?_, k.ex σ⟩
  have l := p'.len
  have l2 : os.length = 2 := t'.1.symm
  have R2 := R'.putO t'.1 p'
  match vs, l with
  | [v, w], _ => exact ⟨v, w, rfl, k.nx _ _ F' H' t'.2 R2 s'⟩
  | [], l => rw [l2] at l; cases l
  | [_], l => rw [l2] at l; cases l
  | _ :: _ :: _ :: _, l => rw [l2] at l; simp at l
theorem ss_par3 {i j l : Nat} {x y z : Str} {px py pz pt : Pos} {kt k2 : Nat} {pt2 : Pos} (hc : X.calm = true) (hN : X.N.Nodup) (hi : X.N[i]? = some x) (hj : X.N[j]? = some y) (hl : X.N[l]? = some z) (hij : i ≠ j) (hil : i ≠ l) (hjl : j ≠ l)
    (hx : X.env.scope.names.lookup x = some .local) (hy : X.env.scope.names.lookup y = some .local) (hz : X.env.scope.names.lookup z = some .local) (ha : SAo X B W [a, b, c] so)
    (hw : swappedStores [.Tuple [.Name x px, .Name y py, .Name z pz] kt pt] (.Tuple [a, b, c] k2 pt2) X.env = pure (some [x, y, z]) := by rfl)
    (hs : swapsWithSole [.Tuple [.Name x px, .Name y py, .Name z pz] kt pt] (.Tuple [a, b, c] k2 pt2) pos.line X.env = pure false := by rfl) :
    SS X B W (.Assign [.Tuple [.Name x px, .Name y py, .Name z pz] kt pt] (.Tuple [a, b, c] k2 pt2) pos) (aParO [i, j, l] so) := by
  refine PS_imp (ps_par3 hc hN hi hj hl hij hil hjl hx hy hz ha hw hs) fun D σ H q => ?_
  obtain ⟨ρ, F, A, R, t, k⟩ := q
  refine ⟨ρ, F, A.ex, _, R, t, fun os ρ' t' vs F' H' R' s' p' => ?_, k.ex σ⟩
  have l1 := p'.len
  have l2 : os.length = 3 := t'.1.symm
  have R2 := R'.putO t'.1 p'
  match vs, l1 with
  | [u, v, w], _ => exact ⟨u, v, w, rfl, k.nx _ _ F' H' t'.2 R2 s'⟩
  | [], l1 => rw [l2] at l1; cases l1
  | [_], l1 => rw [l2] at l1; cases l1
  | [_, _], l1 => rw [l2] at l1; cases l1
  | _ :: _ :: _ :: _ :: _, l1 => rw [l2] at l1; simp at l1
/-- by a tuple, where a name is a cell or there are more of them -/
def gStore : List Nat → TGs
  | [] => gNil
  | i :: is => gCons (gName i) (gStore is)
theorem gStore_of : ∀ {is : List Nat} {vs : List V} {σ : L2.St} {H : Hp} {Q : L2.St → Hp → Prop}, is.length = vs.length → Q (putV is vs σ) H → gStore is vs σ H Q
  | [], [], _, _, _, _, q => ⟨rfl, q⟩
  | _ :: _, v :: vs, _, _, _, h, q => ⟨v, vs, rfl, gStore_of (by simpa using h) q⟩
  | [], _ :: _, _, _, _, h, _ => by cases h
  | _ :: _, [], _, _, _, h, _ => by cases h
theorem ss_parG {is : List Nat} {n kt k2 : Nat} {ts : List Expr} {pt pt2 : Pos} (hc : X.calm = true) (hg : PGs X ts (gStore is)) (hn : is.length = n) (hz : n ≤ 1000) (ha : SAo X B W es so)
    (h1 : (assignEach ts X.env).length = n := by rfl) (hst : (assignEach ts X.env).findIdx? (·.1) = none := by rfl)
    (hs : swapsWithSole [.Tuple ts kt pt] (.Tuple es k2 pt2) pos.line X.env = pure false := by rfl) (hw : swappedStores [.Tuple ts kt pt] (.Tuple es k2 pt2) X.env = pure none := by rfl)
    (h2 : (assignEach [.Tuple ts kt pt] X.env).map (·.2) = [assign (.Tuple ts kt pt) X.env] := by rfl) :
    SS X B W (.Assign [.Tuple ts kt pt] (.Tuple es k2 pt2) pos) (aParO is so) := by
  refine PS_imp (ps_asg (pe_tup ha) (pg_tup hc hg h1 hst) hs hw h2) fun D σ H q => ?_
  obtain ⟨ρ, F, A, R, t, k⟩ := q
  refine ⟨ρ, F, A.ex, _, R, t, fun os ρ' t' vs F' H' R' s' p' => ?_, k.ex σ⟩
  have l1 : vs.length = n := by rw [p'.len, ← t'.1, hn]
  refine ⟨by rw [l1, sizeLine_eq]; omega, fun p hp => ⟨p, vs, rfl, SqT.of upd_same, l1, gStore_of (by rw [l1, hn]) ?_⟩⟩
  have R2 := (R'.putO t'.1 p').allocO (o := .tup vs) hp
  exact k.nx _ _ F' _ t'.2 R2 s'
end
end PU
set_option Elab.async false
set_option linter.all false
set_option maxRecDepth 100000
namespace PU
open PySem PySem.Spec L2 StX RZ
set_option autoImplicit false
section
variable {X : Cx} {B : Bas} {W : WX} {a b c e : Expr} {es : List Expr} {ta tb te : AE} {s : AA} {pos : Pos}
/-! ### x == e, x != e, x an own list that stays one's own -/
theorem Seen.py {K : PySem.W.Frag} {F H : Hp} {v : V} {d : D} {n : Nat} (e : Same F H) (h : Seen K F H v d) (s : D.shp n d) : Dp K H v d.py := by
  rcases h with h | ⟨a, o, rfl, h1, h2⟩
  · exact shp_dp e s h
  · cases h2 with
    | lst t =>
      cases n with
      | zero => unfold D.shp at s; exact s.elim
      | succ n => exact .lst (SqL.of h1) (shp_dps e s t)
    | dK t => unfold D.shp at s; exact s.elim
    | dT t => unfold D.shp at s; exact s.elim
@[simp] def aNeN (i : Nat) (tb : AE) : AE := fun EX ρ Q => (∃ v, ρ[i]? = some v ∧ v ≠ .un ∧ v ≠ .src) ∧ tb EX ρ fun e ρ' => lookA ρ' i fun d => dNe d e fun z => Q z ρ'
@[simp] def aEqN (i : Nat) (tb : AE) : AE := fun EX ρ Q => (∃ v, ρ[i]? = some v ∧ v ≠ .un ∧ v ≠ .src) ∧ tb EX ρ fun e ρ' => lookA ρ' i fun d => dEq d e fun z => Q z ρ'
theorem cNeN {K : PySem.W.Frag} {i : Nat} {σ : L2.St} {H : Hp} {Q : VK} (q : cE K B W (aNeN i tb) σ H Q) : tOp (rNeD K) (tVar i) (cE K B W tb) σ H Q := by
  obtain ⟨ρ, F, EX, Q0, R, ⟨⟨u, hu, hu1, _⟩, t⟩, k, kx⟩ := q
  obtain ⟨v, hv⟩ := R.slotV hu hu1
  refine ⟨v, hv, ρ, F, EX, _, R, t, fun e ρ' t' w F' H' R' s' p2 => ?_, kx⟩
  obtain ⟨v', d, h1, h2, s1, s2, t'⟩ := R'.look t'
  rw [hv] at h1
  cases h1
  exact ⟨d.py, e.py, h2.py R'.fz s1, shp_dp R'.fz s2 p2, shp_shaped s1, shp_shaped s2, k _ _ t' _ F' H' R' s' (.bl _)⟩
theorem cEqN {K : PySem.W.Frag} {i : Nat} {σ : L2.St} {H : Hp} {Q : VK} (q : cE K B W (aEqN i tb) σ H Q) : tOp (rEqD K) (tVar i) (cE K B W tb) σ H Q := by
  obtain ⟨ρ, F, EX, Q0, R, ⟨⟨u, hu, hu1, _⟩, t⟩, k, kx⟩ := q
  obtain ⟨v, hv⟩ := R.slotV hu hu1
  refine ⟨v, hv, ρ, F, EX, _, R, t, fun e ρ' t' w F' H' R' s' p2 => ?_, kx⟩
  obtain ⟨v', d, h1, h2, s1, s2, t'⟩ := R'.look t'
  rw [hv] at h1
  cases h1
  exact ⟨d.py, e.py, h2.py R'.fz s1, shp_dp R'.fz s2 p2, shp_shaped s1, shp_shaped s2, k _ _ t' _ F' H' R' s' (.bl _)⟩
theorem se_neN {k : Nat} (i : Nat) (hr : Room k X.A) (hy : PE X a (tVar i)) (hb : SE X B W b tb) : SE X B W (.Compare a [.NotEq] [b] pos) (aNeN i tb) :=
  PE_imp (pe_cmpR (op_neD hr.units) hy hb (nomark _)) fun _ _ _ q => cNeN q
theorem se_eqN {k : Nat} (i : Nat) (hr : Room k X.A) (hy : PE X a (tVar i)) (hb : SE X B W b tb) : SE X B W (.Compare a [.Eq] [b] pos) (aEqN i tb) :=
  PE_imp (pe_cmpR (op_eqD hr.units) hy hb (nomark _)) fun _ _ _ q => cEqN q
theorem st_neN {k : Nat} (i : Nat) (hr : Room k X.A) (hy : PE X a (tVar i)) (hb : SE X B W b tb) : ST X B W (.Compare a [.NotEq] [b] pos) (aTestB (aNeN i tb)) := by
  refine PT_imp (pt_cmpR (op_neD hr.units) hy hb (nomark _)) fun σ H Q q => ?_
  obtain ⟨ρ, F, EX, Q0, R, t, k, kx⟩ := q
  refine cNeN ⟨ρ, F, EX, _, R, t, fun d ρ1 t1 v F1 H1 R1 s1 p1 => ?_, kx⟩
  obtain ⟨j, h1, h2⟩ := blQ_of p1 t1
  exact ⟨j, h1, k j ρ1 h2 F1 H1 R1 s1⟩
theorem st_eqN {k : Nat} (i : Nat) (hr : Room k X.A) (hy : PE X a (tVar i)) (hb : SE X B W b tb) : ST X B W (.Compare a [.Eq] [b] pos) (aTestB (aEqN i tb)) := by
  refine PT_imp (pt_cmpR (op_eqD hr.units) hy hb (nomark _)) fun σ H Q q => ?_
  obtain ⟨ρ, F, EX, Q0, R, t, k, kx⟩ := q
  refine cEqN ⟨ρ, F, EX, _, R, t, fun d ρ1 t1 v F1 H1 R1 s1 p1 => ?_, kx⟩
  obtain ⟨j, h1, h2⟩ := blQ_of p1 t1
  exact ⟨j, h1, k j ρ1 h2 F1 H1 R1 s1⟩
end
end PU
set_option Elab.async false
set_option linter.all false
set_option maxRecDepth 100000
namespace PU
open PySem PySem.Spec L2 StX RZ
set_option autoImplicit false

/-! ### the drawing source -/
section
variable {K : PySem.W.Frag} {B : Bas} {F F' H H' : Hp} {ρ ρ' : List AV} {σ : L2.St}
abbrev srcL (c : Addr) (l m t : Int) : List (Key × V) := [(.inr "cells", .ref c), (.inr "left", .int l), (.inr "mixed", .int m), (.inr "turn", .int t)]
abbrev srcO (c : Addr) (l m t : Int) : HO := .dK (srcL c l m t)
theorem Rel.source (R : Rel K B F H ρ σ) {i : Nat} (h : ρ[i]? = some .src) : ∃ (s c : Addr) (ns : List Int) (l m t : Int), B.Z = some (s, c) ∧ σ[i]? = some (some (.ref s)) ∧ H s = some (srcO c l m t) ∧ H c = some (.lst (ns.map V.int)) ∧ (∀ x ∈ ns, 0 ≤ x) ∧ 0 ≤ l ∧ 0 ≤ m ∧ m < 2147483647 ∧ 0 ≤ t ∧ s ≠ c := by
  obtain ⟨s, c, e, hs⟩ := R.so i h
  obtain ⟨⟨ns, l, m, t, h1, h2, h3, h4, h5, h6, h7⟩, _, _, ne, _⟩ := R.sr s c e
  exact ⟨s, c, ns, l, m, t, e, hs, h1, h2, h3, h4, h5, h6, h7, ne⟩
theorem Rel.wrote (R : Rel K B F H ρ σ) {s c a : Addr} {o : HO} (hZ : B.Z = some (s, c)) (ha : a = s ∨ a = c) (hs : SrcAt (upd H a o) s c) : Rel K B F (upd H a o) ρ σ := by
  obtain ⟨_, fs, fc, ne, r1, r2⟩ := R.sr s c hZ
  have fa : F a = none := by rcases ha with rfl | rfl <;> assumption
  have h0 : B.H0 a ≠ none := by rcases ha with rfl | rfl <;> assumption
  refine ⟨⟨fun b x e => by rw [upd_ne (ne_of_none e fa)]; exact R.fz b x e, R.f0, R.nf, fun b x e n => ?_, fun s' c' e => ?_, fun b x e => ?_⟩, R.len, R.sl, fun i d e => ?_, R.so, R.ap⟩
  · have nb : b ≠ a := by
      obtain ⟨n1, n2⟩ := n s c hZ
      rcases ha with rfl | rfl <;> assumption
    rw [upd_ne nb]
    exact R.kp b x e n
  · rw [hZ] at e
    cases e
    exact ⟨hs, fs, fc, ne, r1, r2⟩
  · obtain ⟨p1, p2, p3⟩ := R.pr b x e
    have nb : b ≠ a := fun z => h0 (z ▸ p3)
    exact ⟨by rw [upd_ne nb]; exact p1, p2, p3⟩
  · obtain ⟨b, ho, g1, g2, g3, gP, g4, g5⟩ := R.ow i d e
    have nb : b ≠ a := fun z => h0 (z ▸ g3)
    exact ⟨b, ho, g1, g2, g3, gP, by rw [upd_ne nb]; exact g4, g5⟩
end
/-- the numbers that the source keeps -/
def srcK (key : Str) (n : Int) : Prop := 0 ≤ n ∧ (key = "mixed" → n < 2147483647)
def isK (key : Str) : Prop := key = "left" ∨ key = "mixed" ∨ key = "turn"
theorem src_get {c : Addr} {l m t : Int} {key : Str} (hk : isK key) (h4 : 0 ≤ l) (h5 : 0 ≤ m) (h6 : m < 2147483647) (h7 : 0 ≤ t) :
    ∃ n, valV (srcL c l m t) (.inr key) = some (V.int n) ∧ srcK key n := by
  rcases hk with rfl | rfl | rfl
  · exact ⟨l, by rfl, h4, fun z => absurd z (by decide)⟩
  · exact ⟨m, by rfl, h5, fun _ => h6⟩
  · exact ⟨t, by rfl, h7, fun z => absurd z (by decide)⟩
theorem src_put {c : Addr} {l m t n : Int} {key : Str} (hk : isK key) (hn : srcK key n) (h4 : 0 ≤ l) (h5 : 0 ≤ m) (h6 : m < 2147483647) (h7 : 0 ≤ t) :
    ∃ l' m' t', putK (srcL c l m t) (.inr key) (V.int n) = srcL c l' m' t' ∧ 0 ≤ l' ∧ 0 ≤ m' ∧ m' < 2147483647 ∧ 0 ≤ t' := by
  rcases hk with rfl | rfl | rfl
  · exact ⟨n, m, t, by rfl, hn.1, h5, h6, h7⟩
  · exact ⟨l, n, t, by rfl, h4, hn.1, hn.2 rfl, h7⟩
  · exact ⟨l, m, n, by rfl, h4, h5, h6, hn.1⟩
section
variable {X : Cx} {B : Bas} {W : WX} {a b c e : Expr} {te : AE} {pos : Pos}
/-- source[key] -/
@[simp] def aSrcG (i : Nat) (key : Str) : AE := fun _ ρ Q => (∃ u, ρ[i]? = some u ∧ u = .src) ∧ ∀ n, srcK key n → Q (.int n) ρ
theorem se_srcG {k : Nat} {y key : Str} {q q2 : Pos} {j : Nat} (i : Nat) (hk : isK key) (hr : Room k X.A) (hy : PE X (.Name y q) (tVar i)) : SE X B W (.Subscript (.Name y q) (.Constant (.str key) j q2) pos) (aSrcG i key) := by
  refine PE_imp (pe_ix (ix_all hr) hy pe_str (by exact fun _ _ => rfl)) fun σ H Q qq => ?_
  obtain ⟨ρ, F, EX, Q0, R, ⟨⟨_, hs, rfl⟩, t⟩, k, kx⟩ := qq
  obtain ⟨s, c, ns, l, m, u, hZ, hσ, h1, h2, h3, h4, h5, h6, h7, ne⟩ := R.source hs
  obtain ⟨n, e1, e2⟩ := src_get (c := c) hk h4 h5 h6 h7
  exact ⟨_, hσ, .inr ⟨s, .int n, rfl, .inl ⟨_, .inr key, .inl h1, rfl, e1.symm⟩, k _ ρ (t n e2) _ F H R (Same.refl _) (.int _)⟩⟩
/-- source[key] = e -/
@[simp] def aSrcP (i : Nat) (key : Str) (te : AE) : AS := fun A ρ => te A.ex ρ fun d ρ' => (∃ u, ρ'[i]? = some u ∧ u = .src) ∧ ∃ n, d = .int n ∧ srcK key n ∧ A.nx ρ'
theorem ss_srcP {k : Nat} {y key : Str} {q q2 pt : Pos} {j : Nat} (i : Nat) (hk : isK key) (hr : Room k X.A) (hv : SE X B W e te) (hy : PE X (.Name y q) (tVar i))
    (hs : swapsWithSole [.Subscript (.Name y q) (.Constant (.str key) j q2) pt] e pos.line X.env = pure false := by rfl) (hw : swappedStores [.Subscript (.Name y q) (.Constant (.str key) j q2) pt] e X.env = pure none := by rfl)
    (h1 : (assignEach [.Subscript (.Name y q) (.Constant (.str key) j q2) pt] X.env).map (·.2) = [assign (.Subscript (.Name y q) (.Constant (.str key) j q2) pt) X.env] := by rfl)
    (ha : ∀ v, assign (.Subscript (.Name y q) (.Constant (.str key) j q2) pt) X.env v = (do
      let ov ← holding [v] (eval (.Name y q) X.env)
      let iv ← holding [v, ov] (eval (.Constant (.str key) j q2) X.env)
      standAt pt
      holding [v, ov, iv] (setItem ov iv v)
      release [v, ov, iv] []) := by intro _; rfl) : SS X B W (.Assign [.Subscript (.Name y q) (.Constant (.str key) j q2) pt] e pos) (aSrcP i key te) := by
  refine PS_imp (ps_asg hv (pg_sub hy pe_str (set_dict (hu_of hr)) ha) hs hw h1) fun D σ H qq => ?_
  obtain ⟨ρ, F, A, R, t, k⟩ := qq
  refine ⟨ρ, F, A.ex, _, R, t, fun d ρ1 t1 v F1 H1 R1 s1 p1 => ?_, k.ex σ⟩
  obtain ⟨⟨_, hs, rfl⟩, n, rfl, hn, t1⟩ := t1
  obtain ⟨s, c, ns, l, m, u, hZ, hσ, g1, g2, g3, g4, g5, g6, g7, ne⟩ := R1.source hs
  obtain ⟨l', m', t', e1, e2, e3, e4, e5⟩ := src_put (c := c) hk hn g4 g5 g6 g7
  rw [dp_int p1]
  refine ⟨_, hσ, s, _, rfl, .inl ⟨_, .inr key, g1, rfl, by rw [sizeLine_eq]; exact (by decide : 4 < 16777216), rfl⟩, ?_⟩
  rw [e1]
  have sa : SrcAt (upd H1 s (.dK [(.inr "cells", .ref c), (.inr "left", .int l'), (.inr "mixed", .int m'), (.inr "turn", .int t')])) s c := ⟨ns, l', m', t', upd_same, by rw [upd_ne (Ne.symm ne)]; exact g2, g3, e2, e3, e4, e5⟩
  exact k.nx _ _ F1 _ t1 (R1.wrote hZ (.inl rfl) sa) s1
/-- while many > 1 and source['left'] < 2 and len(source['cells']) > 0: source['left'] = source['cells'].pop() -/
@[simp] def aSrcW (i im : Nat) : AS := fun A ρ => (∃ u, ρ[i]? = some u ∧ u = .src) ∧ (∃ u, ρ[im]? = some u ∧ ∃ n, u = .dat (.int n)) ∧ A.nx ρ
theorem ss_srcWhile {k : Nat} {y ym : Str} {q0 q1 q2 q3 qm pl p1 p2 p3 p4 p5 p6 p7 p8 p9 p10 p11 p12 p13 c1 c2 c3 c4 c5 c6 c7 : Pos} {j1 j2 j3 j4 j5 j6 j7 : Nat} (i im : Nat) (hp : PassesOwn (model X.prog X.w) X.A X.env X.xe) (hr : Room k X.A) (hg : Gl X "len") (hm : X.mg "len" = none)
    (hM : PE X (.Name ym qm) (tVar im)) (h0 : PE X (.Name y q0) (tVar i)) (h1 : PE X (.Name y q1) (tVar i)) (h2 : PE X (.Name y q2) (tVar i)) (h3 : PE X (.Name y q3) (tVar i))
    (hst : starEach [.Subscript (.Name y q1) (.Constant (.str "cells") j4 c4) p4] X.env = (false, eval (.Subscript (.Name y q1) (.Constant (.str "cells") j4 c4) p4) X.env) :: starEach [] X.env := by rfl)
    (hpl : (backTo p5 (starEach [] X.env)).any (·.1) = false := by rfl)
    (hbase : attributeBase (.Subscript (.Name y q3) (.Constant (.str "cells") j7 c7) p9) "pop" X.env (eval (.Subscript (.Name y q3) (.Constant (.str "cells") j7 c7) p9) X.env) = eval (.Subscript (.Name y q3) (.Constant (.str "cells") j7 c7) p9) X.env := by rfl)
    (hline : (p10.endLine == p11.line) = true := by rfl)
    (hs : swapsWithSole [.Subscript (.Name y q2) (.Constant (.str "left") j6 c6) p8] (.Call (.Attribute (.Subscript (.Name y q3) (.Constant (.str "cells") j7 c7) p9) "pop" p10) [] [] p11) p12.line X.env = pure false := by rfl)
    (hw : swappedStores [.Subscript (.Name y q2) (.Constant (.str "left") j6 c6) p8] (.Call (.Attribute (.Subscript (.Name y q3) (.Constant (.str "cells") j7 c7) p9) "pop" p10) [] [] p11) X.env = pure none := by rfl)
    (ht : (assignEach [.Subscript (.Name y q2) (.Constant (.str "left") j6 c6) p8] X.env).map (·.2) = [assign (.Subscript (.Name y q2) (.Constant (.str "left") j6 c6) p8) X.env] := by rfl)
    (ha : ∀ v, assign (.Subscript (.Name y q2) (.Constant (.str "left") j6 c6) p8) X.env v = (do
      let ov ← holding [v] (eval (.Name y q2) X.env)
      let iv ← holding [v, ov] (eval (.Constant (.str "left") j6 c6) X.env)
      standAt p8
      holding [v, ov, iv] (setItem ov iv v)
      release [v, ov, iv] []) := by intro _; rfl) :
    SS X B W (.While (.BoolOp .And [.Compare (.Name ym qm) [.Gt] [.Constant (.int 1) j1 c1] p1, .Compare (.Subscript (.Name y q0) (.Constant (.str "left") j2 c2) p2) [.Lt] [.Constant (.int 2) j3 c3] p3,
      .Compare (.Call (.Name "len" pl) [.Subscript (.Name y q1) (.Constant (.str "cells") j4 c4) p4] [] p5) [.Gt] [.Constant (.int 0) j5 c5] p6] p7)
      [.Assign [.Subscript (.Name y q2) (.Constant (.str "left") j6 c6) p8] (.Call (.Attribute (.Subscript (.Name y q3) (.Constant (.str "cells") j7 c7) p9) "pop" p10) [] [] p11) p12] [] p13) (aSrcW i im) := by
  have T1 := pt_cmpR (pos := p1) op_gt hM (pe_int (i := 1) (j := j1) (pos := c1)) (nomark _)
  have T2 := pt_cmpR (pos := p3) op_lt (pe_ix (pos := p2) (ix_all hr) h0 (pe_str (x := "left") (j := j2) (pos := c2)) (by exact fun _ _ => rfl)) (pe_int (i := 2) (j := j3) (pos := c3)) (nomark _)
  have T3 := pt_cmpR (pos := p6) op_gt (pe_callB (p := pl) (pos := p5) (CallR.or call_len call_lenRd) hg hm PySem.boot_len (pa_cons (pe_ix (pos := p4) (ix_all hr) h1 (pe_str (x := "cells") (j := j4) (pos := c4)) (by exact fun _ _ => rfl)) pa_nil hst) (by decide) (by decide) hst hpl) (pe_int (i := 0) (j := j5) (pos := c5)) (nomark _)
  have Bd := pss_one (ps_asg (pos := p12) (pe_bm0 (cpos := p11) (apos := p10) PySem.F.plainAttrs_list PySem.F.slot_list_pop PySem.F.type_list_pop mt_pop (pe_ix (pos := p9) (ix_all hr) h3 (pe_str (x := "cells") (j := j7) (pos := c7)) (by exact fun _ _ => rfl)) hbase hline) (pg_sub (pos := p8) h2 (pe_str (x := "left") (j := j6) (pos := c6)) (set_dict (hu_of hr)) ha) hs hw ht)
  refine PS_imp (ps_while (pos := p13) hp (PW.pt (pw_and (pos := p7) T1 (pw_and (pos := p7) T2 (pw_and1 (pos := p7) T3)))) Bd) fun D σ H qq => ?_
  obtain ⟨ρ, F, A, R, ⟨⟨_, hsr, rfl⟩, ⟨_, hmr, n, rfl⟩, t⟩, k⟩ := qq
  obtain ⟨s, c, ns, l, m, u, hZ, hσ, _, hrest⟩ := R.source hsr
  obtain ⟨vm, hvm, pm⟩ := R.sl im _ hmr
  rw [dp_int pm] at hvm
  refine ⟨fun m σ' H' => σ' = σ ∧ Rel X.K B F H' ρ σ ∧ ∃ ns : List Int, H' c = some (.lst (ns.map V.int)) ∧ m = ns.length, ⟨ns.length, rfl, R, ns, hrest.1, rfl⟩, ?_⟩
  rintro m σ' H' ⟨rfl, R', ns', hc', rfl⟩
  obtain ⟨s', c', ns, l, m', u, hZ', hσ', g1, g2, g3, g4, g5, g6, g7, ne⟩ := R'.source hsr
  rw [hZ] at hZ'
  cases hZ'
  have en : ns'.length = ns.length := by
    have z : HO.lst (ns'.map V.int) = HO.lst (ns.map V.int) := Option.some.inj (hc'.symm.trans g2)
    have z := HO.lst.inj z
    have := congrArg List.length z
    simpa using this
  rw [en]
  have fin := k.nx ρ σ' F H' t R' (Same.refl _)
  refine ⟨_, hvm, n, 1, rfl, rfl, _, rfl, ?_⟩
  by_cases hn : 1 < n
  · simp only [decide_eq_true hn, if_true]
    refine ⟨_, hσ', .inr ⟨s, .int l, rfl, .inl ⟨_, .inr "left", .inl g1, rfl, rfl⟩, l, 2, rfl, rfl, _, rfl, ?_⟩⟩
    by_cases hl : l < 2
    · simp only [decide_eq_true hl, if_true]
      refine ⟨_, hσ', .inr ⟨s, .ref c, rfl, .inl ⟨_, .inr "cells", .inl g1, rfl, rfl⟩, .inl ⟨_, ns.length, rfl, .inl ⟨_, SqL.of g2, by rw [List.length_map]⟩, _, _, rfl, rfl, _, rfl, ?_⟩⟩⟩
      by_cases hz : (0 : Int) < (ns.length : Int)
      · simp only [decide_eq_true hz, if_true]
        have hne : ns ≠ [] := by
          rintro rfl
          simp at hz
        obtain ⟨z, hz1⟩ : ∃ z, ns[ns.length - 1]? = some z := ⟨ns[ns.length - 1]'(by omega), by simp⟩
        have hz2 : 0 ≤ z := g3 z (List.mem_of_getElem? hz1)
        have el : (ns.map V.int)[(ns.map V.int).length - 1]? = some (V.int z) := by rw [List.length_map, List.getElem?_map, hz1]; rfl
        refine ⟨fun σ2 H2 => ∃ m', m' < ns.length ∧ σ2 = σ' ∧ Rel X.K B F H2 ρ σ2 ∧ ∃ ns2 : List Int, H2 c = some (.lst (ns2.map V.int)) ∧ m' = ns2.length, fun σ2 H2 q => ?_, ?_⟩
        · obtain ⟨m', h1, rfl, h3, h4⟩ := q
          exact ⟨m', h1, rfl, h3, h4⟩
        · refine ⟨_, hσ', .inr ⟨s, .ref c, rfl, .inl ⟨_, .inr "cells", .inl g1, rfl, rfl⟩, .inl ⟨rfl, _, SqL.of g2⟩, c, _, _, rfl, rfl, g2, el, ?_⟩⟩
          have sa1 : SrcAt (upd H' c (.lst (ns.map V.int).dropLast)) s c := ⟨ns.dropLast, l, m', u, by rw [upd_ne ne]; exact g1, by rw [upd_same, List.map_dropLast], fun x hx => g3 x (List.dropLast_subset _ hx), g4, g5, g6, g7⟩
          have R2 := R'.wrote hZ (.inr rfl) sa1
          have gs : upd H' c (.lst (ns.map V.int).dropLast) s = some (srcO c l m' u) := by rw [upd_ne ne]; exact g1
          refine ⟨_, hσ', s, _, rfl, .inl ⟨_, .inr "left", gs, rfl, by rw [sizeLine_eq]; exact (by decide : 4 < 16777216), rfl⟩, ?_⟩
          have sa2 : SrcAt (upd (upd H' c (.lst (ns.map V.int).dropLast)) s (.dK (putK (srcL c l m' u) (.inr "left") (.int z)))) s c :=
            ⟨ns.dropLast, z, m', u, by rw [upd_same]; rfl, by rw [upd_ne (Ne.symm ne), upd_same, List.map_dropLast], fun x hx => g3 x (List.dropLast_subset _ hx), hz2, g5, g6, g7⟩
          refine ⟨ns.dropLast.length, by rw [List.length_dropLast]; omega, rfl, R2.wrote hZ (.inl rfl) sa2, ns.dropLast, ?_, rfl⟩
          rw [upd_ne (Ne.symm ne), upd_same, List.map_dropLast]
      · simp only [decide_eq_false hz, Bool.false_eq_true, if_false]
        exact fin
    · simp only [decide_eq_false hl, Bool.false_eq_true, if_false]
      exact fin
  · simp only [decide_eq_false hn, Bool.false_eq_true, if_false]
    exact fin
end
end PU
set_option Elab.async false
set_option linter.all false
set_option maxRecDepth 100000
namespace PU
open PySem PySem.Spec L2 StX RZ
set_option autoImplicit false

/-! ### the law is called -/
def spLaw (K : PySem.W.Frag) : Sp := fun vs H Q _ => ∃ (a : Addr) (ns : List Int), vs = [.ref a] ∧ SqL K H a (ns.map V.int) ∧ ns.length ≤ 63 ∧ ∀ H', Q (.bl true) H'
section
open PySem.W PySem.Calls PyProof.Rows
variable {P : Program} {w : World} {K : PySem.W.Frag} {mg mb : Str → Option Value} {k : Nat} {f a : Addr} {fd : FuncData} {x : Str} {st : Shared} {vals : List Value} {ns : List Int}
/-- from any account of the heap in which the script alone may stand -/
theorem lawG_core (inK : K.In st.heap) (globs : st.heap.Ns mainGlobals mg) (blts : st.heap.Ns builtinsNs mb) (boot : ∀ y : Str, y ≠ "__name__" → mb y = bootBuiltins y) (nolim : st.heap.NoLimit) (nogen : st.gens = #[])
    (script : st.heap.get? a = some { cls := .type "list", data := .seq vals.toArray }) (room : RoomG k callerA) (def_ok : ∀ base : Heap, K.In base → base.Ns mainGlobals mg → FnG P w K mg base k f fd [x] (spLaw K))
    (binds : ∀ (s : Shared) (u : Value), BindsTo s fd ⟨[u], []⟩ [(x, u)]) (short : ns.length ≤ 63) (H : Hp) (only : L2.Only H) (seq : SqL K H a (ns.map V.int)) (hok : HOk P w H st.heap) (sole : ∀ b, H b ≠ none → b = a) (notK : H a ≠ none → K.lookup a = none) :
    codeAny (model P w) callerA (.call (.ref f) ⟨[.ref a], []⟩) (fun r s' => r = .ok (.ret (.bool true)) ∧ OldK st.heap s'.heap ∧ s'.os = st.os ∧ AllBare s'.gens) st := by
  have stays : ∀ {b : Addr} {o : Obj}, st.heap.get? b = some o → H b = none → (hidT st.heap H).get? b = some o := fun e n => hidT_get e n
  have dictFree : ∀ {b : Addr} {o : Obj} {es : Array DictEntry} {ep : Nat}, st.heap.get? b = some o → o.data = .dict es ep → H b = none := by
    intro b o es ep e d
    cases q : H b with
    | none => rfl
    | some u =>
      have eb := sole b (fun z => by rw [q] at z; cases z)
      rw [eb, script] at e
      cases e
      exact absurd (show Data.seq vals.toArray _ = Data.dict es ep from d) (fun z => nomatch z)
  have ns_stays : ∀ {b : Addr} {m : Str → Option Value}, st.heap.Ns b m → (hidT st.heap H).Ns b m := by
    rintro b m ⟨o, es, ep, e, d, r⟩
    exact ⟨o, es, ep, stays e (dictFree e d), d, r⟩
  have inK' : K.In (hidT st.heap H) := by
    intro b o e
    refine stays (inK b o e) ?_
    cases q : H b with
    | none => rfl
    | some u =>
      have eb := sole b (fun z => by rw [q] at z; cases z)
      rw [eb] at e q
      have := notK (fun z => by rw [q] at z; cases z)
      rw [this] at e
      cases e
  obtain ⟨mc, l1, l2⟩ := nolim
  have env : Env0 P w K mg (hidT st.heap H) callerA [] st H :=
    { frames := rfl, mod := ⟨inK', ns_stays globs, ⟨mb, ns_stays blts, boot⟩, ⟨mc, ns_stays l1, l2⟩⟩, bs := fun b o e => of_hidT e, bsz := Nat.le_of_eq (hidT_size _ _), funs := trivial, frf := fun b hb => absurd (show b ∈ ([] : List Addr) from hb) (by simp), hok := hok, bare := .of_eq nogen }
  have done := (def_ok _ inK' (ns_stays globs)).go callerA [] st H ⟨[.ref a], []⟩ [.ref a] [.ref a] (fun v _ => v = .bl true) (fun _ _ _ => False) room env (binds st (.ref a)) (.cons rfl .nil) ⟨a, ns, rfl, seq, short, fun _ => rfl⟩
  refine codeAny_mono done fun r s' z => ?_
  match r, z with
  | .error e, z =>
    obtain ⟨_, _, _, _, _, _, _, _, _, _, _, _, q⟩ := z
    exact q.elim
  | .ok .next, z => exact z.elim
  | .ok .brk, z => exact z.elim
  | .ok .cont, z => exact z.elim
  | .ok (.ret u), z =>
    obtain ⟨v, H', os, bare, un, hok', rv, ev⟩ := z
    have ev : v = .bl true := ev
    rw [ev] at rv
    obtain rfl : u = Value.bool true := rv
    refine ⟨rfl, OldK.of_keep fun b o e => ?_, os, bare⟩
    cases q : H b with
    | none => exact un.keep b o e q (fun z => absurd (show b ∈ ([] : List Addr) from z) (by simp)) (by simp)
    | some u =>
      rcases only b with z | ⟨ob, xs, z⟩
      · rw [q] at z; cases z
      · have o1 := (hok b _ z).1
        have o2 := (hok' b _ (un.frzs b ob _ z)).1
        rw [e] at o1
        cases o1
        exact o2
theorem lawG_call (inK : K.In st.heap) (globs : st.heap.Ns mainGlobals mg) (blts : st.heap.Ns builtinsNs mb) (boot : ∀ y : Str, y ≠ "__name__" → mb y = bootBuiltins y) (nolim : st.heap.NoLimit) (nogen : st.gens = #[])
    (script : st.heap.get? a = some { cls := .type "list", data := .seq vals.toArray }) (hints : IntsAre vals ns) (room : RoomG k callerA) (def_ok : ∀ base : Heap, K.In base → base.Ns mainGlobals mg → FnG P w K mg base k f fd [x] (spLaw K))
    (binds : ∀ (s : Shared) (u : Value), BindsTo s fd ⟨[u], []⟩ [(x, u)]) (short : ns.length ≤ 63) :
    codeAny (model P w) callerA (.call (.ref f) ⟨[.ref a], []⟩) (fun r s' => r = .ok (.ret (.bool true)) ∧ OldK st.heap s'.heap ∧ s'.os = st.os ∧ AllBare s'.gens) st := by
  have vv := vals_ints hints
  have hz : ns.length ≤ sizeLine := by rw [sizeLine_eq]; omega
  have core := fun H => lawG_core inK globs blts boot nolim nogen script room def_ok binds short H
  cases hk : K.lookup a with
  | some o =>
    have e := inK a o hk
    rw [script] at e
    cases e
    refine core (fun _ => none) (fun _ => .inl rfl) (.inr ⟨_, vals.toArray, _, hk, rfl, rfl, rfl, by rw [List.size_toArray, hints.length]; exact hz, by simpa using vv⟩) (fun b u z => by cases (show (none : Option HO) = some u from z)) (fun b z => absurd rfl z) fun z => absurd rfl z
  | none =>
    obtain ⟨Hs, eH⟩ : ∃ Hs : Hp, Hs = fun b => if b = a then some (HO.frz { cls := .type "list", data := .seq vals.toArray } (.lst (ns.map V.int))) else none := ⟨_, rfl⟩
    have at_a : Hs a = some (.frz { cls := .type "list", data := .seq vals.toArray } (.lst (ns.map V.int))) := by rw [eH]; exact if_pos rfl
    have off : ∀ b, b ≠ a → Hs b = none := fun b hb => by rw [eH]; exact if_neg hb
    refine core Hs (fun b => ?_) (.inl (.inr ⟨_, at_a⟩)) (fun b u z => ?_) (fun b z => ?_) fun _ => hk
    · by_cases hb : b = a
      · exact .inr ⟨_, _, by rw [hb]; exact at_a⟩
      · exact .inl (off b hb)
    · by_cases hb : b = a
      · subst hb
        rw [at_a] at z
        cases z
        exact ⟨script, by rw [List.length_map]; exact hz, vals, _, vv, script⟩
      · rw [off b hb] at z
        cases z
    · by_cases hb : b = a
      · exact hb
      · exact absurd (off b hb) z
end
theorem walkG_of {l : PySem.W.OpenLaw} {k : Nat} {q : Program} {loose : List Str} {XP : (Str → Option Value) → Heap → Prop} {YP : World → Heap → Prop} {d : DefRec} {K : PySem.Params → PySem.W.Frag} {x : Str} (hn : l.most = some 63) (hdf : d.params.defaults = []) (room : RoomG k callerA)
    (hY : ∀ (w : World) (h : Heap), YP w h → (K w.params).In h)
    (F : ∀ (w : World) (mg : Str → Option Value) (fa : Addr) (h : Heap), (K w.params).In h → h.Ns mainGlobals mg → mg d.name = some (.ref fa) →
      ∃ fd : FuncData, (∀ (s : Shared) (u : Value), BindsTo s fd ⟨[u], []⟩ [(x, u)]) ∧ ∀ base : Heap, (K w.params).In base → base.Ns mainGlobals mg → FnG l.prog w (K w.params) mg base k fa fd [x] (spLaw (K w.params))) :
    PySem.W.WalkO q loose XP YP l.row.toRowW d [] (fun f vs => PySem.call f vs) := by
  refine Att.attach_call hn hdf fun w s₀ st mg mb fa o pm cd doc a vs ns G Y ho hd hcd hmg script hints short nogen => ?_
  obtain ⟨fd, binds, ok⟩ := F w mg fa _ (hY w _ Y) G.T.g hmg
  exact lawG_call (hY w _ Y) G.T.g G.T.b G.T.builtins G.T.nolimit nogen script hints room ok binds short

/-! ### the law by what it does behind its first statement -/
def startL (N : List Str) : List AV := .un :: .src :: List.replicate (N.length - 2) .un
section
variable {P : Program} {w : World} {K : PySem.W.Frag} {mg : Str → Option Value} {base : Heap}
theorem startL_get {N : List Str} {i : Nat} {u : AV} (h : (startL N)[i]? = some u) : (i = 1 ∧ u = .src) ∨ u = .un := by
  unfold startL at h
  match i, h with
  | 0, h => simp at h; exact .inr h.symm
  | 1, h => simp at h; exact .inl ⟨rfl, h.symm⟩
  | i + 2, h =>
    simp only [List.getElem?_cons_succ, List.getElem?_replicate] at h
    split at h
    · cases h; exact .inr rfl
    · cases h
theorem rel_startL {ec : Str → Option Addr} {H : Hp} {N : List Str} {s c a : Addr} (hs : SrcAt H s c) (ne : s ≠ c) (hN : 2 ≤ N.length) :
    Rel K ⟨ec, some (s, c), fun _ => none, fun _ => none, H⟩ (fun _ => none) H (startL N) ((L2.start N [.ref a]).set 1 (some (.ref s))) := by
  obtain ⟨h1, h2⟩ := srcAt_some hs
  refine ⟨⟨fun b o e => (nomatch e), fun b o e => (nomatch e), fun b e => absurd rfl e, fun b o e _ => e, fun s' c' e => ?_, fun b o e => (nomatch e)⟩, ?_, fun i d e => ?_, fun i d e => ?_, fun i e => ?_, fun i j d e b n q q' r => ?_⟩
  · cases e
    exact ⟨hs, rfl, rfl, ne, h1, h2⟩
  · unfold L2.start startL
    simp
    omega
  · rcases startL_get e with ⟨_, z⟩ | z <;> cases z
  · rcases startL_get e with ⟨_, z⟩ | z <;> cases z
  · rcases startL_get e with ⟨rfl, z⟩ | z
    · refine ⟨s, c, rfl, ?_⟩
      rw [List.getElem?_set_self]
      unfold L2.start
      simp
      omega
    · cases z
  · rcases startL_get q with ⟨_, z⟩ | z <;> cases z
/-- the source's maker -/
def spSrc (K : PySem.W.Frag) : Sp := fun vs H Q _ => ∃ (a : Addr) (ns : List Int), vs = [.ref a] ∧ SqL K H a (ns.map V.int) ∧ ns.length ≤ 63 ∧ ∀ s c H', s ≠ c → SrcAt H' s c → Q (.ref s) H'
structure SrcOk (P : Program) (w : World) (K : PySem.W.Frag) (mg : Str → Option Value) (base : Heap) : Prop where
  ex : ∃ f fd, mg "_law_source" = some (.ref f) ∧ PySem.W.keepIn K (.ref f) = true ∧ Binds K fd ["script"] [] ∧ FnG P w K mg base 2 f fd ["script"] (spSrc K)
def runL (N : List Str) (t : AS) : Prop := t { nx := fun _ => False, rt := fun d => d = .bl true } (startL N)
theorem law_fn {qual : Str} {st st0 : Stmt} {rest : List Stmt} {f : Addr} {fd : FuncData} {N : List Str} {k : Nat} {ec : Str → Option Addr} {t : AS} (F : L2.Fun K "law" qual st f fd) (S : FnScope N ["script"] (defScope st)) (hN : 2 ≤ N.length) (hb : defBody st = st0 :: rest) (so : SrcOk P w K mg base)
    (first : ∀ (cdv : Value) (A : Around) (outer : List Env) (s : Shared) (H : Hp) (E : XK) (W : WX), RoomG k (A.deeper (PyProof.Rows.envOfC qual (defScope st) s.heap.objs.size f cdv)) → Takes (cxOf (L2.CX P w) P w K mg base N qual (defScope st) f cdv A outer s H E) W →
      PS (cxOf (L2.CX P w) P w K mg base N qual (defScope st) f cdv A outer s H E) st0 (tAsg (tCallS (spSrc K) (WE W) (tCons (tVar 0) tNil)) (gName 1)))
    (body : ∀ (cdv : Value) (A : Around) (outer : List Env) (s : Shared) (H : Hp) (E : XK) (B : Bas) (W : WX), B.ec = ec → RoomG k (A.deeper (PyProof.Rows.envOfC qual (defScope st) s.heap.objs.size f cdv)) →
      Takes (cxOf (L2.CX P w) P w K mg base N qual (defScope st) f cdv A outer s H E) W → SSs (cxOf (L2.CX P w) P w K mg base N qual (defScope st) f cdv A outer s H E) B W rest t) (law : runL N t) : FnG P w K mg base (k + 1) f fd ["script"] (spLaw K) := by
  refine okG_of F S (fun vs H Q E h => by obtain ⟨a, ns, rfl, _⟩ := h; rfl) (fun cdv A outer s H vs Q E hr h => ?_)
  obtain ⟨a, ns, rfl, hS, hl, kq⟩ := h
  have tk : Takes (cxOf (L2.CX P w) P w K mg base N qual (defScope st) f cdv A outer s H E) (fun cls d _ H => E cls d H) := takes_of rfl rfl rfl rfl
  rw [hb]
  refine ⟨_, pss_cons (first cdv A outer s H E _ hr tk) (PSs_ex (P := fun B : Bas => B.ec = ec) fun B hB => body cdv A outer s H E B _ hB hr tk), ?_⟩
  have h0 : (L2.start N [V.ref a])[0]? = some (some (.ref a)) := by
    unfold L2.start
    rfl
  refine ⟨_, h0, a, ns, rfl, hS, hl, fun s c H' ne sa => ?_⟩
  refine ⟨⟨ec, some (s, c), fun _ => none, fun _ => none, H'⟩, rfl, startL N, fun _ => none, _, rel_startL sa ne hN, law, ?_⟩
  exact ⟨fun _ _ _ _ q => q.elim, fun d hd v F' H2 R p => by rw [hd] at p; rw [dp_bl p]; exact kq _, fun _ _ _ _ q => q.elim, fun _ _ _ _ q => q.elim, fun _ _ _ q => q.elim⟩
end
theorem FnG.up {P : Program} {w : World} {K : PySem.W.Frag} {mg : Str → Option Value} {base : Heap} {j k : Nat} {f : Addr} {fd : FuncData} {ps : List Str} {sp : Sp} (d : FnG P w K mg base j f fd ps sp) (h : j ≤ k) : FnG P w K mg base k f fd ps sp :=
  ⟨d.len, fun A outer s H args us vs Q E r => d.go A outer s H args us vs Q E (r.down h)⟩
theorem DefOk.atUp {P : Program} {w : World} {K : PySem.W.Frag} {mg : Str → Option Value} {base : Heap} {ec : Str → Option Addr} {nm : Str} {j k n : Nat} {A : AF} {f : Addr} (d : DefOk P w K mg base nm j (spOf K ec n A)) (h : mg nm = some (.ref f)) (hj : j ≤ k) : FnAt P w K mg base ec k f n A := by
  obtain ⟨fd, ps, h2, h3, h4⟩ := d.at h
  exact ⟨fd, ps, h2, h3, h4.up hj⟩
theorem lookup_mem {n : Str} {C : Addr} : ∀ {l : List (Str × Addr)}, List.lookup n l = some C → (n, C) ∈ l
  | [], h => by cases h
  | (m, D) :: l, h => by
    by_cases e : (n == m) = true
    · simp only [List.lookup, e] at h
      cases h
      rw [eq_of_beq e]
      exact List.mem_cons_self
    · have e' : (n == m) = false := by simpa using e
      simp only [List.lookup, e'] at h
      exact List.mem_cons_of_mem _ (lookup_mem h)
theorem xmOk_of {K : PySem.W.Frag} {l : List (Str × Addr)} {c : Value} {m : Str → Bool} (h : ∀ p ∈ l, PySem.W.exmOne K (.ref p.2) c = some (m p.1)) : XmOk K (fun n => List.lookup n l) c m := fun _ _ e => h _ (lookup_mem e)
abbrev veL (G : Addr) : List Value := [.ref G, .type "ValueError", .type "Exception", .type "BaseException", .type "object"]
theorem exi_of {K : PySem.W.Frag} {C G : Addr} {nm q : Str} {N : Addr} {bs : List Value} {sn : List Str} {sub : List Value} {ab : Bool} {col : Option Bool} {dd : Option Addr} {m0 m1 m2 m3 m5 : Option Value}
    (h : K.lookup C = some (excClassObj nm q C N bs (veL G) true sn sub ab col dd m0 m1 m2 m3 m5 "ValueError.__new__")) : PySem.W.excInitIn K C PySem.HandSPX.veTail "ValueError.__new__" = true := by
  unfold PySem.W.excInitIn
  rw [h]
  show (C == C && "ValueError.__new__" == "ValueError.__new__" && !false && PySem.W.excTail PySem.HandSPX.veTail (veL G)) = true
  have e : PySem.W.excTail PySem.HandSPX.veTail (veL G) = true := by
    show (PySem.HandSPX.veTail == PySem.HandSPX.veTail) = true
    decide +kernel
  rw [e]
  simp
theorem sup_of {K : PySem.W.Frag} {C G : Addr} {nm q : Str} {N : Addr} {bs : List Value} {sn : List Str} {sub : List Value} {ab : Bool} {col : Option Bool} {dd : Option Addr} {m0 m1 m2 m3 m5 : Option Value} {nm' q' : Str} {N' : Addr} {bs' : List Value} {hd : Bool} {sn' : List Str} {sub' : List Value} {ab' : Bool} {col' : Option Bool} {dd' : Option Addr} {k0 k1 k2 k3 k5 : Option Value} {v : Value} {name : Str}
    (h : K.lookup C = some (excClassObj nm q C N bs (veL G) true sn sub ab col dd m0 m1 m2 m3 m5 "ValueError.__new__"))
    (h' : K.lookup G = some (excClassObj nm' q' G N' bs' [.type "ValueError", .type "Exception", .type "BaseException", .type "object"] hd sn' sub' ab' col' dd' k0 k1 k2 k3 k5 "ValueError.__new__"))
    (f : PySem.W.findIn K (.ref G) name = some (some v)) : PySem.W.ks_superIn K C C name = some (some v) := by
  have e1 : PySem.W.findIn K (.ref G) name = PySem.W.alongIn K name (veL G) := by
    show (match K.lookup G with
      | some ⟨_, _, .cls cd, _⟩ => PySem.W.alongIn K name cd.mro
      | _ => none) = _
    rw [h']
  have e2 : ∃ cd : ClassData, PySem.W.clsIn K C = some cd ∧ cd.mro = .ref C :: veL G := by
    unfold PySem.W.clsIn
    rw [h]
    exact ⟨_, rfl, rfl⟩
  obtain ⟨cd, e2, e3⟩ := e2
  unfold PySem.W.ks_superIn
  rw [e2, Option.bind_some, e3]
  have e4 : ((Value.ref C :: veL G).dropWhile (· != .ref C)).drop 1 = veL G := by simp [List.dropWhile_cons]
  rw [e4, ← e1]
  exact f
theorem exm_of2 {K : PySem.W.Frag} {C D : Addr} {b : Bool} (h1 : PySem.W.subIn K (.ref D) (.type "BaseException") = some true) (h2 : PySem.W.isClsIn K D = true) (h3 : PySem.W.typeIn K (.ref D) = some (.type "type")) (h4 : PySem.W.subIn K (.ref C) (.ref D) = some b) :
    PySem.W.exmOne K (.ref C) (.ref D) = some b := by
  have g1 : (PySem.W.subIn K (.ref D) (.type "BaseException") == some true) = true := by rw [h1] <;> rfl
  have g2 : ((PySem.W.clsIn K D).isSome && PySem.W.typeIn K (.ref D) == some (.type "type")) = true := by
    have h2' : (PySem.W.clsIn K D).isSome = true := h2
    rw [h2', h3] <;> rfl
  show (if (PySem.W.subIn K (.ref D) (.type "BaseException") == some true) = true then (if ((PySem.W.clsIn K D).isSome && PySem.W.typeIn K (.ref D) == some (.type "type")) = true then PySem.W.subIn K (.ref C) (.ref D) else none) else none) = some b
  rw [if_pos g1, if_pos g2, h4]
end PU
set_option Elab.async false
set_option linter.all false
set_option maxRecDepth 100000
namespace PU
open PySem PySem.Spec L2 StX RZ
set_option autoImplicit false
/-! ### reading transformers by simp -/
@[simp] theorem aForL_nil {g : AG} {b : AS} {A : AEnds} {ρ : List AV} : aForL g b [] A ρ = A.nx ρ := rfl
@[simp] theorem aForL_cons {g : AG} {b : AS} {A : AEnds} {ρ : List AV} {d : D} {ds : List D} : aForL g b (d :: ds) A ρ = g d ρ fun ρ' => b { A with nx := aForL g b ds A, ct := aForL g b ds A, bk := A.nx } ρ' := rfl
@[simp] theorem shp64_lst {xs : List D} : D.shp 64 (.lst xs) ↔ ∀ x ∈ xs, D.shp 63 x := Iff.rfl
@[simp] theorem shp64_tup {xs : List D} : D.shp 64 (.tup xs) ↔ ∀ x ∈ xs, D.shp 63 x := Iff.rfl
@[simp] theorem shp63_lst {xs : List D} : D.shp 63 (.lst xs) ↔ ∀ x ∈ xs, D.shp 62 x := Iff.rfl
@[simp] theorem shp63_tup {xs : List D} : D.shp 63 (.tup xs) ↔ ∀ x ∈ xs, D.shp 62 x := Iff.rfl
@[simp] theorem shp62_lst {xs : List D} : D.shp 62 (.lst xs) ↔ ∀ x ∈ xs, D.shp 61 x := Iff.rfl
@[simp] theorem shp62_tup {xs : List D} : D.shp 62 (.tup xs) ↔ ∀ x ∈ xs, D.shp 61 x := Iff.rfl
@[simp] theorem shp61_tup {xs : List D} : D.shp 61 (.tup xs) ↔ ∀ x ∈ xs, D.shp 60 x := Iff.rfl
@[simp] theorem shp_int {n : Nat} (i : Int) : D.shp n (.int i) := by cases n <;> trivial
@[simp] theorem shp_bl {n : Nat} (i : Bool) : D.shp n (.bl i) := by cases n <;> trivial
@[simp] theorem shp_non {n : Nat} : D.shp n .non := by cases n <;> trivial
theorem eqD_int (a b : Int) : eqD (.int a) (.int b) = decide (a = b) := by
  simp [eqD, D.py, PyData.eqv]
  exact Bool.eq_iff_iff.mpr (by simp)
theorem eqD_bl (a b : Bool) : eqD (.bl a) (.bl b) = decide (a = b) := by
  simp [eqD, D.py, PyData.eqv]
  cases a <;> cases b <;> rfl
@[simp] theorem dEq_int {a b : Int} {Q : D → Prop} : dEq (.int a) (.int b) Q ↔ Q (.bl (decide (a = b))) := by
  unfold dEq; rw [eqD_int]; simp
@[simp] theorem dNe_int {a b : Int} {Q : D → Prop} : dNe (.int a) (.int b) Q ↔ Q (.bl (!decide (a = b))) := by
  unfold dNe; rw [eqD_int]; simp
@[simp] theorem dEq_bl {a b : Bool} {Q : D → Prop} : dEq (.bl a) (.bl b) Q ↔ Q (.bl (decide (a = b))) := by
  unfold dEq; rw [eqD_bl]; simp
@[simp] theorem dNe_bl {a b : Bool} {Q : D → Prop} : dNe (.bl a) (.bl b) Q ↔ Q (.bl (!decide (a = b))) := by
  unfold dNe; rw [eqD_bl]; simp
theorem dMul_int {a b : Int} {Q : D → Prop} : dMul (.int a) (.int b) Q ↔ MulOk a b ∧ Q (.int (a * b)) := Iff.rfl
theorem dMul_lst {xs : List D} {k : Int} {Q : D → Prop} : dMul (.lst xs) (.int k) Q ↔ -(2 ^ 63) ≤ k ∧ k < 2 ^ 63 ∧ xs.length * k.toNat ≤ sizeLine ∧ Q (.lst (List.replicate k.toNat xs).flatten) := Iff.rfl
theorem atI_last {α : Type} (l : List α) (x : α) : atI (l ++ [x]) (-1) = some x := by
  unfold atI ixN
  rw [if_neg (by omega), if_pos (by simp; omega)]
  have e : (-1 + ((l ++ [x]).length : Int)).toNat = l.length := by simp; omega
  rw [Option.bind_some, e]
  simp
theorem atI_0 {α : Type} (x : α) (l : List α) : atI (x :: l) 0 = some x := by
  unfold atI ixN
  rw [if_pos (by omega), if_pos (by simp)]
  rfl
theorem atI_1 {α : Type} (x y : α) (l : List α) : atI (x :: y :: l) 1 = some y := by
  unfold atI ixN
  rw [if_pos (by omega), if_pos (by simp; omega)]
  rfl
theorem atI_2 {α : Type} (x y z : α) (l : List α) : atI (x :: y :: z :: l) 2 = some z := by
  unfold atI ixN
  rw [if_pos (by omega), if_pos (by simp; omega)]
  rfl
theorem idx_tup {xs : List D} {i : Int} {Q : D → Prop} : dIdx (.tup xs) (.int i) Q ↔ ∃ x, atI xs i = some x ∧ Q x := by simp [dIdx]
theorem idx_lst {xs : List D} {i : Int} {Q : D → Prop} : dIdx (.lst xs) (.int i) Q ↔ ∃ x, atI xs i = some x ∧ Q x := by simp [dIdx]
@[simp] theorem idx_t0 {x : D} {xs : List D} {Q : D → Prop} : dIdx (.tup (x :: xs)) (.int 0) Q ↔ Q x := by simp [dIdx, atI_0]
@[simp] theorem idx_t1 {x y : D} {xs : List D} {Q : D → Prop} : dIdx (.tup (x :: y :: xs)) (.int 1) Q ↔ Q y := by simp [dIdx, atI_1]
@[simp] theorem idx_t2 {x y z : D} {xs : List D} {Q : D → Prop} : dIdx (.tup (x :: y :: z :: xs)) (.int 2) Q ↔ Q z := by simp [dIdx, atI_2]
theorem atI_nat {α : Type} (l : List α) (n : Nat) : atI l (n : Int) = l[n]? := by
  unfold atI ixN
  rw [if_pos (by omega)]
  by_cases h : n < l.length
  · rw [if_pos (by omega)]
    rfl
  · rw [if_neg (by omega), List.getElem?_eq_none (by omega)]
    rfl
theorem line_ok {n : Nat} (h : n ≤ 16000000) : n ≤ sizeLine := by rw [sizeLine_eq]; omega
theorem line_lt {n : Nat} (h : n < 16000000) : n < sizeLine := by rw [sizeLine_eq]; omega
/-- a turn of a comprehension that leaves the names as they were -/
def StepLC (g : AG) (tt : AT) (te : AE) (vs : List Nat) (ρ : List AV) (d : D) (p : Bool) (y : D) : Prop :=
  ∀ (C : D → List AV → Prop) (C' : List AV → Prop), (p = true → C y ρ) → (p = false → C' ρ) → g d (wipeA ρ vs) fun ρ1 => tt noEX ρ1 fun b ρ2 => if b = true then te noEX ρ2 (fun y ρ3 => C y (unw ρ ρ3 vs)) else C' (unw ρ ρ2 vs)
theorem lc_acc {α : Type} {en : α → D} {p : α → Bool} {f : α → D} {g : AG} {tt : AT} {te : AE} {vs : List Nat} {ρ : List AV} {Q : List D → List AV → Prop} :
    ∀ {l : List α} {acc : List D}, (∀ a ∈ l, StepLC g tt te vs ρ (en a) (p a) (f a)) → acc.length + l.length ≤ 16000000 → Q (acc ++ (l.filter p).map f) ρ → aLcL g tt te vs (l.map en) acc ρ Q
  | [], acc, _, _, q => by
    show Q acc ρ
    simpa using q
  | a :: l, acc, h, hl, q => by
    have hl : acc.length + (l.length + 1) ≤ 16000000 := hl
    refine h a List.mem_cons_self (fun y ρ' => acc.length < sizeLine ∧ aLcL g tt te vs (l.map en) (acc ++ [y]) ρ' Q) (fun ρ' => aLcL g tt te vs (l.map en) acc ρ' Q) (fun hp => ⟨line_lt (by omega), ?_⟩) fun hp => ?_
    · refine lc_acc (fun b hb => h b (List.mem_cons_of_mem _ hb)) (by simp; omega) ?_
      rw [List.filter_cons_of_pos hp] at q
      simpa using q
    · refine lc_acc (fun b hb => h b (List.mem_cons_of_mem _ hb)) (by omega) ?_
      rw [List.filter_cons_of_neg (by rw [hp]; decide)] at q
      exact q
theorem lc_go {α : Type} {en : α → D} {p : α → Bool} {f : α → D} {g : AG} {tt : AT} {te : AE} {vs : List Nat} {ρ : List AV} {Q : List D → List AV → Prop} {l : List α} {ds : List D} (hd : ds = l.map en)
    (h : ∀ a ∈ l, StepLC g tt te vs ρ (en a) (p a) (f a)) (hl : l.length ≤ 16000000) (q : Q ((l.filter p).map f) ρ) : aLcL g tt te vs ds [] ρ Q := by
  rw [hd]
  exact lc_acc h (by simpa using hl) (by simpa using q)
end PU
set_option Elab.async false
set_option linter.all false
set_option maxRecDepth 100000
namespace PU
open PySem PySem.Spec L2 StX RZ
set_option autoImplicit false
theorem FnAt.weak {P : Program} {w : World} {K : PySem.W.Frag} {mg : Str → Option Value} {base : Heap} {ec : Str → Option Addr} {k n : Nat} {A A' : AF} {f : Addr} (d : FnAt P w K mg base ec k f n A) (h : ∀ ds Q E, A' ds Q E → A ds Q E) : FnAt P w K mg base ec k f n A' := by
  obtain ⟨fd, ps, h1, h2, h3⟩ := d
  refine ⟨fd, ps, h1, h2, h3.weak ?_⟩
  rintro vs H Q E ⟨F, ds, Q0, E0, a1, a2, a3, a4, a5, a6⟩
  exact ⟨F, ds, Q0, E0, a1, a2, a3, h _ _ _ a4, a5, a6⟩
/-- a promise may be told weaker -/
def WeakFA (FA : Addr → Nat → AF → Prop) : Prop := ∀ f n A A', FA f n A → (∀ ds Q E, A' ds Q E → A ds Q E) → FA f n A'
theorem weakFA {P : Program} {w : World} {K : PySem.W.Frag} {mg : Str → Option Value} {base : Heap} {ec : Str → Option Addr} {k : Nat} : WeakFA (FnAt P w K mg base ec k) := fun _ _ _ _ d h => d.weak h
end PU
set_option Elab.async false
set_option linter.all false
set_option maxRecDepth 100000
namespace PU
open PySem PySem.Spec L2 StX RZ
set_option autoImplicit false
/-! ### what repr asks -/
def Sh (n L : Nat) (d : D) : Prop := D.shp n d ∧ d.py.showable = true ∧ d.py.shown.length ≤ L
theorem Sh.up {n L M : Nat} {d : D} (h : Sh n L d) (k : L ≤ M) : Sh n M d := ⟨h.1, h.2.1, Nat.le_trans h.2.2 k⟩
theorem sh_int {n : Nat} {i : Int} (h : i.natAbs.log2 < 1920) : Sh n 1921 (.int i) := by
  refine ⟨shp_int i, ?_, ?_⟩
  · simpa [D.py, PyData.showable] using h
  · exact PyProof.Rows.int_text_len_1921 h
theorem sh_non {n : Nat} : Sh n 1921 .non := ⟨shp_non, rfl, by decide⟩
theorem sh_bl {n : Nat} (b : Bool) : Sh n 1921 (.bl b) := ⟨shp_bl b, rfl, by cases b <;> decide⟩
theorem sh_alls {n L : Nat} : ∀ {xs : List D}, (∀ x ∈ xs, Sh n L x) → PyData.showableAll (D.pys xs) = true ∧ ((PyData.shownAll (D.pys xs)).map (·.length)).sum ≤ xs.length * L ∧ (PyData.shownAll (D.pys xs)).length = xs.length
  | [], _ => ⟨rfl, Nat.zero_le _, rfl⟩
  | x :: xs, h => by
    obtain ⟨h1, h2, h3⟩ := sh_alls (xs := xs) fun y hy => h y (List.mem_cons_of_mem _ hy)
    have hx := h x List.mem_cons_self
    refine ⟨?_, ?_, ?_⟩
    · show (x.py.showable && PyData.showableAll (D.pys xs)) = true
      rw [hx.2.1, h1]; rfl
    · show x.py.shown.length + ((PyData.shownAll (D.pys xs)).map (·.length)).sum ≤ (xs.length + 1) * L
      have := hx.2.2
      rw [Nat.succ_mul]
      omega
    · show (PyData.shownAll (D.pys xs)).length + 1 = xs.length + 1
      rw [h3]
theorem sh_lst {n L M : Nat} {xs : List D} (h : ∀ x ∈ xs, Sh n L x) (k : xs.length * L + 2 * xs.length + 3 ≤ M) : Sh (n + 1) M (.lst xs) := by
  obtain ⟨h1, h2, h3⟩ := sh_alls h
  refine ⟨fun x hx => (h x hx).1, h1, ?_⟩
  have := listText_len_le (PyData.shownAll (D.pys xs))
  show (listText (PyData.shownAll (D.pys xs))).length ≤ M
  omega
theorem sh_tup {n L M : Nat} {xs : List D} (h : ∀ x ∈ xs, Sh n L x) (k : xs.length * L + 2 * xs.length + 3 ≤ M) : Sh (n + 1) M (.tup xs) := by
  obtain ⟨h1, h2, h3⟩ := sh_alls h
  refine ⟨fun x hx => (h x hx).1, h1, ?_⟩
  have := tupleText_len_le (PyData.shownAll (D.pys xs))
  show (tupleText (PyData.shownAll (D.pys xs))).length ≤ M
  omega
theorem rep_ne {L : Nat} {x y : D} {Q : D → Prop} (h : Sh 64 L x) (hL : L ≤ 16000000) (e : x = y) (q : Q (.bl false)) : dRepr [x] fun d => dRepr [y] fun e => dNe2 d e Q := by
  subst e
  have l := Nat.le_trans h.2.2 (line_ok hL)
  refine ⟨h.1, h.2.1, l, h.1, h.2.1, l, ?_⟩
  simpa [dNe2] using q
theorem rep_go {L : Nat} {x : D} {Q : D → Prop} (h : Sh 64 L x) (hL : L ≤ 16000000) (q : Q (.str x.py.shown)) : dRepr [x] Q := ⟨h.1, h.2.1, Nat.le_trans h.2.2 (line_ok hL), q⟩
theorem str_ne {x : Str} {Q : D → Prop} (q : Q (.bl false)) : dNe2 (.str x) (.str x) Q := by simpa [dNe2] using q
theorem bl_ne {x : Bool} {Q : D → Prop} (q : Q (.bl false)) : dNe2 (.bl x) (.bl x) Q := by simpa [dNe2] using q
theorem int_ne {x : Int} {Q : D → Prop} (q : Q (.bl false)) : dNe2 (.int x) (.int x) Q := by simpa [dNe2] using q
theorem two_line : 2 ≤ sizeLine := line_ok (by decide)
theorem three_line : 3 ≤ sizeLine := line_ok (by decide)
theorem seq_cut {s t : AS} {A : AEnds} {ρ : List AV} (h : ∀ T : List AV → Prop, (∀ ρ', t A ρ' → T ρ') → s { A with nx := T } ρ) : aSeq s t A ρ := h _ fun _ q => q
/-- a turn of a comprehension that shows an own list on its way -/
def StepLC2 (g : AG) (tt : AT) (te : AE) (vs : List Nat) (ρ0 ρ : List AV) (d : D) (p : Bool) (y : D) : Prop :=
  ∀ (C : D → List AV → Prop) (C' : List AV → Prop), (p = true → C y ρ) → (p = false → C' ρ) → g d (wipeA ρ0 vs) fun ρ1 => tt noEX ρ1 fun b ρ2 => if b = true then te noEX ρ2 (fun y ρ3 => C y (unw ρ0 ρ3 vs)) else C' (unw ρ0 ρ2 vs)
theorem lc_first {α : Type} {en : α → D} {p : α → Bool} {f : α → D} {g : AG} {tt : AT} {te : AE} {vs : List Nat} {ρ0 ρ : List AV} {Q : List D → List AV → Prop} {a : α} {l : List α} {ds : List D} (hd : ds = (a :: l).map en)
    (h0 : StepLC2 g tt te vs ρ0 ρ (en a) (p a) (f a)) (h : ∀ b ∈ l, StepLC2 g tt te vs ρ ρ (en b) (p b) (f b)) (hl : l.length ≤ 15000000) (q : Q (((a :: l).filter p).map f) ρ) : aLcL g tt te vs ds [] ρ0 Q := by
  rw [hd]
  refine h0 (fun y ρ' => ([] : List D).length < sizeLine ∧ aLcL g tt te vs (l.map en) ([] ++ [y]) ρ' Q) (fun ρ' => aLcL g tt te vs (l.map en) [] ρ' Q) (fun hp => ⟨line_lt (by simp), ?_⟩) fun hp => ?_
  · refine lc_acc h (by simp; omega) ?_
    rw [List.filter_cons_of_pos hp] at q
    exact q
  · refine lc_acc h (by simp; omega) ?_
    rw [List.filter_cons_of_neg (by rw [hp]; decide)] at q
    exact q
end PU
set_option Elab.async false
set_option linter.all false
set_option maxRecDepth 100000
namespace PU
open PySem PySem.Spec L2 StX RZ
set_option autoImplicit false

/-! ### stretches -/
abbrev Sx := Int × Option Int
def eD : Option Int → D
  | none => .non
  | some i => .int i
def enc (s : Sx) : D := .tup [.int s.1, eD s.2]
def encL (l : List Sx) : List D := l.map enc
def upB : Option Int → Int → Bool
  | none, _ => true
  | some e, n => decide (n ≤ e)
def inB (s : Sx) (n : Int) : Bool := decide (s.1 ≤ n) && upB s.2 n
def memB (l : List Sx) (n : Int) : Bool := l.any fun s => inB s n
/-- least told: ascending, a gap behind each -/
def Can : Int → List Sx → Prop
  | _, [] => True
  | lo, (b, none) :: l => lo ≤ b ∧ l = []
  | lo, (b, some e) :: l => lo ≤ b ∧ b ≤ e ∧ Can (e + 2) l
theorem Can.lower : ∀ {c : List Sx} {lo lo' : Int}, Can lo c → lo' ≤ lo → Can lo' c
  | [], _, _, _, _ => trivial
  | (b, none) :: l, lo, lo', h, k => by
    obtain ⟨h1, h2⟩ := h
    exact ⟨by omega, h2⟩
  | (b, some e) :: l, lo, lo', h, k => by
    obtain ⟨h1, h2, h3⟩ := h
    exact ⟨by omega, h2, h3⟩
theorem Can.below : ∀ {c : List Sx} {lo n : Int}, Can lo c → n < lo → memB c n = false
  | [], _, _, _, _ => rfl
  | (b, none) :: l, lo, n, h, k => by
    obtain ⟨h1, rfl⟩ := h
    simp [memB, inB, upB]; omega
  | (b, some e) :: l, lo, n, h, k => by
    obtain ⟨h1, h2, h3⟩ := h
    have ih := Can.below (n := n) h3 (by omega)
    have e1 : memB ((b, some e) :: l) n = (inB (b, some e) n || memB l n) := rfl
    rw [e1, ih]
    simp [inB, upB]; omega
theorem memB_cons (s : Sx) (l : List Sx) (n : Int) : memB (s :: l) n = (inB s n || memB l n) := rfl
theorem memB_append (l m : List Sx) (n : Int) : memB (l ++ m) n = (memB l n || memB m n) := by
  unfold memB
  rw [List.any_append]
theorem can_uniq : ∀ {c c' : List Sx} {lo lo' : Int}, Can lo c → Can lo' c' → (∀ n, memB c n = memB c' n) → c = c'
  | [], [], _, _, _, _, _ => rfl
  | [], (b, e) :: l, lo, lo', _, h', k => by
    have := k b
    cases e with
    | none => simp [memB, inB, upB] at this
    | some e =>
      have hb : b ≤ e := h'.2.1
      simp [memB, inB, upB, hb] at this
  | (b, e) :: l, [], lo, lo', h, _, k => by
    have := k b
    cases e with
    | none => simp [memB, inB, upB] at this
    | some e =>
      have hb : b ≤ e := h.2.1
      simp [memB, inB, upB, hb] at this
  | (b, e) :: l, (b', e') :: l', lo, lo', h, h', k => by
    have fst : ∀ {b : Int} {e : Option Int} {l : List Sx} {lo : Int}, Can lo ((b, e) :: l) → memB ((b, e) :: l) b = true ∧ ∀ n, n < b → memB ((b, e) :: l) n = false := by
      intro b e l lo h
      cases e with
      | none =>
        obtain ⟨h1, rfl⟩ := h
        exact ⟨by simp [memB, inB, upB], fun n hn => by simp [memB, inB, upB]; omega⟩
      | some e =>
        obtain ⟨h1, h2, h3⟩ := h
        refine ⟨by simp [memB, inB, upB, h2], fun n hn => ?_⟩
        rw [memB_cons, h3.below (by omega)]
        simp [inB, upB]; omega
    obtain ⟨a1, a2⟩ := fst h
    obtain ⟨a3, a4⟩ := fst h'
    have hb : b = b' := by
      rcases Int.lt_trichotomy b b' with z | z | z
      · rw [k, a4 b z] at a1; cases a1
      · exact z
      · rw [← k, a2 b' z] at a3; cases a3
    subst hb
    have he : e = e' := by
      have behind : ∀ {b : Int} {e : Int} {l : List Sx} {lo : Int}, Can lo ((b, some e) :: l) → memB ((b, some e) :: l) (e + 1) = false := by
        intro b e l lo h
        obtain ⟨h1, h2, h3⟩ := h
        rw [memB_cons, h3.below (by omega)]
        simp [inB, upB]
        omega
      have within : ∀ {b n : Int} {e : Option Int} {l : List Sx}, b ≤ n → upB e n = true → memB ((b, e) :: l) n = true := by
        intro b n e l h1 h2
        rw [memB_cons]
        simp [inB, h1, h2]
      cases e with
      | none =>
        cases e' with
        | none => rfl
        | some e' =>
          have hle : b ≤ e' := h'.2.1
          have z := behind h'
          rw [← k, within (by omega) rfl] at z
          cases z
      | some e =>
        have hle : b ≤ e := h.2.1
        cases e' with
        | none =>
          have z := behind h
          rw [k, within (by omega) rfl] at z
          cases z
        | some e' =>
          have hle' : b ≤ e' := h'.2.1
          rcases Int.lt_trichotomy e e' with z | z | z
          · have y := behind h
            rw [k, within (by omega) (by simp [upB]; omega)] at y
            cases y
          · rw [z]
          · have y := behind h'
            rw [← k, within (by omega) (by simp [upB]; omega)] at y
            cases y
    subst he
    cases e with
    | none =>
      obtain ⟨_, rfl⟩ := h
      obtain ⟨_, rfl⟩ := h'
      rfl
    | some e =>
      obtain ⟨_, h2, h3⟩ := h
      obtain ⟨_, h2', h3'⟩ := h'
      have := can_uniq h3 h3' fun n => by
        by_cases hn : n < e + 2
        · rw [h3.below hn, h3'.below hn]
        · have := k n
          rw [memB_cons, memB_cons] at this
          have z : inB (b, some e) n = false := by simp [inB, upB]; omega
          rw [z] at this
          simpa using this
      rw [this]

/-! ### joined -/
def maxE : Option Int → Option Int → Option Int
  | some a, some b => some (max a b)
  | _, _ => none
def touch (e : Option Int) (b : Int) : Bool := match e with
  | none => true
  | some e => decide (b ≤ e + 1)
def joinR : Sx → List Sx → List Sx
  | s, [] => [s]
  | s, t :: l => if touch s.2 t.1 = true then joinR (s.1, maxE s.2 t.2) l else s :: joinR t l
def joinA : List Sx → List Sx
  | [] => []
  | s :: l => joinR s l
def okS (s : Sx) : Prop := upB s.2 s.1 = true
theorem joinR_can : ∀ {l : List Sx} {s : Sx} {lo : Int}, lo ≤ s.1 → okS s → (∀ t ∈ l, okS t ∧ s.1 ≤ t.1) → l.Pairwise (fun x y => x.1 ≤ y.1) → Can lo (joinR s l) ∧ (∀ n, memB (joinR s l) n = (inB s n || memB l n)) ∧ (joinR s l).length ≤ l.length + 1
  | [], (b, e), lo, h, k, _, _ => by
    refine ⟨?_, fun n => by simp [joinR, memB], by simp [joinR]⟩
    cases e with
    | none => exact ⟨h, rfl⟩
    | some e => exact ⟨h, by simpa [okS, upB] using k, trivial⟩
  | t :: l, (b, e), lo, h, k, hl, hp => by
    obtain ⟨b2, e2⟩ := t
    have h2 := hl (b2, e2) List.mem_cons_self
    have hp' := List.pairwise_cons.mp hp
    have hb : b ≤ b2 := h2.2
    have ho2 : okS (b2, e2) := h2.1
    unfold joinR
    by_cases c : touch e b2 = true
    · rw [if_pos c]
      have ok' : okS (b, maxE e e2) := by
        cases e with
        | none => rfl
        | some e =>
          cases e2 with
          | none => rfl
          | some e2 =>
            have : b ≤ e := by simpa [okS, upB] using k
            simp [okS, upB, maxE]; omega
      obtain ⟨g1, g2, g3⟩ := joinR_can (l := l) (s := (b, maxE e e2)) (lo := lo) h ok' (fun t ht => ⟨(hl t (List.mem_cons_of_mem _ ht)).1, (hl t (List.mem_cons_of_mem _ ht)).2⟩) hp'.2
      refine ⟨g1, fun n => ?_, by simp; omega⟩
      rw [g2, memB_cons, ← Bool.or_assoc]
      congr 1
      cases e with
      | none => simp [inB, upB, maxE]; omega
      | some e =>
        have ke : b ≤ e := by simpa [okS, upB] using k
        have ct : b2 ≤ e + 1 := by simpa [touch] using c
        cases e2 with
        | none =>
          have : ∀ n : Int, decide (b ≤ n) = (decide (b ≤ n) && decide (n ≤ e) || decide (b2 ≤ n)) := by
            intro n
            rw [Bool.eq_iff_iff]
            simp
            omega
          simp [inB, upB, maxE]
          rw [Bool.eq_iff_iff]
          simp
          omega
        | some e2 =>
          have k2 : b2 ≤ e2 := by simpa [okS, upB] using ho2
          simp only [inB, upB, maxE]
          rw [Bool.eq_iff_iff]
          simp
          omega
    · rw [if_neg c]
      cases e with
      | none => exact absurd rfl c
      | some e =>
        have ke : b ≤ e := by simpa [okS, upB] using k
        have ct : ¬ b2 ≤ e + 1 := by simpa [touch] using c
        obtain ⟨g1, g2, g3⟩ := joinR_can (l := l) (s := (b2, e2)) (lo := e + 2) (by show e + 2 ≤ b2; omega) ho2 (fun t ht => ⟨(hl t (List.mem_cons_of_mem _ ht)).1, hp'.1 t ht⟩) hp'.2
        refine ⟨⟨h, ke, g1⟩, fun n => ?_, by simp; omega⟩
        rw [memB_cons, g2, memB_cons]
theorem joinA_can {l : List Sx} {lo : Int} (h : ∀ t ∈ l, okS t ∧ lo ≤ t.1) (hp : l.Pairwise (fun x y => x.1 ≤ y.1)) : Can lo (joinA l) ∧ (∀ n, memB (joinA l) n = memB l n) ∧ (joinA l).length ≤ l.length := by
  cases l with
  | nil => exact ⟨trivial, fun _ => rfl, Nat.le_refl _⟩
  | cons s l =>
    have hp' := List.pairwise_cons.mp hp
    have hs := h s List.mem_cons_self
    obtain ⟨g1, g2, g3⟩ := joinR_can (lo := lo) hs.2 hs.1 (fun t ht => ⟨(h t (List.mem_cons_of_mem _ ht)).1, hp'.1 t ht⟩) hp'.2
    exact ⟨g1, fun n => by rw [memB_cons]; exact g2 n, by rw [List.length_cons]; exact g3⟩
end PU
set_option Elab.async false
set_option linter.all false
set_option maxRecDepth 100000
namespace PU
open PySem PySem.Spec L2 StX RZ
set_option autoImplicit false
def okB (s : Sx) : Bool := upB s.2 s.1
def enc3 (s : Sx) : D := .tup [.int s.1, .bl s.2.isNone, .int (s.2.getD 0)]
def le3 (s t : Sx) : Bool := leD (enc3 s) (enc3 t)
def sortS (l : List Sx) : List Sx := (l.filter okB).mergeSort le3
def normL (l : List Sx) : List Sx := joinA (sortS l)
theorem memB_filter : ∀ (l : List Sx) (n : Int), memB (l.filter okB) n = memB l n
  | [], _ => rfl
  | s :: l, n => by
    by_cases h : okB s = true
    · rw [List.filter_cons_of_pos h, memB_cons, memB_cons, memB_filter l n]
    · rw [List.filter_cons_of_neg h, memB_filter l n, memB_cons]
      have : inB s n = false := by
        obtain ⟨b, e⟩ := s
        cases e with
        | none => exact absurd rfl h
        | some e =>
          have : ¬ b ≤ e := by simpa [okB, upB] using h
          simp [inB, upB]; omega
      rw [this, Bool.false_or]
theorem memB_perm {l m : List Sx} (h : l.Perm m) (n : Int) : memB l n = memB m n := by
  unfold memB
  exact h.any_eq
theorem alike3 (s t : Sx) : PySem.W.alike (enc3 s).py (enc3 t).py = true := by
  simp [enc3, D.py, D.pys, PySem.W.alike, PySem.W.alikeAll]
theorem le3_fst {s t : Sx} (h : le3 s t = true) : s.1 ≤ t.1 := by
  have e : le3 s t = !PySem.W.dataLt (enc3 t).py (enc3 s).py := rfl
  rw [e] at h
  by_cases c : t.1 < s.1
  · exfalso
    have z : PySem.W.dataLt (enc3 t).py (enc3 s).py = true := by
      simp only [enc3, D.py, D.pys]
      rw [PySem.W.dataLt_tuple, PySem.W.dataLt_cons (by simp [PySem.W.alike]), if_neg, PySem.W.dataLt_int]
      · exact decide_eq_true c
      · simp [PyData.eqv]; omega
    rw [z] at h
    cases h
  · omega
theorem le3_trans (a b c : Sx) (h1 : le3 a b = true) (h2 : le3 b c = true) : le3 a c = true :=
  (PySem.W.sortLe_total (PyProof.Rows.listOrd PyProof.Rows.itemOrd) false fun x : Sx => PySem.W.keyToks (enc3 x).py).trans a b c h1 h2
theorem le3_total (a b : Sx) : (le3 a b || le3 b a) = true := by
  rw [Bool.or_eq_true]
  exact (PySem.W.sortLe_total (PyProof.Rows.listOrd PyProof.Rows.itemOrd) false fun x : Sx => PySem.W.keyToks (enc3 x).py).total a b
theorem sortS_asc (l : List Sx) : (sortS l).Pairwise (fun x y => x.1 ≤ y.1) := (List.pairwise_mergeSort le3_trans le3_total _).imp fun h => le3_fst h
theorem sortS_perm (l : List Sx) : (sortS l).Perm (l.filter okB) := List.mergeSort_perm _ _
theorem normL_can {l : List Sx} (h : ∀ s ∈ l, 0 ≤ s.1) : Can 0 (normL l) ∧ (∀ n, memB (normL l) n = memB l n) ∧ (normL l).length ≤ l.length := by
  obtain ⟨g1, g2, g3⟩ := joinA_can (l := sortS l) (lo := 0) (fun t ht => by
    have := (sortS_perm l).mem_iff.mp ht
    obtain ⟨h1, h2⟩ := List.mem_filter.mp this
    exact ⟨h2, h t h1⟩) (sortS_asc l)
  refine ⟨g1, fun n => ?_, ?_⟩
  · unfold normL
    rw [g2, memB_perm (sortS_perm l), memB_filter]
  · have := (sortS_perm l).length_eq
    have := List.length_filter_le okB l
    unfold normL
    omega
/-- the one least telling -/
theorem normL_is {l c : List Sx} (h : ∀ s ∈ l, 0 ≤ s.1) (hc : Can 0 c) (hm : ∀ n, memB c n = memB l n) : normL l = c := by
  obtain ⟨g1, g2, _⟩ := normL_can h
  exact can_uniq g1 hc fun n => by rw [g2, hm]
end PU
set_option Elab.async false
set_option linter.all false
set_option maxRecDepth 100000
namespace PU
open PySem PySem.Spec L2 StX RZ
set_option autoImplicit false
def seqL (x : D) (l : List Sx) : Prop := x = .lst (encL l) ∨ x = .tup (encL l)
def toldC (c : List Sx) (Q : D → Prop) (E : XE → Prop) : Prop := (c.length ≤ 60 → Q (.tup (encL c))) ∧ (60 < c.length → E ⟨"TooGreat", [("number", .int 3)]⟩)
def S_joined : AF := fun ds Q E => ∃ l, ds = [.lst (encL l)] ∧ l.length ≤ 1000 ∧ Q (.lst (encL (joinA l)))
def S_lot_told : AF := fun ds Q E => ∃ x l, ds = [x] ∧ seqL x l ∧ l.length ≤ 1000 ∧ (∀ s ∈ l, 0 ≤ s.1) ∧ toldC (normL l) Q E
def S_lot_has : AF := fun ds Q E => ∃ l n, ds = [.tup (encL l), .int n] ∧ l.length ≤ 1000 ∧ Q (.bl (memB l n))
def S_lots_any : AF := fun ds Q E => ∃ l m, ds = [.tup (encL l), .tup (encL m)] ∧ l.length ≤ 400 ∧ m.length ≤ 400 ∧ (∀ s ∈ l, 0 ≤ s.1) ∧ (∀ s ∈ m, 0 ≤ s.1) ∧ toldC (normL (l ++ m)) Q E
def gaps : Int → List Sx → List Sx
  | b, [] => [(b, none)]
  | b, (f, none) :: _ => [(b, some (f - 1))]
  | b, (f, some e) :: l => (b, some (f - 1)) :: gaps (e + 1) l
def S_lot_out : AF := fun ds Q E => ∃ l, ds = [.tup (encL l)] ∧ Can 0 l ∧ l.length ≤ 400 ∧ toldC (normL (gaps 0 l)) Q E
def minE : Option Int → Option Int → Option Int
  | none, e => e
  | some a, none => some a
  | some a, some b => some (min a b)
def meet (s t : Sx) : Sx := (max s.1 t.1, minE s.2 t.2)
def S_stretch_met : AF := fun ds Q E => ∃ s t, ds = [enc s, enc t] ∧ Q (enc (meet s t))
def pairs (l m : List Sx) : List Sx := l.flatMap fun s => m.map (meet s)
def S_lots_both : AF := fun ds Q E => ∃ l m, ds = [.tup (encL l), .tup (encL m)] ∧ l.length * m.length ≤ 900 ∧ m.length ≤ 400 ∧ (∀ s ∈ l, 0 ≤ s.1) ∧ toldC (normL (pairs l m)) Q E
def encG (p : Sx × Int) : D := .tup [.int p.1.1, eD p.1.2, .int p.2]
def S_lot_signed : AF := fun ds Q E => ∃ (l : List (Sx × Int)) (ws : List Int), ds = [.tup (l.map encG), .tup (ws.map .int)] ∧ l.length ≤ 400 ∧ (∀ p ∈ l, 0 ≤ p.1.1) ∧ toldC (normL ((l.filter fun p => ws.contains p.2).map (·.1))) Q E
def firstI : List Sx → D
  | [] => .non
  | s :: _ => .int s.1
def S_first_in : AF := fun ds Q E => ∃ l, ds = [.tup (encL l)] ∧ Q (firstI l)
def firstO : List Sx → D
  | [] => .int 0
  | (b, e) :: _ => if 0 < b then .int 0 else match e with
    | none => .non
    | some e => .int (e + 1)
def S_first_out : AF := fun ds Q E => ∃ l, ds = [.tup (encL l)] ∧ Q (firstO l)
def everB (l : List Sx) (b : Int) : Bool := (l.filter fun s => s.2.isNone).any fun s => decide (s.1 ≤ b)
def S_is_ever : AF := fun ds Q E => ∃ l b, ds = [.tup (encL l), .int b] ∧ l.length ≤ 1000 ∧ Q (.bl (everB l b))
def S__law_pick : AF := fun ds Q E => ∃ many : Int, ds = [.int many] ∧ many < 2 ^ 62 ∧ -(2 ^ 62) < many ∧ ∀ k, 0 ≤ k → k < max 1 many → Q (.int k)
def S__law_of : AF := fun ds Q E => ∃ x xs, ds = [x] ∧ (x = .lst xs ∨ x = .tup xs) ∧ xs ≠ [] ∧ xs.length < 2 ^ 40 ∧ ∀ y ∈ xs, Q y
def okSt (s : Sx) : Prop := 0 ≤ s.1 ∧ s.1 < 110 ∧ ∀ e, s.2 = some e → 0 ≤ e ∧ e < 110
def S__law_stretches : AF := fun ds Q E => ds = [] ∧ ∀ l : List Sx, l.length ≤ 7 → (∀ s ∈ l, okSt s) → Q (.lst (encL l))
def truths (f : Int → Bool) : List Bool := (List.range 130).map fun (i : Nat) => f (i : Int)
def blL (bs : List Bool) : D := .lst (bs.map .bl)
def S__law_truths : AF := fun ds Q E => ∃ l, ds = [.lst (encL l)] ∧ l.length ≤ 1000 ∧ Q (blL (truths (memB l)))
def lotOf : Int → Option Int → List Bool → List Sx
  | n, none, [] => []
  | n, some b, [] => [(b, none)]
  | n, none, true :: r => lotOf (n + 1) (some n) r
  | n, none, false :: r => lotOf (n + 1) none r
  | n, some b, true :: r => lotOf (n + 1) (some b) r
  | n, some b, false :: r => (b, some (n - 1)) :: lotOf (n + 1) none r
def S__law_lot : AF := fun ds Q E => ∃ bs, ds = [blL bs] ∧ bs.length ≤ 1000 ∧ Q (.tup (encL (lotOf 0 none bs)))
def firstT : Int → Bool → List Bool → D
  | _, _, [] => .non
  | n, w, b :: r => if b = w then .int n else firstT (n + 1) w r
def S__law_first : AF := fun ds Q E => ∃ bs w, ds = [blL bs, .bl w] ∧ bs.length ≤ 1000 ∧ Q (firstT 0 w bs)
def retA (as xs : List D) : AF := fun ds Q _ => ds = as ∧ Q (.tup xs)
def raiA (as : List D) (n : Int) : AF := fun ds _ E => ds = as ∧ E ⟨"TooGreat", [("number", .int n)]⟩
def S__law_told (FA : Addr → Nat → AF → Prop) : AF := fun ds Q E => ∃ f x,
  (ds = [.con (.ref f), x, .non] ∧ ((∃ xs, FA f 1 (retA [x] xs) ∧ Q (.tup [.str "told", .int xs.length])) ∨ ∃ n, FA f 1 (raiA [x] n) ∧ Q (.tup [.str "great", .int n]))) ∨
  ∃ ys, ds = [.con (.ref f), x, .tup ys] ∧ ((∃ xs, FA f 2 (retA [x, .tup ys] xs) ∧ Q (.tup [.str "told", .int xs.length])) ∨ ∃ n, FA f 2 (raiA [x, .tup ys] n) ∧ Q (.tup [.str "great", .int n]))
def S__law_many_right (FA : Addr → Nat → AF → Prop) : AF := fun ds Q E => ds = [] ∧ Q (.bl true)
/-! transformers, printed by gen.py -/
def N_joined : List Str := ["stretches", "found", "begin", "end", "last", "ends"]
def g_joined_1 (d : D) (ρ : List AV) (N : List AV → Prop) : Prop :=
  (gTupA 2 (gsCons (gSet 2) (gsCons (gSet 3) gsNil))) d ρ N
def b_joined_1 (A : AEnds) (ρ : List AV) : Prop :=
  (aIfS (aAnd (aTestB (aNeN 1 (aLst aNil))) (aOr (aTestB (aBin dIs2 (aBin dIdx (aIxN 1 (aNeg (aC (.int 1)))) (aC (.int 1))) (aC .non))) (aTestB (aBin dLe (aVar 2) (aBin dAdd (aBin dIdx (aIxN 1 (aNeg (aC (.int 1)))) (aC (.int 1))) (aC (.int 1))))))) (aSeq (aSet 4 (aPop 1))
  (aSeq (aSet 5 (aLst (aCons (aBin dIdx (aVar 4) (aC (.int 1))) (aCons (aVar 3) aNil))))
  (aDrop (aAppend 1 (aTup (aCons (aBin dIdx (aVar 4) (aC (.int 0))) (aCons (aIf (aTestB (aBin (dIn false) (aC .non) (aVar 5))) (aC .non) (aOp dMaxL (aCons (aVar 5) aNil))) aNil))))))) (aDrop (aAppend 1 (aTup (aCons (aVar 2) (aCons (aVar 3) aNil)))))) A ρ
def d_joined (A : AEnds) (ρ : List AV) : Prop :=
  (aSeq (aSetO 1 (aLst aNil))
  (aSeq (aFor (aIt (aVar 0)) g_joined_1 b_joined_1)
  (aRet (aVar 1)))) A ρ
def N_lot_told : List Str := ["stretches", "some", "found", "begin", "end", "is_last"]
def lg_lot_told_1 (d : D) (ρ : List AV) (N : List AV → Prop) : Prop :=
  (gTupA 2 (gsCons (gSet 3) (gsCons (gSet 4) gsNil))) d ρ N
def lt_lot_told_1 (EX : EK) (ρ : List AV) (Q : Bool → List AV → Prop) : Prop :=
  (aOr (aTestB (aBin dIs2 (aVar 4) (aC .non))) (aTestB (aBin dLe (aVar 3) (aVar 4)))) EX ρ Q
def le_lot_told_1 (EX : EK) (ρ : List AV) (Q : D → List AV → Prop) : Prop :=
  (aTup (aCons (aVar 3) (aCons (aBin dIs2 (aVar 4) (aC .non)) (aCons (aOrV (aVar 4) (aC (.int 0))) aNil)))) EX ρ Q
def lg_lot_told_2 (d : D) (ρ : List AV) (N : List AV → Prop) : Prop :=
  (gTupA 3 (gsCons (gSet 3) (gsCons (gSet 5) (gsCons (gSet 4) gsNil)))) d ρ N
def le_lot_told_2 (EX : EK) (ρ : List AV) (Q : D → List AV → Prop) : Prop :=
  (aTup (aCons (aVar 3) (aCons (aIf (aTest (aVar 5)) (aC .non) (aVar 4)) aNil))) EX ρ Q
def d_lot_told (A : AEnds) (ρ : List AV) : Prop :=
  (aSeq (aSet 1 (aOp dSorted (aCons (aLc (aIt (aVar 0)) lg_lot_told_1 lt_lot_told_1 le_lot_told_1 [3, 4]) aNil)))
  (aSeq (aSet 2 (aCall 1 S_joined (aCons (aLc (aIt (aVar 1)) lg_lot_told_2 aYes le_lot_told_2 [3, 5, 4]) aNil)))
  (aSeq (aIfS (aTestB (aBin dGt (aLenN 2) (aC (.int 60)))) (aRaise1 "TooGreat" "number" (aCons (aC (.int 3)) aNil)) aSkip)
  (aRet (aOp dTuple (aCons (aVar 2) aNil)))))) A ρ
def N_lot_has : List Str := ["lot", "n", "begin", "end"]
def lg_lot_has_1 (d : D) (ρ : List AV) (N : List AV → Prop) : Prop :=
  (gTupA 2 (gsCons (gSet 2) (gsCons (gSet 3) gsNil))) d ρ N
def le_lot_has_1 (EX : EK) (ρ : List AV) (Q : D → List AV → Prop) : Prop :=
  (aAndV (aBin dLe (aVar 2) (aVar 1)) (aOrV (aBin dIs2 (aVar 3) (aC .non)) (aBin dLe (aVar 1) (aVar 3)))) EX ρ Q
def d_lot_has (A : AEnds) (ρ : List AV) : Prop :=
  (aRet (aOp dAnyL (aCons (aLc (aIt (aVar 0)) lg_lot_has_1 aYes le_lot_has_1 [2, 3]) aNil))) A ρ
def N_lots_any : List Str := ["one", "other"]
def d_lots_any (A : AEnds) (ρ : List AV) : Prop :=
  (aRet (aCall 1 S_lot_told (aCons (aLst (aStar (aVar 0) (aStar (aVar 1) aNil))) aNil))) A ρ
def N_lot_out : List Str := ["lot", "found", "begin", "first", "last"]
def g_lot_out_1 (d : D) (ρ : List AV) (N : List AV → Prop) : Prop :=
  (gTupA 2 (gsCons (gSet 3) (gsCons (gSet 4) gsNil))) d ρ N
def b_lot_out_1 (A : AEnds) (ρ : List AV) : Prop :=
  (aSeq (aDrop (aAppend 1 (aTup (aCons (aVar 2) (aCons (aBin dSub (aVar 3) (aC (.int 1))) aNil)))))
  (aSet 2 (aIf (aTestB (aBin dIs2 (aVar 4) (aC .non))) (aC .non) (aBin dAdd (aVar 4) (aC (.int 1)))))) A ρ
def d_lot_out (A : AEnds) (ρ : List AV) : Prop :=
  (aSeq (aParO [1, 2] (aoO (aLst aNil) (aoD (aC (.int 0)) aoNil)))
  (aSeq (aFor (aIt (aVar 0)) g_lot_out_1 b_lot_out_1)
  (aRet (aCall 1 S_lot_told (aCons (aIf (aTestB (aBin dIs2 (aVar 2) (aC .non))) (aVar 1) (aLst (aStar (aVar 1) (aCons (aTup (aCons (aVar 2) (aCons (aC .non) aNil))) aNil)))) aNil))))) A ρ
def N_stretch_met : List Str := ["one", "other", "ends", "end"]
def lg_stretch_met_1 (d : D) (ρ : List AV) (N : List AV → Prop) : Prop :=
  (gSet 3) d ρ N
def lt_stretch_met_1 (EX : EK) (ρ : List AV) (Q : Bool → List AV → Prop) : Prop :=
  (aTestB (aBin dIsNot2 (aVar 3) (aC .non))) EX ρ Q
def le_stretch_met_1 (EX : EK) (ρ : List AV) (Q : D → List AV → Prop) : Prop :=
  (aVar 3) EX ρ Q
def d_stretch_met (A : AEnds) (ρ : List AV) : Prop :=
  (aSeq (aSet 2 (aLc (aIt (aTup (aCons (aBin dIdx (aVar 0) (aC (.int 1))) (aCons (aBin dIdx (aVar 1) (aC (.int 1))) aNil)))) lg_stretch_met_1 lt_stretch_met_1 le_stretch_met_1 [3]))
  (aRet (aTup (aCons (aOp dMax2 (aCons (aBin dIdx (aVar 0) (aC (.int 0))) (aCons (aBin dIdx (aVar 1) (aC (.int 0))) aNil))) (aCons (aIf (aTestB (aBin dNe2 (aVar 2) (aLst aNil))) (aOp dMinL (aCons (aVar 2) aNil)) (aC .non)) aNil))))) A ρ
def N_lots_both : List Str := ["one", "other", "found", "here", "there"]
def lg_lots_both_1 (d : D) (ρ : List AV) (N : List AV → Prop) : Prop :=
  (gSet 4) d ρ N
def le_lots_both_1 (EX : EK) (ρ : List AV) (Q : D → List AV → Prop) : Prop :=
  (aCall 2 S_stretch_met (aCons (aVar 3) (aCons (aVar 4) aNil))) EX ρ Q
def g_lots_both_2 (d : D) (ρ : List AV) (N : List AV → Prop) : Prop :=
  (gSet 3) d ρ N
def b_lots_both_2 (A : AEnds) (ρ : List AV) : Prop :=
  (aDrop (aExtend 2 (aLc (aIt (aVar 1)) lg_lots_both_1 aYes le_lots_both_1 [4]))) A ρ
def d_lots_both (A : AEnds) (ρ : List AV) : Prop :=
  (aSeq (aSetO 2 (aLst aNil))
  (aSeq (aFor (aIt (aVar 0)) g_lots_both_2 b_lots_both_2)
  (aRet (aCall 1 S_lot_told (aCons (aVar 2) aNil))))) A ρ
def N_lot_signed : List Str := ["signs", "wanted", "begin", "end", "sign"]
def lg_lot_signed_1 (d : D) (ρ : List AV) (N : List AV → Prop) : Prop :=
  (gTupA 3 (gsCons (gSet 2) (gsCons (gSet 3) (gsCons (gSet 4) gsNil)))) d ρ N
def lt_lot_signed_1 (EX : EK) (ρ : List AV) (Q : Bool → List AV → Prop) : Prop :=
  (aTestB (aBin (dIn false) (aVar 4) (aVar 1))) EX ρ Q
def le_lot_signed_1 (EX : EK) (ρ : List AV) (Q : D → List AV → Prop) : Prop :=
  (aTup (aCons (aVar 2) (aCons (aVar 3) aNil))) EX ρ Q
def d_lot_signed (A : AEnds) (ρ : List AV) : Prop :=
  (aRet (aCall 1 S_lot_told (aCons (aLc (aIt (aVar 0)) lg_lot_signed_1 lt_lot_signed_1 le_lot_signed_1 [2, 3, 4]) aNil))) A ρ
def N_first_in : List Str := ["lot"]
def d_first_in (A : AEnds) (ρ : List AV) : Prop :=
  (aRet (aIf (aTestB (aBin dNe2 (aVar 0) (aTup aNil))) (aBin dIdx (aBin dIdx (aVar 0) (aC (.int 0))) (aC (.int 0))) (aC .non))) A ρ
def N_first_out : List Str := ["lot"]
def d_first_out (A : AEnds) (ρ : List AV) : Prop :=
  (aSeq (aIfS (aOr (aTestB (aBin dEq2 (aVar 0) (aTup aNil))) (aTestB (aBin dGt (aBin dIdx (aBin dIdx (aVar 0) (aC (.int 0))) (aC (.int 0))) (aC (.int 0))))) (aRet (aC (.int 0))) aSkip)
  (aRet (aIf (aTestB (aBin dIsNot2 (aBin dIdx (aBin dIdx (aVar 0) (aC (.int 0))) (aC (.int 1))) (aC .non))) (aBin dAdd (aBin dIdx (aBin dIdx (aVar 0) (aC (.int 0))) (aC (.int 1))) (aC (.int 1))) (aC .non)))) A ρ
def N_is_ever : List Str := ["lot", "begin", "first", "last"]
def lg_is_ever_1 (d : D) (ρ : List AV) (N : List AV → Prop) : Prop :=
  (gTupA 2 (gsCons (gSet 2) (gsCons (gSet 3) gsNil))) d ρ N
def lt_is_ever_1 (EX : EK) (ρ : List AV) (Q : Bool → List AV → Prop) : Prop :=
  (aTestB (aBin dIs2 (aVar 3) (aC .non))) EX ρ Q
def le_is_ever_1 (EX : EK) (ρ : List AV) (Q : D → List AV → Prop) : Prop :=
  (aBin dLe (aVar 2) (aVar 1)) EX ρ Q
def d_is_ever (A : AEnds) (ρ : List AV) : Prop :=
  (aRet (aOp dAnyL (aCons (aLc (aIt (aVar 0)) lg_is_ever_1 lt_is_ever_1 le_is_ever_1 [2, 3]) aNil))) A ρ
def N__law_pick : List Str := ["source", "many", "left", "mixed"]
def d__law_pick (A : AEnds) (ρ : List AV) : Prop :=
  (aSeq (aSrcW 0 1)
  (aSeq (aSet 2 (aSrcG 0 "left"))
  (aSeq (aIfS (aOr (aTestB (aBin dLt (aVar 1) (aC (.int 2)))) (aTestB (aBin dGt (aVar 2) (aC (.int 1))))) (aSeq (aSrcP 0 "left" (aBin dDiv (aVar 2) (aOp dMax2 (aCons (aC (.int 1)) (aCons (aVar 1) aNil)))))
  (aRet (aBin dMod (aOp dInt (aCons (aVar 2) aNil)) (aOp dMax2 (aCons (aC (.int 1)) (aCons (aVar 1) aNil)))))) aSkip)
  (aSeq (aSrcP 0 "turn" (aBin dAdd (aSrcG 0 "turn") (aC (.int 1))))
  (aSeq (aSet 3 (aBin dMod (aOp dInt (aCons (aBin dAdd (aSrcG 0 "mixed") (aBin dMul (aSrcG 0 "turn") (aC (.int 104729)))) aNil)) (aC (.int 998244353))))
  (aSeq (aSet 3 (aBin dMod (aOp dInt (aCons (aBin dAdd (aBin dMul (aVar 3) (aVar 3)) (aBin dMul (aSrcG 0 "turn") (aC (.int 17)))) aNil)) (aC (.int 2147483647))))
  (aSeq (aSrcP 0 "mixed" (aVar 3))
  (aRet (aBin dMod (aOp dInt (aCons (aBin dDiv (aVar 3) (aC (.int 16))) aNil)) (aVar 1)))))))))) A ρ
def N__law_of : List Str := ["source", "some"]
def d__law_of (A : AEnds) (ρ : List AV) : Prop :=
  (aRet (aBin dIdx (aVar 1) (aCallZ 0 1 S__law_pick (aCons (aLenN 1) aNil)))) A ρ
def N__law_stretches : List Str := ["source", "found", "lap", "low"]
def g__law_stretches_1 (d : D) (ρ : List AV) (N : List AV → Prop) : Prop :=
  (gSet 2) d ρ N
def b__law_stretches_1 (A : AEnds) (ρ : List AV) : Prop :=
  (aSeq (aSet 3 (aCallZ 0 1 S__law_pick (aCons (aC (.int 60)) aNil)))
  (aDrop (aAppend 1 (aTup (aCons (aVar 3) (aCons (aOp dMax2 (aCons (aC (.int 0)) (aCons (aBin dSub (aBin dAdd (aVar 3) (aCallZ 0 1 S__law_pick (aCons (aC (.int 50)) aNil))) (aC (.int 3))) aNil))) aNil)))))) A ρ
def d__law_stretches (A : AEnds) (ρ : List AV) : Prop :=
  (aSeq (aSetO 1 (aLst aNil))
  (aSeq (aFor (aRng1 (aCons (aCallZ 0 1 S__law_pick (aCons (aC (.int 7)) aNil)) aNil)) g__law_stretches_1 b__law_stretches_1)
  (aRet (aBin dAdd (aVar 1) (aBin dMul (aLst (aCons (aTup (aCons (aBin dAdd (aC (.int 60)) (aCallZ 0 1 S__law_pick (aCons (aC (.int 50)) aNil))) (aCons (aC .non) aNil))) aNil)) (aOp dInt (aCons (aBin dEq2 (aCallZ 0 1 S__law_pick (aCons (aC (.int 3)) aNil)) (aC (.int 0))) aNil))))))) A ρ
def N__law_truths : List Str := ["stretches", "low", "high", "n"]
def lg__law_truths_1 (d : D) (ρ : List AV) (N : List AV → Prop) : Prop :=
  (gTupA 2 (gsCons (gSet 1) (gsCons (gSet 2) gsNil))) d ρ N
def lt__law_truths_1 (EX : EK) (ρ : List AV) (Q : Bool → List AV → Prop) : Prop :=
  (aAnd (aTestB (aBin dLe (aVar 1) (aVar 3))) (aOr (aTestB (aBin dIs2 (aVar 2) (aC .non))) (aTestB (aBin dLe (aVar 3) (aVar 2))))) EX ρ Q
def le__law_truths_1 (EX : EK) (ρ : List AV) (Q : D → List AV → Prop) : Prop :=
  (aC (.int 1)) EX ρ Q
def lg__law_truths_2 (d : D) (ρ : List AV) (N : List AV → Prop) : Prop :=
  (gSet 3) d ρ N
def le__law_truths_2 (EX : EK) (ρ : List AV) (Q : D → List AV → Prop) : Prop :=
  (aBin dNe2 (aLc (aIt (aVar 0)) lg__law_truths_1 lt__law_truths_1 le__law_truths_1 [1, 2]) (aLst aNil)) EX ρ Q
def d__law_truths (A : AEnds) (ρ : List AV) : Prop :=
  (aRet (aLc (aRng1 (aCons (aC (.int 130)) aNil)) lg__law_truths_2 aYes le__law_truths_2 [3])) A ρ
def N__law_lot : List Str := ["truths", "found", "begin", "n", "truth"]
def g__law_lot_1 (d : D) (ρ : List AV) (N : List AV → Prop) : Prop :=
  (gTupA 2 (gsCons (gSet 3) (gsCons (gSet 4) gsNil))) d ρ N
def b__law_lot_1 (A : AEnds) (ρ : List AV) : Prop :=
  (aSeq (aIfS (aAnd (aTest (aVar 4)) (aTestB (aBin dIs2 (aVar 2) (aC .non)))) (aSet 2 (aVar 3)) aSkip)
  (aIfS (aAnd (aNot (aTest (aVar 4))) (aTestB (aBin dIsNot2 (aVar 2) (aC .non)))) (aSeq (aDrop (aAppend 1 (aTup (aCons (aVar 2) (aCons (aIf (aTestB (aBin dEq2 (aVar 3) (aLenN 0))) (aC .non) (aBin dSub (aVar 3) (aC (.int 1)))) aNil)))))
  (aSet 2 (aC .non))) aSkip)) A ρ
def d__law_lot (A : AEnds) (ρ : List AV) : Prop :=
  (aSeq (aParO [1, 2] (aoO (aLst aNil) (aoD (aC .non) aoNil)))
  (aSeq (aFor (aEnum (aCons (aBin dAdd (aVar 0) (aLst (aCons (aC (.bl false)) aNil))) aNil)) g__law_lot_1 b__law_lot_1)
  (aRet (aOp dTuple (aCons (aVar 1) aNil))))) A ρ
def N__law_first : List Str := ["truths", "wanted", "some", "n", "truth"]
def lg__law_first_1 (d : D) (ρ : List AV) (N : List AV → Prop) : Prop :=
  (gTupA 2 (gsCons (gSet 3) (gsCons (gSet 4) gsNil))) d ρ N
def lt__law_first_1 (EX : EK) (ρ : List AV) (Q : Bool → List AV → Prop) : Prop :=
  (aTestB (aBin dEq2 (aVar 4) (aVar 1))) EX ρ Q
def le__law_first_1 (EX : EK) (ρ : List AV) (Q : D → List AV → Prop) : Prop :=
  (aVar 3) EX ρ Q
def d__law_first (A : AEnds) (ρ : List AV) : Prop :=
  (aSeq (aSet 2 (aLc (aEnum (aCons (aVar 0) aNil)) lg__law_first_1 lt__law_first_1 le__law_first_1 [3, 4]))
  (aRet (aIf (aTestB (aBin dNe2 (aVar 2) (aLst aNil))) (aBin dIdx (aVar 2) (aC (.int 0))) (aC .non)))) A ρ
def N__law_told : List Str := ["call", "one", "other", "error"]
def d__law_told (FA : Addr → Nat → AF → Prop) (A : AEnds) (ρ : List AV) : Prop :=
  (aTry (fun n => n == "TooGreat") 3 (aRet (aTup (aCons (aC (.str "told")) (aCons (aOp dLen (aCons (aIf (aTestB (aBin dIsNot2 (aVar 2) (aC .non))) (aCallV FA 0 2 (aCons (aVar 1) (aCons (aVar 2) aNil))) (aCallV FA 0 1 (aCons (aVar 1) aNil))) aNil)) aNil)))) fun x a => (aRet (aTup (aCons (aC (.str "great")) (aCons (aFld 3 "number" x a) aNil))))) A ρ
def N__law_many_right : List Str := ["sixty", "late", "far", "told", "shifted", "due", "k", "some", "low", "high"]
def lg__law_many_right_1 (d : D) (ρ : List AV) (N : List AV → Prop) : Prop :=
  (gSet 6) d ρ N
def le__law_many_right_1 (EX : EK) (ρ : List AV) (Q : D → List AV → Prop) : Prop :=
  (aTup (aCons (aBin dMul (aC (.int 3)) (aVar 6)) (aCons (aBin dMul (aC (.int 3)) (aVar 6)) aNil))) EX ρ Q
def lg__law_many_right_2 (d : D) (ρ : List AV) (N : List AV → Prop) : Prop :=
  (gSet 6) d ρ N
def le__law_many_right_2 (EX : EK) (ρ : List AV) (Q : D → List AV → Prop) : Prop :=
  (aTup (aCons (aBin dMul (aC (.int 3)) (aVar 6)) (aCons (aBin dMul (aC (.int 3)) (aVar 6)) aNil))) EX ρ Q
def lg__law_many_right_3 (d : D) (ρ : List AV) (N : List AV → Prop) : Prop :=
  (gSet 7) d ρ N
def le__law_many_right_3 (FA : Addr → Nat → AF → Prop) (fa : Str → Addr) (EX : EK) (ρ : List AV) (Q : D → List AV → Prop) : Prop :=
  (aCall 3 (S__law_told FA) (aCons (aC (.con (.ref (fa "lot_told")))) (aCons (aVar 7) (aCons (aC .non) aNil)))) EX ρ Q
def lg__law_many_right_4 (d : D) (ρ : List AV) (N : List AV → Prop) : Prop :=
  (gTupA 2 (gsCons (gSet 8) (gsCons (gSet 9) gsNil))) d ρ N
def le__law_many_right_4 (EX : EK) (ρ : List AV) (Q : D → List AV → Prop) : Prop :=
  (aTup (aCons (aBin dAdd (aVar 8) (aC (.int 1))) (aCons (aBin dAdd (aVar 9) (aC (.int 1))) aNil))) EX ρ Q
def d__law_many_right (FA : Addr → Nat → AF → Prop) (fa : Str → Addr) (A : AEnds) (ρ : List AV) : Prop :=
  (aSeq (aParO [0, 1] (aoD (aOp dTuple (aCons (aLc (aRng1 (aCons (aC (.int 60)) aNil)) lg__law_many_right_2 aYes le__law_many_right_2 [6]) aNil)) (aoD (aOp dTuple (aCons (aLc (aRng1 (aCons (aC (.int 61)) aNil)) lg__law_many_right_1 aYes le__law_many_right_1 [6]) aNil)) aoNil)))
  (aSeq (aSet 2 (aTup (aCons (aTup (aCons (aC (.int 1000)) (aCons (aC (.int 1000)) aNil))) aNil)))
  (aSeq (aSet 3 (aBin dAdd (aLc (aIt (aTup (aCons (aVar 0) (aCons (aVar 1) aNil)))) lg__law_many_right_3 aYes (le__law_many_right_3 FA fa) [7]) (aLst (aCons (aCall 3 (S__law_told FA) (aCons (aC (.con (.ref (fa "lots_any")))) (aCons (aVar 0) (aCons (aVar 2) aNil)))) aNil))))
  (aSeq (aSet 3 (aBin dAdd (aVar 3) (aLst (aCons (aCall 3 (S__law_told FA) (aCons (aC (.con (.ref (fa "lots_any")))) (aCons (aVar 0) (aCons (aTup (aCons (aTup (aCons (aC (.int 1)) (aCons (aC (.int 1)) aNil))) aNil)) aNil)))) (aCons (aCall 3 (S__law_told FA) (aCons (aC (.con (.ref (fa "lots_both")))) (aCons (aVar 0) (aCons (aTup (aCons (aTup (aCons (aC (.int 0)) (aCons (aC .non) aNil))) aNil)) aNil)))) aNil)))))
  (aSeq (aSet 4 (aOp dTuple (aCons (aLc (aIt (aVar 0)) lg__law_many_right_4 aYes le__law_many_right_4 [8, 9]) aNil)))
  (aSeq (aSet 3 (aBin dAdd (aVar 3) (aLst (aCons (aCall 3 (S__law_told FA) (aCons (aC (.con (.ref (fa "lot_out")))) (aCons (aVar 0) (aCons (aC .non) aNil)))) (aCons (aCall 3 (S__law_told FA) (aCons (aC (.con (.ref (fa "lot_out")))) (aCons (aVar 4) (aCons (aC .non) aNil)))) aNil)))))
  (aSeq (aSet 5 (aLst (aCons (aTup (aCons (aC (.str "told")) (aCons (aC (.int 60)) aNil))) (aCons (aTup (aCons (aC (.str "great")) (aCons (aC (.int 3)) aNil))) (aCons (aTup (aCons (aC (.str "great")) (aCons (aC (.int 3)) aNil))) (aCons (aTup (aCons (aC (.str "told")) (aCons (aC (.int 60)) aNil))) (aCons (aTup (aCons (aC (.str "told")) (aCons (aC (.int 60)) aNil))) (aCons (aTup (aCons (aC (.str "told")) (aCons (aC (.int 60)) aNil))) (aCons (aTup (aCons (aC (.str "great")) (aCons (aC (.int 3)) aNil))) aNil)))))))))
  (aRet (aBin dEq2 (aVar 3) (aVar 5)))))))))) A ρ
def N_law : List Str := ["script", "source", "some", "others", "one", "other", "here", "there", "both", "any_of", "out", "dues", "n", "begin", "signs", "place", "sign", "lap", "end", "wanted", "truths", "far", "wide", "late", "due", "a", "b", "lot", "low", "high"]
def lg_law_1 (d : D) (ρ : List AV) (N : List AV → Prop) : Prop :=
  (gSet 25) d ρ N
def le_law_1 (EX : EK) (ρ : List AV) (Q : D → List AV → Prop) : Prop :=
  (aNotV (aVar 25)) EX ρ Q
def lg_law_2 (d : D) (ρ : List AV) (N : List AV → Prop) : Prop :=
  (gTupA 2 (gsCons (gSet 25) (gsCons (gSet 26) gsNil))) d ρ N
def le_law_2 (EX : EK) (ρ : List AV) (Q : D → List AV → Prop) : Prop :=
  (aOrV (aVar 25) (aVar 26)) EX ρ Q
def lg_law_3 (d : D) (ρ : List AV) (N : List AV → Prop) : Prop :=
  (gTupA 2 (gsCons (gSet 25) (gsCons (gSet 26) gsNil))) d ρ N
def le_law_3 (EX : EK) (ρ : List AV) (Q : D → List AV → Prop) : Prop :=
  (aAndV (aVar 25) (aVar 26)) EX ρ Q
def lg_law_4 (d : D) (ρ : List AV) (N : List AV → Prop) : Prop :=
  (gSet 24) d ρ N
def le_law_4 (EX : EK) (ρ : List AV) (Q : D → List AV → Prop) : Prop :=
  (aCall 1 S__law_lot (aCons (aVar 24) aNil)) EX ρ Q
def lg_law_5 (d : D) (ρ : List AV) (N : List AV → Prop) : Prop :=
  (gSet 27) d ρ N
def le_law_5 (EX : EK) (ρ : List AV) (Q : D → List AV → Prop) : Prop :=
  (aCall 2 S_lot_has (aCons (aVar 27) (aCons (aVar 12) aNil))) EX ρ Q
def lg_law_6 (d : D) (ρ : List AV) (N : List AV → Prop) : Prop :=
  (gSet 24) d ρ N
def le_law_6 (EX : EK) (ρ : List AV) (Q : D → List AV → Prop) : Prop :=
  (aBin dIdx (aVar 24) (aVar 12)) EX ρ Q
def g_law_7 (d : D) (ρ : List AV) (N : List AV → Prop) : Prop :=
  (gSet 12) d ρ N
def b_law_7 (A : AEnds) (ρ : List AV) : Prop :=
  (aIfS (aTestB (aBin dNe2 (aLc (aIt (aTup (aCons (aVar 4) (aCons (aVar 8) (aCons (aVar 9) (aCons (aVar 10) aNil)))))) lg_law_5 aYes le_law_5 [27]) (aBin dAdd (aLst (aCons (aBin dIdx (aVar 6) (aVar 12)) aNil)) (aLc (aIt (aVar 11)) lg_law_6 aYes le_law_6 [24])))) (aRet (aC (.bl false))) aSkip) A ρ
def lg_law_8 (d : D) (ρ : List AV) (N : List AV → Prop) : Prop :=
  (gSet 23) d ρ N
def lt_law_8 (EX : EK) (ρ : List AV) (Q : Bool → List AV → Prop) : Prop :=
  (aTestB (aBin dNe2 (aVar 23) (aVar 16))) EX ρ Q
def le_law_8 (EX : EK) (ρ : List AV) (Q : D → List AV → Prop) : Prop :=
  (aVar 23) EX ρ Q
def g_law_9 (d : D) (ρ : List AV) (N : List AV → Prop) : Prop :=
  (gSet 17) d ρ N
def b_law_9 (A : AEnds) (ρ : List AV) : Prop :=
  (aSeq (aSet 18 (aBin dAdd (aVar 15) (aCallZ 1 1 S__law_pick (aCons (aC (.int 15)) aNil))))
  (aSeq (aDrop (aAppend 14 (aTup (aCons (aVar 15) (aCons (aVar 18) (aCons (aVar 16) aNil))))))
  (aParO [15, 16] (aoD (aBin dAdd (aVar 18) (aC (.int 1))) (aoD (aCallZ 1 1 S__law_of (aCons (aLc (aIt (aTup (aCons (aC (.int 1)) (aCons (aC (.int 0)) (aCons (aNeg (aC (.int 1))) aNil))))) lg_law_8 lt_law_8 le_law_8 [23]) aNil)) aoNil))))) A ρ
def lg_law_10 (d : D) (ρ : List AV) (N : List AV → Prop) : Prop :=
  (gTupA 3 (gsCons (gSet 28) (gsCons (gSet 29) (gsCons (gSet 23) gsNil)))) d ρ N
def lt_law_10 (EX : EK) (ρ : List AV) (Q : Bool → List AV → Prop) : Prop :=
  (aAnd (aTestB (aBin dLe (aVar 28) (aVar 12))) (aAnd (aOr (aTestB (aBin dIs2 (aVar 29) (aC .non))) (aTestB (aBin dLe (aVar 12) (aVar 29)))) (aTestB (aBin (dIn false) (aVar 23) (aVar 19))))) EX ρ Q
def le_law_10 (EX : EK) (ρ : List AV) (Q : D → List AV → Prop) : Prop :=
  (aC (.int 1)) EX ρ Q
def lg_law_11 (d : D) (ρ : List AV) (N : List AV → Prop) : Prop :=
  (gSet 12) d ρ N
def le_law_11 (EX : EK) (ρ : List AV) (Q : D → List AV → Prop) : Prop :=
  (aBin dNe2 (aLc (aIt (aVar 14)) lg_law_10 lt_law_10 le_law_10 [28, 29, 23]) (aLst aNil)) EX ρ Q
def d_law (FA : Addr → Nat → AF → Prop) (A : AEnds) (ρ : List AV) : Prop :=
  (aSeq (aParO [2, 3] (aoD (aCallZ 1 0 S__law_stretches aNil) (aoD (aCallZ 1 0 S__law_stretches aNil) aoNil)))
  (aSeq (aParO [4, 5] (aoD (aCall 1 S_lot_told (aCons (aVar 2) aNil)) (aoD (aCall 1 S_lot_told (aCons (aOp dTuple (aCons (aRevL (aVar 3)) aNil)) aNil)) aoNil)))
  (aSeq (aParO [6, 7] (aoD (aCall 1 S__law_truths (aCons (aVar 2) aNil)) (aoD (aCall 1 S__law_truths (aCons (aVar 3) aNil)) aoNil)))
  (aSeq (aIfS (aOr (aTestB (aBin dNe2 (aOp dRepr (aCons (aLst (aCons (aVar 4) (aCons (aVar 5) aNil))) aNil)) (aOp dRepr (aCons (aLst (aCons (aCall 1 S__law_lot (aCons (aVar 6) aNil)) (aCons (aCall 1 S__law_lot (aCons (aVar 7) aNil)) aNil))) aNil)))) (aTestB (aBin dNe2 (aOp dRepr (aCons (aCall 1 S_lot_told (aCons (aBin dAdd (aVar 4) (aVar 4)) aNil)) aNil)) (aOp dRepr (aCons (aVar 4) aNil))))) (aRet (aC (.bl false))) aSkip)
  (aSeq (aParO [8, 9, 10] (aoD (aCall 2 S_lots_both (aCons (aVar 4) (aCons (aVar 5) aNil))) (aoD (aCall 2 S_lots_any (aCons (aVar 4) (aCons (aVar 5) aNil))) (aoD (aCall 1 S_lot_out (aCons (aVar 4) aNil)) aoNil))))
  (aSeq (aSet 11 (aLst (aCons (aLc (aZip (aCons (aVar 6) (aCons (aVar 7) aNil))) lg_law_3 aYes le_law_3 [25, 26]) (aCons (aLc (aZip (aCons (aVar 6) (aCons (aVar 7) aNil))) lg_law_2 aYes le_law_2 [25, 26]) (aCons (aLc (aIt (aVar 6)) lg_law_1 aYes le_law_1 [25]) aNil)))))
  (aSeq (aIfS (aTestB (aBin dNe2 (aOp dRepr (aCons (aLst (aCons (aVar 8) (aCons (aVar 9) (aCons (aVar 10) aNil)))) aNil)) (aOp dRepr (aCons (aLc (aIt (aVar 11)) lg_law_4 aYes le_law_4 [24]) aNil)))) (aRet (aC (.bl false))) aSkip)
  (aSeq (aIfS (aTestB (aBin dNe2 (aOp dRepr (aCons (aLst (aCons (aCall 2 S_lots_both (aCons (aVar 5) (aCons (aVar 4) aNil))) (aCons (aCall 2 S_lots_any (aCons (aVar 5) (aCons (aVar 4) aNil))) (aCons (aCall 1 S_lot_out (aCons (aVar 10) aNil)) aNil)))) aNil)) (aOp dRepr (aCons (aLst (aCons (aVar 8) (aCons (aVar 9) (aCons (aVar 4) aNil)))) aNil)))) (aRet (aC (.bl false))) aSkip)
  (aSeq (aFor (aIt (aTup (aCons (aC (.int 0)) (aCons (aC (.int 59)) (aCons (aC (.int 110)) (aCons (aC (.int 129)) (aCons (aCallZ 1 1 S__law_pick (aCons (aC (.int 130)) aNil)) aNil))))))) g_law_7 b_law_7)
  (aSeq (aIfS (aOr (aTestB (aBin dNe2 (aCall 2 S_lot_has (aCons (aVar 4) (aCons (aBin dPow (aC (.int 10)) (aC (.int 30))) aNil))) (aBin dIdx (aVar 6) (aC (.int 129))))) (aTestB (aBin dNe2 (aOp dRepr (aCons (aCall 1 S_first_in (aCons (aVar 4) aNil)) aNil)) (aOp dRepr (aCons (aCall 2 S__law_first (aCons (aVar 6) (aCons (aC (.bl true)) aNil))) aNil))))) (aRet (aC (.bl false))) aSkip)
  (aSeq (aIfS (aTestB (aBin dNe2 (aOp dRepr (aCons (aCall 1 S_first_out (aCons (aVar 4) aNil)) aNil)) (aOp dRepr (aCons (aCall 2 S__law_first (aCons (aVar 6) (aCons (aC (.bl false)) aNil))) aNil)))) (aRet (aC (.bl false))) aSkip)
  (aSeq (aSet 13 (aCallZ 1 1 S__law_pick (aCons (aC (.int 130)) aNil)))
  (aSeq (aIfS (aOr (aTestB (aBin dNe2 (aCall 2 S_is_ever (aCons (aVar 4) (aCons (aVar 13) aNil))) (aBin (dIn true) (aC (.bl false)) (aSl (aVar 6) (aPart (aVar 13)) aNoPart)))) (aTestB (aBin dIsNot2 (aCall 2 S_is_ever (aCons (aTup (aCons (aTup (aCons (aC (.int 0)) (aCons (aC .non) aNil))) aNil)) (aCons (aBin dPow (aC (.int 10)) (aC (.int 9))) aNil))) (aC (.bl true))))) (aRet (aC (.bl false))) aSkip)
  (aSeq (aParO [14, 15, 16] (aoO (aLst aNil) (aoD (aC (.int 0)) (aoD (aCallZ 1 1 S__law_of (aCons (aLst (aCons (aC (.int 1)) (aCons (aC (.int 0)) (aCons (aNeg (aC (.int 1))) aNil)))) aNil)) aoNil))))
  (aSeq (aFor (aRng1 (aCons (aCallZ 1 1 S__law_pick (aCons (aC (.int 6)) aNil)) aNil)) g_law_9 b_law_9)
  (aSeq (aDrop (aAppend 14 (aTup (aCons (aVar 15) (aCons (aC .non) (aCons (aVar 16) aNil))))))
  (aSeq (aSet 19 (aCallZ 1 1 S__law_of (aCons (aLst (aCons (aTup (aCons (aC (.int 1)) aNil)) (aCons (aTup (aCons (aC (.int 0)) aNil)) (aCons (aTup (aCons (aNeg (aC (.int 1))) aNil)) (aCons (aTup (aCons (aC (.int 1)) (aCons (aC (.int 0)) aNil))) (aCons (aTup (aCons (aC (.int 0)) (aCons (aNeg (aC (.int 1))) aNil))) (aCons (aTup (aCons (aC (.int 1)) (aCons (aNeg (aC (.int 1))) aNil))) (aCons (aTup (aCons (aC (.int 1)) (aCons (aC (.int 0)) (aCons (aNeg (aC (.int 1))) aNil)))) (aCons (aTup aNil) aNil))))))))) aNil)))
  (aSeq (aSet 20 (aLc (aRng1 (aCons (aC (.int 130)) aNil)) lg_law_11 aYes le_law_11 [12]))
  (aSeq (aIfS (aTestB (aBin dNe2 (aOp dRepr (aCons (aCall 2 S_lot_signed (aCons (aOp dTuple (aCons (aVar 14) aNil)) (aCons (aVar 19) aNil))) aNil)) (aOp dRepr (aCons (aCall 1 S__law_lot (aCons (aVar 20) aNil)) aNil)))) (aRet (aC (.bl false))) aSkip)
  (aSeq (aSet 21 (aBin dAdd (aCallZ 1 1 S__law_of (aCons (aLst (aCons (aBin dPow (aC (.int 10)) (aC (.int 30))) (aCons (aOp dIntS (aCons (aBin dAdd (aC (.str "1")) (aBin dRepS (aC (.str "0")) (aC (.int 290)))) aNil)) (aCons (aBin dPow (aC (.int 10)) (aC (.int 9))) aNil)))) aNil)) (aCallZ 1 1 S__law_pick (aCons (aC (.int 9)) aNil))))
  (aSeq (aParO [22, 23] (aoD (aCall 1 S_lot_told (aCons (aLst (aCons (aTup (aCons (aVar 21) (aCons (aC .non) aNil))) (aCons (aTup (aCons (aC (.int 3)) (aCons (aBin dSub (aVar 21) (aC (.int 2))) aNil))) aNil))) aNil)) (aoD (aCall 1 S_lot_told (aCons (aLst (aCons (aTup (aCons (aBin dSub (aVar 21) (aC (.int 2))) (aCons (aBin dAdd (aVar 21) (aC (.int 5))) aNil))) aNil)) aNil)) aoNil)))
  (aSeq (aIfS (aTestB (aBin dNe2 (aOp dRepr (aCons (aLst (aCons (aVar 22) (aCons (aCall 1 S_lot_told (aCons (aLst (aCons (aTup (aCons (aC (.int 3)) (aCons (aBin dSub (aVar 21) (aC (.int 1))) aNil))) (aCons (aTup (aCons (aVar 21) (aCons (aC .non) aNil))) aNil))) aNil)) aNil))) aNil)) (aOp dRepr (aCons (aLst (aCons (aTup (aCons (aTup (aCons (aC (.int 3)) (aCons (aBin dSub (aVar 21) (aC (.int 2))) aNil))) (aCons (aTup (aCons (aVar 21) (aCons (aC .non) aNil))) aNil))) (aCons (aTup (aCons (aTup (aCons (aC (.int 3)) (aCons (aC .non) aNil))) aNil)) aNil))) aNil)))) (aRet (aC (.bl false))) aSkip)
  (aSeq (aIfS (aOr (aTestB (aBin dNe2 (aOp dRepr (aCons (aCall 2 S_lots_both (aCons (aVar 22) (aCons (aVar 23) aNil))) aNil)) (aOp dRepr (aCons (aTup (aCons (aTup (aCons (aBin dSub (aVar 21) (aC (.int 2))) (aCons (aBin dSub (aVar 21) (aC (.int 2))) aNil))) (aCons (aTup (aCons (aVar 21) (aCons (aBin dAdd (aVar 21) (aC (.int 5))) aNil))) aNil))) aNil)))) (aTestB (aBin dNe2 (aCall 1 S_first_out (aCons (aVar 23) aNil)) (aC (.int 0))))) (aRet (aC (.bl false))) aSkip)
  (aSeq (aSet 24 (aLst (aCons (aTup (aCons (aTup (aCons (aC (.int 0)) (aCons (aC (.int 2)) aNil))) (aCons (aTup (aCons (aBin dSub (aVar 21) (aC (.int 1))) (aCons (aBin dSub (aVar 21) (aC (.int 1))) aNil))) aNil))) (aCons (aBin dSub (aVar 21) (aC (.int 2))) (aCons (aBin dAdd (aVar 21) (aC (.int 1))) aNil)))))
  (aSeq (aIfS (aTestB (aBin dNe2 (aOp dRepr (aCons (aLst (aCons (aCall 1 S_lot_out (aCons (aVar 22) aNil)) (aCons (aCall 1 S_first_in (aCons (aVar 23) aNil)) (aCons (aCall 1 S_first_out (aCons (aTup (aCons (aTup (aCons (aC (.int 0)) (aCons (aVar 21) aNil))) aNil)) aNil)) aNil)))) aNil)) (aOp dRepr (aCons (aVar 24) aNil)))) (aRet (aC (.bl false))) aSkip)
  (aRet (aOrV (aBin dGt (aCallZ 1 1 S__law_pick (aCons (aC (.int 3)) aNil)) (aC (.int 0))) (aCall0 (S__law_many_right FA))))))))))))))))))))))))))))) A ρ
end PU
set_option Elab.async false
set_option linter.all false
set_option maxRecDepth 100000
namespace PU
open PySem PySem.Spec L2 StX RZ
set_option autoImplicit false
theorem shp_eD {n : Nat} (e : Option Int) : D.shp n (eD e) := by cases e <;> (cases n <;> trivial)
theorem shp_enc {n : Nat} (s : Sx) : D.shp (n + 1) (enc s) := by
  intro x hx
  rcases List.mem_cons.mp hx with rfl | hx
  · exact shp_int _
  · rcases List.mem_cons.mp hx with rfl | hx
    · exact shp_eD _
    · cases hx
theorem shp_encL {n : Nat} (l : List Sx) : ∀ x ∈ encL l, D.shp (n + 1) x := by
  intro x hx
  obtain ⟨s, _, rfl⟩ := List.mem_map.mp hx
  exact shp_enc s
theorem encL_snoc (l : List Sx) (s : Sx) : encL (l ++ [s]) = encL l ++ [enc s] := by simp [encL]
theorem encL_cons (l : List Sx) (s : Sx) : encL (s :: l) = enc s :: encL l := rfl
theorem encL_app (l m : List Sx) : encL (l ++ m) = encL l ++ encL m := by simp [encL]
theorem encL_len (l : List Sx) : (encL l).length = l.length := by simp [encL]
theorem get_last {α : Type} (l : List α) (x : α) : (l ++ [x])[(l ++ [x]).length - 1]? = some x := by simp
theorem eqD_nil (l : List D) : eqD (.lst l) (.lst []) = l.isEmpty := by
  cases l <;> simp [eqD, D.py, D.pys, PyData.eqv, PyData.eqvAll]
theorem eqD_nilT (l : List D) : eqD (.tup l) (.tup []) = l.isEmpty := by
  cases l <;> simp [eqD, D.py, D.pys, PyData.eqv, PyData.eqvAll]
theorem line2 : (2 : Nat) ≤ sizeLine := by rw [sizeLine_eq]; decide
theorem line3 : (3 : Nat) ≤ sizeLine := by rw [sizeLine_eq]; decide
theorem enc_idx1 (s : Sx) (Q : D → Prop) : dIdx (enc s) (.int 1) Q ↔ Q (eD s.2) := by
  simp [enc, dIdx, atI_1]
theorem enc_idx0 (s : Sx) (Q : D → Prop) : dIdx (enc s) (.int 0) Q ↔ Q (.int s.1) := by
  simp [enc, dIdx, atI_0]
theorem last_idx (l : List Sx) (s : Sx) (Q : D → Prop) : dIdx (.lst (encL (l ++ [s]))) (.int (-1)) Q ↔ Q (enc s) := by
  simp [dIdx, encL_snoc, atI_last]
theorem last_get (l : List Sx) (s : Sx) : (encL (l ++ [s]))[(encL (l ++ [s])).length - 1]? = some (enc s) := by
  rw [encL_snoc]; exact get_last _ _
theorem last_drop (l : List Sx) (s : Sx) : (encL (l ++ [s])).dropLast = encL l := by
  rw [encL_snoc, List.dropLast_concat]
theorem enc_mk (b : Int) (e : Option Int) : D.tup [.int b, eD e] = enc (b, e) := rfl
theorem non_in (x y : Option Int) (Q : D → Prop) (h : Q (.bl (x.isNone || y.isNone))) : dIn false .non (.lst [eD x, eD y]) Q := by
  refine ⟨shp_non, fun z hz => ?_, ?_⟩
  · rcases List.mem_cons.mp hz with rfl | hz
    · exact shp_eD _
    · rcases List.mem_cons.mp hz with rfl | hz
      · exact shp_eD _
      · cases hz
  · have e : (false ^^ inD .non [eD x, eD y]) = (x.isNone || y.isNone) := by
      cases x <;> cases y <;> simp [inD, eqD, eD, D.py, PyData.eqv]
    rw [e]
    exact h
theorem maxL2 (a b : Int) (Q : D → Prop) (h : Q (.int (max a b))) : dMaxL [.lst [.int a, .int b]] Q := by
  refine ⟨[a, b], rfl, by simp, fun m hm hy => ?_⟩
  have h1 := hy a (by simp)
  have h2 := hy b (by simp)
  have : m = max a b := by
    rcases List.mem_cons.mp hm with rfl | hm
    · omega
    · rcases List.mem_cons.mp hm with rfl | hm
      · omega
      · cases hm
  rw [this]
  exact h
theorem joined_loop {A : AEnds} {d0 : D} : ∀ (l pre : List Sx) (cur : Sx) (x2 x3 x4 x5 : AV), pre.length + l.length ≤ 2000 →
    (∀ x2 x3 x4 x5, A.nx [.dat d0, .own (.lst (encL (pre ++ joinR cur l))), x2, x3, x4, x5]) → aForL g_joined_1 b_joined_1 (encL l) A [.dat d0, .own (.lst (encL (pre ++ [cur]))), x2, x3, x4, x5]
  | [], pre, cur, x2, x3, x4, x5, hl, h => h x2 x3 x4 x5
  | (b, e) :: l, pre, (b0, e0), x2, x3, x4, x5, hl, h => by
    have hl' : pre.length + (l.length + 1) ≤ 2000 := hl
    rw [encL_cons, aForL_cons, ← enc_mk]
    have ne : encL (pre ++ [(b0, e0)]) ≠ [] := by rw [encL_snoc]; simp
    have zz : (encL (pre ++ [(b0, e0)])).length - 1 < sizeLine := by rw [encL_len]; exact line_lt (by simp; omega)
    have zz' : (encL (pre ++ [(b0, e0)])).length < sizeLine := by rw [encL_len]; exact line_lt (by simp; omega)
    have zp : (encL pre).length < sizeLine := by rw [encL_len]; exact line_lt (by omega)
    have yes : touch e0 b = true → ∀ x2 x3 x4 x5, aForL g_joined_1 b_joined_1 (encL l) A [.dat d0, .own (.lst (encL pre ++ [enc (b0, maxE e0 e)])), x2, x3, x4, x5] := fun c x2 x3 x4 x5 => by
      rw [← encL_snoc]
      refine joined_loop l pre (b0, maxE e0 e) x2 x3 x4 x5 (by omega) fun x2 x3 x4 x5 => ?_
      have := h x2 x3 x4 x5
      unfold joinR at this
      rw [if_pos c] at this
      exact this
    have nay : touch e0 b = false → ∀ x2 x3 x4 x5, aForL g_joined_1 b_joined_1 (encL l) A [.dat d0, .own (.lst (encL (pre ++ [(b0, e0)]) ++ [enc (b, e)])), x2, x3, x4, x5] := fun c x2 x3 x4 x5 => by
      rw [← encL_snoc]
      refine joined_loop l (pre ++ [(b0, e0)]) (b, e) x2 x3 x4 x5 (by simp; omega) fun x2 x3 x4 x5 => ?_
      have := h x2 x3 x4 x5
      unfold joinR at this
      rw [if_neg (by rw [c]; decide)] at this
      rw [List.append_assoc]
      exact this
    cases e0 with
    | none =>
      simp [g_joined_1, b_joined_1, dNe, eqD_nil, ne, last_idx, enc_idx1, enc_idx0, last_get, last_drop, eD, line2, zz]
      refine ⟨shp_encL _, non_in none e _ ?_⟩
      have y := yes rfl
      cases e <;> (simp [enc, eD, zp]; exact y _ _ _ _)
    | some e0 =>
      by_cases c : b ≤ e0 + 1
      · have y := yes (by simpa [touch] using c)
        simp [g_joined_1, b_joined_1, dNe, eqD_nil, ne, last_idx, enc_idx1, enc_idx0, last_get, last_drop, eD, line2, zz, c]
        refine ⟨shp_encL _, non_in (some e0) e _ ?_⟩
        cases e with
        | none => simp [enc, eD, zp]; exact y _ _ _ _
        | some e =>
          simp [eD]
          refine maxL2 _ _ _ ?_
          simp [enc, line2, zp]; exact y _ _ _ _
      · have y := nay (by simpa [touch] using c)
        simp [g_joined_1, b_joined_1, dNe, eqD_nil, ne, last_idx, enc_idx1, enc_idx0, last_get, last_drop, eD, line2, zz', c]
        refine ⟨shp_encL _, ?_⟩
        exact y _ _ _ _
theorem imp_joined : ∀ ds Q E, S_joined ds Q E → runA N_joined d_joined ds Q E := by
  rintro ds Q E ⟨l, rfl, hl, q⟩
  simp [d_joined, N_joined]
  cases l with
  | nil => exact q
  | cons s l =>
    obtain ⟨b, e⟩ := s
    have hl : l.length + 1 ≤ 1000 := hl
    rw [encL_cons, aForL_cons, ← enc_mk]
    simp [g_joined_1, b_joined_1, dNe, eqD_nil, line2]
    refine ⟨line_lt (by omega), ?_⟩
    refine joined_loop l [] (b, e) _ _ _ _ (by simp; omega) fun x2 x3 x4 x5 => ?_
    exact q
end PU
set_option Elab.async false
set_option linter.all false
set_option maxRecDepth 100000
namespace PU
open PySem PySem.Spec L2 StX RZ
set_option autoImplicit false
theorem filt_true {α : Type} (l : List α) : l.filter (fun _ => true) = l := by simp
theorem mem_len {l : List Sx} (h : l.length ≤ 1000) : l.length ≤ 16000000 := by omega
theorem seqL_iter {x : D} {l : List Sx} (h : seqL x l) (Q : List D → Prop) : iterD x Q ↔ Q (encL l) := by
  rcases h with rfl | rfl <;> rfl
theorem imp_lot_told : ∀ ds Q E, S_lot_told ds Q E → runA N_lot_told d_lot_told ds Q E := by
  rintro ds Q E ⟨x, l, rfl, hx, hl, hb, q1, q2⟩
  have it : ∀ Q, iterD x Q ↔ Q (encL l) := seqL_iter hx
  simp only [iterD] at it
  simp [d_lot_told, N_lot_told, it]
  refine lc_go (en := enc) (p := okB) (f := enc3) rfl (fun s _ C C' h1 h2 => ?_) (by omega) ?_
  · obtain ⟨b, e⟩ := s
    cases e with
    | none =>
      have := h1 rfl
      simpa [lg_lot_told_1, lt_lot_told_1, le_lot_told_1, enc, eD, line3, enc3] using this
    | some e =>
      by_cases c : b ≤ e
      · have := h1 (by simpa [okB, upB] using c)
        by_cases z : e = 0
        · subst z
          simpa [lg_lot_told_1, lt_lot_told_1, le_lot_told_1, enc, eD, line3, enc3, c] using this
        · simpa [lg_lot_told_1, lt_lot_told_1, le_lot_told_1, enc, eD, line3, enc3, c, z] using this
      · have := h2 (by simpa [okB, upB] using c)
        simpa [lg_lot_told_1, lt_lot_told_1, le_lot_told_1, enc, eD, line3, enc3, c] using this
  · refine ⟨fun x hx => ?_, ?_, ?_, ?_⟩
    · obtain ⟨s, _, rfl⟩ := List.mem_map.mp hx
      intro y hy
      have : y = .int s.1 ∨ y = .bl s.2.isNone ∨ y = .int (s.2.getD 0) := by simpa using hy
      rcases this with rfl | rfl | rfl
      · exact shp_int _
      · exact shp_bl _
      · exact shp_int _
    · rw [List.map_map]
      exact PySem.W.AllAlike.of fun b b' => alike3 b b'
    · rw [List.map_map]
      exact PySem.W.Sortable.tuples fun b => ⟨_, _, rfl⟩
    · have e1 : ((l.filter okB).map enc3).mergeSort leD = (sortS l).map enc3 := by
        unfold sortS
        rw [List.map_mergeSort (r := le3) (s := leD) (f := enc3) (fun a _ b _ => rfl)]
      rw [e1]
      have hs : (sortS l).length ≤ 1000 := by
        have := (sortS_perm l).length_eq
        have := List.length_filter_le okB l
        omega
      refine lc_go (en := enc3) (p := fun _ => true) (f := enc) rfl (fun s _ C C' h1 h2 => ?_) (by omega) ?_
      · have := h1 rfl
        obtain ⟨b, e⟩ := s
        cases e <;> simpa [lg_lot_told_2, le_lot_told_2, enc, eD, line3, enc3, line2] using this
      · have ft : (sortS l).filter (fun _ => true) = sortS l := by simp
        rw [ft]
        simp [S_joined]
        refine ⟨sortS l, rfl, hs, ?_⟩
        have e2 : normL l = joinA (sortS l) := rfl
        rw [← e2]
        rw [encL_len]
        by_cases c : 60 < (normL l).length
        · have : (60 : Int) < ((normL l).length : Int) := by omega
          simp [this]
          exact q2 c
        · have : ¬ (60 : Int) < ((normL l).length : Int) := by omega
          simp [this]
          exact q1 (by omega)
theorem imp_lot_has : ∀ ds Q E, S_lot_has ds Q E → runA N_lot_has d_lot_has ds Q E := by
  rintro ds Q E ⟨l, n, rfl, hl, q⟩
  simp [d_lot_has, N_lot_has]
  refine lc_go (en := enc) (p := fun _ => true) (f := fun s => .bl (inB s n)) rfl (fun s _ C C' h1 h2 => ?_) (by omega) ?_
  · have := h1 rfl
    obtain ⟨b, e⟩ := s
    by_cases c : b ≤ n
    · cases e with
      | none => simpa [lg_lot_has_1, le_lot_has_1, enc, eD, c, inB, upB] using this
      | some e =>
        by_cases c2 : n ≤ e <;> simpa [lg_lot_has_1, le_lot_has_1, enc, eD, c, c2, inB, upB] using this
    · simpa [lg_lot_has_1, le_lot_has_1, enc, eD, c, inB, upB] using this
  · have e1 : (l.filter (fun _ => true)).map (fun s => D.bl (inB s n)) = (l.map fun s => inB s n).map .bl := by rw [filt_true, List.map_map]; rfl
    rw [e1]
    refine ⟨_, blsOf_map _, ?_⟩
    have e2 : ((l.map fun s => inB s n).any id) = memB l n := by
      unfold memB
      rw [List.any_map]
      rfl
    rw [e2]
    exact q
theorem app_bound {l m : List Sx} (h1 : ∀ s ∈ l, 0 ≤ s.1) (h2 : ∀ s ∈ m, 0 ≤ s.1) : ∀ s ∈ l ++ m, 0 ≤ s.1 := fun s hs => (List.mem_append.mp hs).elim (h1 s) (h2 s)
theorem imp_lots_any : ∀ ds Q E, S_lots_any ds Q E → runA N_lots_any d_lots_any ds Q E := by
  rintro ds Q E ⟨l, m, rfl, hl, hm, h1, h2, q⟩
  simp [d_lots_any, N_lots_any]
  refine ⟨by simp [encL_len]; exact line_ok (by omega), ?_⟩
  exact ⟨_, l ++ m, rfl, .inl (by rw [encL_app]), by simp; omega, app_bound h1 h2, q⟩
theorem out_loop {A : AEnds} {d0 : D} : ∀ (l acc : List Sx) (b : Int) (x3 x4 : AV), Can b l → acc.length + l.length ≤ 2000 →
    (∀ (x3 x4 : AV) (z : Option Int) (g : List Sx), (gaps b l = g ++ (match z with | some b => [(b, none)] | none => [])) → A.nx [.dat d0, .own (.lst (encL (acc ++ g))), .dat (eD z), x3, x4]) →
    aForL g_lot_out_1 b_lot_out_1 (encL l) A [.dat d0, .own (.lst (encL acc)), .dat (.int b), x3, x4]
  | [], acc, b, x3, x4, _, hl, h => by
    have := h x3 x4 (some b) [] rfl
    rw [List.append_nil] at this
    exact this
  | (f, none) :: l, acc, b, x3, x4, hc, hl, h => by
    obtain ⟨_, rfl⟩ := hc
    have := h (.dat (.int f)) (.dat .non) none [(b, some (f - 1))] rfl
    rw [encL_snoc] at this
    have zz : acc.length < sizeLine := line_lt (by simp at hl; omega)
    simpa [encL, g_lot_out_1, b_lot_out_1, enc, eD, zz, line2] using this
  | (f, some e) :: l, acc, b, x3, x4, hc, hl, h => by
    obtain ⟨_, _, hc⟩ := hc
    have hl' : acc.length + (l.length + 1) ≤ 2000 := hl
    have zz : (encL acc).length < sizeLine := by rw [encL_len]; exact line_lt (by omega)
    rw [encL_cons, aForL_cons]
    simp [g_lot_out_1, b_lot_out_1, enc, eD, zz, line2]
    have ih := out_loop (A := A) (d0 := d0) l (acc ++ [(b, some (f - 1))]) (e + 1) (.dat (.int f)) (.dat (.int e)) (hc.lower (by omega)) (by simp; omega) fun x3 x4 z g hg => by
      have := h x3 x4 z ((b, some (f - 1)) :: g) (by simp only [gaps]; rw [hg]; rfl)
      rw [List.append_assoc]
      exact this
    rw [encL_snoc] at ih
    exact ih
theorem gaps_len : ∀ (l : List Sx) (b : Int), (gaps b l).length ≤ l.length + 1
  | [], _ => by simp [gaps]
  | (f, none) :: l, b => by simp [gaps]
  | (f, some e) :: l, b => by
    have := gaps_len l (e + 1)
    simp [gaps]; omega
theorem gaps_nn : ∀ (l : List Sx) (b : Int), 0 ≤ b → Can b l → ∀ s ∈ gaps b l, 0 ≤ s.1
  | [], b, h, _, s, hs => by
    simp [gaps] at hs
    rw [hs]; exact h
  | (f, none) :: l, b, h, _, s, hs => by
    simp [gaps] at hs
    rw [hs]; exact h
  | (f, some e) :: l, b, h, hc, s, hs => by
    obtain ⟨h1, h2, h3⟩ := hc
    simp only [gaps] at hs
    rcases List.mem_cons.mp hs with rfl | hs
    · exact h
    · exact gaps_nn l (e + 1) (by omega) (h3.lower (by omega)) s hs
theorem imp_lot_out : ∀ ds Q E, S_lot_out ds Q E → runA N_lot_out d_lot_out ds Q E := by
  rintro ds Q E ⟨l, rfl, hc, hl, q⟩
  simp [d_lot_out, N_lot_out, line2]
  refine out_loop (A := _) l [] 0 _ _ hc (by simp; omega) fun x3 x4 z g hg => ?_
  have nn := gaps_nn l 0 (by omega) hc
  have gl := gaps_len l 0
  cases z with
  | none =>
    simp at hg
    simp [eD]
    exact ⟨_, g, rfl, .inl rfl, by rw [← hg]; omega, by rw [← hg]; exact nn, by rw [← hg]; exact q⟩
  | some b =>
    simp at hg
    have gl' : g.length + 1 ≤ l.length + 1 := by rw [hg] at gl; simpa using gl
    simp [eD, line2, encL_len]
    refine ⟨line_ok (by omega), ?_⟩
    refine ⟨_, g ++ [(b, none)], rfl, .inl (by rw [encL_snoc]; rfl), by simp; omega, by rw [← hg]; exact nn, by rw [← hg]; exact q⟩
theorem enc_met (b : Int) (e : Option Int) : D.tup [.int b, eD e] = enc (b, e) := rfl
theorem minL1 (a : Int) (Q : D → Prop) (h : Q (.int a)) : dMinL [.lst [.int a]] Q := by
  refine ⟨[a], rfl, by simp, fun m hm hy => ?_⟩
  rw [List.mem_singleton.mp hm]
  exact h
theorem minL2 (a b : Int) (Q : D → Prop) (h : Q (.int (min a b))) : dMinL [.lst [.int a, .int b]] Q := by
  refine ⟨[a, b], rfl, by simp, fun m hm hy => ?_⟩
  have h1 := hy a (by simp)
  have h2 := hy b (by simp)
  have : m = min a b := by
    rcases List.mem_cons.mp hm with rfl | hm
    · omega
    · rcases List.mem_cons.mp hm with rfl | hm
      · omega
      · cases hm
  rw [this]
  exact h
theorem imp_stretch_met : ∀ ds Q E, S_stretch_met ds Q E → runA N_stretch_met d_stretch_met ds Q E := by
  rintro ds Q E ⟨⟨b, e⟩, ⟨b', e'⟩, rfl, q⟩
  simp [d_stretch_met, N_stretch_met, enc_idx1, enc_idx0, line2]
  have q : Q (.tup [.int (max b b'), eD (minE e e')]) := q
  refine lc_go (en := eD) (p := Option.isSome) (f := eD) (l := [e, e']) rfl (fun s _ C C' h1 h2 => ?_) (by simp) ?_
  · cases s with
    | none =>
      have := h2 rfl
      simpa [lg_stretch_met_1, lt_stretch_met_1, le_stretch_met_1, eD] using this
    | some e =>
      have := h1 rfl
      simpa [lg_stretch_met_1, lt_stretch_met_1, le_stretch_met_1, eD] using this
  · cases e with
    | none =>
      cases e' with
      | none => simpa [dNe, eD, eqD_nil, enc_idx0, line2, minE, eqD, D.py, D.pys, PyData.eqv, PyData.eqvAll] using q
      | some e' =>
        simp [dNe, eD, eqD_nil, enc_idx0, line2]
        refine minL1 _ _ ?_
        simpa [minE, eD, line2] using q
    | some e =>
      cases e' with
      | none =>
        simp [dNe, eD, eqD_nil, enc_idx0, line2]
        refine minL1 _ _ ?_
        simpa [minE, eD, line2] using q
      | some e' =>
        simp [dNe, eD, eqD_nil, enc_idx0, line2]
        refine minL2 _ _ _ ?_
        simpa [minE, eD, line2] using q
theorem both_loop {A : AEnds} {d0 : D} {m : List Sx} : ∀ (l acc : List Sx) (x3 : AV), acc.length + l.length * m.length ≤ 4000 → m.length ≤ 4000 →
    (∀ x3, A.nx [.dat d0, .dat (.tup (encL m)), .own (.lst (encL (acc ++ pairs l m))), x3, .un]) →
    aForL g_lots_both_2 b_lots_both_2 (encL l) A [.dat d0, .dat (.tup (encL m)), .own (.lst (encL acc)), x3, .un]
  | [], acc, x3, _, _, h => by
    have := h x3
    simp only [pairs, List.flatMap_nil, List.append_nil] at this
    exact this
  | s :: l, acc, x3, hl, hm, h => by
    have hl' : acc.length + (l.length + 1) * m.length ≤ 4000 := hl
    have hl2 : acc.length + (l.length * m.length + m.length) ≤ 4000 := by rw [Nat.add_mul] at hl'; omega
    rw [encL_cons, aForL_cons]
    simp [g_lots_both_2, b_lots_both_2]
    refine lc_go (en := enc) (p := fun _ => true) (f := fun t => enc (meet s t)) rfl (fun t _ C C' h1 h2 => ?_) (by omega) ?_
    · have := h1 rfl
      simp [lg_lots_both_1, le_lots_both_1]
      exact ⟨s, t, rfl, this⟩
    · rw [filt_true]
      have e1 : m.map (fun t => enc (meet s t)) = encL (m.map (meet s)) := by rw [encL, List.map_map]; rfl
      rw [e1]
      simp [encL_len]
      refine ⟨line_ok (by omega), ?_⟩
      rw [← encL_app]
      refine both_loop l (acc ++ m.map (meet s)) _ (by simp; omega) hm fun x3 => ?_
      have := h x3
      rw [List.append_assoc]
      exact this
theorem pairs_len (l m : List Sx) : (pairs l m).length = l.length * m.length := by
  induction l with
  | nil => simp [pairs]
  | cons s l ih =>
    have : (pairs (s :: l) m).length = m.length + (pairs l m).length := by simp [pairs]
    rw [this, ih, List.length_cons, Nat.add_mul]
    omega
theorem pairs_nn {l m : List Sx} (h : ∀ s ∈ l, 0 ≤ s.1) : ∀ s ∈ pairs l m, 0 ≤ s.1 := by
  intro s hs
  obtain ⟨a, ha, hb⟩ := List.mem_flatMap.mp hs
  obtain ⟨t, _, rfl⟩ := List.mem_map.mp hb
  have := h a ha
  simp [meet]; omega
theorem imp_lots_both : ∀ ds Q E, S_lots_both ds Q E → runA N_lots_both d_lots_both ds Q E := by
  rintro ds Q E ⟨l, m, rfl, hl, hm, h1, q⟩
  simp [d_lots_both, N_lots_both]
  refine both_loop (A := _) l [] _ (by simp; omega) (by omega) fun x3 => ?_
  simp
  exact ⟨_, pairs l m, rfl, .inl rfl, by rw [pairs_len]; omega, pairs_nn h1, q⟩
theorem inD_ints (w : Int) (ws : List Int) : inD (.int w) (ws.map .int) = ws.contains w := by
  unfold inD
  induction ws with
  | nil => rfl
  | cons x xs ih =>
    rw [List.map_cons, List.any_cons, ih, List.contains_cons]
    have : eqD (.int x) (.int w) = (w == x) := by
      simp [eqD, D.py, PyData.eqv]
      exact Bool.eq_iff_iff.mpr (by simp; exact eq_comm)
    rw [this]
theorem imp_lot_signed : ∀ ds Q E, S_lot_signed ds Q E → runA N_lot_signed d_lot_signed ds Q E := by
  rintro ds Q E ⟨l, ws, rfl, hl, hn, q⟩
  simp [d_lot_signed, N_lot_signed]
  refine lc_go (en := encG) (p := fun p => ws.contains p.2) (f := fun p => enc p.1) rfl (fun s _ C C' h1 h2 => ?_) (by omega) ?_
  · obtain ⟨⟨b, e⟩, g⟩ := s
    by_cases c : ws.contains g = true
    · have := h1 c
      simp [lg_lot_signed_1, lt_lot_signed_1, le_lot_signed_1, encG, dIn, inD_ints, c, line2]
      rw [if_pos (by simpa using c)]
      exact this
    · have c : ws.contains g = false := by simpa using c
      have := h2 c
      simp [lg_lot_signed_1, lt_lot_signed_1, le_lot_signed_1, encG, dIn, inD_ints, c, line2]
      rw [if_neg (by simpa using c)]
      exact this
  · have e1 : (l.filter fun p => ws.contains p.2).map (fun p => enc p.1) = encL ((l.filter fun p => ws.contains p.2).map (·.1)) := by rw [encL, List.map_map]; rfl
    rw [e1]
    refine ⟨_, _, rfl, .inl rfl, ?_, ?_, q⟩
    · have := List.length_filter_le (fun p : Sx × Int => ws.contains p.2) l
      rw [List.length_map]
      omega
    · intro s hs
      obtain ⟨p, hp, rfl⟩ := List.mem_map.mp hs
      exact hn p (List.mem_filter.mp hp).1
theorem shp_tupE {n : Nat} (l : List Sx) : D.shp (n + 2) (.tup (encL l)) := fun x hx => shp_encL l x hx
theorem imp_first_in : ∀ ds Q E, S_first_in ds Q E → runA N_first_in d_first_in ds Q E := by
  rintro ds Q E ⟨l, rfl, q⟩
  simp [d_first_in, N_first_in, dNe, eqD_nilT]
  refine ⟨shp_encL _, ?_⟩
  cases l with
  | nil => exact q
  | cons s l =>
    obtain ⟨b, e⟩ := s
    simp [encL_cons, enc]
    exact q
theorem imp_first_out : ∀ ds Q E, S_first_out ds Q E → runA N_first_out d_first_out ds Q E := by
  rintro ds Q E ⟨l, rfl, q⟩
  have e2 : ∀ l : List Sx, eqD (.tup (encL l)) (.tup []) = (encL l).isEmpty := fun l => eqD_nilT _
  simp [d_first_out, N_first_out, dEq, e2]
  refine ⟨shp_encL _, ?_⟩
  cases l with
  | nil => exact q
  | cons s l =>
    obtain ⟨b, e⟩ := s
    simp [encL_cons, enc]
    by_cases c : 0 < b
    · simp [c]
      simpa [firstO, c] using q
    · simp [c]
      cases e <;> simpa [firstO, c, eD] using q
theorem imp_is_ever : ∀ ds Q E, S_is_ever ds Q E → runA N_is_ever d_is_ever ds Q E := by
  rintro ds Q E ⟨l, b, rfl, hl, q⟩
  simp [d_is_ever, N_is_ever]
  refine lc_go (en := enc) (p := fun s => s.2.isNone) (f := fun s => .bl (decide (s.1 ≤ b))) rfl (fun s _ C C' h1 h2 => ?_) (by omega) ?_
  · obtain ⟨f, e⟩ := s
    cases e with
    | none =>
      have := h1 rfl
      simpa [lg_is_ever_1, lt_is_ever_1, le_is_ever_1, enc, eD] using this
    | some e =>
      have := h2 rfl
      simpa [lg_is_ever_1, lt_is_ever_1, le_is_ever_1, enc, eD] using this
  · have e1 : (l.filter fun s => s.2.isNone).map (fun s => D.bl (decide (s.1 ≤ b))) = ((l.filter fun s => s.2.isNone).map fun s => decide (s.1 ≤ b)).map .bl := by rw [List.map_map]; rfl
    rw [e1]
    refine ⟨_, blsOf_map _, ?_⟩
    have e2 : (((l.filter fun s => s.2.isNone).map fun s => decide (s.1 ≤ b)).any id) = everB l b := by
      unfold everB
      rw [List.any_map]
      rfl
    rw [e2]
    exact q
end PU
set_option Elab.async false
set_option linter.all false
set_option maxRecDepth 100000
namespace PU
open PySem PySem.Spec L2 StX RZ
set_option autoImplicit false
theorem log_small {m : Int} (h1 : 1 ≤ m) (h2 : m < 2 ^ 63) : m.natAbs.log2 < 9000 := by
  have : m.natAbs < 2 ^ 63 := by omega
  have h0 : m.natAbs ≠ 0 := by omega
  have := (Nat.log2_lt h0).mpr this
  omega
theorem mul_r {i j : Int} (h1 : -(2 ^ 64) < j) (h2 : j < 2 ^ 64) : MulOk i j := .inl (.inr ⟨h1, h2⟩)
theorem mul_l {i j : Int} (h1 : -(2 ^ 64) < i) (h2 : i < 2 ^ 64) : MulOk i j := .inl (.inl ⟨h1, h2⟩)
theorem fmod_in {i j : Int} (h : 0 < j) : 0 ≤ i.fmod j ∧ i.fmod j < j := by
  rw [Int.fmod_eq_emod_of_nonneg _ (by omega)]
  exact ⟨Int.emod_nonneg _ (by omega), Int.emod_lt_of_pos _ h⟩
theorem fdiv_nn {i j : Int} (h : 0 < j) (hi : 0 ≤ i) : 0 ≤ i.fdiv j := by
  rw [Int.fdiv_eq_ediv_of_nonneg _ (by omega)]
  exact Int.ediv_nonneg hi (by omega)
theorem imp__law_pick : ∀ ds Q E, S__law_pick ds Q E → runZ N__law_pick d__law_pick ds Q E := by
  rintro ds Q E ⟨many, rfl, hm, hm', q⟩
  simp [d__law_pick, N__law_pick]
  intro l hl
  have hl0 : 0 ≤ l := hl.1
  have last : ∀ k, 0 ≤ k → k < max 1 many → Q (.int k) := q
  have go : (many < 2 ∨ 1 < l) → DivOk l (max 1 many) ∧ srcK "left" (l.fdiv (max 1 many)) ∧ ¬ max 1 many = 0 ∧ Q (.int (l.fmod (max 1 many))) := fun _ => by
    have m1 : (1 : Int) ≤ max 1 many := by omega
    have m2 : max 1 many < 2 ^ 63 := by omega
    refine ⟨⟨by omega, log_small m1 m2⟩, ⟨fdiv_nn (by omega) hl0, fun z => absurd z (by decide)⟩, by omega, ?_⟩
    have b := fmod_in (i := l) (j := max 1 many) (by omega)
    exact last _ b.1 b.2
  by_cases c1 : many < 2
  · rw [if_pos c1]
    exact go (.inl c1)
  · rw [if_neg c1]
    by_cases c2 : 1 < l
    · rw [if_pos c2]
      exact go (.inr c2)
    · rw [if_neg c2]
      intro t ht
      refine ⟨⟨by have := ht.1; omega, fun z => absurd z (by decide)⟩, fun m hm t2 ht2 => ⟨mul_r (by decide) (by decide), ?_⟩⟩
      have b1 := fmod_in (i := m + t2 * 104729) (j := 998244353) (by decide)
      refine ⟨mul_r (by omega) (by omega), fun t3 ht3 => ⟨mul_r (by decide) (by decide), ?_⟩⟩
      have b2 := fmod_in (i := (m + t2 * 104729).fmod 998244353 * (m + t2 * 104729).fmod 998244353 + t3 * 17) (j := 2147483647) (by decide)
      refine ⟨⟨b2.1, fun _ => b2.2⟩, ⟨by decide, log_small (by decide) (by decide)⟩, by omega, ?_⟩
      have b3 := fmod_in (i := ((m + t2 * 104729).fmod 998244353 * (m + t2 * 104729).fmod 998244353 + t3 * 17).fmod 2147483647 |>.fdiv 16) (j := many) (by omega)
      exact last _ b3.1 (by omega)
theorem atI_some {α : Type} {l : List α} {k : Int} (h1 : 0 ≤ k) (h2 : k < (l.length : Int)) : ∃ x, atI l k = some x ∧ x ∈ l := by
  obtain ⟨n, rfl⟩ := Int.eq_ofNat_of_zero_le h1
  have hn : n < l.length := by omega
  refine ⟨l[n], ?_, List.getElem_mem hn⟩
  rw [atI_nat]
  simp [hn]
theorem imp__law_of : ∀ ds Q E, S__law_of ds Q E → runZ N__law_of d__law_of ds Q E := by
  rintro ds Q E ⟨x, xs, rfl, hx, hne, hl, q⟩
  have len : 0 < xs.length := List.length_pos_iff.mpr hne
  have pick : S__law_pick [.int (xs.length : Int)] (fun d => ∃ k x, d = .int k ∧ atI xs k = some x ∧ x ∈ xs) (fun _ => False) := by
    refine ⟨_, rfl, by omega, by omega, fun k h1 h2 => ?_⟩
    obtain ⟨x, e1, e2⟩ := atI_some (l := xs) h1 (by omega)
    exact ⟨k, x, rfl, e1, e2⟩
  rcases hx with rfl | rfl
  · simp [d__law_of, N__law_of]
    refine ⟨_, rfl, by omega, by omega, fun k h1 h2 => ?_⟩
    obtain ⟨x, e1, e2⟩ := atI_some (l := xs) h1 (by omega)
    rw [idx_lst]
    exact ⟨x, e1, q x e2⟩
  · simp [d__law_of, N__law_of]
    refine ⟨_, rfl, by omega, by omega, fun k h1 h2 => ?_⟩
    obtain ⟨x, e1, e2⟩ := atI_some (l := xs) h1 (by omega)
    rw [idx_tup]
    exact ⟨x, e1, q x e2⟩
theorem upto_cons (lo : Int) (n : Nat) : upto lo (n + 1) = .int lo :: upto (lo + 1) n := by
  unfold upto
  rw [List.range_succ_eq_map, List.map_cons, List.map_map]
  congr 1
  · simp
  · apply List.map_congr_left
    intro i _
    simp
    omega
theorem stretches_loop {A : AEnds} : ∀ (n : Nat) (lo : Int) (acc : List Sx) (x2 x3 : AV), acc.length + n ≤ 6 → (∀ s ∈ acc, okSt s) →
    (∀ (l : List Sx) x2 x3, l.length ≤ 6 → (∀ s ∈ l, okSt s) → A.nx [.src, .own (.lst (encL l)), x2, x3]) →
    aForL g__law_stretches_1 b__law_stretches_1 (upto lo n) A [.src, .own (.lst (encL acc)), x2, x3]
  | 0, lo, acc, x2, x3, hl, ho, h => h acc x2 x3 (by omega) ho
  | n + 1, lo, acc, x2, x3, hl, ho, h => by
    rw [upto_cons, aForL_cons]
    simp [g__law_stretches_1, b__law_stretches_1]
    refine ⟨60, rfl, by decide, by decide, fun k h1 h2 => ?_⟩
    simp
    refine ⟨50, rfl, by decide, by decide, fun k2 h3 h4 => ?_⟩
    have h2 : k < 60 := by omega
    have h4 : k2 < 50 := by omega
    simp [line2, encL_len]
    refine ⟨line_lt (by omega), ?_⟩
    have ih := stretches_loop (A := A) n (lo + 1) (acc ++ [(k, some (max 0 (k + k2 - 3)))]) (.dat (.int lo)) (.dat (.int k)) (by simp; omega) (fun s hs => ?_) h
    · rw [encL_snoc] at ih
      exact ih
    · rcases List.mem_append.mp hs with hs | hs
      · exact ho s hs
      · rw [List.mem_singleton.mp hs]
        refine ⟨h1, by show k < 110; omega, fun e he => ?_⟩
        have : e = max 0 (k + k2 - 3) := by simpa using he.symm
        omega
theorem imp__law_stretches : ∀ ds Q E, S__law_stretches ds Q E → runZ N__law_stretches d__law_stretches ds Q E := by
  rintro ds Q E ⟨rfl, q⟩
  simp [d__law_stretches, N__law_stretches]
  refine ⟨7, rfl, by decide, by decide, fun k h1 h2 => ?_⟩
  have h2 : k < 7 := by omega
  simp [Small]
  refine ⟨⟨by omega, by omega⟩, ?_⟩
  refine stretches_loop (A := _) k.toNat 0 [] _ _ (by simp; omega) (by simp) fun l x2 x3 hl ho => ?_
  simp [encL_len, line2]
  refine ⟨50, rfl, by decide, by decide, fun j h3 h4 => ?_⟩
  have h4 : j < 50 := by omega
  simp
  refine ⟨line_ok (by decide), 3, rfl, by decide, by decide, fun i h5 h6 => ?_⟩
  have ol : okSt (60 + j, none) := ⟨by show 0 ≤ 60 + j; omega, by show 60 + j < 110; omega, fun e he => by cases he⟩
  by_cases c : i = 0
  · simp [c, dMul_lst, encL_len]
    refine ⟨by rw [sizeLine_eq]; decide, line_ok (by omega), ?_⟩
    have := q (l ++ [(60 + j, none)]) (by simp; omega) fun s hs => by
      rcases List.mem_append.mp hs with hs | hs
      · exact ho s hs
      · rw [List.mem_singleton.mp hs]; exact ol
    rw [encL_snoc] at this
    exact this
  · simp [c, dMul_lst, encL_len]
    exact ⟨line_ok (by omega), q l (by omega) ho⟩
end PU
set_option Elab.async false
set_option linter.all false
set_option maxRecDepth 100000
namespace PU
open PySem PySem.Spec L2 StX RZ
set_option autoImplicit false
theorem upto_map (n : Nat) : upto 0 n = (List.range n).map fun i : Nat => D.int (i : Int) := by
  unfold upto
  apply List.map_congr_left
  intro i _
  simp
theorem any_filter (l : List Sx) (n : Int) : (l.filter fun s => inB s n).isEmpty = !memB l n := by
  induction l with
  | nil => rfl
  | cons s l ih =>
    rw [memB_cons]
    by_cases h : inB s n = true
    · rw [List.filter_cons_of_pos (p := fun s => inB s n) h, h]; rfl
    · have h' : inB s n = false := by simpa using h
      rw [List.filter_cons_of_neg (p := fun s => inB s n) h, ih, h', Bool.false_or]
theorem imp__law_truths : ∀ ds Q E, S__law_truths ds Q E → runA N__law_truths d__law_truths ds Q E := by
  rintro ds Q E ⟨l, rfl, hl, q⟩
  simp [d__law_truths, N__law_truths, Small]
  refine lc_go (en := fun i : Nat => D.int (i : Int)) (p := fun _ => true) (f := fun i : Nat => .bl (memB l (i : Int))) (upto_map 130) (fun i _ C C' h1 h2 => ?_) (by simp) ?_
  · have := h1 rfl
    simp [lg__law_truths_2, le__law_truths_2]
    refine lc_go (en := enc) (p := fun s => inB s (i : Int)) (f := fun _ => .int 1) rfl (fun s _ C C' h1 h2 => ?_) (by omega) ?_
    · obtain ⟨b, e⟩ := s
      by_cases c : b ≤ (i : Int)
      · cases e with
        | none =>
          have := h1 (by simp [inB, upB, c])
          simpa [lg__law_truths_1, lt__law_truths_1, le__law_truths_1, enc, eD, c] using this
        | some e =>
          by_cases c2 : (i : Int) ≤ e
          · have := h1 (by simp [inB, upB, c, c2])
            simpa [lg__law_truths_1, lt__law_truths_1, le__law_truths_1, enc, eD, c, c2] using this
          · have := h2 (by simp [inB, upB, c, c2])
            simpa [lg__law_truths_1, lt__law_truths_1, le__law_truths_1, enc, eD, c, c2] using this
      · have := h2 (by simp [inB, upB, c])
        simpa [lg__law_truths_1, lt__law_truths_1, le__law_truths_1, enc, eD, c] using this
    · have e1 : (List.map (fun _ => D.int 1) (l.filter fun s => inB s (i : Int))).isEmpty = !memB l (i : Int) := by rw [← any_filter, List.isEmpty_map]
      simp only [dNe, eqD_nil, e1, Bool.not_not, shp64_lst]
      refine ⟨fun x hx => ?_, (by simp), this⟩
      obtain ⟨_, _, rfl⟩ := List.mem_map.mp hx
      exact shp_int _
  · rw [filt_true]
    have e : (List.range 130).map (fun i : Nat => D.bl (memB l (i : Int))) = (truths (memB l)).map .bl := by
      unfold truths
      rw [List.map_map]; rfl
    rw [e]
    exact q
theorem lot_loop {A : AEnds} {full : List Bool} : ∀ (r : List Bool) (n : Nat) (beg : Option Int) (acc : List Sx) (x3 x4 : AV), n + r.length = full.length → acc.length + r.length ≤ 3000 →
    (∀ (z x3 x4 : AV), A.nx [.dat (blL full), .own (.lst (encL (acc ++ lotOf (n : Int) beg r))), z, x3, x4]) →
    aForL g__law_lot_1 b__law_lot_1 (enumD n (r.map .bl ++ [.bl false])) A [.dat (blL full), .own (.lst (encL acc)), .dat (eD beg), x3, x4]
  | [], n, beg, acc, x3, x4, hn, hl, h => by
    have hn : n = full.length := by simpa using hn
    have zz : acc.length < sizeLine := line_lt (by simp at hl; omega)
    cases beg with
    | none =>
      have := h (.dat .non) (.dat (.int n)) (.dat (.bl false))
      simp only [lotOf, List.append_nil] at this
      simpa [enumD, g__law_lot_1, b__law_lot_1, eD, line2] using this
    | some b =>
      have := h (.dat .non) (.dat (.int n)) (.dat (.bl false))
      simp only [lotOf] at this
      rw [encL_snoc] at this
      simpa [enumD, g__law_lot_1, b__law_lot_1, eD, line2, encL_len, zz, blL, hn, enc] using this
  | t :: r, n, beg, acc, x3, x4, hn, hl, h => by
    have hn' : n + (r.length + 1) = full.length := hn
    have hl' : acc.length + (r.length + 1) ≤ 3000 := hl
    have zz : acc.length < sizeLine := line_lt (by omega)
    have ne : ¬ (n : Int) = (full.length : Int) := by omega
    have cast : ((n + 1 : Nat) : Int) = (n : Int) + 1 := by omega
    show aForL _ _ (.tup [.int (n : Int), .bl t] :: enumD (n + 1) (r.map .bl ++ [.bl false])) A _
    cases t with
    | true =>
      cases beg with
      | none =>
        have ih := lot_loop (A := A) (full := full) r (n + 1) (some (n : Int)) acc (.dat (.int n)) (.dat (.bl true)) (by omega) (by omega) (by rw [cast]; exact h)
        simpa [g__law_lot_1, b__law_lot_1, eD] using ih
      | some b =>
        have ih := lot_loop (A := A) (full := full) r (n + 1) (some b) acc (.dat (.int n)) (.dat (.bl true)) (by omega) (by omega) (by rw [cast]; exact h)
        simpa [g__law_lot_1, b__law_lot_1, eD] using ih
    | false =>
      cases beg with
      | none =>
        have ih := lot_loop (A := A) (full := full) r (n + 1) none acc (.dat (.int n)) (.dat (.bl false)) (by omega) (by omega) (by rw [cast]; exact h)
        simpa [g__law_lot_1, b__law_lot_1, eD] using ih
      | some b =>
        have ih := lot_loop (A := A) (full := full) r (n + 1) none (acc ++ [(b, some ((n : Int) - 1))]) (.dat (.int n)) (.dat (.bl false)) (by omega) (by simp; omega) (fun z x3 x4 => by
          rw [cast, List.append_assoc]
          exact h z x3 x4)
        rw [encL_snoc] at ih
        simpa [g__law_lot_1, b__law_lot_1, eD, line2, encL_len, zz, blL, ne, enc] using ih
theorem imp__law_lot : ∀ ds Q E, S__law_lot ds Q E → runA N__law_lot d__law_lot ds Q E := by
  rintro ds Q E ⟨bs, rfl, hl, q⟩
  simp [d__law_lot, N__law_lot, blL, line2]
  refine ⟨by rw [sizeLine_eq]; decide, line_ok (by omega), ?_⟩
  refine lot_loop (A := _) (full := bs) bs 0 none [] _ _ (by simp) (by simp; omega) fun z x3 x4 => ?_
  exact q
end PU
set_option Elab.async false
set_option linter.all false
set_option maxRecDepth 100000
namespace PU
open PySem PySem.Spec L2 StX RZ
set_option autoImplicit false
def enumL : Nat → List Bool → List (Nat × Bool)
  | _, [] => []
  | n, b :: r => (n, b) :: enumL (n + 1) r
def enI (p : Nat × Bool) : D := .tup [.int (p.1 : Nat), .bl p.2]
theorem enumL_D : ∀ (bs : List Bool) (n : Nat), enumD n (bs.map .bl) = (enumL n bs).map enI
  | [], _ => rfl
  | b :: r, n => by
    show D.tup [.int (n : Nat), .bl b] :: enumD (n + 1) (r.map .bl) = _
    rw [enumL_D r (n + 1)]; rfl
theorem enumL_len : ∀ (bs : List Bool) (n : Nat), (enumL n bs).length = bs.length
  | [], _ => rfl
  | b :: r, n => by
    show (enumL (n + 1) r).length + 1 = _
    rw [enumL_len r]; rfl
theorem firstT_is (w : Bool) : ∀ (bs : List Bool) (n : Nat), firstT (n : Int) w bs = match ((enumL n bs).filter fun p => decide (p.2 = w)).map (fun p => D.int (p.1 : Nat)) with | [] => .non | d :: _ => d
  | [], _ => rfl
  | b :: r, n => by
    have cast : ((n + 1 : Nat) : Int) = (n : Int) + 1 := by omega
    have e : enumL n (b :: r) = (n, b) :: enumL (n + 1) r := rfl
    by_cases c : b = w
    · rw [e, List.filter_cons_of_pos (by simpa using c)]
      simp [firstT, c]
    · rw [e, List.filter_cons_of_neg (by simpa using c), ← firstT_is w r (n + 1), cast]
      simp [firstT, c]
theorem imp__law_first : ∀ ds Q E, S__law_first ds Q E → runA N__law_first d__law_first ds Q E := by
  rintro ds Q E ⟨bs, w, rfl, hl, q⟩
  simp [d__law_first, N__law_first, blL]
  refine lc_go (en := enI) (p := fun p => decide (p.2 = w)) (f := fun p => .int (p.1 : Nat)) (enumL_D bs 0) (fun p _ C C' h1 h2 => ?_) (by rw [enumL_len]; omega) ?_
  · obtain ⟨n, b⟩ := p
    by_cases c : b = w
    · have := h1 (by simpa using c)
      simpa [lg__law_first_1, lt__law_first_1, le__law_first_1, enI, c] using this
    · have := h2 (by simpa using c)
      simpa [lg__law_first_1, lt__law_first_1, le__law_first_1, enI, c] using this
  · have e := firstT_is w bs 0
    have e : firstT 0 w bs = _ := e
    rw [e] at q
    generalize hL : ((enumL 0 bs).filter fun p => decide (p.2 = w)).map (fun p => D.int (p.1 : Nat)) = L at q ⊢
    have hs : ∀ d ∈ L, D.shp 63 d := fun d hd => by
      rw [← hL] at hd
      obtain ⟨_, _, rfl⟩ := List.mem_map.mp hd
      exact shp_int _
    cases L with
    | nil => simpa [dNe, eqD_nil] using q
    | cons d L => simpa [dNe, eqD_nil, dIdx, atI_0] using ⟨⟨hs d (by simp), fun x hx => hs x (by simp [hx])⟩, q⟩
theorem imp__law_told (FA : Addr → Nat → AF → Prop) : ∀ ds Q E, S__law_told FA ds Q E → runA N__law_told (d__law_told FA) ds Q E := by
  rintro ds Q E ⟨f, x, ⟨rfl, h⟩ | ⟨ys, rfl, h⟩⟩
  · rcases h with ⟨xs, hF, q⟩ | ⟨n, hF, q⟩
    · simp [d__law_told, N__law_told, aTry, aCallV, line2]
      exact ⟨_, hF, by simpa [retA, line2] using q⟩
    · simp [d__law_told, N__law_told, aTry, aCallV, aFld, line2]
      exact ⟨_, hF, by simpa [raiA, line2] using q⟩
  · rcases h with ⟨xs, hF, q⟩ | ⟨n, hF, q⟩
    · simp [d__law_told, N__law_told, aTry, aCallV, line2]
      exact ⟨_, hF, by simpa [retA, line2] using q⟩
    · simp [d__law_told, N__law_told, aTry, aCallV, aFld, line2]
      exact ⟨_, hF, by simpa [raiA, line2] using q⟩
end PU
set_option Elab.async false
set_option linter.all false
set_option maxRecDepth 100000
namespace PU
open PySem PySem.Spec L2 StX RZ
set_option autoImplicit false
/-! ### truths and lots -/
def valI : Bool → Int → List Bool → Int → Bool
  | d, _, [], _ => d
  | _, n, b :: r, m => if m ≤ n then b else valI b (n + 1) r m
theorem lotOf_spec : ∀ (bs : List Bool) (n : Int),
    (Can n (lotOf n none bs) ∧ ∀ m, memB (lotOf n none bs) m = (decide (n ≤ m) && valI false n bs m)) ∧
    ∀ b, b < n → Can b (lotOf n (some b) bs) ∧ ∀ m, memB (lotOf n (some b) bs) m = (decide (b ≤ m) && (decide (m < n) || valI true n bs m))
  | [], n => by
    refine ⟨⟨trivial, fun m => by simp [lotOf, memB, valI]⟩, fun b hb => ⟨⟨Int.le_refl _, rfl⟩, fun m => by simp [lotOf, memB, inB, upB, valI]⟩⟩
  | true :: r, n => by
    obtain ⟨i1, i2⟩ := lotOf_spec r (n + 1)
    refine ⟨⟨(i2 n (by omega)).1, fun m => ?_⟩, fun b hb => ⟨(i2 b (by omega)).1, fun m => ?_⟩⟩
    · show memB (lotOf (n + 1) (some n) r) m = _
      rw [(i2 n (by omega)).2]
      by_cases c : m ≤ n
      · have : m < n + 1 := by omega
        simp [valI, c, this]
      · have : ¬ m < n + 1 := by omega
        simp [valI, c, this]
    · show memB (lotOf (n + 1) (some b) r) m = _
      rw [(i2 b (by omega)).2]
      by_cases c : m ≤ n
      · have : m < n + 1 := by omega
        simp [valI, c, this]
      · have h1 : ¬ m < n + 1 := by omega
        have h2 : ¬ m < n := by omega
        simp [valI, c, h1, h2]
  | false :: r, n => by
    obtain ⟨i1, i2⟩ := lotOf_spec r (n + 1)
    refine ⟨⟨i1.1.lower (by omega), fun m => ?_⟩, fun b hb => ⟨⟨Int.le_refl _, by omega, i1.1.lower (by omega)⟩, fun m => ?_⟩⟩
    · show memB (lotOf (n + 1) none r) m = _
      rw [i1.2]
      by_cases c : m ≤ n
      · have : ¬ n + 1 ≤ m := by omega
        simp [valI, c, this]
      · have h1 : n + 1 ≤ m := by omega
        have h2 : n ≤ m := by omega
        simp [valI, c, h1, h2]
    · show memB ((b, some (n - 1)) :: lotOf (n + 1) none r) m = _
      rw [memB_cons, i1.2]
      by_cases c : m ≤ n
      · have : ¬ n + 1 ≤ m := by omega
        rw [Bool.eq_iff_iff]
        simp [valI, c, this, inB, upB]
        omega
      · have h1 : n + 1 ≤ m := by omega
        have h2 : ¬ m ≤ n - 1 := by omega
        have h3 : ¬ m < n := by omega
        have h4 : b ≤ m := by omega
        simp [valI, c, h1, h2, h3, h4, inB, upB]
theorem valI_range (f : Int → Bool) (m : Int) : ∀ (k : Nat) (n : Int) (d : Bool), n ≤ m → valI d n ((List.range k).map fun i : Nat => f (n + i)) m = if m < n + k then f m else if k = 0 then d else f (n + k - 1)
  | 0, n, d, h => by simp [valI]; intro; omega
  | k + 1, n, d, h => by
    have e : ((List.range (k + 1)).map fun i : Nat => f (n + i)) = f n :: (List.range k).map fun i : Nat => f (n + 1 + i) := by
      rw [List.range_succ_eq_map, List.map_cons, List.map_map]
      congr 1
      · simp
      · apply List.map_congr_left
        intro i _
        show f (n + ((i + 1 : Nat) : Int)) = _
        congr 1
        omega
    rw [e]
    unfold valI
    by_cases c : m ≤ n
    · have : m = n := by omega
      subst this
      have : m < m + ((k + 1 : Nat) : Int) := by omega
      rw [if_pos c, if_pos this]
    · rw [if_neg c, valI_range f m k (n + 1) (f n) (by omega)]
      by_cases c2 : m < n + 1 + k
      · have hh : m < n + ((k + 1 : Nat) : Int) := by omega
        rw [if_pos c2, if_pos hh]
      · have hh : ¬ m < n + ((k + 1 : Nat) : Int) := by omega
        rw [if_neg c2, if_neg hh, if_neg (Nat.succ_ne_zero k)]
        by_cases c3 : k = 0
        · subst c3
          simp
        · rw [if_neg c3]
          congr 1
          omega
theorem memB_neg {l : List Sx} (h : ∀ s ∈ l, 0 ≤ s.1) {m : Int} (hm : m < 0) : memB l m = false := by
  unfold memB
  rw [List.any_eq_false]
  intro s hs
  have := h s hs
  simp [inB]
  intro; omega
theorem truths_len (f : Int → Bool) : (truths f).length = 130 := by simp [truths]
theorem truths_at (f : Int → Bool) {n : Nat} (h : n < 130) : (truths f)[n]? = some (f (n : Int)) := by simp [truths, h]
/-- a told lot is the least telling of its truths -/
theorem lot_is {l : List Sx} {f : Int → Bool} (h : ∀ s ∈ l, 0 ≤ s.1) (hf : ∀ m, 0 ≤ m → memB l m = f m) (hc : ∀ m, 129 ≤ m → f m = f 129) : lotOf 0 none (truths f) = normL l := by
  obtain ⟨⟨i1, i2⟩, _⟩ := lotOf_spec (truths f) 0
  refine (normL_is h i1 fun m => ?_).symm
  rw [i2]
  by_cases c : 0 ≤ m
  · have e : truths f = (List.range 130).map fun i : Nat => f (0 + i) := by unfold truths; simp
    rw [e, valI_range f m 130 0 false c, hf m c]
    by_cases c2 : m < 0 + ((130 : Nat) : Int)
    · rw [if_pos c2]; simp [c]
    · rw [if_neg c2, if_neg (by decide), hc m (by omega)]
      simp [c]
  · rw [memB_neg h (by omega)]
    simp; omega
theorem tail_const {l : List Sx} (h : ∀ s ∈ l, okSt s) : ∀ m, 129 ≤ m → memB l m = memB l 129 := by
  intro m hm
  unfold memB
  induction l with
  | nil => rfl
  | cons s l ih =>
    rw [List.any_cons, List.any_cons, ih fun s hs => h s (List.mem_cons_of_mem _ hs)]
    congr 1
    obtain ⟨h1, h2, h3⟩ := h s List.mem_cons_self
    obtain ⟨b, e⟩ := s
    have g1 : b ≤ m := by have : b < 110 := h2; omega
    have g2 : b ≤ 129 := by have : b < 110 := h2; omega
    cases e with
    | none => simp [inB, upB, g1, g2]
    | some e =>
      have := h3 e rfl
      have g3 : ¬ m ≤ e := by omega
      have g4 : ¬ 129 ≤ e := by omega
      simp [inB, upB, g3, g4]
theorem inB_meet (s t : Sx) (m : Int) : inB (meet s t) m = (inB s m && inB t m) := by
  obtain ⟨b, e⟩ := s
  obtain ⟨b2, e2⟩ := t
  have e0 : meet (b, e) (b2, e2) = (max b b2, minE e e2) := rfl
  have e1 : decide (max b b2 ≤ m) = (decide (b ≤ m) && decide (b2 ≤ m)) := by
    rw [Bool.eq_iff_iff]
    simp only [Bool.and_eq_true, decide_eq_true_eq]
    omega
  have e2' : upB (minE e e2) m = (upB e m && upB e2 m) := by
    cases e with
    | none => rfl
    | some x =>
      cases e2 with
      | none => simp [minE, upB]
      | some y =>
        rw [Bool.eq_iff_iff]
        simp only [minE, upB, Bool.and_eq_true, decide_eq_true_eq]
        omega
  rw [e0]
  unfold inB
  show (decide (max b b2 ≤ m) && upB (minE e e2) m) = (decide (b ≤ m) && upB e m && (decide (b2 ≤ m) && upB e2 m))
  rw [e1, e2']
  cases decide (b ≤ m) <;> cases decide (b2 ≤ m) <;> cases upB e m <;> cases upB e2 m <;> rfl
theorem memB_pairs (l k : List Sx) (m : Int) : memB (pairs l k) m = (memB l m && memB k m) := by
  induction l with
  | nil => rfl
  | cons s l ih =>
    have e : pairs (s :: l) k = k.map (meet s) ++ pairs l k := rfl
    rw [e, memB_append, ih, memB_cons]
    have e2 : memB (k.map (meet s)) m = (inB s m && memB k m) := by
      unfold memB
      rw [List.any_map]
      clear ih e
      induction k with
      | nil => simp
      | cons t k ih =>
        rw [List.any_cons, List.any_cons, ih]
        show (inB (meet s t) m || _) = _
        rw [inB_meet]
        cases inB s m <;> simp
    rw [e2]
    cases inB s m <;> cases memB l m <;> cases memB k m <;> rfl
theorem memB_gaps : ∀ {c : List Sx} {b : Int}, Can b c → ∀ m, memB (gaps b c) m = (decide (b ≤ m) && !memB c m)
  | [], b, _, m => by simp [gaps, memB, inB, upB]
  | (f, none) :: l, b, h, m => by
    obtain ⟨h1, rfl⟩ := h
    rw [Bool.eq_iff_iff]
    simp [gaps, memB, inB, upB]
    omega
  | (f, some e) :: l, b, h, m => by
    obtain ⟨h1, h2, h3⟩ := h
    have ih := memB_gaps (c := l) (b := e + 1) (h3.lower (by omega)) m
    have e1 : gaps b ((f, some e) :: l) = (b, some (f - 1)) :: gaps (e + 1) l := rfl
    rw [e1, memB_cons, memB_cons, ih]
    have low : m < e + 2 → memB l m = false := fun z => h3.below z
    by_cases c : m ≤ e
    · rw [low (by omega)]
      rw [Bool.eq_iff_iff]
      simp [inB, upB]
      omega
    · have z1 : inB (b, some (f - 1)) m = false := by simp [inB, upB]; omega
      have z2 : inB (f, some e) m = false := by simp [inB, upB]; omega
      have z3 : e + 1 ≤ m := by omega
      have z4 : b ≤ m := by omega
      rw [z1, z2]
      simp [z3, z4]
end PU
set_option Elab.async false
set_option linter.all false
set_option maxRecDepth 100000
namespace PU
open PySem PySem.Spec L2 StX RZ
set_option autoImplicit false
theorem can_nn : ∀ {c : List Sx} {lo : Int}, 0 ≤ lo → Can lo c → ∀ s ∈ c, 0 ≤ s.1
  | [], _, _, _ => by simp
  | (b, none) :: l, lo, h, hc => by
    obtain ⟨h1, rfl⟩ := hc
    intro s hs
    rw [List.mem_singleton.mp hs]
    show 0 ≤ b
    omega
  | (b, some e) :: l, lo, h, hc => by
    obtain ⟨h1, h2, h3⟩ := hc
    intro s hs
    rcases List.mem_cons.mp hs with rfl | hs
    · show 0 ≤ b
      omega
    · exact can_nn (by omega) h3 s hs
/-- within a bound -/
def InR (B : Nat) (l : List Sx) : Prop := ∀ s ∈ l, s.1.natAbs ≤ B ∧ ∀ e, s.2 = some e → e.natAbs ≤ B
theorem lotOf_bd : ∀ (bs : List Bool) (n : Nat) (beg : Option Int), (∀ b, beg = some b → b.natAbs ≤ n) → InR (n + bs.length) (lotOf (n : Int) beg bs)
  | [], n, none, h => by intro s hs; cases hs
  | [], n, some b, h => by
    intro s hs
    have hs : s ∈ [(b, none)] := hs
    rw [List.mem_singleton.mp hs]
    exact ⟨h b rfl, fun e he => nomatch he⟩
  | t :: r, n, beg, h => by
    have cast : ((n + 1 : Nat) : Int) = (n : Int) + 1 := by omega
    have up : n + 1 + r.length = n + (t :: r).length := by simp; omega
    cases t with
    | true =>
      cases beg with
      | none =>
        have ih := lotOf_bd r (n + 1) (some (n : Int)) (fun b hb => by cases hb; omega)
        rw [cast, up] at ih
        exact ih
      | some b =>
        have ih := lotOf_bd r (n + 1) (some b) (fun b' hb => by have := h b' hb; omega)
        rw [cast, up] at ih
        exact ih
    | false =>
      have ih := lotOf_bd r (n + 1) none (fun b hb => nomatch hb)
      rw [cast, up] at ih
      cases beg with
      | none => exact ih
      | some b =>
        intro s hs
        have hs : s ∈ (b, some ((n : Int) - 1)) :: lotOf ((n : Int) + 1) none r := hs
        rcases List.mem_cons.mp hs with rfl | hs
        · refine ⟨Nat.le_trans (h b rfl) (by omega), fun e he => ?_⟩
          have : e = (n : Int) - 1 := by simpa using he.symm
          simp
          omega
        · exact ih s hs
theorem log_lt {i : Int} {k B : Nat} (hk : 0 < k) (h : i.natAbs ≤ B) (hB : B < 2 ^ k) : i.natAbs.log2 < k := by
  by_cases z : i.natAbs = 0
  · rw [z]
    have : (0 : Nat).log2 = 0 := by decide
    omega
  · exact (Nat.log2_lt z).mpr (Nat.lt_of_le_of_lt h hB)
theorem p300_lt : 10 ^ 300 < 2 ^ 1920 := by
  refine Nat.lt_of_lt_of_le (Nat.pow_lt_pow_left (by decide : 10 < 2 ^ 4) (by decide)) ?_
  rw [← Nat.pow_mul]
  exact Nat.pow_le_pow_right (by decide) (by decide)
theorem b130_lt : 130 < 2 ^ 1920 := Nat.lt_of_lt_of_le (by decide : 130 < 2 ^ 8) (Nat.pow_le_pow_right (by decide) (by decide))
theorem sh_enc {n B : Nat} {s : Sx} (hB : B < 2 ^ 1920) (h : s.1.natAbs ≤ B ∧ ∀ e, s.2 = some e → e.natAbs ≤ B) : Sh (n + 1) 4000 (enc s) := by
  refine sh_tup (L := 1921) (fun x hx => ?_) (by simp)
  have : x = .int s.1 ∨ x = eD s.2 := by simpa using hx
  rcases this with rfl | rfl
  · exact sh_int (log_lt (by decide) h.1 hB)
  · cases c : s.2 with
    | none => exact sh_non
    | some e => exact sh_int (log_lt (by decide) (h.2 e c) hB)
theorem sh_lot {n B : Nat} {c : List Sx} (hB : B < 2 ^ 1920) (h : InR B c) (hl : c.length ≤ 60) : Sh (n + 2) 250000 (.tup (encL c)) := by
  refine sh_tup (L := 4000) (fun x hx => ?_) (by simp [encL]; omega)
  obtain ⟨s, hs, rfl⟩ := List.mem_map.mp hx
  exact sh_enc hB (h s hs)
/-- a lot of the first 130 places -/
structure Lot (f : Int → Bool) (L : Nat) (c : List Sx) : Prop where
  can : Can 0 c
  mem : ∀ m, 0 ≤ m → memB c m = f m
  tail : ∀ m, 129 ≤ m → f m = f 129
  len : c.length ≤ L
theorem Lot.nn {f : Int → Bool} {L : Nat} {c : List Sx} (h : Lot f L c) : ∀ s ∈ c, 0 ≤ s.1 := can_nn (Int.le_refl _) h.can
theorem Lot.of_norm {f : Int → Bool} {L : Nat} {l : List Sx} (h : ∀ s ∈ l, 0 ≤ s.1) (hf : ∀ m, 0 ≤ m → memB l m = f m) (ht : ∀ m, 129 ≤ m → f m = f 129) (hl : l.length ≤ L) : Lot f L (normL l) := by
  obtain ⟨g1, g2, g3⟩ := normL_can h
  exact ⟨g1, fun m hm => by rw [g2, hf m hm], ht, Nat.le_trans g3 hl⟩
theorem Lot.uniq {f : Int → Bool} {L M : Nat} {c d : List Sx} (h : Lot f L c) (k : Lot f M d) : c = d := by
  refine can_uniq h.can k.can fun m => ?_
  by_cases z : 0 ≤ m
  · rw [h.mem m z, k.mem m z]
  · rw [memB_neg h.nn (by omega), memB_neg k.nn (by omega)]
theorem Lot.lot {f : Int → Bool} {L : Nat} {c : List Sx} (h : Lot f L c) : lotOf 0 none (truths f) = c := by
  have e := lot_is (f := f) h.nn h.mem h.tail
  have k : Lot f c.length (normL c) := .of_norm h.nn h.mem h.tail (Nat.le_refl _)
  rw [e]
  exact k.uniq h
theorem Lot.bd {f : Int → Bool} {L : Nat} {c : List Sx} (h : Lot f L c) : InR 130 c := by
  have := lotOf_bd (truths f) 0 none (fun b hb => nomatch hb)
  have e : lotOf ((0 : Nat) : Int) none (truths f) = c := h.lot
  rw [e, truths_len] at this
  exact this
theorem Lot.sh {n : Nat} {f : Int → Bool} {L : Nat} {c : List Sx} (h : Lot f L c) (hl : L ≤ 60) : Sh (n + 2) 250000 (.tup (encL c)) := sh_lot (B := 130) b130_lt h.bd (Nat.le_trans h.len hl)
theorem told_ok {c : List Sx} {Q : D → Prop} {E : XE → Prop} (h : c.length ≤ 60) (q : Q (.tup (encL c))) : toldC c Q E := ⟨fun _ => q, fun k => absurd k (by omega)⟩
theorem Lot.both {f g : Int → Bool} {L M : Nat} {c d : List Sx} (h : Lot f L c) (k : Lot g M d) : Lot (fun m => f m && g m) (L * M) (normL (pairs c d)) :=
  .of_norm (pairs_nn h.nn) (fun m hm => by rw [memB_pairs, h.mem m hm, k.mem m hm]) (fun m hm => by show (f m && g m) = _; rw [h.tail m hm, k.tail m hm]) (by rw [pairs_len]; exact Nat.mul_le_mul h.len k.len)
theorem Lot.any {f g : Int → Bool} {L M : Nat} {c d : List Sx} (h : Lot f L c) (k : Lot g M d) : Lot (fun m => f m || g m) (L + M) (normL (c ++ d)) :=
  .of_norm (app_bound h.nn k.nn) (fun m hm => by rw [memB_append, h.mem m hm, k.mem m hm]) (fun m hm => by show (f m || g m) = _; rw [h.tail m hm, k.tail m hm]) (by rw [List.length_append]; exact Nat.add_le_add h.len k.len)
theorem Lot.out {f : Int → Bool} {L : Nat} {c : List Sx} (h : Lot f L c) : Lot (fun m => !f m) (L + 1) (normL (gaps 0 c)) :=
  .of_norm (gaps_nn c 0 (Int.le_refl _) h.can) (fun m hm => by rw [memB_gaps h.can, h.mem m hm]; simp [hm]) (fun m hm => by show (!f m) = _; rw [h.tail m hm]) (Nat.le_trans (gaps_len c 0) (Nat.succ_le_succ h.len))
theorem okSt_lot {l : List Sx} (h : ∀ s ∈ l, okSt s) (hl : l.length ≤ 7) : Lot (memB l) 7 (normL l) := .of_norm (fun s hs => (h s hs).1) (fun _ _ => rfl) (tail_const h) hl
theorem norm_rev {l : List Sx} (h : ∀ s ∈ l, okSt s) (hl : l.length ≤ 7) : Lot (memB l) 7 (normL l.reverse) := .of_norm (fun s hs => (h s (List.mem_reverse.mp hs)).1) (fun m _ => memB_perm (List.reverse_perm l) m) (tail_const h) (by simpa using hl)
theorem Lot.self {f : Int → Bool} {L : Nat} {c : List Sx} (h : Lot f L c) : normL (c ++ c) = c := by
  have : Lot f (c ++ c).length (normL (c ++ c)) := .of_norm (app_bound h.nn h.nn) (fun m hm => by rw [memB_append, h.mem m hm, Bool.or_self]) h.tail (Nat.le_refl _)
  exact this.uniq h
theorem tr_map (g : Int → Bool) : ((List.range 130).filter fun _ => true).map (fun i : Nat => D.bl (g (i : Int))) = (truths g).map .bl := by
  rw [filt_true]
  unfold truths
  rw [List.map_map]; rfl
theorem tr_one (g : Int → Bool) : (truths g).map D.bl = (List.range 130).map fun i : Nat => D.bl (g (i : Int)) := by
  unfold truths
  rw [List.map_map]; rfl
theorem zip_two {α : Type} (f g : α → D) : ∀ l : List α, zipD (l.map f) (l.map g) = l.map fun a => D.tup [f a, g a]
  | [] => rfl
  | a :: l => by
    show D.tup [f a, g a] :: zipD (l.map f) (l.map g) = _
    rw [zip_two f g l]; rfl
theorem tr_zip (f g : Int → Bool) : zipD ((truths f).map .bl) ((truths g).map .bl) = (List.range 130).map fun i : Nat => D.tup [.bl (f (i : Int)), .bl (g (i : Int))] := by
  rw [tr_one, tr_one, zip_two]
/-! calls -/
theorem c_told {x : D} {l : List Sx} {Q : D → Prop} {E : XE → Prop} (hx : seqL x l) (hl : l.length ≤ 60) (hn : ∀ s ∈ l, 0 ≤ s.1) (q : Q (.tup (encL (normL l)))) : S_lot_told [x] Q E :=
  ⟨x, l, rfl, hx, by omega, hn, told_ok (Nat.le_trans (normL_can hn).2.2 hl) q⟩
theorem c_both {f g : Int → Bool} {L M : Nat} {c d : List Sx} {Q : D → Prop} {E : XE → Prop} (h : Lot f L c) (k : Lot g M d) (hl : L * M ≤ 60) (hM : M ≤ 400) (q : Q (.tup (encL (normL (pairs c d))))) : S_lots_both [.tup (encL c), .tup (encL d)] Q E := by
  have := Nat.mul_le_mul h.len k.len
  exact ⟨c, d, rfl, by omega, Nat.le_trans k.len hM, h.nn, told_ok (Nat.le_trans (h.both k).len hl) q⟩
theorem c_any {f g : Int → Bool} {L M : Nat} {c d : List Sx} {Q : D → Prop} {E : XE → Prop} (h : Lot f L c) (k : Lot g M d) (hl : L + M ≤ 60) (q : Q (.tup (encL (normL (c ++ d))))) : S_lots_any [.tup (encL c), .tup (encL d)] Q E :=
  ⟨c, d, rfl, Nat.le_trans h.len (by omega), Nat.le_trans k.len (by omega), h.nn, k.nn, told_ok (Nat.le_trans (h.any k).len hl) q⟩
theorem c_out {f : Int → Bool} {L : Nat} {c : List Sx} {Q : D → Prop} {E : XE → Prop} (h : Lot f L c) (hl : L + 1 ≤ 60) (q : Q (.tup (encL (normL (gaps 0 c))))) : S_lot_out [.tup (encL c)] Q E :=
  ⟨c, rfl, h.can, Nat.le_trans h.len (by omega), told_ok (Nat.le_trans h.out.len hl) q⟩
theorem c_lot {f : Int → Bool} {L : Nat} {c : List Sx} {Q : D → Prop} {E : XE → Prop} (h : Lot f L c) (q : Q (.tup (encL c))) : S__law_lot [blL (truths f)] Q E := by
  refine ⟨_, rfl, by rw [truths_len]; decide, ?_⟩
  rw [h.lot]
  exact q
theorem tr_atI (f : Int → Bool) {n : Int} (h1 : 0 ≤ n) (h2 : n < 130) : atI ((truths f).map D.bl) n = some (.bl (f n)) := by
  obtain ⟨k, rfl⟩ := Int.eq_ofNat_of_zero_le h1
  rw [atI_nat, List.getElem?_map, truths_at f (by omega)]
  rfl
theorem ne_bls4 {a b c d : Bool} {Q : D → Prop} (q : Q (.bl false)) : dNe2 (.lst [.bl a, .bl b, .bl c, .bl d]) (.lst [.bl a, .bl b, .bl c, .bl d]) Q := by
  refine ⟨?_, ?_, ?_⟩
  · rw [shp64_lst]; intro x hx; simp at hx; rcases hx with rfl | rfl | rfl | rfl <;> exact shp_bl _
  · rw [shp64_lst]; intro x hx; simp at hx; rcases hx with rfl | rfl | rfl | rfl <;> exact shp_bl _
  · have : eqD (.lst [.bl a, .bl b, .bl c, .bl d]) (.lst [.bl a, .bl b, .bl c, .bl d]) = true := by
      cases a <;> cases b <;> cases c <;> cases d <;> decide
    rw [this]
    exact q
/-- lots and what they tell -/
abbrev FL := (Int → Bool) × List Sx
def okFL (p : FL) : Prop := ∃ L, L ≤ 60 ∧ Lot p.1 L p.2
theorem lotOf_some : ∀ (bs : List Bool) (n b : Int), ∃ e r, lotOf n (some b) bs = (b, e) :: r ∧ firstT n false bs = match e with | none => .non | some e => .int (e + 1)
  | [], n, b => ⟨none, [], rfl, rfl⟩
  | true :: t, n, b => by
    obtain ⟨e, r, h1, h2⟩ := lotOf_some t (n + 1) b
    exact ⟨e, r, h1, h2⟩
  | false :: t, n, b => ⟨some (n - 1), lotOf (n + 1) none t, rfl, by
    show D.int n = .int (n - 1 + 1)
    congr 1
    omega⟩
theorem lotOf_first : ∀ (bs : List Bool) (n : Int), firstI (lotOf n none bs) = firstT n true bs
  | [], n => rfl
  | true :: t, n => by
    obtain ⟨e, r, h1, h2⟩ := lotOf_some t (n + 1) n
    show firstI (lotOf (n + 1) (some n) t) = .int n
    rw [h1]; rfl
  | false :: t, n => lotOf_first t (n + 1)
theorem Lot.first {f : Int → Bool} {L : Nat} {c : List Sx} (h : Lot f L c) : firstT 0 true (truths f) = firstI c := by
  rw [← lotOf_first, h.lot]
theorem Lot.firstOut {f : Int → Bool} {L : Nat} {c : List Sx} (h : Lot f L c) : firstT 0 false (truths f) = firstO c := by
  have e := h.lot
  obtain ⟨b, t, eT⟩ : ∃ b t, truths f = b :: t := by
    cases hT : truths f with
    | nil => have := truths_len f; rw [hT] at this; cases this
    | cons b t => exact ⟨b, t, rfl⟩
  rw [eT] at e ⊢
  cases b with
  | true =>
    obtain ⟨e', r, h1, h2⟩ := lotOf_some t 1 0
    have e : lotOf 1 (some 0) t = c := e
    rw [← e, h1]
    show firstT 1 false t = _
    rw [h2]
    cases e' <;> rfl
  | false =>
    have e : lotOf 1 none t = c := e
    have can := (lotOf_spec t 1).1.1
    rw [e] at can
    show D.int 0 = firstO c
    cases c with
    | nil => rfl
    | cons s l =>
      obtain ⟨b, e'⟩ := s
      have hb : 0 < b := by
        cases e' with
        | none => have := can.1; omega
        | some e' => have := can.1; omega
      simp [firstO, hb]
theorem ever_iff : ∀ {c : List Sx} {lo : Int}, Can lo c → ∀ k, everB c k = true ↔ ∀ m, k ≤ m → memB c m = true
  | [], lo, _, k => ⟨fun h => (by simp [everB] at h), fun h => (by have := h k (Int.le_refl _); simp [memB] at this)⟩
  | (b, none) :: l, lo, h, k => by
    obtain ⟨h1, rfl⟩ := h
    have e : everB [(b, none)] k = decide (b ≤ k) := by simp [everB]
    have e2 : ∀ m, memB [(b, none)] m = decide (b ≤ m) := fun m => by simp [memB, inB, upB]
    rw [e, decide_eq_true_eq]
    constructor
    · intro h m hm
      rw [e2, decide_eq_true_eq]
      omega
    · intro h
      have := h k (Int.le_refl _)
      rw [e2, decide_eq_true_eq] at this
      exact this
  | (b, some e) :: l, lo, h, k => by
    obtain ⟨h1, h2, h3⟩ := h
    have ih := ever_iff h3 k
    have e1 : everB ((b, some e) :: l) k = everB l k := rfl
    rw [e1, ih]
    constructor
    · intro h m hm
      rw [memB_cons, h m hm, Bool.or_true]
    · intro h m hm
      have z := h3.below (n := e + 1) (by omega)
      by_cases c : k ≤ e + 1
      · have := h (e + 1) c
        rw [memB_cons, z] at this
        simp [inB, upB] at this
        omega
      · have := h m hm
        rw [memB_cons] at this
        have y : inB (b, some e) m = false := by simp [inB, upB]; omega
        rw [y] at this
        simpa using this
theorem Lot.ever {f : Int → Bool} {L : Nat} {c : List Sx} (h : Lot f L c) {k : Int} (h0 : 0 ≤ k) (h1 : k < 130) : everB c k = !((truths f).drop k.toNat).any (fun b => !b) := by
  rw [Bool.eq_iff_iff, ever_iff h.can]
  simp only [Bool.not_eq_true', List.any_eq_false, Bool.not_eq_true, Bool.not_eq_false']
  constructor
  · intro z b hb
    obtain ⟨i, hi⟩ := List.mem_iff_getElem?.mp hb
    rw [List.getElem?_drop] at hi
    by_cases c : k.toNat + i < 130
    · rw [truths_at f c] at hi
      have := z ((k.toNat + i : Nat) : Int) (by omega)
      rw [h.mem _ (by omega)] at this
      have hi : f ((k.toNat + i : Nat) : Int) = b := by simpa using hi
      rw [← hi, this]
      simp
    · rw [List.getElem?_eq_none (by rw [truths_len]; omega)] at hi
      cases hi
  · intro z m hm
    rw [h.mem m (by omega)]
    have at' : ∀ m : Int, k ≤ m → m < 130 → f m = true := fun m h2 h3 => by
      have : f m ∈ (truths f).drop k.toNat := by
        rw [List.mem_iff_getElem?]
        refine ⟨(m - k).toNat, ?_⟩
        rw [List.getElem?_drop]
        have e : k.toNat + (m - k).toNat = m.toNat := by omega
        rw [e, truths_at f (by omega)]
        congr 2
        omega
      have := z _ this
      simpa using this
    by_cases c : m < 130
    · exact at' m hm c
    · rw [h.tail m (by omega)]
      exact at' 129 (by omega) (by omega)
theorem in_bls {xs : List Bool} : inD (.bl false) (xs.map .bl) = xs.any (fun b => !b) := by
  unfold inD
  rw [List.any_map]
  congr 1
  funext b
  cases b <;> decide
theorem Lot.shI {n : Nat} {f : Int → Bool} {L : Nat} {c : List Sx} (h : Lot f L c) : Sh n 1921 (firstI c) := by
  have b := h.bd
  cases c with
  | nil => exact sh_non
  | cons s l => exact sh_int (log_lt (by decide) (b s List.mem_cons_self).1 b130_lt)
theorem b131_lt : 131 < 2 ^ 1920 := Nat.lt_of_lt_of_le (by decide : 131 < 2 ^ 8) (Nat.pow_le_pow_right (by decide) (by decide))
theorem Lot.shO {n : Nat} {f : Int → Bool} {L : Nat} {c : List Sx} (h : Lot f L c) : Sh n 1921 (firstO c) := by
  have b := h.bd
  have z : Sh n 1921 (.int 0) := sh_int (log_lt (by decide) (by decide : (0 : Int).natAbs ≤ 131) b131_lt)
  cases c with
  | nil => exact z
  | cons s l =>
    obtain ⟨k, e⟩ := s
    by_cases hk : 0 < k
    · have : firstO ((k, e) :: l) = .int 0 := by simp [firstO, hk]
      rw [this]
      exact z
    · cases e with
      | none =>
        have : firstO ((k, none) :: l) = .non := by simp [firstO, hk]
        rw [this]
        exact sh_non
      | some e =>
        have h2 : firstO ((k, some e) :: l) = .int (e + 1) := by simp [firstO, hk]
        rw [h2]
        have := (b (k, some e) List.mem_cons_self).2 e rfl
        exact sh_int (log_lt (by decide) (by omega : (e + 1).natAbs ≤ 131) b131_lt)
theorem cut_from {xs : List D} {k : Int} (h0 : 0 ≤ k) (h1 : k.toNat ≤ xs.length) : cutD xs (some k) none = xs.drop k.toNat := by
  obtain ⟨n, rfl⟩ := Int.eq_ofNat_of_zero_le h0
  unfold cutD
  have h1 : n ≤ xs.length := h1
  have e1 : HT.sIx xs.length 0 (some (n : Int)) = n := by rw [HT.sIx_nat]; omega
  have e2 : HT.sIx xs.length xs.length none = xs.length := rfl
  rw [e1, e2]
  show (xs.drop n).take (xs.length - n) = xs.drop n
  rw [List.take_of_length_le (by rw [List.length_drop]; exact Nat.le_refl _)]
end PU
set_option Elab.async false
set_option linter.all false
set_option maxRecDepth 100000
namespace PU
open PySem PySem.Spec L2 StX RZ
set_option autoImplicit false
theorem text290 : PySem.intText? (("1" : Str) ++ repS "0" 290) = some (10 ^ 290) := by decide +kernel
theorem len290 : (repS "0" 290).length ≤ 600 := by decide +kernel
theorem len291 : (("1" : Str) ++ repS "0" 290).length ≤ 640 := by decide +kernel
theorem far_ok {y : D} (h : y = .int (10 ^ 30) ∨ y = .int (10 ^ 290) ∨ y = .int (10 ^ 9)) : ∃ i : Int, y = .int i ∧ 1000 ≤ i ∧ i.natAbs ≤ 10 ^ 290 := by
  rcases h with rfl | rfl | rfl
  · exact ⟨_, rfl, by decide +kernel, by decide +kernel⟩
  · exact ⟨_, rfl, by decide +kernel, by decide +kernel⟩
  · exact ⟨_, rfl, by decide +kernel, by decide +kernel⟩
theorem p290_lt : 10 ^ 290 + 100 < 2 ^ 1920 := by decide +kernel
end PU
set_option Elab.async false
set_option linter.all false
set_option maxRecDepth 100000
namespace PU
open PySem PySem.Spec L2 StX RZ
set_option autoImplicit false
def d_law2 (FA : Addr → Nat → AF → Prop) (A : AEnds) (ρ : List AV) : Prop :=
  (aSeq (aParO [14, 15, 16] (aoO (aLst aNil) (aoD (aC (.int 0)) (aoD (aCallZ 1 1 S__law_of (aCons (aLst (aCons (aC (.int 1)) (aCons (aC (.int 0)) (aCons (aNeg (aC (.int 1))) aNil)))) aNil)) aoNil))))
  (aSeq (aFor (aRng1 (aCons (aCallZ 1 1 S__law_pick (aCons (aC (.int 6)) aNil)) aNil)) g_law_9 b_law_9)
  (aSeq (aDrop (aAppend 14 (aTup (aCons (aVar 15) (aCons (aC .non) (aCons (aVar 16) aNil))))))
  (aSeq (aSet 19 (aCallZ 1 1 S__law_of (aCons (aLst (aCons (aTup (aCons (aC (.int 1)) aNil)) (aCons (aTup (aCons (aC (.int 0)) aNil)) (aCons (aTup (aCons (aNeg (aC (.int 1))) aNil)) (aCons (aTup (aCons (aC (.int 1)) (aCons (aC (.int 0)) aNil))) (aCons (aTup (aCons (aC (.int 0)) (aCons (aNeg (aC (.int 1))) aNil))) (aCons (aTup (aCons (aC (.int 1)) (aCons (aNeg (aC (.int 1))) aNil))) (aCons (aTup (aCons (aC (.int 1)) (aCons (aC (.int 0)) (aCons (aNeg (aC (.int 1))) aNil)))) (aCons (aTup aNil) aNil))))))))) aNil)))
  (aSeq (aSet 20 (aLc (aRng1 (aCons (aC (.int 130)) aNil)) lg_law_11 aYes le_law_11 [12]))
  (aSeq (aIfS (aTestB (aBin dNe2 (aOp dRepr (aCons (aCall 2 S_lot_signed (aCons (aOp dTuple (aCons (aVar 14) aNil)) (aCons (aVar 19) aNil))) aNil)) (aOp dRepr (aCons (aCall 1 S__law_lot (aCons (aVar 20) aNil)) aNil)))) (aRet (aC (.bl false))) aSkip)
  (aSeq (aSet 21 (aBin dAdd (aCallZ 1 1 S__law_of (aCons (aLst (aCons (aBin dPow (aC (.int 10)) (aC (.int 30))) (aCons (aOp dIntS (aCons (aBin dAdd (aC (.str "1")) (aBin dRepS (aC (.str "0")) (aC (.int 290)))) aNil)) (aCons (aBin dPow (aC (.int 10)) (aC (.int 9))) aNil)))) aNil)) (aCallZ 1 1 S__law_pick (aCons (aC (.int 9)) aNil))))
  (aSeq (aParO [22, 23] (aoD (aCall 1 S_lot_told (aCons (aLst (aCons (aTup (aCons (aVar 21) (aCons (aC .non) aNil))) (aCons (aTup (aCons (aC (.int 3)) (aCons (aBin dSub (aVar 21) (aC (.int 2))) aNil))) aNil))) aNil)) (aoD (aCall 1 S_lot_told (aCons (aLst (aCons (aTup (aCons (aBin dSub (aVar 21) (aC (.int 2))) (aCons (aBin dAdd (aVar 21) (aC (.int 5))) aNil))) aNil)) aNil)) aoNil)))
  (aSeq (aIfS (aTestB (aBin dNe2 (aOp dRepr (aCons (aLst (aCons (aVar 22) (aCons (aCall 1 S_lot_told (aCons (aLst (aCons (aTup (aCons (aC (.int 3)) (aCons (aBin dSub (aVar 21) (aC (.int 1))) aNil))) (aCons (aTup (aCons (aVar 21) (aCons (aC .non) aNil))) aNil))) aNil)) aNil))) aNil)) (aOp dRepr (aCons (aLst (aCons (aTup (aCons (aTup (aCons (aC (.int 3)) (aCons (aBin dSub (aVar 21) (aC (.int 2))) aNil))) (aCons (aTup (aCons (aVar 21) (aCons (aC .non) aNil))) aNil))) (aCons (aTup (aCons (aTup (aCons (aC (.int 3)) (aCons (aC .non) aNil))) aNil)) aNil))) aNil)))) (aRet (aC (.bl false))) aSkip)
  (aSeq (aIfS (aOr (aTestB (aBin dNe2 (aOp dRepr (aCons (aCall 2 S_lots_both (aCons (aVar 22) (aCons (aVar 23) aNil))) aNil)) (aOp dRepr (aCons (aTup (aCons (aTup (aCons (aBin dSub (aVar 21) (aC (.int 2))) (aCons (aBin dSub (aVar 21) (aC (.int 2))) aNil))) (aCons (aTup (aCons (aVar 21) (aCons (aBin dAdd (aVar 21) (aC (.int 5))) aNil))) aNil))) aNil)))) (aTestB (aBin dNe2 (aCall 1 S_first_out (aCons (aVar 23) aNil)) (aC (.int 0))))) (aRet (aC (.bl false))) aSkip)
  (aSeq (aSet 24 (aLst (aCons (aTup (aCons (aTup (aCons (aC (.int 0)) (aCons (aC (.int 2)) aNil))) (aCons (aTup (aCons (aBin dSub (aVar 21) (aC (.int 1))) (aCons (aBin dSub (aVar 21) (aC (.int 1))) aNil))) aNil))) (aCons (aBin dSub (aVar 21) (aC (.int 2))) (aCons (aBin dAdd (aVar 21) (aC (.int 1))) aNil)))))
  (aSeq (aIfS (aTestB (aBin dNe2 (aOp dRepr (aCons (aLst (aCons (aCall 1 S_lot_out (aCons (aVar 22) aNil)) (aCons (aCall 1 S_first_in (aCons (aVar 23) aNil)) (aCons (aCall 1 S_first_out (aCons (aTup (aCons (aTup (aCons (aC (.int 0)) (aCons (aVar 21) aNil))) aNil)) aNil)) aNil)))) aNil)) (aOp dRepr (aCons (aVar 24) aNil)))) (aRet (aC (.bl false))) aSkip)
  (aRet (aOrV (aBin dGt (aCallZ 1 1 S__law_pick (aCons (aC (.int 3)) aNil)) (aC (.int 0))) (aCall0 (S__law_many_right FA)))))))))))))))) A ρ
def d_law3 (FA : Addr → Nat → AF → Prop) (A : AEnds) (ρ : List AV) : Prop :=
  (aSeq (aSet 21 (aBin dAdd (aCallZ 1 1 S__law_of (aCons (aLst (aCons (aBin dPow (aC (.int 10)) (aC (.int 30))) (aCons (aOp dIntS (aCons (aBin dAdd (aC (.str "1")) (aBin dRepS (aC (.str "0")) (aC (.int 290)))) aNil)) (aCons (aBin dPow (aC (.int 10)) (aC (.int 9))) aNil)))) aNil)) (aCallZ 1 1 S__law_pick (aCons (aC (.int 9)) aNil))))
  (aSeq (aParO [22, 23] (aoD (aCall 1 S_lot_told (aCons (aLst (aCons (aTup (aCons (aVar 21) (aCons (aC .non) aNil))) (aCons (aTup (aCons (aC (.int 3)) (aCons (aBin dSub (aVar 21) (aC (.int 2))) aNil))) aNil))) aNil)) (aoD (aCall 1 S_lot_told (aCons (aLst (aCons (aTup (aCons (aBin dSub (aVar 21) (aC (.int 2))) (aCons (aBin dAdd (aVar 21) (aC (.int 5))) aNil))) aNil)) aNil)) aoNil)))
  (aSeq (aIfS (aTestB (aBin dNe2 (aOp dRepr (aCons (aLst (aCons (aVar 22) (aCons (aCall 1 S_lot_told (aCons (aLst (aCons (aTup (aCons (aC (.int 3)) (aCons (aBin dSub (aVar 21) (aC (.int 1))) aNil))) (aCons (aTup (aCons (aVar 21) (aCons (aC .non) aNil))) aNil))) aNil)) aNil))) aNil)) (aOp dRepr (aCons (aLst (aCons (aTup (aCons (aTup (aCons (aC (.int 3)) (aCons (aBin dSub (aVar 21) (aC (.int 2))) aNil))) (aCons (aTup (aCons (aVar 21) (aCons (aC .non) aNil))) aNil))) (aCons (aTup (aCons (aTup (aCons (aC (.int 3)) (aCons (aC .non) aNil))) aNil)) aNil))) aNil)))) (aRet (aC (.bl false))) aSkip)
  (aSeq (aIfS (aOr (aTestB (aBin dNe2 (aOp dRepr (aCons (aCall 2 S_lots_both (aCons (aVar 22) (aCons (aVar 23) aNil))) aNil)) (aOp dRepr (aCons (aTup (aCons (aTup (aCons (aBin dSub (aVar 21) (aC (.int 2))) (aCons (aBin dSub (aVar 21) (aC (.int 2))) aNil))) (aCons (aTup (aCons (aVar 21) (aCons (aBin dAdd (aVar 21) (aC (.int 5))) aNil))) aNil))) aNil)))) (aTestB (aBin dNe2 (aCall 1 S_first_out (aCons (aVar 23) aNil)) (aC (.int 0))))) (aRet (aC (.bl false))) aSkip)
  (aSeq (aSet 24 (aLst (aCons (aTup (aCons (aTup (aCons (aC (.int 0)) (aCons (aC (.int 2)) aNil))) (aCons (aTup (aCons (aBin dSub (aVar 21) (aC (.int 1))) (aCons (aBin dSub (aVar 21) (aC (.int 1))) aNil))) aNil))) (aCons (aBin dSub (aVar 21) (aC (.int 2))) (aCons (aBin dAdd (aVar 21) (aC (.int 1))) aNil)))))
  (aSeq (aIfS (aTestB (aBin dNe2 (aOp dRepr (aCons (aLst (aCons (aCall 1 S_lot_out (aCons (aVar 22) aNil)) (aCons (aCall 1 S_first_in (aCons (aVar 23) aNil)) (aCons (aCall 1 S_first_out (aCons (aTup (aCons (aTup (aCons (aC (.int 0)) (aCons (aVar 21) aNil))) aNil)) aNil)) aNil)))) aNil)) (aOp dRepr (aCons (aVar 24) aNil)))) (aRet (aC (.bl false))) aSkip)
  (aRet (aOrV (aBin dGt (aCallZ 1 1 S__law_pick (aCons (aC (.int 3)) aNil)) (aC (.int 0))) (aCall0 (S__law_many_right FA)))))))))) A ρ
theorem n_wide {F : Int} (h : 100 ≤ F) : normL [(F, none), (3, some (F - 2))] = [(3, some (F - 2)), (F, none)] := by
  refine normL_is (by simp; omega) ⟨by decide, by omega, by omega, rfl⟩ fun n => ?_
  simp only [memB_cons]
  cases inB (3, some (F - 2)) n <;> cases inB (F, none) n <;> rfl
theorem n_late {F : Int} (h : 100 ≤ F) : normL [(F - 2, some (F + 5))] = [(F - 2, some (F + 5))] :=
  normL_is (by simp; omega) ⟨by omega, by omega, trivial⟩ fun n => rfl
theorem n_joint {F : Int} (h : 100 ≤ F) : normL [(3, some (F - 1)), (F, none)] = [(3, none)] := by
  refine normL_is (by simp; omega) ⟨by decide, rfl⟩ fun n => ?_
  rw [Bool.eq_iff_iff]
  simp [memB, inB, upB]
  omega
theorem n_both {F : Int} (h : 100 ≤ F) : normL (pairs [(3, some (F - 2)), (F, none)] [(F - 2, some (F + 5))]) = [(F - 2, some (F - 2)), (F, some (F + 5))] := by
  refine normL_is (pairs_nn (by simp; omega)) ⟨by omega, by omega, by omega, by omega, trivial⟩ fun n => ?_
  rw [memB_pairs, Bool.eq_iff_iff]
  simp [memB, inB, upB]
  omega
theorem n_out {F : Int} (h : 100 ≤ F) : normL (gaps 0 [(3, some (F - 2)), (F, none)]) = [(0, some 2), (F - 1, some (F - 1))] := by
  refine normL_is (gaps_nn _ _ (Int.le_refl _) ⟨by decide, by omega, by omega, rfl⟩) ⟨by decide, by decide, by omega, by omega, trivial⟩ fun n => ?_
  have e : gaps 0 [(3, some (F - 2)), (F, none)] = [(0, some (3 - 1)), (F - 2 + 1, some (F - 1))] := rfl
  rw [e, Bool.eq_iff_iff]
  simp [memB, inB, upB]
  omega
theorem inR_0 {B : Nat} : InR B [] := fun s hs => nomatch hs
theorem inR_n {B : Nat} {b : Int} {l : List Sx} (h : b.natAbs ≤ B) (k : InR B l) : InR B ((b, none) :: l) := by
  intro s hs
  rcases List.mem_cons.mp hs with rfl | hs
  · exact ⟨h, fun e he => nomatch he⟩
  · exact k s hs
theorem inR_s {B : Nat} {b e : Int} {l : List Sx} (h : b.natAbs ≤ B) (he : e.natAbs ≤ B) (k : InR B l) : InR B ((b, some e) :: l) := by
  intro s hs
  rcases List.mem_cons.mp hs with rfl | hs
  · refine ⟨h, fun e' he' => ?_⟩
    cases he'
    exact he
  · exact k s hs
theorem sh2 {n L : Nat} {x y : D} (h : Sh n L x) (k : Sh n L y) : ∀ z ∈ [x, y], Sh n L z := by
  intro z hz
  simp at hz
  rcases hz with rfl | rfl
  · exact h
  · exact k
theorem sh3 {n L : Nat} {x y w : D} (h : Sh n L x) (k : Sh n L y) (m : Sh n L w) : ∀ z ∈ [x, y, w], Sh n L z := by
  intro z hz
  simp at hz
  rcases hz with rfl | rfl | rfl
  · exact h
  · exact k
  · exact m
theorem law3_holds (FA : Addr → Nat → AF → Prop) {A : AEnds} (hrt : A.rt (.bl true)) (v2 v3 v4 v5 v6 v7 v8 v9 v10 v11 v12 v13 v14 v15 v16 v17 v18 v19 v20 : AV) : d_law3 FA A [.un, .src, v2, v3, v4, v5, v6, v7, v8, v9, v10, v11, v12, v13, v14, v15, v16, v17, v18, v19, v20, .un, .un, .un, .un, .un, .un, .un, .un, .un] := by
  unfold d_law3
  refine seq_cut fun T hT => ?_
  simp
  refine ⟨⟨by decide, by decide, by decide⟩, ⟨by decide, by decide, by decide, by decide, line_ok (Nat.le_trans len290 (by decide)), line_ok (Nat.le_trans (Nat.add_le_add_left len290 _) (by decide)), 10 ^ 290, text290, len291, ⟨by decide, by decide, by decide⟩, three_line, _, _, rfl, .inl rfl, by simp, by simp, fun y hy => ?_⟩⟩
  obtain ⟨i, rfl, i0, i1⟩ := far_ok (y := y) (by simpa using hy)
  refine ⟨9, rfl, by decide, by decide, fun k k0 k1 => ?_⟩
  have k1 : k < 9 := by omega
  simp
  refine hT _ ?_
  clear hT T
  obtain ⟨F, hF⟩ : ∃ F, F = i + k := ⟨_, rfl⟩
  rw [← hF]
  have F0 : 100 ≤ F := by omega
  obtain ⟨B, hB⟩ : ∃ B, B = 10 ^ 290 + 100 := ⟨_, rfl⟩
  have B1 : B < 2 ^ 1920 := by rw [hB]; exact p290_lt
  have F1 : F.natAbs + 50 ≤ B := by
    have : F.natAbs ≤ i.natAbs + 9 := by omega
    rw [hB]
    omega
  clear hF hB hy i0 i1
  refine seq_cut fun T hT => ?_
  simp
  refine ⟨two_line, c_told (l := [(F, none), (3, some (F - 2))]) (.inl rfl) (by simp) (by simp; omega) ?_⟩
  rw [n_wide F0]
  refine ⟨two_line, line_ok (by decide), c_told (l := [(F - 2, some (F + 5))]) (.inl rfl) (by simp) (by simp; omega) ?_⟩
  rw [n_late F0]
  refine hT _ ?_
  clear hT T
  obtain ⟨W, hW⟩ : ∃ W : List Sx, W = [(3, some (F - 2)), (F, none)] := ⟨_, rfl⟩
  obtain ⟨L, hL⟩ : ∃ L : List Sx, L = [(F - 2, some (F + 5))] := ⟨_, rfl⟩
  rw [← hW, ← hL]
  refine seq_cut fun T hT => ?_
  simp [-dNe2]
  have shW : Sh 63 250000 (.tup (encL W)) := by
    rw [hW]
    exact sh_lot (n := 61) B1 (inR_s (by omega) (by omega) (inR_n (by omega) inR_0)) (by simp)
  have shJ : Sh 63 250000 (.tup (encL [(3, none)])) := sh_lot (n := 61) B1 (inR_n (by omega) inR_0) (by simp)
  have canW : Can 0 W := by
    rw [hW]
    exact ⟨by decide, by omega, by omega, rfl⟩
  have wlen : W.length = 2 := by rw [hW]; rfl
  have llen : L.length = 1 := by rw [hL]; rfl
  refine ⟨two_line, c_told (l := [(3, some (F - 1)), (F, none)]) (.inl rfl) (by simp) (by simp; omega) ?_⟩
  rw [n_joint F0]
  obtain ⟨X, hX⟩ : ∃ X, X = D.lst [.tup (encL W), .tup (encL [(3, none)])] := ⟨_, rfl⟩
  have shX : Sh 64 800000 X := by
    rw [hX]
    exact sh_lst (sh2 shW shJ) (by simp)
  rw [← hX]
  refine ⟨two_line, rep_go shX (by decide) ⟨two_line, line_ok (by decide), two_line, ?_⟩⟩
  generalize hx : X.py.shown = x
  have e2 : D.lst [D.tup [D.tup [D.int 3, D.int (F - 2)], D.tup [D.int F, D.non]], D.tup [D.tup [D.int 3, D.non]]] = X := by rw [hX, hW]; rfl
  rw [e2]
  refine rep_go shX (by decide) ?_
  rw [hx]
  refine str_ne ?_
  simp
  refine hT _ ?_
  clear hT T hx x e2 shX hX X
  refine seq_cut fun T hT => ?_
  simp [-dNe2]
  obtain ⟨Y, hY⟩ : ∃ Y, Y = D.tup (encL [(F - 2, some (F - 2)), (F, some (F + 5))]) := ⟨_, rfl⟩
  have shY : Sh 64 250000 Y := by
    rw [hY]
    exact sh_lot (n := 62) B1 (inR_s (by omega) (by omega) (inR_s (by omega) (by omega) inR_0)) (by simp)
  have eM : normL (pairs W L) = [(F - 2, some (F - 2)), (F, some (F + 5))] := by rw [hW, hL]; exact n_both F0
  refine ⟨W, L, rfl, by rw [wlen, llen]; decide, by rw [llen]; decide, can_nn (Int.le_refl _) canW, ?_⟩
  rw [eM]
  refine told_ok (by simp) ?_
  rw [← hY]
  refine rep_go shY (by decide) ⟨two_line, ?_⟩
  generalize hy : Y.py.shown = y
  have e3 : D.tup [D.tup [D.int (F - 2), D.int (F - 2)], D.tup [D.int F, D.int (F + 5)]] = Y := by rw [hY]; rfl
  rw [e3]
  refine rep_go shY (by decide) ?_
  rw [hy]
  refine str_ne ?_
  simp [-dNe2]
  have eO : firstO L = .int 0 := by
    rw [hL]
    have : 0 < F - 2 := by omega
    exact if_pos this
  refine ⟨L, rfl, ?_⟩
  rw [eO]
  refine int_ne ?_
  simp
  refine hT _ ?_
  clear hT T hy y e3 shY eM hY Y
  refine seq_cut fun T hT => ?_
  simp
  refine ⟨two_line, three_line, hT _ ?_⟩
  clear hT T
  refine seq_cut fun T hT => ?_
  simp [-dNe2]
  obtain ⟨Z, hZ⟩ : ∃ Z, Z = D.lst [D.tup [D.tup [D.int 0, D.int 2], D.tup [D.int (F - 1), D.int (F - 1)]], D.int (F - 2), D.int (F + 1)] := ⟨_, rfl⟩
  have shZ : Sh 64 800000 Z := by
    rw [hZ]
    have a : Sh 63 250000 (.tup (encL [(0, some 2), (F - 1, some (F - 1))])) := sh_lot (n := 61) B1 (inR_s (by omega) (by omega) (inR_s (by omega) (by omega) inR_0)) (by simp)
    have b : Sh 63 250000 (.int (F - 2)) := (sh_int (log_lt (B := B) (by decide) (by omega) B1)).up (by decide)
    have c : Sh 63 250000 (.int (F + 1)) := (sh_int (log_lt (B := B) (by decide) (by omega) B1)).up (by decide)
    exact sh_lst (sh3 a b c) (by simp)
  rw [← hZ]
  have eU : normL (gaps 0 W) = [(0, some 2), (F - 1, some (F - 1))] := by rw [hW]; exact n_out F0
  refine ⟨W, rfl, canW, by rw [wlen]; decide, ?_⟩
  rw [eU]
  refine told_ok (by simp) ?_
  refine ⟨L, rfl, ?_⟩
  have eI : firstI L = .int (F - 2) := by rw [hL]; rfl
  rw [eI]
  have eQ : firstO [(0, some F)] = .int (F + 1) := by simp [firstO]
  refine ⟨two_line, line_ok (by decide), [(0, some F)], rfl, ?_⟩
  rw [eQ]
  refine ⟨three_line, ?_⟩
  have eZ : D.lst [D.tup (encL [(0, some 2), (F - 1, some (F - 1))]), .int (F - 2), .int (F + 1)] = Z := by rw [hZ]; rfl
  rw [eZ]
  refine rep_go shZ (by decide) ?_
  generalize hz : Z.py.shown = z
  refine rep_go shZ (by decide) ?_
  rw [hz]
  refine str_ne ?_
  simp
  refine hT _ ?_
  clear hT T hz z eZ shZ hZ
  simp
  refine ⟨3, rfl, by decide, by decide, fun j j0 j1 => ?_⟩
  by_cases c : 0 < j
  · simpa [c] using hrt
  · simp [c]
    exact ⟨rfl, hrt⟩
end PU
set_option Elab.async false
set_option linter.all false
set_option maxRecDepth 100000
namespace PU
open PySem PySem.Spec L2 StX RZ
set_option autoImplicit false
abbrev Sgn := Sx × Int
abbrev S14 (v2 v3 v4 v5 v6 v7 v8 v9 v10 v11 v12 v13 : AV) (a b c d e : AV) : List AV := [.un, .src, v2, v3, v4, v5, v6, v7, v8, v9, v10, v11, v12, v13, a, b, c, d, e, .un, .un, .un, .un, .un, .un, .un, .un, .un, .un, .un]
theorem signs_ne (s : Int) : ([1, 0, -1].filter fun n : Int => !decide (n = s)) ≠ [] := by
  by_cases h : s = 1
  · subst h; decide
  · intro e
    rw [List.filter_cons_of_pos (by simp; omega)] at e
    cases e
theorem signs_loop {A : AEnds} {v2 v3 v4 v5 v6 v7 v8 v9 v10 v11 v12 v13 : AV} : ∀ (n : Nat) (lo : Int) (acc : List Sgn) (p s : Int) (v17 v18 : AV), acc.length + n ≤ 5 → 0 ≤ p → p ≤ 15 * acc.length → (∀ q ∈ acc, okSt q.1) →
    (∀ (acc : List Sgn) (p s : Int) (v17 v18 : AV), acc.length ≤ 5 → 0 ≤ p → p ≤ 75 → (∀ q ∈ acc, okSt q.1) → A.nx (S14 v2 v3 v4 v5 v6 v7 v8 v9 v10 v11 v12 v13 (.own (.lst (acc.map encG))) (.dat (.int p)) (.dat (.int s)) v17 v18)) →
    aForL g_law_9 b_law_9 (upto lo n) A (S14 v2 v3 v4 v5 v6 v7 v8 v9 v10 v11 v12 v13 (.own (.lst (acc.map encG))) (.dat (.int p)) (.dat (.int s)) v17 v18)
  | 0, lo, acc, p, s, v17, v18, hl, h0, h1, ho, h => h acc p s v17 v18 (by omega) h0 (by omega) ho
  | n + 1, lo, acc, p, s, v17, v18, hl, h0, h1, ho, h => by
    rw [upto_cons, aForL_cons]
    simp [g_law_9, b_law_9]
    refine ⟨15, rfl, by decide, by decide, fun k k0 k1 => ?_⟩
    have k1 : k < 15 := by omega
    simp
    refine ⟨three_line, line_lt (by omega), three_line, ?_⟩
    refine lc_go (α := Int) (l := [1, 0, -1]) (en := D.int) (p := fun n => !decide (n = s)) (f := D.int) rfl (fun m _ C C' c1 c2 => ?_) (by simp) ?_
    · by_cases hm : m = s
      · have := c2 (by simpa using hm)
        simpa [lg_law_8, lt_law_8, le_law_8, hm] using this
      · have := c1 (by simpa using hm)
        simpa [lg_law_8, lt_law_8, le_law_8, hm] using this
    · refine ⟨_, _, rfl, .inl rfl, ?_, ?_, fun y hy => ?_⟩
      · intro e
        exact signs_ne s (List.map_eq_nil_iff.mp e)
      · rw [List.length_map]
        exact Nat.lt_of_le_of_lt (List.length_filter_le _ _) (by decide)
      · obtain ⟨t, _, rfl⟩ := List.mem_map.mp hy
        have ih := signs_loop (A := A) (v2 := v2) (v3 := v3) (v4 := v4) (v5 := v5) (v6 := v6) (v7 := v7) (v8 := v8) (v9 := v9) (v10 := v10) (v11 := v11) (v12 := v12) (v13 := v13) n (lo + 1) (acc ++ [((p, some (p + k)), s)]) (p + k + 1) t (.dat (.int lo)) (.dat (.int (p + k))) (by simp; omega) (by omega) (by simp; omega) (fun q hq => ?_) h
        · rw [List.map_append] at ih
          exact ih
        · rcases List.mem_append.mp hq with hq | hq
          · exact ho q hq
          · rw [List.mem_singleton.mp hq]
            refine ⟨h0, by show p < 110; omega, fun e he => ?_⟩
            have : e = p + k := by simpa using he.symm
            omega
end PU
set_option Elab.async false
set_option linter.all false
set_option maxRecDepth 100000
namespace PU
open PySem PySem.Spec L2 StX RZ
set_option autoImplicit false
theorem sg_filter (ws : List Int) (n : Int) : ∀ sg : List Sgn, (sg.filter fun q => inB q.1 n && ws.contains q.2).isEmpty = !memB ((sg.filter fun q => ws.contains q.2).map (·.1)) n
  | [] => rfl
  | q :: sg => by
    have ih := sg_filter ws n sg
    by_cases h : ws.contains q.2 = true
    · rw [List.filter_cons_of_pos (p := fun q : Sgn => ws.contains q.2) h, List.map_cons, memB_cons]
      by_cases k : inB q.1 n = true
      · rw [List.filter_cons_of_pos (p := fun q : Sgn => inB q.1 n && ws.contains q.2) (by show (inB q.1 n && ws.contains q.2) = true; rw [h, k]; rfl), k]
        rfl
      · have k' : inB q.1 n = false := by simpa using k
        rw [List.filter_cons_of_neg (p := fun q : Sgn => inB q.1 n && ws.contains q.2) (by simp [k']), ih, k', Bool.false_or]
    · have h' : ws.contains q.2 = false := by simpa using h
      rw [List.filter_cons_of_neg (p := fun q : Sgn => inB q.1 n && ws.contains q.2) (by show ¬ (inB q.1 n && ws.contains q.2) = true; rw [h']; simp), List.filter_cons_of_neg (p := fun q : Sgn => ws.contains q.2) h, ih]
theorem in_ints (s : Int) : ∀ ws : List Int, inD (.int s) (ws.map .int) = ws.contains s
  | [] => rfl
  | w :: ws => by
    have ih := in_ints s ws
    show (eqD (.int w) (.int s) || inD (.int s) (ws.map .int)) = (s == w || ws.contains s)
    rw [ih, eqD_int]
    congr 1
    rw [Bool.eq_iff_iff]
    simp
    exact eq_comm
theorem signs_step {sg : List Sgn} {ws : List Int} {l : List Sx} (hl : l = (sg.filter fun q => ws.contains q.2).map (·.1)) (lsg : sg.length ≤ 6) {v2 v3 v4 v5 v6 v7 v8 v9 v10 v11 v13 v15 v16 v17 v18 a : AV} {d12 : D} (ha : a = .own (.lst (sg.map encG)) ∨ a = .dat (.lst (sg.map encG))) (i : Nat) :
    StepLC2 lg_law_11 aYes le_law_11 [12] [.un, .src, v2, v3, v4, v5, v6, v7, v8, v9, v10, v11, .dat d12, v13, a, v15, v16, v17, v18, .dat (.tup (ws.map .int)), .un, .un, .un, .un, .un, .un, .un, .un, .un, .un] [.un, .src, v2, v3, v4, v5, v6, v7, v8, v9, v10, v11, .dat d12, v13, .dat (.lst (sg.map encG)), v15, v16, v17, v18, .dat (.tup (ws.map .int)), .un, .un, .un, .un, .un, .un, .un, .un, .un, .un] (.int (i : Int)) true (.bl (memB l (i : Int))) := by
  intro C C' k1 k2
  have := k1 rfl
  rcases ha with rfl | rfl
  · simp [lg_law_11, le_law_11]
    refine lc_go (α := Sgn) (l := sg) (en := encG) (p := fun q => inB q.1 (i : Int) && ws.contains q.2) (f := fun _ => .int 1) rfl (fun q _ C C' c1 c2 => ?_) (by omega) ?_
    · obtain ⟨⟨b, e⟩, w⟩ := q
      have inw : inD (.int w) (ws.map .int) = ws.contains w := in_ints w ws
      have shw : ∀ x ∈ ws.map D.int, D.shp 63 x := fun x hx => by
        obtain ⟨_, _, rfl⟩ := List.mem_map.mp hx
        exact shp_int _
      have dn : ∀ Q : D → Prop, dIn false (.int w) (.tup (ws.map .int)) Q ↔ Q (.bl (ws.contains w)) := fun Q => by
        simp only [dIn, inw, Bool.false_xor]
        exact ⟨fun h => h.2.2, fun h => ⟨shp_int _, shw, h⟩⟩
      by_cases c : b ≤ (i : Int)
      · by_cases c3 : ws.contains w = true
        · have c4 : w ∈ ws := by simpa using c3
          cases e with
          | none =>
            have := c1 (by show (inB (b, none) (i : Int) && ws.contains w) = true; rw [c3]; simp [inB, upB, c])
            simpa [lg_law_10, lt_law_10, le_law_10, encG, eD, c, dn, c3, c4] using this
          | some e =>
            by_cases c2' : (i : Int) ≤ e
            · have := c1 (by show (inB (b, some e) (i : Int) && ws.contains w) = true; rw [c3]; simp [inB, upB, c, c2'])
              simpa [lg_law_10, lt_law_10, le_law_10, encG, eD, c, c2', dn, c3, c4] using this
            · have := c2 (by show (inB (b, some e) (i : Int) && ws.contains w) = false; simp [inB, upB, c, c2'])
              simpa [lg_law_10, lt_law_10, le_law_10, encG, eD, c, c2', dn, c3, c4] using this
        · have c3' : ws.contains w = false := by simpa using c3
          have c4 : ¬ w ∈ ws := by simpa using c3
          have := c2 (by show (inB (b, e) (i : Int) && ws.contains w) = false; rw [c3']; simp)
          cases e with
          | none => simpa [lg_law_10, lt_law_10, le_law_10, encG, eD, c, dn, c3', c4] using this
          | some e => by_cases c2' : (i : Int) ≤ e <;> simpa [lg_law_10, lt_law_10, le_law_10, encG, eD, c, c2', dn, c3', c4] using this
      · have := c2 (by show (inB (b, e) (i : Int) && ws.contains w) = false; simp [inB, c])
        simpa [lg_law_10, lt_law_10, le_law_10, encG, eD, c] using this
    · have e1 : (List.map (fun _ => D.int 1) (sg.filter fun q => inB q.1 (i : Int) && ws.contains q.2)).isEmpty = !memB l (i : Int) := by rw [List.isEmpty_map, sg_filter, hl]
      simp only [dNe2, dNe, eqD_nil, e1, Bool.not_not, shp64_lst]
      refine ⟨fun x hx => ?_, (by simp), this⟩
      obtain ⟨_, _, rfl⟩ := List.mem_map.mp hx
      exact shp_int _
  · simp [lg_law_11, le_law_11]
    refine lc_go (α := Sgn) (l := sg) (en := encG) (p := fun q => inB q.1 (i : Int) && ws.contains q.2) (f := fun _ => .int 1) rfl (fun q _ C C' c1 c2 => ?_) (by omega) ?_
    · obtain ⟨⟨b, e⟩, w⟩ := q
      have inw : inD (.int w) (ws.map .int) = ws.contains w := in_ints w ws
      have shw : ∀ x ∈ ws.map D.int, D.shp 63 x := fun x hx => by
        obtain ⟨_, _, rfl⟩ := List.mem_map.mp hx
        exact shp_int _
      have dn : ∀ Q : D → Prop, dIn false (.int w) (.tup (ws.map .int)) Q ↔ Q (.bl (ws.contains w)) := fun Q => by
        simp only [dIn, inw, Bool.false_xor]
        exact ⟨fun h => h.2.2, fun h => ⟨shp_int _, shw, h⟩⟩
      by_cases c : b ≤ (i : Int)
      · by_cases c3 : ws.contains w = true
        · have c4 : w ∈ ws := by simpa using c3
          cases e with
          | none =>
            have := c1 (by show (inB (b, none) (i : Int) && ws.contains w) = true; rw [c3]; simp [inB, upB, c])
            simpa [lg_law_10, lt_law_10, le_law_10, encG, eD, c, dn, c3, c4] using this
          | some e =>
            by_cases c2' : (i : Int) ≤ e
            · have := c1 (by show (inB (b, some e) (i : Int) && ws.contains w) = true; rw [c3]; simp [inB, upB, c, c2'])
              simpa [lg_law_10, lt_law_10, le_law_10, encG, eD, c, c2', dn, c3, c4] using this
            · have := c2 (by show (inB (b, some e) (i : Int) && ws.contains w) = false; simp [inB, upB, c, c2'])
              simpa [lg_law_10, lt_law_10, le_law_10, encG, eD, c, c2', dn, c3, c4] using this
        · have c3' : ws.contains w = false := by simpa using c3
          have c4 : ¬ w ∈ ws := by simpa using c3
          have := c2 (by show (inB (b, e) (i : Int) && ws.contains w) = false; rw [c3']; simp)
          cases e with
          | none => simpa [lg_law_10, lt_law_10, le_law_10, encG, eD, c, dn, c3', c4] using this
          | some e => by_cases c2' : (i : Int) ≤ e <;> simpa [lg_law_10, lt_law_10, le_law_10, encG, eD, c, c2', dn, c3', c4] using this
      · have := c2 (by show (inB (b, e) (i : Int) && ws.contains w) = false; simp [inB, c])
        simpa [lg_law_10, lt_law_10, le_law_10, encG, eD, c] using this
    · have e1 : (List.map (fun _ => D.int 1) (sg.filter fun q => inB q.1 (i : Int) && ws.contains q.2)).isEmpty = !memB l (i : Int) := by rw [List.isEmpty_map, sg_filter, hl]
      simp only [dNe2, dNe, eqD_nil, e1, Bool.not_not, shp64_lst]
      refine ⟨fun x hx => ?_, (by simp), this⟩
      obtain ⟨_, _, rfl⟩ := List.mem_map.mp hx
      exact shp_int _
theorem law2_holds (FA : Addr → Nat → AF → Prop) {A : AEnds} (hrt : A.rt (.bl true)) (v2 v3 v4 v5 v6 v7 v8 v9 v10 v11 v13 : AV) (d12 : D) : d_law2 FA A [.un, .src, v2, v3, v4, v5, v6, v7, v8, v9, v10, v11, .dat d12, v13, .un, .un, .un, .un, .un, .un, .un, .un, .un, .un, .un, .un, .un, .un, .un, .un] := by
  unfold d_law2
  refine seq_cut fun T hT => ?_
  simp
  refine ⟨three_line, _, _, rfl, .inl rfl, by simp, by decide, fun y hy => ?_⟩
  have hy : ∃ s, y = .int s := by
    simp at hy
    rcases hy with rfl | rfl | rfl
    · exact ⟨_, rfl⟩
    · exact ⟨_, rfl⟩
    · exact ⟨_, rfl⟩
  obtain ⟨s, rfl⟩ := hy
  refine hT _ ?_
  clear hT T
  refine seq_cut fun T hT => ?_
  simp [-aForL_cons]
  refine ⟨6, rfl, by decide, by decide, fun k k0 k1 => ?_⟩
  have k1 : k < 6 := by omega
  simp [-aForL_cons, Small]
  refine ⟨⟨by omega, by omega⟩, ?_⟩
  refine signs_loop (A := _) k.toNat 0 [] 0 s .un .un (by simp; omega) (by decide) (by decide) (by simp) fun acc p s v17 v18 hl h0 h1 ho => hT _ ?_
  clear hT T
  refine seq_cut fun T hT => ?_
  simp
  refine ⟨three_line, line_lt (by omega), hT _ ?_⟩
  clear hT T
  obtain ⟨sg, hsg⟩ : ∃ sg : List Sgn, sg = acc ++ [((p, none), s)] := ⟨_, rfl⟩
  have esg : acc.map encG ++ [.tup [.int p, .non, .int s]] = sg.map encG := by rw [hsg, List.map_append]; rfl
  rw [esg]
  have lsg : sg.length ≤ 6 := by rw [hsg]; simp; omega
  have osg : ∀ q ∈ sg, okSt q.1 := fun q hq => by
    rw [hsg] at hq
    rcases List.mem_append.mp hq with hq | hq
    · exact ho q hq
    · rw [List.mem_singleton.mp hq]
      exact ⟨h0, by show p < 110; omega, fun e he => nomatch he⟩
  clear hsg esg ho hl
  refine seq_cut fun T hT => ?_
  simp
  refine ⟨line_ok (by decide), two_line, three_line, line_ok (by decide), _, _, rfl, .inl rfl, by simp, by simp, fun y hy => ?_⟩
  have hy : ∃ ws : List Int, y = .tup (ws.map .int) := by
    simp at hy
    rcases hy with rfl | rfl | rfl | rfl | rfl | rfl | rfl | rfl
    · exact ⟨[1], rfl⟩
    · exact ⟨[0], rfl⟩
    · exact ⟨[-1], rfl⟩
    · exact ⟨[1, 0], rfl⟩
    · exact ⟨[0, -1], rfl⟩
    · exact ⟨[1, -1], rfl⟩
    · exact ⟨[1, 0, -1], rfl⟩
    · exact ⟨[], rfl⟩
  obtain ⟨ws, rfl⟩ := hy
  refine hT _ ?_
  clear hT T
  obtain ⟨l, hl⟩ : ∃ l : List Sx, l = (sg.filter fun q => ws.contains q.2).map (·.1) := ⟨_, rfl⟩
  have ll : l.length ≤ 7 := by
    rw [hl, List.length_map]
    exact Nat.le_trans (List.length_filter_le _ _) (by omega)
  have ol : ∀ x ∈ l, okSt x := fun x hx => by
    rw [hl] at hx
    obtain ⟨q, hq, rfl⟩ := List.mem_map.mp hx
    exact osg q (List.mem_filter.mp hq).1
  have Ll := okSt_lot ol ll
  refine seq_cut fun T hT => ?_
  simp [Small]
  obtain ⟨rest, hr⟩ : ∃ rest, List.range 130 = 0 :: rest := ⟨(List.range 129).map Nat.succ, List.range_succ_eq_map⟩
  have hrl : rest.length = 129 := by
    have := congrArg List.length hr
    simp at this
    omega
  refine lc_first (en := fun i : Nat => D.int (i : Int)) (p := fun _ => true) (f := fun i : Nat => .bl (memB l (i : Int))) (by rw [upto_map, hr]) (signs_step hl lsg (.inl rfl) 0) (fun i _ => signs_step hl lsg (.inr rfl) i) (by omega) ?_
  rw [← hr]
  rw [tr_map (memB l)]
  refine hT _ ?_
  clear hT T
  refine seq_cut fun T hT => ?_
  simp [-dNe2]
  refine ⟨sg, ws, rfl, by omega, fun q hq => (osg q hq).1, ?_⟩
  rw [← hl]
  refine told_ok (Nat.le_trans Ll.len (by decide)) (rep_go (Ll.sh (by decide)) (by decide) (c_lot Ll (rep_go (Ll.sh (by decide)) (by decide) (str_ne ?_))))
  simp
  refine hT _ ?_
  clear hT T
  exact law3_holds FA hrt _ _ _ _ _ _ _ _ _ _ _ _ _ _ _ _ _ _ _
end PU
set_option Elab.async false
set_option linter.all false
set_option maxRecDepth 100000
namespace PU
open PySem PySem.Spec L2 StX RZ
set_option autoImplicit false
abbrev S9 (l1 l2 c1 c2 cb ca co : List Sx) (f1 f2 fb fa fo : Int → Bool) (v : AV) : List AV := [.un, .src, .dat (.lst (encL l1)), .dat (.lst (encL l2)), .dat (.tup (encL c1)), .dat (.tup (encL c2)), .dat (blL (truths f1)), .dat (blL (truths f2)), .dat (.tup (encL cb)), .dat (.tup (encL ca)), .dat (.tup (encL co)), .dat (.lst [blL (truths fb), blL (truths fa), blL (truths fo)]), v, .un, .un, .un, .un, .un, .un, .un, .un, .un, .un, .un, .un, .un, .un, .un, .un, .un]
theorem has_loop {l1 l2 c1 c2 cb ca co : List Sx} {f1 f2 fb fa fo : Int → Bool} {A : AEnds} (o1 : okFL (f1, c1)) (ob : okFL (fb, cb)) (oa : okFL (fa, ca)) (oo : okFL (fo, co)) : ∀ (ns : List Int) (v : AV), (ns = [] → ∃ d, v = .dat d) → (∀ n ∈ ns, 0 ≤ n ∧ n < 130) → (∀ d, A.nx (S9 l1 l2 c1 c2 cb ca co f1 f2 fb fa fo (.dat d))) → aForL g_law_7 b_law_7 (ns.map .int) A (S9 l1 l2 c1 c2 cb ca co f1 f2 fb fa fo v)
  | [], v, hv, _, h => by
    obtain ⟨d, rfl⟩ := hv rfl
    exact h d
  | n :: ns, v, _, hn, h => by
    obtain ⟨n0, n1⟩ := hn n List.mem_cons_self
    have ih := has_loop (l1 := l1) (l2 := l2) (c2 := c2) (f2 := f2) (A := A) o1 ob oa oo ns (.dat (.int n)) (fun _ => ⟨_, rfl⟩) (fun m hm => hn m (List.mem_cons_of_mem _ hm)) h
    show aForL _ _ (.int n :: ns.map .int) A _
    rw [aForL_cons]
    simp [g_law_7, b_law_7, -dNe2]
    refine ⟨line_ok (by decide), ?_⟩
    refine lc_go (α := FL) (l := [(f1, c1), (fb, cb), (fa, ca), (fo, co)]) (en := fun p => .tup (encL p.2)) (p := fun _ => true) (f := fun p => .bl (p.1 n)) rfl (fun p hp C C' k1 k2 => ?_) (by simp) ?_
    · have := k1 rfl
      have ok : okFL p := by
        simp at hp
        rcases hp with rfl | rfl | rfl | rfl
        · exact o1
        · exact ob
        · exact oa
        · exact oo
      obtain ⟨L, hL, ok⟩ := ok
      simp [lg_law_5, le_law_5]
      refine ⟨p.2, n, rfl, Nat.le_trans ok.len (by omega), ?_⟩
      rw [ok.mem n n0]
      exact this
    · simp [blL, idx_lst, -dNe2, -aForL_cons]
      refine ⟨_, tr_atI f1 n0 n1, line_ok (by decide), ?_⟩
      refine lc_go (α := FL) (l := [(fb, cb), (fa, ca), (fo, co)]) (en := fun p => .lst ((truths p.1).map .bl)) (p := fun _ => true) (f := fun p => .bl (p.1 n)) rfl (fun p hp C C' k1 k2 => ?_) (by simp) ?_
      · have := k1 rfl
        simp [lg_law_6, le_law_6, idx_lst]
        exact ⟨_, tr_atI p.1 n0 n1, this⟩
      · refine ⟨line_ok (by simp), ?_⟩
        show dNe2 (.lst [.bl (f1 n), .bl (fb n), .bl (fa n), .bl (fo n)]) (.lst [.bl (f1 n), .bl (fb n), .bl (fa n), .bl (fo n)]) _
        refine ne_bls4 ?_
        simp
        exact ih
theorem law_holds (FA : Addr → Nat → AF → Prop) : runL N_law (d_law FA) := by
  show d_law FA _ (.un :: .src :: .un :: .un :: .un :: .un :: .un :: .un :: .un :: .un :: .un :: .un :: .un :: .un :: .un :: .un :: .un :: .un :: .un :: .un :: .un :: .un :: .un :: .un :: .un :: .un :: .un :: .un :: .un :: .un :: [])
  generalize hA : ({ nx := fun _ => False, rt := fun d => d = .bl true } : AEnds) = A
  have hrt : A.rt (.bl true) := by rw [← hA]
  unfold d_law
  refine seq_cut fun T hT => ?_
  simp
  refine ⟨rfl, fun l1 h1 o1 => ⟨rfl, fun l2 h2 o2 => hT _ ?_⟩⟩
  clear hT T
  refine seq_cut fun T hT => ?_
  simp
  have L1 := okSt_lot o1 h1
  have L2 := norm_rev o2 h2
  refine c_told (.inl rfl) (by omega) (fun s hs => (o1 s hs).1) ?_
  refine c_told (l := l2.reverse) (.inr (by simp [encL])) (by simp; omega) (fun s hs => (o2 s (List.mem_reverse.mp hs)).1) ?_
  refine hT _ ?_
  clear hT T
  generalize hc1 : normL l1 = c1 at L1 ⊢
  generalize hc2 : normL l2.reverse = c2 at L2 ⊢
  refine seq_cut fun T hT => ?_
  simp
  refine ⟨l1, rfl, by omega, l2, rfl, by omega, hT _ ?_⟩
  clear hT T
  refine seq_cut fun T hT => ?_
  simp [-dNe2]
  refine ⟨two_line, rep_go (L := 600000) (sh_lst (L := 250000) (fun x hx => ?_) (by simp)) (by decide) (c_lot L1 (c_lot L2 ⟨two_line, rep_go (L := 600000) (sh_lst (L := 250000) (fun x hx => ?_) (by simp)) (by decide) (str_ne ?_)⟩))⟩
  · rcases List.mem_cons.mp hx with rfl | hx
    · exact L1.sh (by decide)
    · rw [List.mem_singleton.mp hx]
      exact L2.sh (by decide)
  · rcases List.mem_cons.mp hx with rfl | hx
    · exact L1.sh (by decide)
    · rw [List.mem_singleton.mp hx]
      exact L2.sh (by decide)
  have n1 := L1.len
  simp [-dNe2, encL_len]
  refine ⟨line_ok (by omega), c_told (l := c1 ++ c1) (.inr (by simp [encL])) (by simp; omega) (app_bound L1.nn L1.nn) ?_⟩
  rw [L1.self]
  refine rep_go (L1.sh (by decide)) (by decide) (rep_go (L1.sh (by decide)) (by decide) (str_ne ?_))
  simp
  refine hT _ ?_
  clear hT T
  refine seq_cut fun T hT => ?_
  simp
  refine c_both L1 L2 (by decide) (by decide) (c_any L1 L2 (by decide) (c_out L1 (by decide) (hT _ ?_)))
  clear hT T
  have LB := L1.both L2
  have LA := L1.any L2
  have LO := L1.out
  generalize hcb : normL (pairs c1 c2) = cb at LB ⊢
  generalize hca : normL (c1 ++ c2) = ca at LA ⊢
  generalize hco : normL (gaps 0 c1) = co at LO ⊢
  generalize hf1 : memB l1 = f1 at L1 L2 LB LA LO ⊢
  generalize hf2 : memB l2 = f2 at L1 L2 LB LA LO ⊢
  obtain ⟨T1, hT1⟩ : ∃ X, X = truths f1 := ⟨_, rfl⟩
  obtain ⟨T2, hT2⟩ : ∃ X, X = truths f2 := ⟨_, rfl⟩
  rw [← hT1, ← hT2]
  refine seq_cut fun T hT => ?_
  simp [blL]
  refine lc_go (en := fun i : Nat => D.tup [.bl (f1 (i : Int)), .bl (f2 (i : Int))]) (p := fun _ => true) (f := fun i : Nat => .bl (f1 (i : Int) && f2 (i : Int))) (by rw [hT1, hT2]; exact tr_zip f1 f2) (fun i _ C C' k1 k2 => ?_) (by simp) ?_
  · have := k1 rfl
    cases h : f1 (i : Int) <;> simpa [lg_law_3, le_law_3, h] using this
  refine lc_go (en := fun i : Nat => D.tup [.bl (f1 (i : Int)), .bl (f2 (i : Int))]) (p := fun _ => true) (f := fun i : Nat => .bl (f1 (i : Int) || f2 (i : Int))) (by rw [hT1, hT2]; exact tr_zip f1 f2) (fun i _ C C' k1 k2 => ?_) (by simp) ?_
  · have := k1 rfl
    cases h : f1 (i : Int) <;> simpa [lg_law_2, le_law_2, h] using this
  refine lc_go (en := fun i : Nat => D.bl (f1 (i : Int))) (p := fun _ => true) (f := fun i : Nat => .bl (!f1 (i : Int))) (by rw [hT1]; exact tr_one f1) (fun i _ C C' k1 k2 => ?_) (by simp) ?_
  · have := k1 rfl
    simpa [lg_law_1, le_law_1] using this
  rw [tr_map fun m => f1 m && f2 m, tr_map fun m => f1 m || f2 m, tr_map fun m => !f1 m]
  refine ⟨three_line, hT _ ?_⟩
  clear hT T
  subst hT1 hT2
  show aSeq _ _ A [.un, .src, .dat (.lst (encL l1)), .dat (.lst (encL l2)), .dat (.tup (encL c1)), .dat (.tup (encL c2)), .dat (blL (truths f1)), .dat (blL (truths f2)), .dat (.tup (encL cb)), .dat (.tup (encL ca)), .dat (.tup (encL co)), .dat (.lst [blL (truths fun m => f1 m && f2 m), blL (truths fun m => f1 m || f2 m), blL (truths fun m => !f1 m)]), .un, .un, .un, .un, .un, .un, .un, .un, .un, .un, .un, .un, .un, .un, .un, .un, .un, .un]
  refine seq_cut fun T hT => ?_
  simp [-dNe2]
  refine ⟨three_line, rep_go (L := 800000) (sh_lst (L := 250000) (fun x hx => ?_) (by simp)) (by decide) ?_⟩
  · simp at hx
    rcases hx with rfl | rfl | rfl
    · exact LB.sh (by decide)
    · exact LA.sh (by decide)
    · exact LO.sh (by decide)
  refine lc_go (α := FL) (l := [(fun m => f1 m && f2 m, cb), (fun m => f1 m || f2 m, ca), (fun m => !f1 m, co)]) (en := fun p => blL (truths p.1)) (p := fun _ => true) (f := fun p => .tup (encL p.2)) rfl (fun p hp C C' k1 k2 => ?_) (by simp) ?_
  · have := k1 rfl
    have ok : okFL p := by
      simp at hp
      rcases hp with rfl | rfl | rfl
      · exact ⟨_, by decide, LB⟩
      · exact ⟨_, by decide, LA⟩
      · exact ⟨_, by decide, LO⟩
    obtain ⟨L, hL, ok⟩ := ok
    simp [lg_law_4, le_law_4]
    exact c_lot ok this
  show dRepr [.lst [.tup (encL cb), .tup (encL ca), .tup (encL co)]] _
  refine rep_go (L := 800000) (sh_lst (L := 250000) (fun x hx => ?_) (by simp)) (by decide) (str_ne ?_)
  · simp at hx
    rcases hx with rfl | rfl | rfl
    · exact LB.sh (by decide)
    · exact LA.sh (by decide)
    · exact LO.sh (by decide)
  simp
  refine hT _ ?_
  clear hT T
  refine seq_cut fun T hT => ?_
  simp [-dNe2]
  have e1 : normL (pairs c2 c1) = cb := by
    have h := L2.both L1
    have z : (fun m => f2 m && f1 m) = fun m => f1 m && f2 m := funext fun m => Bool.and_comm _ _
    rw [z] at h
    exact h.uniq LB
  have e2 : normL (c2 ++ c1) = ca := by
    have h := L2.any L1
    have z : (fun m => f2 m || f1 m) = fun m => f1 m || f2 m := funext fun m => Bool.or_comm _ _
    rw [z] at h
    exact h.uniq LA
  have e3 : normL (gaps 0 co) = c1 := by
    have h := LO.out
    have z : (fun m => !!f1 m) = f1 := funext fun m => Bool.not_not _
    rw [z] at h
    exact h.uniq L1
  refine c_both L2 L1 (by decide) (by decide) ?_
  rw [e1]
  refine c_any L2 L1 (by decide) ?_
  rw [e2]
  refine c_out LO (by decide) ?_
  rw [e3]
  refine ⟨three_line, rep_go (L := 800000) (sh_lst (L := 250000) (fun x hx => ?_) (by simp)) (by decide) ⟨three_line, rep_go (L := 800000) (sh_lst (L := 250000) (fun x hx => ?_) (by simp)) (by decide) (str_ne ?_)⟩⟩
  · simp at hx
    rcases hx with rfl | rfl | rfl
    · exact LB.sh (by decide)
    · exact LA.sh (by decide)
    · exact L1.sh (by decide)
  · simp at hx
    rcases hx with rfl | rfl | rfl
    · exact LB.sh (by decide)
    · exact LA.sh (by decide)
    · exact L1.sh (by decide)
  simp
  refine hT _ ?_
  clear hT T
  refine seq_cut fun T hT => ?_
  simp [-aForL_cons]
  refine ⟨130, rfl, by decide, by decide, fun k k0 k1 => ⟨line_ok (by decide), ?_⟩⟩
  have k1 : k < 130 := by omega
  refine has_loop (l1 := l1) (l2 := l2) (c2 := c2) (f2 := f2) (fb := fun m => f1 m && f2 m) (fa := fun m => f1 m || f2 m) (fo := fun m => !f1 m) (A := _) ⟨7, by decide, L1⟩ ⟨_, by decide, LB⟩ ⟨_, by decide, LA⟩ ⟨_, by decide, LO⟩ [0, 59, 110, 129, k] _ (fun z => nomatch z) (fun n hn => ?_) fun v12 => hT _ ?_
  · simp at hn
    omega
  clear hT T
  refine seq_cut fun T hT => ?_
  refine ⟨⟨by decide, by decide, by decide⟩, rfl, c1, _, rfl, Nat.le_trans L1.len (by decide), ?_⟩
  have hp : (129 : Int) ≤ 10 ^ (30 : Int).toNat := by decide
  rw [L1.mem _ (by omega), L1.tail _ hp]
  simp [-dNe2, blL, idx_lst]
  refine ⟨_, tr_atI f1 (by decide) (by decide), ?_⟩
  refine bl_ne ?_
  simp [-dNe2]
  refine ⟨c1, rfl, rep_go L1.shI (by decide) ⟨truths f1, true, rfl, by rw [truths_len]; decide, ?_⟩⟩
  rw [L1.first]
  refine rep_go L1.shI (by decide) (str_ne ?_)
  simp
  refine hT _ ?_
  clear hT T
  refine seq_cut fun T hT => ?_
  simp [-dNe2]
  refine ⟨c1, rfl, rep_go L1.shO (by decide) ⟨truths f1, false, rfl, by rw [truths_len]; decide, ?_⟩⟩
  rw [L1.firstOut]
  refine rep_go L1.shO (by decide) (str_ne ?_)
  simp
  refine hT _ ?_
  clear hT T
  refine seq_cut fun T hT => ?_
  simp
  refine ⟨130, rfl, by decide, by decide, fun n n0 n1 => hT _ ?_⟩
  have n1 : n < 130 := by omega
  clear hT T
  refine seq_cut fun T hT => ?_
  simp [-dNe2]
  have ec : cutD ((truths f1).map D.bl) (some n) none = ((truths f1).drop n.toNat).map .bl := by
    rw [cut_from n0 (by rw [List.length_map, truths_len]; omega), List.map_drop]
  refine ⟨c1, n, rfl, Nat.le_trans L1.len (by decide), ?_⟩
  simp only [blL, dCut]
  rw [ec]
  simp only [dIn]
  refine ⟨shp_bl _, fun x hx => ?_, ?_⟩
  · obtain ⟨_, _, rfl⟩ := List.mem_map.mp hx
    exact shp_bl _
  rw [in_bls, Bool.true_xor, ← L1.ever n0 n1]
  refine bl_ne ?_
  simp
  refine ⟨two_line, line_ok (by decide), ⟨by decide, by decide, by decide⟩, [(0, none)], _, rfl, by decide, ?_⟩
  have ev : everB [(0, none)] (10 ^ (9 : Int).toNat) = true := by decide
  rw [ev]
  simp
  refine hT _ ?_
  exact law2_holds FA hrt _ _ _ _ _ _ _ _ _ _ _ _
end PU
set_option Elab.async false
set_option linter.all false
set_option maxRecDepth 100000
namespace PU
open PySem PySem.Spec L2 StX RZ
set_option autoImplicit false
def canB : Int → List Sx → Bool
  | _, [] => true
  | lo, (b, none) :: l => decide (lo ≤ b) && l.isEmpty
  | lo, (b, some e) :: l => decide (lo ≤ b) && decide (b ≤ e) && canB (e + 2) l
theorem canB_ok : ∀ {l : List Sx} {lo : Int}, canB lo l = true → Can lo l
  | [], lo, _ => trivial
  | (b, none) :: l, lo, h => by
    have h : (decide (lo ≤ b) && l.isEmpty) = true := h
    rw [Bool.and_eq_true, decide_eq_true_eq, List.isEmpty_iff] at h
    exact h
  | (b, some e) :: l, lo, h => by
    have h : (decide (lo ≤ b) && decide (b ≤ e) && canB (e + 2) l) = true := h
    rw [Bool.and_eq_true, Bool.and_eq_true, decide_eq_true_eq, decide_eq_true_eq] at h
    exact ⟨h.1.1, h.1.2, canB_ok h.2⟩
/-- n single places, three apart -/
def pts (d : Int) (n : Nat) : List Sx := (List.range n).map fun k : Nat => (3 * (k : Int) + d, some (3 * (k : Int) + d))
theorem pts_can60 : Can 0 (pts 0 60) := canB_ok (by decide +kernel)
theorem pts_can61 : Can 0 (pts 0 61) := canB_ok (by decide +kernel)
theorem pts_can1 : Can 0 (pts 1 60) := canB_ok (by decide +kernel)
theorem norm_self {c : List Sx} (h : Can 0 c) : normL c = c := normL_is (can_nn (Int.le_refl _) h) h fun _ => rfl
theorem pts_far : Can 0 (pts 0 60 ++ [(1000, some 1000)]) := canB_ok (by decide +kernel)
theorem pts_one : normL (pts 0 60 ++ [(1, some 1)]) = (0, some 1) :: (pts 0 60).drop 1 := by
  have e : pts 0 60 = (0, some 0) :: (pts 0 60).drop 1 := by decide +kernel
  refine normL_is (app_bound (can_nn (Int.le_refl _) pts_can60) (by simp)) (canB_ok (by decide +kernel)) fun n => ?_
  rw [memB_append]
  have e2 : memB (pts 0 60) n = (inB (0, some 0) n || memB ((pts 0 60).drop 1) n) := by
    rw [← memB_cons, ← e]
  rw [e2, memB_cons]
  have e3 : inB (0, some 1) n = (inB (0, some 0) n || memB [(1, some 1)] n) := by
    rw [Bool.eq_iff_iff]
    simp [memB, inB, upB]
    omega
  rw [e3]
  cases inB (0, some 0) n <;> cases memB [(1, some 1)] n <;> cases memB ((pts 0 60).drop 1) n <;> rfl
theorem pts_all : normL (pairs (pts 0 60) [(0, none)]) = pts 0 60 := by
  refine normL_is (pairs_nn (can_nn (Int.le_refl _) pts_can60)) pts_can60 fun n => ?_
  rw [memB_pairs]
  by_cases h : 0 ≤ n
  · have : memB [(0, none)] n = true := by simp [memB, inB, upB, h]
    rw [this, Bool.and_true]
  · rw [memB_neg (can_nn (Int.le_refl _) pts_can60) (by omega)]
    rfl
theorem gaps_len0 : (normL (gaps 0 (pts 0 60))).length = 60 := by
  have : normL (gaps 0 (pts 0 60)) = (gaps 0 (pts 0 60)).filter okB := normL_is (gaps_nn _ _ (Int.le_refl _) pts_can60) (canB_ok (by decide +kernel)) fun n => memB_filter _ n
  rw [this]
  decide +kernel
theorem gaps_len1 : (normL (gaps 0 (pts 1 60))).length = 61 := by
  have : normL (gaps 0 (pts 1 60)) = (gaps 0 (pts 1 60)).filter okB := normL_is (gaps_nn _ _ (Int.le_refl _) pts_can1) (canB_ok (by decide +kernel)) fun n => memB_filter _ n
  rw [this]
  decide +kernel
theorem len_pts (d : Int) (n : Nat) : (pts d n).length = n := by simp [pts]
theorem len_one : (normL (pts 0 60 ++ [(1, some 1)])).length = 60 := by rw [pts_one]; decide +kernel
section
variable {FA : Addr → Nat → AF → Prop} {f : Addr} {l m : List Sx}
theorem r_told (wk : WeakFA FA) (h : FA f 1 S_lot_told) (hl : l.length ≤ 1000) (hn : ∀ s ∈ l, 0 ≤ s.1) (k : (normL l).length ≤ 60) : FA f 1 (retA [.tup (encL l)] (encL (normL l))) :=
  wk _ _ _ _ h fun ds Q E q => ⟨_, l, q.1, .inr rfl, hl, hn, told_ok k q.2⟩
theorem x_told (wk : WeakFA FA) (h : FA f 1 S_lot_told) (hl : l.length ≤ 1000) (hn : ∀ s ∈ l, 0 ≤ s.1) (k : 60 < (normL l).length) : FA f 1 (raiA [.tup (encL l)] 3) :=
  wk _ _ _ _ h fun ds Q E q => ⟨_, l, q.1, .inr rfl, hl, hn, fun z => absurd z (by omega), fun _ => q.2⟩
theorem r_any (wk : WeakFA FA) (h : FA f 2 S_lots_any) (hl : l.length ≤ 400) (hm : m.length ≤ 400) (hn : ∀ s ∈ l, 0 ≤ s.1) (hn2 : ∀ s ∈ m, 0 ≤ s.1) (k : (normL (l ++ m)).length ≤ 60) : FA f 2 (retA [.tup (encL l), .tup (encL m)] (encL (normL (l ++ m)))) :=
  wk _ _ _ _ h fun ds Q E q => ⟨l, m, q.1, hl, hm, hn, hn2, told_ok k q.2⟩
theorem x_any (wk : WeakFA FA) (h : FA f 2 S_lots_any) (hl : l.length ≤ 400) (hm : m.length ≤ 400) (hn : ∀ s ∈ l, 0 ≤ s.1) (hn2 : ∀ s ∈ m, 0 ≤ s.1) (k : 60 < (normL (l ++ m)).length) : FA f 2 (raiA [.tup (encL l), .tup (encL m)] 3) :=
  wk _ _ _ _ h fun ds Q E q => ⟨l, m, q.1, hl, hm, hn, hn2, fun z => absurd z (by omega), fun _ => q.2⟩
theorem r_both (wk : WeakFA FA) (h : FA f 2 S_lots_both) (hl : l.length * m.length ≤ 900) (hm : m.length ≤ 400) (hn : ∀ s ∈ l, 0 ≤ s.1) (k : (normL (pairs l m)).length ≤ 60) : FA f 2 (retA [.tup (encL l), .tup (encL m)] (encL (normL (pairs l m)))) :=
  wk _ _ _ _ h fun ds Q E q => ⟨l, m, q.1, hl, hm, hn, told_ok k q.2⟩
theorem r_out (wk : WeakFA FA) (h : FA f 1 S_lot_out) (hl : l.length ≤ 400) (hn : Can 0 l) (k : (normL (gaps 0 l)).length ≤ 60) : FA f 1 (retA [.tup (encL l)] (encL (normL (gaps 0 l)))) :=
  wk _ _ _ _ h fun ds Q E q => ⟨l, q.1, hn, hl, told_ok k q.2⟩
theorem x_out (wk : WeakFA FA) (h : FA f 1 S_lot_out) (hl : l.length ≤ 400) (hn : Can 0 l) (k : 60 < (normL (gaps 0 l)).length) : FA f 1 (raiA [.tup (encL l)] 3) :=
  wk _ _ _ _ h fun ds Q E q => ⟨l, q.1, hn, hl, fun z => absurd z (by omega), fun _ => q.2⟩
end
end PU
set_option Elab.async false
set_option linter.all false
set_option maxRecDepth 100000
namespace PU
open PySem PySem.Spec L2 StX RZ
set_option autoImplicit false
theorem pts_run (n : Nat) : ((List.range n).filter fun _ => true).map (fun k : Nat => D.tup [.int (3 * (k : Int)), .int (3 * (k : Int))]) = encL (pts 0 n) := by
  rw [filt_true]
  unfold encL pts
  rw [List.map_map]
  apply List.map_congr_left
  intro k _
  simp [enc, eD]
def shF (s : Sx) : D := .tup [.int (s.1 + 1), .int (s.2.getD 0 + 1)]
theorem pts_shift (n : Nat) : ((pts 0 n).filter fun _ => true).map shF = encL (pts 1 n) := by
  rw [filt_true]
  unfold encL pts
  rw [List.map_map, List.map_map]
  apply List.map_congr_left
  intro k _
  simp [shF, enc, eD]
theorem pts_some (d : Int) (n : Nat) : ∀ s ∈ pts d n, ∃ e, s.2 = some e := by
  intro s hs
  obtain ⟨k, _, rfl⟩ := List.mem_map.mp hs
  exact ⟨_, rfl⟩
theorem due_eq {Q : D → Prop} (q : Q (.bl true)) : dEq2 (.lst [.tup [.str "told", .int 60], .tup [.str "great", .int 3], .tup [.str "great", .int 3], .tup [.str "told", .int 60], .tup [.str "told", .int 60], .tup [.str "told", .int 60], .tup [.str "great", .int 3]]) (.lst [.tup [.str "told", .int 60], .tup [.str "great", .int 3], .tup [.str "great", .int 3], .tup [.str "told", .int 60], .tup [.str "told", .int 60], .tup [.str "told", .int 60], .tup [.str "great", .int 3]]) Q := by
  have s1 : D.shp 63 (.tup [.str "told", .int 60]) := by
    rw [shp63_tup]; intro x hx; simp at hx
    rcases hx with rfl | rfl
    · show PyData.strOk _ = true; decide +kernel
    · exact shp_int _
  have s2 : D.shp 63 (.tup [.str "great", .int 3]) := by
    rw [shp63_tup]; intro x hx; simp at hx
    rcases hx with rfl | rfl
    · show PyData.strOk _ = true; decide +kernel
    · exact shp_int _
  have s : D.shp 64 (.lst [.tup [.str "told", .int 60], .tup [.str "great", .int 3], .tup [.str "great", .int 3], .tup [.str "told", .int 60], .tup [.str "told", .int 60], .tup [.str "told", .int 60], .tup [.str "great", .int 3]]) := by
    rw [shp64_lst]; intro x hx; simp at hx
    rcases hx with rfl | rfl | rfl | rfl | rfl | rfl | rfl <;> first | exact s1 | exact s2
  refine ⟨s, s, ?_⟩
  have e : eqD (.lst [.tup [.str "told", .int 60], .tup [.str "great", .int 3], .tup [.str "great", .int 3], .tup [.str "told", .int 60], .tup [.str "told", .int 60], .tup [.str "told", .int 60], .tup [.str "great", .int 3]]) (.lst [.tup [.str "told", .int 60], .tup [.str "great", .int 3], .tup [.str "great", .int 3], .tup [.str "told", .int 60], .tup [.str "told", .int 60], .tup [.str "told", .int 60], .tup [.str "great", .int 3]]) = true := by decide +kernel
  rw [e]
  exact q
abbrev T60 : D := .tup [.str "told", .int 60]
abbrev G3 : D := .tup [.str "great", .int 3]
section
variable {FA : Addr → Nat → AF → Prop} {f : Addr} {x : D} {xs ys : List D} {Q : D → Prop} {E : XE → Prop}
theorem c_r1 (h : FA f 1 (retA [x] xs)) (k : xs.length = 60) (q : Q T60) : S__law_told FA [.con (.ref f), x, .non] Q E :=
  ⟨f, x, .inl ⟨rfl, .inl ⟨xs, h, by rw [k]; exact q⟩⟩⟩
theorem c_x1 (h : FA f 1 (raiA [x] 3)) (q : Q G3) : S__law_told FA [.con (.ref f), x, .non] Q E :=
  ⟨f, x, .inl ⟨rfl, .inr ⟨3, h, q⟩⟩⟩
theorem c_r2 (h : FA f 2 (retA [x, .tup ys] xs)) (k : xs.length = 60) (q : Q T60) : S__law_told FA [.con (.ref f), x, .tup ys] Q E :=
  ⟨f, x, .inr ⟨ys, rfl, .inl ⟨xs, h, by rw [k]; exact q⟩⟩⟩
theorem c_x2 (h : FA f 2 (raiA [x, .tup ys] 3)) (q : Q G3) : S__law_told FA [.con (.ref f), x, .tup ys] Q E :=
  ⟨f, x, .inr ⟨ys, rfl, .inr ⟨3, h, q⟩⟩⟩
end
theorem imp__law_many_right (FA : Addr → Nat → AF → Prop) (fa : Str → Addr) (wk : WeakFA FA) (h1 : FA (fa "lot_told") 1 S_lot_told) (h2 : FA (fa "lots_any") 2 S_lots_any) (h3 : FA (fa "lots_both") 2 S_lots_both) (h4 : FA (fa "lot_out") 1 S_lot_out) : ∀ ds Q E, S__law_many_right FA ds Q E → runA N__law_many_right (d__law_many_right FA fa) ds Q E := by
  rintro ds Q E ⟨rfl, q⟩
  show d__law_many_right FA fa _ [.un, .un, .un, .un, .un, .un, .un, .un, .un, .un]
  unfold d__law_many_right
  refine seq_cut fun T hT => ?_
  simp [Small]
  refine lc_go (en := fun i : Nat => D.int (i : Int)) (p := fun _ => true) (f := fun k : Nat => D.tup [.int (3 * (k : Int)), .int (3 * (k : Int))]) (upto_map 60) (fun i _ C C' k1 k2 => ?_) (by simp) ?_
  · have := k1 rfl
    simpa [lg__law_many_right_2, le__law_many_right_2, dMul_int, mul_l, two_line] using this
  rw [pts_run]
  refine lc_go (en := fun i : Nat => D.int (i : Int)) (p := fun _ => true) (f := fun k : Nat => D.tup [.int (3 * (k : Int)), .int (3 * (k : Int))]) (upto_map 61) (fun i _ C C' k1 k2 => ?_) (by simp) ?_
  · have := k1 rfl
    simpa [lg__law_many_right_1, le__law_many_right_1, dMul_int, mul_l, two_line] using this
  rw [pts_run]
  refine hT _ ?_
  clear hT T
  have nn0 := can_nn (Int.le_refl _) pts_can60
  have nn1 := can_nn (Int.le_refl _) pts_can61
  have n1 : (encL (normL (pts 0 60))).length = 60 := by rw [encL_len, norm_self pts_can60, len_pts]
  have a1 := r_told wk h1 (l := pts 0 60) (by rw [len_pts]; decide) nn0 (by rw [norm_self pts_can60, len_pts]; decide)
  have a2 := x_told wk h1 (l := pts 0 61) (by rw [len_pts]; decide) nn1 (by rw [norm_self pts_can61, len_pts]; decide)
  have a3 := x_any wk h2 (l := pts 0 60) (m := [(1000, some 1000)]) (by rw [len_pts]; decide) (by decide) nn0 (by simp) (by rw [norm_self pts_far, List.length_append, len_pts]; decide)
  have n4 : (encL (normL (pts 0 60 ++ [(1, some 1)]))).length = 60 := by rw [encL_len, len_one]
  have a4 := r_any wk h2 (l := pts 0 60) (m := [(1, some 1)]) (by rw [len_pts]; decide) (by decide) nn0 (by simp) (by rw [len_one]; decide)
  have n5 : (encL (normL (pairs (pts 0 60) [(0, none)]))).length = 60 := by rw [encL_len, pts_all, len_pts]
  have a5 := r_both wk h3 (l := pts 0 60) (m := [(0, none)]) (by rw [len_pts]; decide) (by decide) nn0 (by rw [pts_all, len_pts]; decide)
  have n6 : (encL (normL (gaps 0 (pts 0 60)))).length = 60 := by rw [encL_len, gaps_len0]
  have a6 := r_out wk h4 (l := pts 0 60) (by rw [len_pts]; decide) pts_can60 (by rw [gaps_len0]; decide)
  have a7 := x_out wk h4 (l := pts 1 60) (by rw [len_pts]; decide) pts_can1 (by rw [gaps_len1]; decide)
  have shift := pts_shift 60
  have some0 := pts_some 0 60
  have len0 := len_pts 0 60
  generalize pts 0 60 = X at *
  generalize pts 0 61 = Y at *
  generalize pts 1 60 = Z at *
  generalize encL (normL X) = r1 at *
  generalize encL (normL (X ++ [(1, some 1)])) = r4 at *
  generalize encL (normL (pairs X [(0, none)])) = r5 at *
  generalize encL (normL (gaps 0 X)) = r6 at *
  refine seq_cut fun T hT => ?_
  simp
  refine ⟨two_line, line_ok (by decide), hT _ ?_⟩
  clear hT T
  refine seq_cut fun T hT => ?_
  simp
  refine ⟨two_line, lc_go (α := D × D) (l := [(.tup (encL X), T60), (.tup (encL Y), G3)]) (en := (·.1)) (p := fun _ => true) (f := (·.2)) rfl (fun p hp C C' k1 k2 => ?_) (by simp) ?_⟩
  · have := k1 rfl
    simp at hp
    rcases hp with rfl | rfl
    · simp [lg__law_many_right_3, le__law_many_right_3]
      exact c_r1 a1 n1 this
    · simp [lg__law_many_right_3, le__law_many_right_3]
      exact c_x1 a2 this
  simp
  refine c_x2 a3 ⟨line_ok (by decide), line_ok (by decide), hT _ ?_⟩
  clear hT T
  refine seq_cut fun T hT => ?_
  simp
  refine ⟨two_line, line_ok (by decide), c_r2 (ys := encL [(1, some 1)]) a4 n4 ⟨two_line, line_ok (by decide), c_r2 (ys := encL [(0, none)]) a5 n5 ⟨two_line, line_ok (by decide), hT _ ?_⟩⟩⟩
  clear hT T
  refine seq_cut fun T hT => ?_
  show aLcL lg__law_many_right_4 aYes le__law_many_right_4 [8, 9] (encL X) [] _ _
  refine lc_go (en := enc) (l := X) (p := fun _ => true) (f := shF) rfl (fun s hs C C' k1 k2 => ?_) (by rw [len0]; decide) ?_
  · have := k1 rfl
    obtain ⟨e, he⟩ := some0 s hs
    obtain ⟨b, e'⟩ := s
    have he : e' = some e := he
    subst he
    simpa [lg__law_many_right_4, le__law_many_right_4, shF, enc, eD, two_line] using this
  rw [shift]
  show T [.dat (.tup (encL X)), .dat (.tup (encL Y)), .dat (.tup [.tup [.int 1000, .int 1000]]), .dat (.lst [T60, G3, G3, T60, T60]), .dat (.tup (encL Z)), .un, .un, .un, .un, .un]
  refine hT _ ?_
  clear hT T
  refine seq_cut fun T hT => ?_
  simp
  refine c_r1 a6 n6 (c_x1 a7 ⟨two_line, line_ok (by decide), hT _ ?_⟩)
  clear hT T
  refine seq_cut fun T hT => ?_
  simp
  refine ⟨two_line, line_ok (by decide), hT _ ?_⟩
  clear hT T
  simp [-dEq2]
  refine due_eq q
end PU
set_option Elab.async false
set_option linter.all false
set_option maxRecDepth 100000
namespace PU
open PySem PySem.Spec L2 StX RZ
set_option autoImplicit false
def top (i : Nat) : Stmt := PySem.Challenge.pw_overtakings_k21_lots_by_members.main.body.getD i (.Pass ⟨0, 0, 0, 0⟩)
/-- what the top has written -/
structure Txt (P : Program) (K : PySem.W.Frag) (mg : Str → Option Value) (base : Heap) (ec : Str → Option Addr) (xc fa : Str → Addr) : Prop where
  m_abs : mg "abs" = none
  m_any : mg "any" = none
  m_enumerate : mg "enumerate" = none
  m_int : mg "int" = none
  m_len : mg "len" = none
  m_max : mg "max" = none
  m_min : mg "min" = none
  m_range : mg "range" = none
  m_repr : mg "repr" = none
  m_sorted : mg "sorted" = none
  m_tuple : mg "tuple" = none
  m_zip : mg "zip" = none
  c_MOST_STRETCHES : ∃ t, mg "MOST_STRETCHES" = some (.int 60 t)
  c_MANY : ∃ t, mg "MANY" = some (.int 3 t)
  f_lot_out : mg "lot_out" = some (.ref (fa "lot_out"))
  f_lot_told : mg "lot_told" = some (.ref (fa "lot_told"))
  f_lots_any : mg "lots_any" = some (.ref (fa "lots_any"))
  f_lots_both : mg "lots_both" = some (.ref (fa "lots_both"))
  x_TooGreat : Exc1 P K mg base "TooGreat" "number" (xc "TooGreat")
  e_TooGreat : ec "TooGreat" = some (xc "TooGreat")
  xm_TooGreat : XmOk K ec (.ref (xc "TooGreat")) (fun n => n == "TooGreat")
/-! ### the source is made -/
def N__law_source : List Str := ["script", "mixed", "cell"]
abbrev st__law_source : Stmt := top 18
theorem sc__law_source : FnScope N__law_source ["script"] (defScope st__law_source) := ⟨rfl, rfl, rfl, by decide +kernel, rfl, by decide +kernel, by decide +kernel⟩
def absI (i : Int) : Int := if i < 0 then -i else i
theorem absI_nn (i : Int) : 0 ≤ absI i := by unfold absI; split <;> omega
theorem fmod_src (z : Int) : 0 ≤ z.fmod 2147483629 ∧ z.fmod 2147483629 < 2147483629 := by
  rw [Int.fmod_eq_emod_of_nonneg _ (by decide)]
  exact ⟨Int.emod_nonneg _ (by decide), Int.emod_lt_of_pos _ (by decide)⟩
section
variable {P : Program} {w : World} {K : PySem.W.Frag} {mg : Str → Option Value} {base : Heap}
theorem fn_source (m_int : mg "int" = none) (m_abs : mg "abs" = none) {f : Addr} {fd : FuncData} (F : L2.Fun K "_law_source" "_law_source" st__law_source f fd) : FnG P w K mg base 2 f fd ["script"] (spSrc K) := by
  have hbi : bootBuiltins "int" = some (.type "int") := by decide +kernel
  have hba : bootBuiltins "abs" = some (.builtin "abs") := by decide +kernel
  refine okG_of (k := 1) F sc__law_source (fun vs H Q E h => by obtain ⟨a, ns, rfl, _⟩ := h; rfl) (fun cdv A outer s H vs Q E hr h => ?_)
  obtain ⟨a, ns, rfl, hS, hl, kq⟩ := h
  refine ⟨_, pss_cons (ps_set (i := 1) sc__law_source.nd rfl (.inl rfl) pe_int)
    (pss_cons (ps_for (passes_of rfl) rfl (pi_list (pv 0)) (pg_name (i := 2) sc__law_source.nd rfl (.inl rfl))
      (pss_one (ps_set (i := 1) sc__law_source.nd rfl (.inl rfl) (pe_op op_modN (pe_callTy call_int1 (by rfl) m_int hbi (pa_cons (pe_op op_add (pe_op op_add (pe_op op_mul (pv 1) pe_int) (pe_op op_mul (pv 2) pe_int)) pe_int) pa_nil)) pe_int))))
    (pss_one (ps_ret (pe_disp (pps_cons pe_str (pe_revL (pe_lc (own := [("cell", 2)]) (g := gName 2) (tt := tYes) rfl sc__law_source.nd (pi_list (pv 0)) (blkOk_by (by kernel_rfl)) (fun _ _ _ _ _ => pg_name (i := 2) sc__law_source.nd rfl (.inl rfl)) (fun _ _ _ _ _ => pts_nil)
      (fun _ _ _ _ _ => pe_callB call_abs (by rfl) m_abs hba (pa_cons (pv 2) pa_nil))))
      (pps_cons pe_str pe_int (pps_cons pe_str (pv 1) (pps_cons pe_str pe_int pps_nil)))) (by rfl) (by rfl) (fun z => by cases z) (by decide))))), ?_⟩
  refine ⟨_, rfl, a, rfl, ⟨_, hS⟩, for_list (K := K) (a := a) (xs := ns.map V.int) (fun i σ H' => H' = H ∧ ∃ (m : Int) (v : Option V), σ = [some (.ref a), some (.int m), v] ∧ 0 ≤ m ∧ m < 2147483629) ⟨rfl, 11, none, rfl, by decide, by decide⟩ (fun i σ H' _ q => by rw [q.1]; exact hS) ?_ ?_⟩
  · rintro i y σ H' hi ⟨rfl, m, v, rfl, h1, h2⟩
    obtain ⟨z, rfl⟩ : ∃ z, y = V.int z := by
      rw [List.getElem?_map] at hi
      cases e : ns[i]? with
      | none => rw [e] at hi; cases hi
      | some z => rw [e] at hi; exact ⟨z, (Option.some.inj hi).symm⟩
    have b := fmod_src (m * 69069 + z * 31 + 5)
    refine ⟨_, rfl, m, 69069, rfl, rfl, .inr ⟨by decide, by decide⟩, ?_⟩
    refine ⟨_, rfl, z, 31, rfl, rfl, .inr ⟨by decide, by decide⟩, _, _, rfl, rfl, _, _, rfl, rfl, .inl ⟨_, rfl, _, _, rfl, rfl, (by show (2147483629 : Int) ≠ 0; decide), rfl, _, _, rfl, b.1, Int.lt_of_lt_of_le b.2 (by decide)⟩⟩
  · rintro σ H' ⟨rfl, m, v, rfl, h1, h2⟩
    intro p hp
    have s1 : Same H' (upd H' p (.dK [])) := same_upd hp
    have hS1 := s1.seq hS
    refine ⟨_, rfl, a, rfl, ⟨_, hS1⟩, fun D hD => lc_list (K := K) (a := a) (xs := ns.map V.int) (fun i H2 => H2 = upd (upd H' p (.dK [])) D (.lst ((ns.take i).map fun z => V.int (absI z)))) (by rfl) (fun i H2 _ e => ?_) ?_ ?_⟩
    · rw [e]; exact (same_upd hD).seq hS1
    · rintro i x H2 hi rfl
      have hi' : i < ns.length := by
        have := (List.getElem?_eq_some_iff.mp hi).1
        simpa using this
      obtain ⟨z, hz, rfl⟩ : ∃ z, ns[i]? = some z ∧ x = V.int z := by
        rw [List.getElem?_map] at hi
        cases e : ns[i]? with
        | none => rw [e] at hi; cases hi
        | some z => rw [e] at hi; exact ⟨z, rfl, (Option.some.inj hi).symm⟩
      have tk1 : ns.take (i + 1) = ns.take i ++ [z] := by
        rw [List.take_add_one, hz]; rfl
      refine ⟨rfl, _, rfl, z, rfl, _, upd_same, ?_, ?_⟩
      · rw [List.length_map, List.length_take, sizeLine_eq]; omega
      · rw [tk1, List.map_append, upd_upd]
        rfl
    · rintro H2 rfl
      have hn : p ≠ D := fun z => by rw [← z, upd_same] at hD; cases hD
      have e0 : (ns.take (ns.map V.int).length).map (fun z => V.int (absI z)) = (ns.map absI).map V.int := by
        rw [List.length_map, List.take_length, List.map_map]; rfl
      rw [e0]
      refine ⟨D, _, rfl, SqL.of upd_same, fun q hq => ?_⟩
      have nD : q ≠ D := fun z => by rw [z, upd_same] at hq; cases hq
      have np : p ≠ q := fun z => by
        rw [← z, upd_ne hn, upd_same] at hq
        cases hq
      refine ⟨_, rfl, by rw [upd_ne np, upd_ne hn, upd_same], [(.inr "cells", .ref q), (.inr "left", .int 1), (.inr "mixed", .int m), (.inr "turn", .int 0)], rfl, (by show 4 ≤ 15; decide), ?_⟩
      refine kq p q _ np ⟨(ns.map absI).reverse, 1, m, 0, by rw [upd_same]; rfl, ?_, ?_, by decide, h1, Int.lt_trans h2 (by decide), by decide⟩
      · rw [upd_ne (Ne.symm np), upd_same, ← List.map_reverse]
      · intro x hx
        obtain ⟨y, _, rfl⟩ := List.mem_map.mp (List.mem_reverse.mp hx)
        exact absI_nn y
end

section
variable {P : Program} {w : World} {K : PySem.W.Frag} {mg : Str → Option Value} {base : Heap} {ec : Str → Option Addr} {xc fa : Str → Addr}
/-! derivations, printed by gen.py -/
abbrev st_joined : Stmt := top 6
theorem sc_joined : FnScope N_joined ["stretches"] (defScope st_joined) := ⟨rfl, rfl, rfl, by decide +kernel, rfl, by decide +kernel, by decide +kernel⟩
theorem D_joined (T : Txt P K mg base ec xc fa) {f : Addr} {fd : FuncData} (F : L2.Fun K "joined" "joined" st_joined f fd) (hf : mg "joined" = some (.ref f)) (bd : Binds K fd ["stretches"] []) : DefOk P w K mg base "joined" 2 (spOf K ec 1 S_joined) := by
  exact (def_ok (N := N_joined) (k := 1) (t := ((aSeq (aSetO 1 (aLst aNil))
  (aSeq (aFor (aIt (aVar 0)) ((gTupA 2 (gsCons (gSet 2) (gsCons (gSet 3) gsNil)))) ((aIfS (aAnd (aTestB (aNeN 1 (aLst aNil))) (aOr (aTestB (aBin dIs2 (aBin dIdx (aIxN 1 (aNeg (aC (.int 1)))) (aC (.int 1))) (aC .non))) (aTestB (aBin dLe (aVar 2) (aBin dAdd (aBin dIdx (aIxN 1 (aNeg (aC (.int 1)))) (aC (.int 1))) (aC (.int 1))))))) (aSeq (aSet 4 (aPop 1))
  (aSeq (aSet 5 (aLst (aCons (aBin dIdx (aVar 4) (aC (.int 1))) (aCons (aVar 3) aNil))))
  (aDrop (aAppend 1 (aTup (aCons (aBin dIdx (aVar 4) (aC (.int 0))) (aCons (aIf (aTestB (aBin (dIn false) (aC .non) (aVar 5))) (aC .non) (aOp dMaxL (aCons (aVar 5) aNil))) aNil))))))) (aDrop (aAppend 1 (aTup (aCons (aVar 2) (aCons (aVar 3) aNil))))))))
  (aRet (aVar 1)))) : AS)) F sc_joined hf bd (fun cdv A outer s H E B W hB hr tk => (ss_cons (ss_setO (i := 1) sc_joined.nd rfl (by first | exact .inl rfl | exact .inr rfl) (sf_lst sa_nil))
  (ss_cons (ss_for (vs := [2, 3]) (passes_of rfl) rfl (si_of (se_of 0 (pv 0))) (sg_tup rfl (sgs_cons (sg_of (pg_name (i := 2) sc_joined.nd rfl (by first | exact .inl rfl | exact .inr rfl)) (by decide)) (sgs_cons (sg_of (pg_name (i := 3) sc_joined.nd rfl (by first | exact .inl rfl | exact .inr rfl)) (by decide)) sgs_nil))) (ss_one (ss_if (st_bool (sw_and (st_neN 1 hr.toRoom (pv 1) (se_of_sf (sf_lst sa_nil))) (sw_and1 (st_bool (sw_or (st_is2 (se_ix hr.toRoom (se_ixN 1 hr.toRoom (pv 1) (se_neg se_int)) se_int) se_non) (sw_or1 (st_le (se_of 2 (pv 2)) (se_add (se_ix hr.toRoom (se_ixN 1 hr.toRoom (pv 1) (se_neg se_int)) se_int) se_int)))))))) (ss_cons (ss_set (i := 4) sc_joined.nd rfl (by first | exact .inl rfl | exact .inr rfl) (se_pop 1 (pv 1)))
  (ss_cons (ss_set (i := 5) sc_joined.nd rfl (by first | exact .inl rfl | exact .inr rfl) (se_of_sf (sf_lst (sa_cons (se_ix hr.toRoom (se_of 4 (pv 4)) se_int) (sa_cons (se_of 3 (pv 3)) sa_nil)))))
  (ss_one (ss_expr (se_append 1 (pv 1) (se_tup (sa_cons (se_ix hr.toRoom (se_of 4 (pv 4)) se_int) (sa_cons (se_if (st_in hr.toRoom se_non (se_of 5 (pv 5))) se_non (se_maxL rfl (by rfl) T.m_max (sa_cons (se_of 5 (pv 5)) sa_nil))) sa_nil)))))))) (ss_one (ss_expr (se_append 1 (pv 1) (se_tup (sa_cons (se_of 2 (pv 2)) (sa_cons (se_of 3 (pv 3)) sa_nil)))))))))
  (ss_one (ss_ret (se_of 1 (pv 1)))))))).imp (spOf_imp (imp_joined))
abbrev st_lot_told : Stmt := top 7
theorem sc_lot_told : FnScope N_lot_told ["stretches"] (defScope st_lot_told) := ⟨rfl, rfl, rfl, by decide +kernel, rfl, by decide +kernel, by decide +kernel⟩
theorem D_lot_told (T : Txt P K mg base ec xc fa) (D_joined : DefOk P w K mg base "joined" 2 (spOf K ec 1 S_joined)) {f : Addr} {fd : FuncData} (F : L2.Fun K "lot_told" "lot_told" st_lot_told f fd) (hf : mg "lot_told" = some (.ref f)) (bd : Binds K fd ["stretches"] []) : DefOk P w K mg base "lot_told" 3 (spOf K ec 1 S_lot_told) := by
  obtain ⟨t_MOST_STRETCHES, c_MOST_STRETCHES⟩ := T.c_MOST_STRETCHES
  obtain ⟨t_MANY, c_MANY⟩ := T.c_MANY
  exact (def_ok (N := N_lot_told) (k := 2) (t := ((aSeq (aSet 1 (aOp dSorted (aCons (aLc (aIt (aVar 0)) ((gTupA 2 (gsCons (gSet 3) (gsCons (gSet 4) gsNil)))) ((aOr (aTestB (aBin dIs2 (aVar 4) (aC .non))) (aTestB (aBin dLe (aVar 3) (aVar 4))))) ((aTup (aCons (aVar 3) (aCons (aBin dIs2 (aVar 4) (aC .non)) (aCons (aOrV (aVar 4) (aC (.int 0))) aNil))))) [3, 4]) aNil)))
  (aSeq (aSet 2 (aCall 1 S_joined (aCons (aLc (aIt (aVar 1)) ((gTupA 3 (gsCons (gSet 3) (gsCons (gSet 5) (gsCons (gSet 4) gsNil))))) aYes ((aTup (aCons (aVar 3) (aCons (aIf (aTest (aVar 5)) (aC .non) (aVar 4)) aNil)))) [3, 5, 4]) aNil)))
  (aSeq (aIfS (aTestB (aBin dGt (aLenN 2) (aC (.int 60)))) (aRaise1 "TooGreat" "number" (aCons (aC (.int 3)) aNil)) aSkip)
  (aRet (aOp dTuple (aCons (aVar 2) aNil)))))) : AS)) F sc_lot_told hf bd (fun cdv A outer s H E B W hB hr tk => (ss_cons (ss_set (i := 1) sc_lot_told.nd rfl (by first | exact .inl rfl | exact .inr rfl) (se_of_sf (sf_sorted hr.toRoom (by rfl) T.m_sorted (sa_cons (se_of_sf (sf_lc (own := [("begin", 3), ("end", 4)]) rfl sc_lot_told.nd (si_of (se_of 0 (pv 0))) (blkOk_by (by kernel_rfl)) (fun _ _ _ _ _ _ => (sg_tup rfl (sgs_cons (sg_of (pg_name (i := 3) sc_lot_told.nd rfl (by first | exact .inl rfl | exact .inr rfl)) (by decide)) (sgs_cons (sg_of (pg_name (i := 4) sc_lot_told.nd rfl (by first | exact .inl rfl | exact .inr rfl)) (by decide)) sgs_nil)))) (fun _ _ _ _ _ _ => (sts_one (st_bool (sw_or (st_is2 (se_of 4 (pv 4)) se_non) (sw_or1 (st_le (se_of 3 (pv 3)) (se_of 4 (pv 4)))))))) (fun _ _ _ _ _ _ => (se_tup (sa_cons (se_of 3 (pv 3)) (sa_cons (se_is2 (se_of 4 (pv 4)) se_non) (sa_cons (se_or (se_of 4 (pv 4)) (se_one se_int)) sa_nil))))))) sa_nil))))
  (ss_cons (ss_set (i := 2) sc_lot_told.nd rfl (by first | exact .inl rfl | exact .inr rfl) (se_call hB D_joined tk (hr.down (by decide : 2 ≤ 2)) (by rfl) (sa_cons (se_of_sf (sf_lc (own := [("begin", 3), ("is_last", 5), ("end", 4)]) rfl sc_lot_told.nd (si_of (se_of 1 (pv 1))) (blkOk_by (by kernel_rfl)) (fun _ _ _ _ _ _ => (sg_tup rfl (sgs_cons (sg_of (pg_name (i := 3) sc_lot_told.nd rfl (by first | exact .inl rfl | exact .inr rfl)) (by decide)) (sgs_cons (sg_of (pg_name (i := 5) sc_lot_told.nd rfl (by first | exact .inl rfl | exact .inr rfl)) (by decide)) (sgs_cons (sg_of (pg_name (i := 4) sc_lot_told.nd rfl (by first | exact .inl rfl | exact .inr rfl)) (by decide)) sgs_nil))))) (fun _ _ _ _ _ _ => sts_nil) (fun _ _ _ _ _ _ => (se_tup (sa_cons (se_of 3 (pv 3)) (sa_cons (se_if (st_of (se_of 5 (pv 5))) se_non (se_of 4 (pv 4))) sa_nil)))))) sa_nil)))
  (ss_cons (ss_if (st_gt (se_lenN 2 (by rfl) T.m_len (pv 2)) (mod_const (v := .int 60) (by rfl) c_MOST_STRETCHES ⟨_, rfl⟩ fun _ => .int _)) (ss_one (ss_raise1 hB rfl T.x_TooGreat T.e_TooGreat hr.toRoom tk (sa_cons (mod_const (v := .int 3) (by rfl) c_MANY ⟨_, rfl⟩ fun _ => .int _) sa_nil) (by rfl))) ss_nil)
  (ss_one (ss_ret (se_tuplec (by rfl) T.m_tuple (sa_cons (se_of 2 (pv 2)) sa_nil))))))))).imp (spOf_imp (imp_lot_told))
abbrev st_lot_has : Stmt := top 8
theorem sc_lot_has : FnScope N_lot_has ["lot", "n"] (defScope st_lot_has) := ⟨rfl, rfl, rfl, by decide +kernel, rfl, by decide +kernel, by decide +kernel⟩
theorem D_lot_has (T : Txt P K mg base ec xc fa) {f : Addr} {fd : FuncData} (F : L2.Fun K "lot_has" "lot_has" st_lot_has f fd) (hf : mg "lot_has" = some (.ref f)) (bd : Binds K fd ["lot", "n"] []) : DefOk P w K mg base "lot_has" 2 (spOf K ec 2 S_lot_has) := by
  exact (def_ok (N := N_lot_has) (k := 1) (t := ((aRet (aOp dAnyL (aCons (aLc (aIt (aVar 0)) ((gTupA 2 (gsCons (gSet 2) (gsCons (gSet 3) gsNil)))) aYes ((aAndV (aBin dLe (aVar 2) (aVar 1)) (aOrV (aBin dIs2 (aVar 3) (aC .non)) (aBin dLe (aVar 1) (aVar 3))))) [2, 3]) aNil))) : AS)) F sc_lot_has hf bd (fun cdv A outer s H E B W hB hr tk => (ss_one (ss_ret (se_anyL rfl (by rfl) T.m_any (sa_cons (se_of_sf (sf_lc (own := [("begin", 2), ("end", 3)]) rfl sc_lot_has.nd (si_of (se_of 0 (pv 0))) (blkOk_by (by kernel_rfl)) (fun _ _ _ _ _ _ => (sg_tup rfl (sgs_cons (sg_of (pg_name (i := 2) sc_lot_has.nd rfl (by first | exact .inl rfl | exact .inr rfl)) (by decide)) (sgs_cons (sg_of (pg_name (i := 3) sc_lot_has.nd rfl (by first | exact .inl rfl | exact .inr rfl)) (by decide)) sgs_nil)))) (fun _ _ _ _ _ _ => sts_nil) (fun _ _ _ _ _ _ => (se_and (se_le (se_of 2 (pv 2)) (se_of 1 (pv 1))) (se_one (se_or (se_is2 (se_of 3 (pv 3)) se_non) (se_one (se_le (se_of 1 (pv 1)) (se_of 3 (pv 3)))))))))) sa_nil)))))).imp (spOf_imp (imp_lot_has))
abbrev st_lots_any : Stmt := top 9
theorem sc_lots_any : FnScope N_lots_any ["one", "other"] (defScope st_lots_any) := ⟨rfl, rfl, rfl, by decide +kernel, rfl, by decide +kernel, by decide +kernel⟩
theorem D_lots_any (T : Txt P K mg base ec xc fa) (D_lot_told : DefOk P w K mg base "lot_told" 3 (spOf K ec 1 S_lot_told)) {f : Addr} {fd : FuncData} (F : L2.Fun K "lots_any" "lots_any" st_lots_any f fd) (hf : mg "lots_any" = some (.ref f)) (bd : Binds K fd ["one", "other"] []) : DefOk P w K mg base "lots_any" 4 (spOf K ec 2 S_lots_any) := by
  exact (def_ok (N := N_lots_any) (k := 3) (t := ((aRet (aCall 1 S_lot_told (aCons (aLst (aStar (aVar 0) (aStar (aVar 1) aNil))) aNil))) : AS)) F sc_lots_any hf bd (fun cdv A outer s H E B W hB hr tk => (ss_one (ss_ret (se_call hB D_lot_told tk (hr.down (by decide : 3 ≤ 3)) (by rfl) (sa_cons (se_of_sf (sf_lst (sa_star (se_of 0 (pv 0)) (sa_star (se_of 1 (pv 1)) sa_nil)))) sa_nil)))))).imp (spOf_imp (imp_lots_any))
abbrev st_lot_out : Stmt := top 10
theorem sc_lot_out : FnScope N_lot_out ["lot"] (defScope st_lot_out) := ⟨rfl, rfl, rfl, by decide +kernel, rfl, by decide +kernel, by decide +kernel⟩
theorem D_lot_out (T : Txt P K mg base ec xc fa) (D_lot_told : DefOk P w K mg base "lot_told" 3 (spOf K ec 1 S_lot_told)) {f : Addr} {fd : FuncData} (F : L2.Fun K "lot_out" "lot_out" st_lot_out f fd) (hf : mg "lot_out" = some (.ref f)) (bd : Binds K fd ["lot"] []) : DefOk P w K mg base "lot_out" 4 (spOf K ec 1 S_lot_out) := by
  exact (def_ok (N := N_lot_out) (k := 3) (t := ((aSeq (aParO [1, 2] (aoO (aLst aNil) (aoD (aC (.int 0)) aoNil)))
  (aSeq (aFor (aIt (aVar 0)) ((gTupA 2 (gsCons (gSet 3) (gsCons (gSet 4) gsNil)))) ((aSeq (aDrop (aAppend 1 (aTup (aCons (aVar 2) (aCons (aBin dSub (aVar 3) (aC (.int 1))) aNil)))))
  (aSet 2 (aIf (aTestB (aBin dIs2 (aVar 4) (aC .non))) (aC .non) (aBin dAdd (aVar 4) (aC (.int 1))))))))
  (aRet (aCall 1 S_lot_told (aCons (aIf (aTestB (aBin dIs2 (aVar 2) (aC .non))) (aVar 1) (aLst (aStar (aVar 1) (aCons (aTup (aCons (aVar 2) (aCons (aC .non) aNil))) aNil)))) aNil))))) : AS)) F sc_lot_out hf bd (fun cdv A outer s H E B W hB hr tk => (ss_cons (ss_par2 (i := 1) (j := 2) rfl sc_lot_out.nd rfl rfl (by decide) rfl rfl (sao_o (sf_lst sa_nil) fun _ => (sao_d se_int sao_nil)))
  (ss_cons (ss_for (vs := [3, 4]) (passes_of rfl) rfl (si_of (se_of 0 (pv 0))) (sg_tup rfl (sgs_cons (sg_of (pg_name (i := 3) sc_lot_out.nd rfl (by first | exact .inl rfl | exact .inr rfl)) (by decide)) (sgs_cons (sg_of (pg_name (i := 4) sc_lot_out.nd rfl (by first | exact .inl rfl | exact .inr rfl)) (by decide)) sgs_nil))) (ss_cons (ss_expr (se_append 1 (pv 1) (se_tup (sa_cons (se_of 2 (pv 2)) (sa_cons (se_sub (se_of 3 (pv 3)) se_int) sa_nil)))))
  (ss_one (ss_set (i := 2) sc_lot_out.nd rfl (by first | exact .inl rfl | exact .inr rfl) (se_if (st_is2 (se_of 4 (pv 4)) se_non) se_non (se_add (se_of 4 (pv 4)) se_int))))))
  (ss_one (ss_ret (se_call hB D_lot_told tk (hr.down (by decide : 3 ≤ 3)) (by rfl) (sa_cons (se_if (st_is2 (se_of 2 (pv 2)) se_non) (se_of 1 (pv 1)) (se_of_sf (sf_lst (sa_star (se_of 1 (pv 1)) (sa_cons (se_tup (sa_cons (se_of 2 (pv 2)) (sa_cons se_non sa_nil))) sa_nil))))) sa_nil)))))))).imp (spOf_imp (imp_lot_out))
abbrev st_stretch_met : Stmt := top 11
theorem sc_stretch_met : FnScope N_stretch_met ["one", "other"] (defScope st_stretch_met) := ⟨rfl, rfl, rfl, by decide +kernel, rfl, by decide +kernel, by decide +kernel⟩
theorem D_stretch_met (T : Txt P K mg base ec xc fa) {f : Addr} {fd : FuncData} (F : L2.Fun K "stretch_met" "stretch_met" st_stretch_met f fd) (hf : mg "stretch_met" = some (.ref f)) (bd : Binds K fd ["one", "other"] []) : DefOk P w K mg base "stretch_met" 2 (spOf K ec 2 S_stretch_met) := by
  exact (def_ok (N := N_stretch_met) (k := 1) (t := ((aSeq (aSet 2 (aLc (aIt (aTup (aCons (aBin dIdx (aVar 0) (aC (.int 1))) (aCons (aBin dIdx (aVar 1) (aC (.int 1))) aNil)))) ((gSet 3)) ((aTestB (aBin dIsNot2 (aVar 3) (aC .non)))) ((aVar 3)) [3]))
  (aRet (aTup (aCons (aOp dMax2 (aCons (aBin dIdx (aVar 0) (aC (.int 0))) (aCons (aBin dIdx (aVar 1) (aC (.int 0))) aNil))) (aCons (aIf (aTestB (aBin dNe2 (aVar 2) (aLst aNil))) (aOp dMinL (aCons (aVar 2) aNil)) (aC .non)) aNil))))) : AS)) F sc_stretch_met hf bd (fun cdv A outer s H E B W hB hr tk => (ss_cons (ss_setLc (i := 2) (own := [("end", 3)]) rfl sc_stretch_met.nd rfl rfl (sw_true rfl rfl rfl (by decide +kernel)) (si_of (se_tup (sa_cons (se_ix hr.toRoom (se_of 0 (pv 0)) se_int) (sa_cons (se_ix hr.toRoom (se_of 1 (pv 1)) se_int) sa_nil)))) (blkOk_by (by kernel_rfl)) (fun _ _ _ _ _ _ => (sg_of (pg_name (i := 3) sc_stretch_met.nd rfl (by first | exact .inl rfl | exact .inr rfl)) (by decide))) (fun _ _ _ _ _ _ => (sts_one (st_isNot2 (se_of 3 (pv 3)) se_non))) (fun _ _ _ _ _ _ => (se_of 3 (pv 3))))
  (ss_one (ss_ret (se_tup (sa_cons (se_max2 rfl (by rfl) T.m_max (sa_cons (se_ix hr.toRoom (se_of 0 (pv 0)) se_int) (sa_cons (se_ix hr.toRoom (se_of 1 (pv 1)) se_int) sa_nil))) (sa_cons (se_if (st_ne2 hr.toRoom (se_of 2 (pv 2)) (se_of_sf (sf_lst sa_nil))) (se_minL rfl (by rfl) T.m_min (sa_cons (se_of 2 (pv 2)) sa_nil)) se_non) sa_nil)))))))).imp (spOf_imp (imp_stretch_met))
abbrev st_lots_both : Stmt := top 12
theorem sc_lots_both : FnScope N_lots_both ["one", "other"] (defScope st_lots_both) := ⟨rfl, rfl, rfl, by decide +kernel, rfl, by decide +kernel, by decide +kernel⟩
theorem D_lots_both (T : Txt P K mg base ec xc fa) (D_lot_told : DefOk P w K mg base "lot_told" 3 (spOf K ec 1 S_lot_told)) (D_stretch_met : DefOk P w K mg base "stretch_met" 2 (spOf K ec 2 S_stretch_met)) {f : Addr} {fd : FuncData} (F : L2.Fun K "lots_both" "lots_both" st_lots_both f fd) (hf : mg "lots_both" = some (.ref f)) (bd : Binds K fd ["one", "other"] []) : DefOk P w K mg base "lots_both" 4 (spOf K ec 2 S_lots_both) := by
  exact (def_ok (N := N_lots_both) (k := 3) (t := ((aSeq (aSetO 2 (aLst aNil))
  (aSeq (aFor (aIt (aVar 0)) ((gSet 3)) ((aDrop (aExtend 2 (aLc (aIt (aVar 1)) ((gSet 4)) aYes ((aCall 2 S_stretch_met (aCons (aVar 3) (aCons (aVar 4) aNil)))) [4])))))
  (aRet (aCall 1 S_lot_told (aCons (aVar 2) aNil))))) : AS)) F sc_lots_both hf bd (fun cdv A outer s H E B W hB hr tk => (ss_cons (ss_setO (i := 2) sc_lots_both.nd rfl (by first | exact .inl rfl | exact .inr rfl) (sf_lst sa_nil))
  (ss_cons (ss_for (vs := [3]) (passes_of rfl) rfl (si_of (se_of 0 (pv 0))) (sg_of (pg_name (i := 3) sc_lots_both.nd rfl (by first | exact .inl rfl | exact .inr rfl)) (by decide)) (ss_one (ss_expr (se_extend 2 (pv 2) (se_of_sf (sf_lc (own := [("there", 4)]) rfl sc_lots_both.nd (si_of (se_of 1 (pv 1))) (blkOk_by (by kernel_rfl)) (fun _ _ _ _ _ _ => (sg_of (pg_name (i := 4) sc_lots_both.nd rfl (by first | exact .inl rfl | exact .inr rfl)) (by decide))) (fun _ _ _ _ _ _ => sts_nil) (fun _ _ _ _ _ _ => (se_call hB D_stretch_met takes0 (hr.down (by decide : 2 ≤ 3)) (by rfl) (sa_cons (se_of 3 (pv 3)) (sa_cons (se_of 4 (pv 4)) sa_nil))))))))))
  (ss_one (ss_ret (se_call hB D_lot_told tk (hr.down (by decide : 3 ≤ 3)) (by rfl) (sa_cons (se_of 2 (pv 2)) sa_nil)))))))).imp (spOf_imp (imp_lots_both))
abbrev st_lot_signed : Stmt := top 13
theorem sc_lot_signed : FnScope N_lot_signed ["signs", "wanted"] (defScope st_lot_signed) := ⟨rfl, rfl, rfl, by decide +kernel, rfl, by decide +kernel, by decide +kernel⟩
theorem D_lot_signed (T : Txt P K mg base ec xc fa) (D_lot_told : DefOk P w K mg base "lot_told" 3 (spOf K ec 1 S_lot_told)) {f : Addr} {fd : FuncData} (F : L2.Fun K "lot_signed" "lot_signed" st_lot_signed f fd) (hf : mg "lot_signed" = some (.ref f)) (bd : Binds K fd ["signs", "wanted"] []) : DefOk P w K mg base "lot_signed" 4 (spOf K ec 2 S_lot_signed) := by
  exact (def_ok (N := N_lot_signed) (k := 3) (t := ((aRet (aCall 1 S_lot_told (aCons (aLc (aIt (aVar 0)) ((gTupA 3 (gsCons (gSet 2) (gsCons (gSet 3) (gsCons (gSet 4) gsNil))))) ((aTestB (aBin (dIn false) (aVar 4) (aVar 1)))) ((aTup (aCons (aVar 2) (aCons (aVar 3) aNil)))) [2, 3, 4]) aNil))) : AS)) F sc_lot_signed hf bd (fun cdv A outer s H E B W hB hr tk => (ss_one (ss_ret (se_call hB D_lot_told tk (hr.down (by decide : 3 ≤ 3)) (by rfl) (sa_cons (se_of_sf (sf_lc (own := [("begin", 2), ("end", 3), ("sign", 4)]) rfl sc_lot_signed.nd (si_of (se_of 0 (pv 0))) (blkOk_by (by kernel_rfl)) (fun _ _ _ _ _ _ => (sg_tup rfl (sgs_cons (sg_of (pg_name (i := 2) sc_lot_signed.nd rfl (by first | exact .inl rfl | exact .inr rfl)) (by decide)) (sgs_cons (sg_of (pg_name (i := 3) sc_lot_signed.nd rfl (by first | exact .inl rfl | exact .inr rfl)) (by decide)) (sgs_cons (sg_of (pg_name (i := 4) sc_lot_signed.nd rfl (by first | exact .inl rfl | exact .inr rfl)) (by decide)) sgs_nil))))) (fun _ _ _ _ _ _ => (sts_one (st_in hr.toRoom (se_of 4 (pv 4)) (se_of 1 (pv 1))))) (fun _ _ _ _ _ _ => (se_tup (sa_cons (se_of 2 (pv 2)) (sa_cons (se_of 3 (pv 3)) sa_nil)))))) sa_nil)))))).imp (spOf_imp (imp_lot_signed))
abbrev st_first_in : Stmt := top 14
theorem sc_first_in : FnScope N_first_in ["lot"] (defScope st_first_in) := ⟨rfl, rfl, rfl, by decide +kernel, rfl, by decide +kernel, by decide +kernel⟩
theorem D_first_in (T : Txt P K mg base ec xc fa) {f : Addr} {fd : FuncData} (F : L2.Fun K "first_in" "first_in" st_first_in f fd) (hf : mg "first_in" = some (.ref f)) (bd : Binds K fd ["lot"] []) : DefOk P w K mg base "first_in" 2 (spOf K ec 1 S_first_in) := by
  exact (def_ok (N := N_first_in) (k := 1) (t := ((aRet (aIf (aTestB (aBin dNe2 (aVar 0) (aTup aNil))) (aBin dIdx (aBin dIdx (aVar 0) (aC (.int 0))) (aC (.int 0))) (aC .non))) : AS)) F sc_first_in hf bd (fun cdv A outer s H E B W hB hr tk => (ss_one (ss_ret (se_if (st_ne2 hr.toRoom (se_of 0 (pv 0)) (se_tup sa_nil)) (se_ix hr.toRoom (se_ix hr.toRoom (se_of 0 (pv 0)) se_int) se_int) se_non))))).imp (spOf_imp (imp_first_in))
abbrev st_first_out : Stmt := top 15
theorem sc_first_out : FnScope N_first_out ["lot"] (defScope st_first_out) := ⟨rfl, rfl, rfl, by decide +kernel, rfl, by decide +kernel, by decide +kernel⟩
theorem D_first_out (T : Txt P K mg base ec xc fa) {f : Addr} {fd : FuncData} (F : L2.Fun K "first_out" "first_out" st_first_out f fd) (hf : mg "first_out" = some (.ref f)) (bd : Binds K fd ["lot"] []) : DefOk P w K mg base "first_out" 2 (spOf K ec 1 S_first_out) := by
  exact (def_ok (N := N_first_out) (k := 1) (t := ((aSeq (aIfS (aOr (aTestB (aBin dEq2 (aVar 0) (aTup aNil))) (aTestB (aBin dGt (aBin dIdx (aBin dIdx (aVar 0) (aC (.int 0))) (aC (.int 0))) (aC (.int 0))))) (aRet (aC (.int 0))) aSkip)
  (aRet (aIf (aTestB (aBin dIsNot2 (aBin dIdx (aBin dIdx (aVar 0) (aC (.int 0))) (aC (.int 1))) (aC .non))) (aBin dAdd (aBin dIdx (aBin dIdx (aVar 0) (aC (.int 0))) (aC (.int 1))) (aC (.int 1))) (aC .non)))) : AS)) F sc_first_out hf bd (fun cdv A outer s H E B W hB hr tk => (ss_cons (ss_if (st_bool (sw_or (st_eq2 hr.toRoom (se_of 0 (pv 0)) (se_tup sa_nil)) (sw_or1 (st_gt (se_ix hr.toRoom (se_ix hr.toRoom (se_of 0 (pv 0)) se_int) se_int) se_int)))) (ss_one (ss_ret se_int)) ss_nil)
  (ss_one (ss_ret (se_if (st_isNot2 (se_ix hr.toRoom (se_ix hr.toRoom (se_of 0 (pv 0)) se_int) se_int) se_non) (se_add (se_ix hr.toRoom (se_ix hr.toRoom (se_of 0 (pv 0)) se_int) se_int) se_int) se_non)))))).imp (spOf_imp (imp_first_out))
abbrev st_is_ever : Stmt := top 16
theorem sc_is_ever : FnScope N_is_ever ["lot", "begin"] (defScope st_is_ever) := ⟨rfl, rfl, rfl, by decide +kernel, rfl, by decide +kernel, by decide +kernel⟩
theorem D_is_ever (T : Txt P K mg base ec xc fa) {f : Addr} {fd : FuncData} (F : L2.Fun K "is_ever" "is_ever" st_is_ever f fd) (hf : mg "is_ever" = some (.ref f)) (bd : Binds K fd ["lot", "begin"] []) : DefOk P w K mg base "is_ever" 2 (spOf K ec 2 S_is_ever) := by
  exact (def_ok (N := N_is_ever) (k := 1) (t := ((aRet (aOp dAnyL (aCons (aLc (aIt (aVar 0)) ((gTupA 2 (gsCons (gSet 2) (gsCons (gSet 3) gsNil)))) ((aTestB (aBin dIs2 (aVar 3) (aC .non)))) ((aBin dLe (aVar 2) (aVar 1))) [2, 3]) aNil))) : AS)) F sc_is_ever hf bd (fun cdv A outer s H E B W hB hr tk => (ss_one (ss_ret (se_anyL rfl (by rfl) T.m_any (sa_cons (se_of_sf (sf_lc (own := [("first", 2), ("last", 3)]) rfl sc_is_ever.nd (si_of (se_of 0 (pv 0))) (blkOk_by (by kernel_rfl)) (fun _ _ _ _ _ _ => (sg_tup rfl (sgs_cons (sg_of (pg_name (i := 2) sc_is_ever.nd rfl (by first | exact .inl rfl | exact .inr rfl)) (by decide)) (sgs_cons (sg_of (pg_name (i := 3) sc_is_ever.nd rfl (by first | exact .inl rfl | exact .inr rfl)) (by decide)) sgs_nil)))) (fun _ _ _ _ _ _ => (sts_one (st_is2 (se_of 3 (pv 3)) se_non))) (fun _ _ _ _ _ _ => (se_le (se_of 2 (pv 2)) (se_of 1 (pv 1)))))) sa_nil)))))).imp (spOf_imp (imp_is_ever))
abbrev st__law_pick : Stmt := top 19
theorem sc__law_pick : FnScope N__law_pick ["source", "many"] (defScope st__law_pick) := ⟨rfl, rfl, rfl, by decide +kernel, rfl, by decide +kernel, by decide +kernel⟩
theorem D__law_pick (T : Txt P K mg base ec xc fa) {f : Addr} {fd : FuncData} (F : L2.Fun K "_law_pick" "_law_pick" st__law_pick f fd) (hf : mg "_law_pick" = some (.ref f)) (bd : Binds K fd ["source", "many"] []) : DefOk P w K mg base "_law_pick" 2 (spOfZ K ec 1 S__law_pick) := by
  exact (def_okZ (N := N__law_pick) (k := 1) (n := 1) (t := ((aSeq (aSrcW 0 1)
  (aSeq (aSet 2 (aSrcG 0 "left"))
  (aSeq (aIfS (aOr (aTestB (aBin dLt (aVar 1) (aC (.int 2)))) (aTestB (aBin dGt (aVar 2) (aC (.int 1))))) (aSeq (aSrcP 0 "left" (aBin dDiv (aVar 2) (aOp dMax2 (aCons (aC (.int 1)) (aCons (aVar 1) aNil)))))
  (aRet (aBin dMod (aOp dInt (aCons (aVar 2) aNil)) (aOp dMax2 (aCons (aC (.int 1)) (aCons (aVar 1) aNil)))))) aSkip)
  (aSeq (aSrcP 0 "turn" (aBin dAdd (aSrcG 0 "turn") (aC (.int 1))))
  (aSeq (aSet 3 (aBin dMod (aOp dInt (aCons (aBin dAdd (aSrcG 0 "mixed") (aBin dMul (aSrcG 0 "turn") (aC (.int 104729)))) aNil)) (aC (.int 998244353))))
  (aSeq (aSet 3 (aBin dMod (aOp dInt (aCons (aBin dAdd (aBin dMul (aVar 3) (aVar 3)) (aBin dMul (aSrcG 0 "turn") (aC (.int 17)))) aNil)) (aC (.int 2147483647))))
  (aSeq (aSrcP 0 "mixed" (aVar 3))
  (aRet (aBin dMod (aOp dInt (aCons (aBin dDiv (aVar 3) (aC (.int 16))) aNil)) (aVar 1)))))))))) : AS)) F sc__law_pick hf bd rfl (fun cdv A outer s H E B W hB hr tk => (ss_cons (ss_srcWhile 0 1 (passes_of rfl) hr.toRoom (by rfl) T.m_len (pv 1) (pv 0) (pv 0) (pv 0) (pv 0))
  (ss_cons (ss_set (i := 2) sc__law_pick.nd rfl (by first | exact .inl rfl | exact .inr rfl) (se_srcG 0 (by first | exact .inl rfl | exact .inr (.inl rfl) | exact .inr (.inr rfl)) hr.toRoom (pv 0)))
  (ss_cons (ss_if (st_bool (sw_or (st_lt (se_of 1 (pv 1)) se_int) (sw_or1 (st_gt (se_of 2 (pv 2)) se_int)))) (ss_cons (ss_srcP 0 (by first | exact .inl rfl | exact .inr (.inl rfl) | exact .inr (.inr rfl)) hr.toRoom (se_div (se_of 2 (pv 2)) (se_max2 rfl (by rfl) T.m_max (sa_cons se_int (sa_cons (se_of 1 (pv 1)) sa_nil)))) (pv 0))
  (ss_one (ss_ret (se_mod (se_intc (by rfl) T.m_int (sa_cons (se_of 2 (pv 2)) sa_nil)) (se_max2 rfl (by rfl) T.m_max (sa_cons se_int (sa_cons (se_of 1 (pv 1)) sa_nil))))))) ss_nil)
  (ss_cons (ss_srcP 0 (by first | exact .inl rfl | exact .inr (.inl rfl) | exact .inr (.inr rfl)) hr.toRoom (se_add (se_srcG 0 (by first | exact .inl rfl | exact .inr (.inl rfl) | exact .inr (.inr rfl)) hr.toRoom (pv 0)) se_int) (pv 0))
  (ss_cons (ss_set (i := 3) sc__law_pick.nd rfl (by first | exact .inl rfl | exact .inr rfl) (se_mod (se_intc (by rfl) T.m_int (sa_cons (se_add (se_srcG 0 (by first | exact .inl rfl | exact .inr (.inl rfl) | exact .inr (.inr rfl)) hr.toRoom (pv 0)) (se_mul (se_srcG 0 (by first | exact .inl rfl | exact .inr (.inl rfl) | exact .inr (.inr rfl)) hr.toRoom (pv 0)) se_int)) sa_nil)) se_int))
  (ss_cons (ss_set (i := 3) sc__law_pick.nd rfl (by first | exact .inl rfl | exact .inr rfl) (se_mod (se_intc (by rfl) T.m_int (sa_cons (se_add (se_mul (se_of 3 (pv 3)) (se_of 3 (pv 3))) (se_mul (se_srcG 0 (by first | exact .inl rfl | exact .inr (.inl rfl) | exact .inr (.inr rfl)) hr.toRoom (pv 0)) se_int)) sa_nil)) se_int))
  (ss_cons (ss_srcP 0 (by first | exact .inl rfl | exact .inr (.inl rfl) | exact .inr (.inr rfl)) hr.toRoom (se_of 3 (pv 3)) (pv 0))
  (ss_one (ss_ret (se_mod (se_intc (by rfl) T.m_int (sa_cons (se_div (se_of 3 (pv 3)) se_int) sa_nil)) (se_of 1 (pv 1)))))))))))))).imp (spOfZ_imp (imp__law_pick))
abbrev st__law_of : Stmt := top 20
theorem sc__law_of : FnScope N__law_of ["source", "some"] (defScope st__law_of) := ⟨rfl, rfl, rfl, by decide +kernel, rfl, by decide +kernel, by decide +kernel⟩
theorem D__law_of (T : Txt P K mg base ec xc fa) (D__law_pick : DefOk P w K mg base "_law_pick" 2 (spOfZ K ec 1 S__law_pick)) {f : Addr} {fd : FuncData} (F : L2.Fun K "_law_of" "_law_of" st__law_of f fd) (hf : mg "_law_of" = some (.ref f)) (bd : Binds K fd ["source", "some"] []) : DefOk P w K mg base "_law_of" 3 (spOfZ K ec 1 S__law_of) := by
  exact (def_okZ (N := N__law_of) (k := 2) (n := 1) (t := ((aRet (aBin dIdx (aVar 1) (aCallZ 0 1 S__law_pick (aCons (aLenN 1) aNil)))) : AS)) F sc__law_of hf bd rfl (fun cdv A outer s H E B W hB hr tk => (ss_one (ss_ret (se_ix hr.toRoom (se_of 1 (pv 1)) (se_callZ 0 hB D__law_pick tk (hr.down (by decide : 2 ≤ 2)) (by rfl) (pv 0) (sa_cons (se_lenN 1 (by rfl) T.m_len (pv 1)) sa_nil))))))).imp (spOfZ_imp (imp__law_of))
abbrev st__law_stretches : Stmt := top 21
theorem sc__law_stretches : FnScope N__law_stretches ["source"] (defScope st__law_stretches) := ⟨rfl, rfl, rfl, by decide +kernel, rfl, by decide +kernel, by decide +kernel⟩
theorem D__law_stretches (T : Txt P K mg base ec xc fa) (D__law_pick : DefOk P w K mg base "_law_pick" 2 (spOfZ K ec 1 S__law_pick)) {f : Addr} {fd : FuncData} (F : L2.Fun K "_law_stretches" "_law_stretches" st__law_stretches f fd) (hf : mg "_law_stretches" = some (.ref f)) (bd : Binds K fd ["source"] []) : DefOk P w K mg base "_law_stretches" 3 (spOfZ K ec 0 S__law_stretches) := by
  exact (def_okZ (N := N__law_stretches) (k := 2) (n := 0) (t := ((aSeq (aSetO 1 (aLst aNil))
  (aSeq (aFor (aRng1 (aCons (aCallZ 0 1 S__law_pick (aCons (aC (.int 7)) aNil)) aNil)) ((gSet 2)) ((aSeq (aSet 3 (aCallZ 0 1 S__law_pick (aCons (aC (.int 60)) aNil)))
  (aDrop (aAppend 1 (aTup (aCons (aVar 3) (aCons (aOp dMax2 (aCons (aC (.int 0)) (aCons (aBin dSub (aBin dAdd (aVar 3) (aCallZ 0 1 S__law_pick (aCons (aC (.int 50)) aNil))) (aC (.int 3))) aNil))) aNil))))))))
  (aRet (aBin dAdd (aVar 1) (aBin dMul (aLst (aCons (aTup (aCons (aBin dAdd (aC (.int 60)) (aCallZ 0 1 S__law_pick (aCons (aC (.int 50)) aNil))) (aCons (aC .non) aNil))) aNil)) (aOp dInt (aCons (aBin dEq2 (aCallZ 0 1 S__law_pick (aCons (aC (.int 3)) aNil)) (aC (.int 0))) aNil))))))) : AS)) F sc__law_stretches hf bd rfl (fun cdv A outer s H E B W hB hr tk => (ss_cons (ss_setO (i := 1) sc__law_stretches.nd rfl (by first | exact .inl rfl | exact .inr rfl) (sf_lst sa_nil))
  (ss_cons (ss_for (vs := [2]) (passes_of rfl) rfl (si_range1 (by rfl) T.m_range (sa_cons (se_callZ 0 hB D__law_pick tk (hr.down (by decide : 2 ≤ 2)) (by rfl) (pv 0) (sa_cons se_int sa_nil)) sa_nil)) (sg_of (pg_name (i := 2) sc__law_stretches.nd rfl (by first | exact .inl rfl | exact .inr rfl)) (by decide)) (ss_cons (ss_set (i := 3) sc__law_stretches.nd rfl (by first | exact .inl rfl | exact .inr rfl) (se_callZ 0 hB D__law_pick tk (hr.down (by decide : 2 ≤ 2)) (by rfl) (pv 0) (sa_cons se_int sa_nil)))
  (ss_one (ss_expr (se_append 1 (pv 1) (se_tup (sa_cons (se_of 3 (pv 3)) (sa_cons (se_max2 rfl (by rfl) T.m_max (sa_cons se_int (sa_cons (se_sub (se_add (se_of 3 (pv 3)) (se_callZ 0 hB D__law_pick tk (hr.down (by decide : 2 ≤ 2)) (by rfl) (pv 0) (sa_cons se_int sa_nil))) se_int) sa_nil))) sa_nil))))))))
  (ss_one (ss_ret (se_add (se_of 1 (pv 1)) (se_mul (se_of_sf (sf_lst (sa_cons (se_tup (sa_cons (se_add se_int (se_callZ 0 hB D__law_pick tk (hr.down (by decide : 2 ≤ 2)) (by rfl) (pv 0) (sa_cons se_int sa_nil))) (sa_cons se_non sa_nil))) sa_nil))) (se_intc (by rfl) T.m_int (sa_cons (se_eq2 hr.toRoom (se_callZ 0 hB D__law_pick tk (hr.down (by decide : 2 ≤ 2)) (by rfl) (pv 0) (sa_cons se_int sa_nil)) se_int) sa_nil)))))))))).imp (spOfZ_imp (imp__law_stretches))
abbrev st__law_truths : Stmt := top 22
theorem sc__law_truths : FnScope N__law_truths ["stretches"] (defScope st__law_truths) := ⟨rfl, rfl, rfl, by decide +kernel, rfl, by decide +kernel, by decide +kernel⟩
theorem D__law_truths (T : Txt P K mg base ec xc fa) {f : Addr} {fd : FuncData} (F : L2.Fun K "_law_truths" "_law_truths" st__law_truths f fd) (hf : mg "_law_truths" = some (.ref f)) (bd : Binds K fd ["stretches"] []) : DefOk P w K mg base "_law_truths" 2 (spOf K ec 1 S__law_truths) := by
  exact (def_ok (N := N__law_truths) (k := 1) (t := ((aRet (aLc (aRng1 (aCons (aC (.int 130)) aNil)) ((gSet 3)) aYes ((aBin dNe2 (aLc (aIt (aVar 0)) ((gTupA 2 (gsCons (gSet 1) (gsCons (gSet 2) gsNil)))) ((aAnd (aTestB (aBin dLe (aVar 1) (aVar 3))) (aOr (aTestB (aBin dIs2 (aVar 2) (aC .non))) (aTestB (aBin dLe (aVar 3) (aVar 2)))))) ((aC (.int 1))) [1, 2]) (aLst aNil))) [3])) : AS)) F sc__law_truths hf bd (fun cdv A outer s H E B W hB hr tk => (ss_one (ss_ret (se_of_sf (sf_lc (own := [("n", 3)]) rfl sc__law_truths.nd (si_range1 (by rfl) T.m_range (sa_cons se_int sa_nil)) (blkOk_by (by kernel_rfl)) (fun _ _ _ _ _ _ => (sg_of (pg_name (i := 3) sc__law_truths.nd rfl (by first | exact .inl rfl | exact .inr rfl)) (by decide))) (fun _ _ _ _ _ _ => sts_nil) (fun _ _ _ _ _ _ => (se_ne2 hr.toRoom (se_of_sf (sf_lc (own := [("low", 1), ("high", 2)]) rfl sc__law_truths.nd (si_of (se_of 0 (pv 0))) (blkOk_by (by kernel_rfl)) (fun _ _ _ _ _ _ => (sg_tup rfl (sgs_cons (sg_of (pg_name (i := 1) sc__law_truths.nd rfl (by first | exact .inl rfl | exact .inr rfl)) (by decide)) (sgs_cons (sg_of (pg_name (i := 2) sc__law_truths.nd rfl (by first | exact .inl rfl | exact .inr rfl)) (by decide)) sgs_nil)))) (fun _ _ _ _ _ _ => (sts_one (st_bool (sw_and (st_le (se_of 1 (pv 1)) (se_of 3 (pv 3))) (sw_and1 (st_bool (sw_or (st_is2 (se_of 2 (pv 2)) se_non) (sw_or1 (st_le (se_of 3 (pv 3)) (se_of 2 (pv 2))))))))))) (fun _ _ _ _ _ _ => se_int))) (se_of_sf (sf_lst sa_nil)))))))))).imp (spOf_imp (imp__law_truths))
abbrev st__law_lot : Stmt := top 23
theorem sc__law_lot : FnScope N__law_lot ["truths"] (defScope st__law_lot) := ⟨rfl, rfl, rfl, by decide +kernel, rfl, by decide +kernel, by decide +kernel⟩
theorem D__law_lot (T : Txt P K mg base ec xc fa) {f : Addr} {fd : FuncData} (F : L2.Fun K "_law_lot" "_law_lot" st__law_lot f fd) (hf : mg "_law_lot" = some (.ref f)) (bd : Binds K fd ["truths"] []) : DefOk P w K mg base "_law_lot" 2 (spOf K ec 1 S__law_lot) := by
  exact (def_ok (N := N__law_lot) (k := 1) (t := ((aSeq (aParO [1, 2] (aoO (aLst aNil) (aoD (aC .non) aoNil)))
  (aSeq (aFor (aEnum (aCons (aBin dAdd (aVar 0) (aLst (aCons (aC (.bl false)) aNil))) aNil)) ((gTupA 2 (gsCons (gSet 3) (gsCons (gSet 4) gsNil)))) ((aSeq (aIfS (aAnd (aTest (aVar 4)) (aTestB (aBin dIs2 (aVar 2) (aC .non)))) (aSet 2 (aVar 3)) aSkip)
  (aIfS (aAnd (aNot (aTest (aVar 4))) (aTestB (aBin dIsNot2 (aVar 2) (aC .non)))) (aSeq (aDrop (aAppend 1 (aTup (aCons (aVar 2) (aCons (aIf (aTestB (aBin dEq2 (aVar 3) (aLenN 0))) (aC .non) (aBin dSub (aVar 3) (aC (.int 1)))) aNil)))))
  (aSet 2 (aC .non))) aSkip))))
  (aRet (aOp dTuple (aCons (aVar 1) aNil))))) : AS)) F sc__law_lot hf bd (fun cdv A outer s H E B W hB hr tk => (ss_cons (ss_par2 (i := 1) (j := 2) rfl sc__law_lot.nd rfl rfl (by decide) rfl rfl (sao_o (sf_lst sa_nil) fun _ => (sao_d se_non sao_nil)))
  (ss_cons (ss_for (vs := [3, 4]) (passes_of rfl) rfl (si_enum (by rfl) T.m_enumerate (sa_cons (se_add (se_of 0 (pv 0)) (se_of_sf (sf_lst (sa_cons se_bl sa_nil)))) sa_nil)) (sg_tup rfl (sgs_cons (sg_of (pg_name (i := 3) sc__law_lot.nd rfl (by first | exact .inl rfl | exact .inr rfl)) (by decide)) (sgs_cons (sg_of (pg_name (i := 4) sc__law_lot.nd rfl (by first | exact .inl rfl | exact .inr rfl)) (by decide)) sgs_nil))) (ss_cons (ss_if (st_bool (sw_and (st_of (se_of 4 (pv 4))) (sw_and1 (st_is2 (se_of 2 (pv 2)) se_non)))) (ss_one (ss_set (i := 2) sc__law_lot.nd rfl (by first | exact .inl rfl | exact .inr rfl) (se_of 3 (pv 3)))) ss_nil)
  (ss_one (ss_if (st_bool (sw_and (st_not (st_of (se_of 4 (pv 4)))) (sw_and1 (st_isNot2 (se_of 2 (pv 2)) se_non)))) (ss_cons (ss_expr (se_append 1 (pv 1) (se_tup (sa_cons (se_of 2 (pv 2)) (sa_cons (se_if (st_eq2 hr.toRoom (se_of 3 (pv 3)) (se_lenN 0 (by rfl) T.m_len (pv 0))) se_non (se_sub (se_of 3 (pv 3)) se_int)) sa_nil)))))
  (ss_one (ss_set (i := 2) sc__law_lot.nd rfl (by first | exact .inl rfl | exact .inr rfl) se_non))) ss_nil))))
  (ss_one (ss_ret (se_tuplec (by rfl) T.m_tuple (sa_cons (se_of 1 (pv 1)) sa_nil)))))))).imp (spOf_imp (imp__law_lot))
abbrev st__law_first : Stmt := top 24
theorem sc__law_first : FnScope N__law_first ["truths", "wanted"] (defScope st__law_first) := ⟨rfl, rfl, rfl, by decide +kernel, rfl, by decide +kernel, by decide +kernel⟩
theorem D__law_first (T : Txt P K mg base ec xc fa) {f : Addr} {fd : FuncData} (F : L2.Fun K "_law_first" "_law_first" st__law_first f fd) (hf : mg "_law_first" = some (.ref f)) (bd : Binds K fd ["truths", "wanted"] []) : DefOk P w K mg base "_law_first" 2 (spOf K ec 2 S__law_first) := by
  exact (def_ok (N := N__law_first) (k := 1) (t := ((aSeq (aSet 2 (aLc (aEnum (aCons (aVar 0) aNil)) ((gTupA 2 (gsCons (gSet 3) (gsCons (gSet 4) gsNil)))) ((aTestB (aBin dEq2 (aVar 4) (aVar 1)))) ((aVar 3)) [3, 4]))
  (aRet (aIf (aTestB (aBin dNe2 (aVar 2) (aLst aNil))) (aBin dIdx (aVar 2) (aC (.int 0))) (aC .non)))) : AS)) F sc__law_first hf bd (fun cdv A outer s H E B W hB hr tk => (ss_cons (ss_setLc (i := 2) (own := [("n", 3), ("truth", 4)]) rfl sc__law_first.nd rfl rfl (sw_true rfl rfl rfl (by decide +kernel)) (si_enum (by rfl) T.m_enumerate (sa_cons (se_of 0 (pv 0)) sa_nil)) (blkOk_by (by kernel_rfl)) (fun _ _ _ _ _ _ => (sg_tup rfl (sgs_cons (sg_of (pg_name (i := 3) sc__law_first.nd rfl (by first | exact .inl rfl | exact .inr rfl)) (by decide)) (sgs_cons (sg_of (pg_name (i := 4) sc__law_first.nd rfl (by first | exact .inl rfl | exact .inr rfl)) (by decide)) sgs_nil)))) (fun _ _ _ _ _ _ => (sts_one (st_eq2 hr.toRoom (se_of 4 (pv 4)) (se_of 1 (pv 1))))) (fun _ _ _ _ _ _ => (se_of 3 (pv 3))))
  (ss_one (ss_ret (se_if (st_ne2 hr.toRoom (se_of 2 (pv 2)) (se_of_sf (sf_lst sa_nil))) (se_ix hr.toRoom (se_of 2 (pv 2)) se_int) se_non)))))).imp (spOf_imp (imp__law_first))
abbrev st__law_told : Stmt := top 25
theorem sc__law_told : FnScope N__law_told ["call", "one", "other"] (defScope st__law_told) := ⟨rfl, rfl, rfl, by decide +kernel, rfl, by decide +kernel, by decide +kernel⟩
theorem D__law_told (T : Txt P K mg base ec xc fa) {f : Addr} {fd : FuncData} (F : L2.Fun K "_law_told" "_law_told" st__law_told f fd) (hf : mg "_law_told" = some (.ref f)) (bd : Binds K fd ["call", "one", "other"] []) : DefOk P w K mg base "_law_told" 5 (spOf K ec 3 (S__law_told (FnAt P w K mg base ec 4))) := by
  exact (def_ok (N := N__law_told) (k := 4) (t := ((aTry (fun n => n == "TooGreat") 3 (aRet (aTup (aCons (aC (.str "told")) (aCons (aOp dLen (aCons (aIf (aTestB (aBin dIsNot2 (aVar 2) (aC .non))) (aCallV (FnAt P w K mg base ec 4) 0 2 (aCons (aVar 1) (aCons (aVar 2) aNil))) (aCallV (FnAt P w K mg base ec 4) 0 1 (aCons (aVar 1) aNil))) aNil)) aNil)))) fun x a => (aRet (aTup (aCons (aC (.str "great")) (aCons (aFld 3 "number" x a) aNil))))) : AS)) F sc__law_told hf bd (fun cdv A outer s H E B W hB hr tk => (ss_one (ss_try (i := 3) (m := (fun n => n == "TooGreat")) hB rfl rfl sc__law_told.nd rfl rfl (by exact ⟨rfl, by decide, .inl T.x_TooGreat.gC⟩) tk T.xm_TooGreat (fun B' W' pn xe hB tk' po' => (ss_one (ss_ret (se_tup (sa_cons se_str (sa_cons (se_len (by rfl) T.m_len (sa_cons (se_if (st_isNot2 (se_of 2 (pv 2)) se_non) (se_callV (i := 0) (n := 2) hB tk' (hr.down (by decide : 4 ≤ 4)) rfl (by first | exact .inl rfl | exact .inr (.inl rfl) | exact .inr (.inr rfl)) (sa_cons (se_of 1 (pv 1)) (sa_cons (se_of 2 (pv 2)) sa_nil))) (se_callV (i := 0) (n := 1) hB tk' (hr.down (by decide : 4 ≤ 4)) rfl (by first | exact .inl rfl | exact .inr (.inl rfl) | exact .inr (.inr rfl)) (sa_cons (se_of 1 (pv 1)) sa_nil))) sa_nil)) sa_nil)))))) (fun x B' a oe cls d pn hB' hm hx hz hf => by have hB := hB'; exact (ss_one (ss_ret (se_tup (sa_cons se_str (sa_cons (se_fld hB' T.x_TooGreat T.e_TooGreat hx (eq_of_beq hm) rfl hz hf (pv 3)) sa_nil)))))))))).imp (spOf_imp (imp__law_told (FnAt P w K mg base ec 4)))
abbrev st__law_many_right : Stmt := top 26
theorem sc__law_many_right : FnScope N__law_many_right [] (defScope st__law_many_right) := ⟨rfl, rfl, rfl, by decide +kernel, rfl, by decide +kernel, by decide +kernel⟩
theorem D__law_many_right (T : Txt P K mg base ec xc fa) (D__law_told : DefOk P w K mg base "_law_told" 5 (spOf K ec 3 (S__law_told (FnAt P w K mg base ec 4)))) (D_lot_told : DefOk P w K mg base "lot_told" 3 (spOf K ec 1 S_lot_told)) (D_lots_any : DefOk P w K mg base "lots_any" 4 (spOf K ec 2 S_lots_any)) (D_lots_both : DefOk P w K mg base "lots_both" 4 (spOf K ec 2 S_lots_both)) (D_lot_out : DefOk P w K mg base "lot_out" 4 (spOf K ec 1 S_lot_out)) {f : Addr} {fd : FuncData} (F : L2.Fun K "_law_many_right" "_law_many_right" st__law_many_right f fd) (hf : mg "_law_many_right" = some (.ref f)) (bd : Binds K fd [] []) : DefOk P w K mg base "_law_many_right" 6 (spOf K ec 0 (S__law_many_right (FnAt P w K mg base ec 4))) := by
  exact (def_ok (N := N__law_many_right) (k := 5) (t := ((aSeq (aParO [0, 1] (aoD (aOp dTuple (aCons (aLc (aRng1 (aCons (aC (.int 60)) aNil)) ((gSet 6)) aYes ((aTup (aCons (aBin dMul (aC (.int 3)) (aVar 6)) (aCons (aBin dMul (aC (.int 3)) (aVar 6)) aNil)))) [6]) aNil)) (aoD (aOp dTuple (aCons (aLc (aRng1 (aCons (aC (.int 61)) aNil)) ((gSet 6)) aYes ((aTup (aCons (aBin dMul (aC (.int 3)) (aVar 6)) (aCons (aBin dMul (aC (.int 3)) (aVar 6)) aNil)))) [6]) aNil)) aoNil)))
  (aSeq (aSet 2 (aTup (aCons (aTup (aCons (aC (.int 1000)) (aCons (aC (.int 1000)) aNil))) aNil)))
  (aSeq (aSet 3 (aBin dAdd (aLc (aIt (aTup (aCons (aVar 0) (aCons (aVar 1) aNil)))) ((gSet 7)) aYes ((aCall 3 (S__law_told (FnAt P w K mg base ec 4)) (aCons (aC (.con (.ref (fa "lot_told")))) (aCons (aVar 7) (aCons (aC .non) aNil))))) [7]) (aLst (aCons (aCall 3 (S__law_told (FnAt P w K mg base ec 4)) (aCons (aC (.con (.ref (fa "lots_any")))) (aCons (aVar 0) (aCons (aVar 2) aNil)))) aNil))))
  (aSeq (aSet 3 (aBin dAdd (aVar 3) (aLst (aCons (aCall 3 (S__law_told (FnAt P w K mg base ec 4)) (aCons (aC (.con (.ref (fa "lots_any")))) (aCons (aVar 0) (aCons (aTup (aCons (aTup (aCons (aC (.int 1)) (aCons (aC (.int 1)) aNil))) aNil)) aNil)))) (aCons (aCall 3 (S__law_told (FnAt P w K mg base ec 4)) (aCons (aC (.con (.ref (fa "lots_both")))) (aCons (aVar 0) (aCons (aTup (aCons (aTup (aCons (aC (.int 0)) (aCons (aC .non) aNil))) aNil)) aNil)))) aNil)))))
  (aSeq (aSet 4 (aOp dTuple (aCons (aLc (aIt (aVar 0)) ((gTupA 2 (gsCons (gSet 8) (gsCons (gSet 9) gsNil)))) aYes ((aTup (aCons (aBin dAdd (aVar 8) (aC (.int 1))) (aCons (aBin dAdd (aVar 9) (aC (.int 1))) aNil)))) [8, 9]) aNil)))
  (aSeq (aSet 3 (aBin dAdd (aVar 3) (aLst (aCons (aCall 3 (S__law_told (FnAt P w K mg base ec 4)) (aCons (aC (.con (.ref (fa "lot_out")))) (aCons (aVar 0) (aCons (aC .non) aNil)))) (aCons (aCall 3 (S__law_told (FnAt P w K mg base ec 4)) (aCons (aC (.con (.ref (fa "lot_out")))) (aCons (aVar 4) (aCons (aC .non) aNil)))) aNil)))))
  (aSeq (aSet 5 (aLst (aCons (aTup (aCons (aC (.str "told")) (aCons (aC (.int 60)) aNil))) (aCons (aTup (aCons (aC (.str "great")) (aCons (aC (.int 3)) aNil))) (aCons (aTup (aCons (aC (.str "great")) (aCons (aC (.int 3)) aNil))) (aCons (aTup (aCons (aC (.str "told")) (aCons (aC (.int 60)) aNil))) (aCons (aTup (aCons (aC (.str "told")) (aCons (aC (.int 60)) aNil))) (aCons (aTup (aCons (aC (.str "told")) (aCons (aC (.int 60)) aNil))) (aCons (aTup (aCons (aC (.str "great")) (aCons (aC (.int 3)) aNil))) aNil)))))))))
  (aRet (aBin dEq2 (aVar 3) (aVar 5)))))))))) : AS)) F sc__law_many_right hf bd (fun cdv A outer s H E B W hB hr tk => (ss_cons (ss_par2 (i := 0) (j := 1) rfl sc__law_many_right.nd rfl rfl (by decide) rfl rfl (sao_d (se_tuplec (by rfl) T.m_tuple (sa_cons (se_of_sf (sf_lc (own := [("k", 6)]) rfl sc__law_many_right.nd (si_range1 (by rfl) T.m_range (sa_cons se_int sa_nil)) (blkOk_by (by kernel_rfl)) (fun _ _ _ _ _ _ => (sg_of (pg_name (i := 6) sc__law_many_right.nd rfl (by first | exact .inl rfl | exact .inr rfl)) (by decide))) (fun _ _ _ _ _ _ => sts_nil) (fun _ _ _ _ _ _ => (se_tup (sa_cons (se_mul se_int (se_of 6 (pv 6))) (sa_cons (se_mul se_int (se_of 6 (pv 6))) sa_nil)))))) sa_nil)) (sao_d (se_tuplec (by rfl) T.m_tuple (sa_cons (se_of_sf (sf_lc (own := [("k", 6)]) rfl sc__law_many_right.nd (si_range1 (by rfl) T.m_range (sa_cons se_int sa_nil)) (blkOk_by (by kernel_rfl)) (fun _ _ _ _ _ _ => (sg_of (pg_name (i := 6) sc__law_many_right.nd rfl (by first | exact .inl rfl | exact .inr rfl)) (by decide))) (fun _ _ _ _ _ _ => sts_nil) (fun _ _ _ _ _ _ => (se_tup (sa_cons (se_mul se_int (se_of 6 (pv 6))) (sa_cons (se_mul se_int (se_of 6 (pv 6))) sa_nil)))))) sa_nil)) sao_nil)))
  (ss_cons (ss_set (i := 2) sc__law_many_right.nd rfl (by first | exact .inl rfl | exact .inr rfl) (se_tup (sa_cons (se_tup (sa_cons se_int (sa_cons se_int sa_nil))) sa_nil)))
  (ss_cons (ss_set (i := 3) sc__law_many_right.nd rfl (by first | exact .inl rfl | exact .inr rfl) (se_add (se_of_sf (sf_lc (own := [("some", 7)]) rfl sc__law_many_right.nd (si_of (se_tup (sa_cons (se_of 0 (pv 0)) (sa_cons (se_of 1 (pv 1)) sa_nil)))) (blkOk_by (by kernel_rfl)) (fun _ _ _ _ _ _ => (sg_of (pg_name (i := 7) sc__law_many_right.nd rfl (by first | exact .inl rfl | exact .inr rfl)) (by decide))) (fun _ _ _ _ _ _ => sts_nil) (fun _ _ _ _ _ _ => (se_call hB D__law_told takes0 (hr.down (by decide : 5 ≤ 5)) (by rfl) (sa_cons (mod_const (v := .ref (fa "lot_told")) (by rfl) (T.f_lot_told) rfl fun _ => .con _) (sa_cons (se_of 7 (pv 7)) (sa_cons se_non sa_nil))))))) (se_of_sf (sf_lst (sa_cons (se_call hB D__law_told tk (hr.down (by decide : 5 ≤ 5)) (by rfl) (sa_cons (mod_const (v := .ref (fa "lots_any")) (by rfl) (T.f_lots_any) rfl fun _ => .con _) (sa_cons (se_of 0 (pv 0)) (sa_cons (se_of 2 (pv 2)) sa_nil)))) sa_nil)))))
  (ss_cons (ss_set (i := 3) sc__law_many_right.nd rfl (by first | exact .inl rfl | exact .inr rfl) (se_add (se_of 3 (pv 3)) (se_of_sf (sf_lst (sa_cons (se_call hB D__law_told tk (hr.down (by decide : 5 ≤ 5)) (by rfl) (sa_cons (mod_const (v := .ref (fa "lots_any")) (by rfl) (T.f_lots_any) rfl fun _ => .con _) (sa_cons (se_of 0 (pv 0)) (sa_cons (se_tup (sa_cons (se_tup (sa_cons se_int (sa_cons se_int sa_nil))) sa_nil)) sa_nil)))) (sa_cons (se_call hB D__law_told tk (hr.down (by decide : 5 ≤ 5)) (by rfl) (sa_cons (mod_const (v := .ref (fa "lots_both")) (by rfl) (T.f_lots_both) rfl fun _ => .con _) (sa_cons (se_of 0 (pv 0)) (sa_cons (se_tup (sa_cons (se_tup (sa_cons se_int (sa_cons se_non sa_nil))) sa_nil)) sa_nil)))) sa_nil))))))
  (ss_cons (ss_set (i := 4) sc__law_many_right.nd rfl (by first | exact .inl rfl | exact .inr rfl) (se_tuplec (by rfl) T.m_tuple (sa_cons (se_of_sf (sf_lc (own := [("low", 8), ("high", 9)]) rfl sc__law_many_right.nd (si_of (se_of 0 (pv 0))) (blkOk_by (by kernel_rfl)) (fun _ _ _ _ _ _ => (sg_tup rfl (sgs_cons (sg_of (pg_name (i := 8) sc__law_many_right.nd rfl (by first | exact .inl rfl | exact .inr rfl)) (by decide)) (sgs_cons (sg_of (pg_name (i := 9) sc__law_many_right.nd rfl (by first | exact .inl rfl | exact .inr rfl)) (by decide)) sgs_nil)))) (fun _ _ _ _ _ _ => sts_nil) (fun _ _ _ _ _ _ => (se_tup (sa_cons (se_add (se_of 8 (pv 8)) se_int) (sa_cons (se_add (se_of 9 (pv 9)) se_int) sa_nil)))))) sa_nil)))
  (ss_cons (ss_set (i := 3) sc__law_many_right.nd rfl (by first | exact .inl rfl | exact .inr rfl) (se_add (se_of 3 (pv 3)) (se_of_sf (sf_lst (sa_cons (se_call hB D__law_told tk (hr.down (by decide : 5 ≤ 5)) (by rfl) (sa_cons (mod_const (v := .ref (fa "lot_out")) (by rfl) (T.f_lot_out) rfl fun _ => .con _) (sa_cons (se_of 0 (pv 0)) (sa_cons se_non sa_nil)))) (sa_cons (se_call hB D__law_told tk (hr.down (by decide : 5 ≤ 5)) (by rfl) (sa_cons (mod_const (v := .ref (fa "lot_out")) (by rfl) (T.f_lot_out) rfl fun _ => .con _) (sa_cons (se_of 4 (pv 4)) (sa_cons se_non sa_nil)))) sa_nil))))))
  (ss_cons (ss_set (i := 5) sc__law_many_right.nd rfl (by first | exact .inl rfl | exact .inr rfl) (se_of_sf (sf_lst (sa_cons (se_tup (sa_cons se_str (sa_cons se_int sa_nil))) (sa_cons (se_tup (sa_cons se_str (sa_cons se_int sa_nil))) (sa_cons (se_tup (sa_cons se_str (sa_cons se_int sa_nil))) (sa_cons (se_tup (sa_cons se_str (sa_cons se_int sa_nil))) (sa_cons (se_tup (sa_cons se_str (sa_cons se_int sa_nil))) (sa_cons (se_tup (sa_cons se_str (sa_cons se_int sa_nil))) (sa_cons (se_tup (sa_cons se_str (sa_cons se_int sa_nil))) sa_nil))))))))))
  (ss_one (ss_ret (se_eq2 hr.toRoom (se_of 3 (pv 3)) (se_of 5 (pv 5)))))))))))))).imp (spOf_imp (imp__law_many_right (FnAt P w K mg base ec 4) fa weakFA (D_lot_told.atUp T.f_lot_told (by decide)) (D_lots_any.atUp T.f_lots_any (by decide)) (D_lots_both.atUp T.f_lots_both (by decide)) (D_lot_out.atUp T.f_lot_out (by decide))))
abbrev st_law : Stmt := top 27
theorem sc_law : FnScope N_law ["script"] (defScope st_law) := ⟨rfl, rfl, rfl, by decide +kernel, rfl, by decide +kernel, by decide +kernel⟩
theorem fn_law (T : Txt P K mg base ec xc fa) (so : SrcOk P w K mg base) (D__law_pick : DefOk P w K mg base "_law_pick" 2 (spOfZ K ec 1 S__law_pick)) (D__law_of : DefOk P w K mg base "_law_of" 3 (spOfZ K ec 1 S__law_of)) (D__law_stretches : DefOk P w K mg base "_law_stretches" 3 (spOfZ K ec 0 S__law_stretches)) (D_lot_told : DefOk P w K mg base "lot_told" 3 (spOf K ec 1 S_lot_told)) (D__law_truths : DefOk P w K mg base "_law_truths" 2 (spOf K ec 1 S__law_truths)) (D_lots_both : DefOk P w K mg base "lots_both" 4 (spOf K ec 2 S_lots_both)) (D_lots_any : DefOk P w K mg base "lots_any" 4 (spOf K ec 2 S_lots_any)) (D_lot_out : DefOk P w K mg base "lot_out" 4 (spOf K ec 1 S_lot_out)) (D__law_many_right : DefOk P w K mg base "_law_many_right" 6 (spOf K ec 0 (S__law_many_right (FnAt P w K mg base ec 4)))) (D_lot_has : DefOk P w K mg base "lot_has" 2 (spOf K ec 2 S_lot_has)) (D_first_out : DefOk P w K mg base "first_out" 2 (spOf K ec 1 S_first_out)) (D__law_first : DefOk P w K mg base "_law_first" 2 (spOf K ec 2 S__law_first)) (D_is_ever : DefOk P w K mg base "is_ever" 2 (spOf K ec 2 S_is_ever)) (D_lot_signed : DefOk P w K mg base "lot_signed" 4 (spOf K ec 2 S_lot_signed)) (D__law_lot : DefOk P w K mg base "_law_lot" 2 (spOf K ec 1 S__law_lot)) (D_first_in : DefOk P w K mg base "first_in" 2 (spOf K ec 1 S_first_in)) {f : Addr} {fd : FuncData} (F : L2.Fun K "law" "law" st_law f fd) (holds : runL N_law (d_law (FnAt P w K mg base ec 4))) : FnG P w K mg base 7 f fd ["script"] (spLaw K) := by
  obtain ⟨f0, fd0, g0, k0, b0, F0⟩ := so.ex
  exact law_fn (t := ((aSeq (aParO [2, 3] (aoD (aCallZ 1 0 S__law_stretches aNil) (aoD (aCallZ 1 0 S__law_stretches aNil) aoNil)))
  (aSeq (aParO [4, 5] (aoD (aCall 1 S_lot_told (aCons (aVar 2) aNil)) (aoD (aCall 1 S_lot_told (aCons (aOp dTuple (aCons (aRevL (aVar 3)) aNil)) aNil)) aoNil)))
  (aSeq (aParO [6, 7] (aoD (aCall 1 S__law_truths (aCons (aVar 2) aNil)) (aoD (aCall 1 S__law_truths (aCons (aVar 3) aNil)) aoNil)))
  (aSeq (aIfS (aOr (aTestB (aBin dNe2 (aOp dRepr (aCons (aLst (aCons (aVar 4) (aCons (aVar 5) aNil))) aNil)) (aOp dRepr (aCons (aLst (aCons (aCall 1 S__law_lot (aCons (aVar 6) aNil)) (aCons (aCall 1 S__law_lot (aCons (aVar 7) aNil)) aNil))) aNil)))) (aTestB (aBin dNe2 (aOp dRepr (aCons (aCall 1 S_lot_told (aCons (aBin dAdd (aVar 4) (aVar 4)) aNil)) aNil)) (aOp dRepr (aCons (aVar 4) aNil))))) (aRet (aC (.bl false))) aSkip)
  (aSeq (aParO [8, 9, 10] (aoD (aCall 2 S_lots_both (aCons (aVar 4) (aCons (aVar 5) aNil))) (aoD (aCall 2 S_lots_any (aCons (aVar 4) (aCons (aVar 5) aNil))) (aoD (aCall 1 S_lot_out (aCons (aVar 4) aNil)) aoNil))))
  (aSeq (aSet 11 (aLst (aCons (aLc (aZip (aCons (aVar 6) (aCons (aVar 7) aNil))) ((gTupA 2 (gsCons (gSet 25) (gsCons (gSet 26) gsNil)))) aYes ((aAndV (aVar 25) (aVar 26))) [25, 26]) (aCons (aLc (aZip (aCons (aVar 6) (aCons (aVar 7) aNil))) ((gTupA 2 (gsCons (gSet 25) (gsCons (gSet 26) gsNil)))) aYes ((aOrV (aVar 25) (aVar 26))) [25, 26]) (aCons (aLc (aIt (aVar 6)) ((gSet 25)) aYes ((aNotV (aVar 25))) [25]) aNil)))))
  (aSeq (aIfS (aTestB (aBin dNe2 (aOp dRepr (aCons (aLst (aCons (aVar 8) (aCons (aVar 9) (aCons (aVar 10) aNil)))) aNil)) (aOp dRepr (aCons (aLc (aIt (aVar 11)) ((gSet 24)) aYes ((aCall 1 S__law_lot (aCons (aVar 24) aNil))) [24]) aNil)))) (aRet (aC (.bl false))) aSkip)
  (aSeq (aIfS (aTestB (aBin dNe2 (aOp dRepr (aCons (aLst (aCons (aCall 2 S_lots_both (aCons (aVar 5) (aCons (aVar 4) aNil))) (aCons (aCall 2 S_lots_any (aCons (aVar 5) (aCons (aVar 4) aNil))) (aCons (aCall 1 S_lot_out (aCons (aVar 10) aNil)) aNil)))) aNil)) (aOp dRepr (aCons (aLst (aCons (aVar 8) (aCons (aVar 9) (aCons (aVar 4) aNil)))) aNil)))) (aRet (aC (.bl false))) aSkip)
  (aSeq (aFor (aIt (aTup (aCons (aC (.int 0)) (aCons (aC (.int 59)) (aCons (aC (.int 110)) (aCons (aC (.int 129)) (aCons (aCallZ 1 1 S__law_pick (aCons (aC (.int 130)) aNil)) aNil))))))) ((gSet 12)) ((aIfS (aTestB (aBin dNe2 (aLc (aIt (aTup (aCons (aVar 4) (aCons (aVar 8) (aCons (aVar 9) (aCons (aVar 10) aNil)))))) ((gSet 27)) aYes ((aCall 2 S_lot_has (aCons (aVar 27) (aCons (aVar 12) aNil)))) [27]) (aBin dAdd (aLst (aCons (aBin dIdx (aVar 6) (aVar 12)) aNil)) (aLc (aIt (aVar 11)) ((gSet 24)) aYes ((aBin dIdx (aVar 24) (aVar 12))) [24])))) (aRet (aC (.bl false))) aSkip)))
  (aSeq (aIfS (aOr (aTestB (aBin dNe2 (aCall 2 S_lot_has (aCons (aVar 4) (aCons (aBin dPow (aC (.int 10)) (aC (.int 30))) aNil))) (aBin dIdx (aVar 6) (aC (.int 129))))) (aTestB (aBin dNe2 (aOp dRepr (aCons (aCall 1 S_first_in (aCons (aVar 4) aNil)) aNil)) (aOp dRepr (aCons (aCall 2 S__law_first (aCons (aVar 6) (aCons (aC (.bl true)) aNil))) aNil))))) (aRet (aC (.bl false))) aSkip)
  (aSeq (aIfS (aTestB (aBin dNe2 (aOp dRepr (aCons (aCall 1 S_first_out (aCons (aVar 4) aNil)) aNil)) (aOp dRepr (aCons (aCall 2 S__law_first (aCons (aVar 6) (aCons (aC (.bl false)) aNil))) aNil)))) (aRet (aC (.bl false))) aSkip)
  (aSeq (aSet 13 (aCallZ 1 1 S__law_pick (aCons (aC (.int 130)) aNil)))
  (aSeq (aIfS (aOr (aTestB (aBin dNe2 (aCall 2 S_is_ever (aCons (aVar 4) (aCons (aVar 13) aNil))) (aBin (dIn true) (aC (.bl false)) (aSl (aVar 6) (aPart (aVar 13)) aNoPart)))) (aTestB (aBin dIsNot2 (aCall 2 S_is_ever (aCons (aTup (aCons (aTup (aCons (aC (.int 0)) (aCons (aC .non) aNil))) aNil)) (aCons (aBin dPow (aC (.int 10)) (aC (.int 9))) aNil))) (aC (.bl true))))) (aRet (aC (.bl false))) aSkip)
  (aSeq (aParO [14, 15, 16] (aoO (aLst aNil) (aoD (aC (.int 0)) (aoD (aCallZ 1 1 S__law_of (aCons (aLst (aCons (aC (.int 1)) (aCons (aC (.int 0)) (aCons (aNeg (aC (.int 1))) aNil)))) aNil)) aoNil))))
  (aSeq (aFor (aRng1 (aCons (aCallZ 1 1 S__law_pick (aCons (aC (.int 6)) aNil)) aNil)) ((gSet 17)) ((aSeq (aSet 18 (aBin dAdd (aVar 15) (aCallZ 1 1 S__law_pick (aCons (aC (.int 15)) aNil))))
  (aSeq (aDrop (aAppend 14 (aTup (aCons (aVar 15) (aCons (aVar 18) (aCons (aVar 16) aNil))))))
  (aParO [15, 16] (aoD (aBin dAdd (aVar 18) (aC (.int 1))) (aoD (aCallZ 1 1 S__law_of (aCons (aLc (aIt (aTup (aCons (aC (.int 1)) (aCons (aC (.int 0)) (aCons (aNeg (aC (.int 1))) aNil))))) ((gSet 23)) ((aTestB (aBin dNe2 (aVar 23) (aVar 16)))) ((aVar 23)) [23]) aNil)) aoNil)))))))
  (aSeq (aDrop (aAppend 14 (aTup (aCons (aVar 15) (aCons (aC .non) (aCons (aVar 16) aNil))))))
  (aSeq (aSet 19 (aCallZ 1 1 S__law_of (aCons (aLst (aCons (aTup (aCons (aC (.int 1)) aNil)) (aCons (aTup (aCons (aC (.int 0)) aNil)) (aCons (aTup (aCons (aNeg (aC (.int 1))) aNil)) (aCons (aTup (aCons (aC (.int 1)) (aCons (aC (.int 0)) aNil))) (aCons (aTup (aCons (aC (.int 0)) (aCons (aNeg (aC (.int 1))) aNil))) (aCons (aTup (aCons (aC (.int 1)) (aCons (aNeg (aC (.int 1))) aNil))) (aCons (aTup (aCons (aC (.int 1)) (aCons (aC (.int 0)) (aCons (aNeg (aC (.int 1))) aNil)))) (aCons (aTup aNil) aNil))))))))) aNil)))
  (aSeq (aSet 20 (aLc (aRng1 (aCons (aC (.int 130)) aNil)) ((gSet 12)) aYes ((aBin dNe2 (aLc (aIt (aVar 14)) ((gTupA 3 (gsCons (gSet 28) (gsCons (gSet 29) (gsCons (gSet 23) gsNil))))) ((aAnd (aTestB (aBin dLe (aVar 28) (aVar 12))) (aAnd (aOr (aTestB (aBin dIs2 (aVar 29) (aC .non))) (aTestB (aBin dLe (aVar 12) (aVar 29)))) (aTestB (aBin (dIn false) (aVar 23) (aVar 19)))))) ((aC (.int 1))) [28, 29, 23]) (aLst aNil))) [12]))
  (aSeq (aIfS (aTestB (aBin dNe2 (aOp dRepr (aCons (aCall 2 S_lot_signed (aCons (aOp dTuple (aCons (aVar 14) aNil)) (aCons (aVar 19) aNil))) aNil)) (aOp dRepr (aCons (aCall 1 S__law_lot (aCons (aVar 20) aNil)) aNil)))) (aRet (aC (.bl false))) aSkip)
  (aSeq (aSet 21 (aBin dAdd (aCallZ 1 1 S__law_of (aCons (aLst (aCons (aBin dPow (aC (.int 10)) (aC (.int 30))) (aCons (aOp dIntS (aCons (aBin dAdd (aC (.str "1")) (aBin dRepS (aC (.str "0")) (aC (.int 290)))) aNil)) (aCons (aBin dPow (aC (.int 10)) (aC (.int 9))) aNil)))) aNil)) (aCallZ 1 1 S__law_pick (aCons (aC (.int 9)) aNil))))
  (aSeq (aParO [22, 23] (aoD (aCall 1 S_lot_told (aCons (aLst (aCons (aTup (aCons (aVar 21) (aCons (aC .non) aNil))) (aCons (aTup (aCons (aC (.int 3)) (aCons (aBin dSub (aVar 21) (aC (.int 2))) aNil))) aNil))) aNil)) (aoD (aCall 1 S_lot_told (aCons (aLst (aCons (aTup (aCons (aBin dSub (aVar 21) (aC (.int 2))) (aCons (aBin dAdd (aVar 21) (aC (.int 5))) aNil))) aNil)) aNil)) aoNil)))
  (aSeq (aIfS (aTestB (aBin dNe2 (aOp dRepr (aCons (aLst (aCons (aVar 22) (aCons (aCall 1 S_lot_told (aCons (aLst (aCons (aTup (aCons (aC (.int 3)) (aCons (aBin dSub (aVar 21) (aC (.int 1))) aNil))) (aCons (aTup (aCons (aVar 21) (aCons (aC .non) aNil))) aNil))) aNil)) aNil))) aNil)) (aOp dRepr (aCons (aLst (aCons (aTup (aCons (aTup (aCons (aC (.int 3)) (aCons (aBin dSub (aVar 21) (aC (.int 2))) aNil))) (aCons (aTup (aCons (aVar 21) (aCons (aC .non) aNil))) aNil))) (aCons (aTup (aCons (aTup (aCons (aC (.int 3)) (aCons (aC .non) aNil))) aNil)) aNil))) aNil)))) (aRet (aC (.bl false))) aSkip)
  (aSeq (aIfS (aOr (aTestB (aBin dNe2 (aOp dRepr (aCons (aCall 2 S_lots_both (aCons (aVar 22) (aCons (aVar 23) aNil))) aNil)) (aOp dRepr (aCons (aTup (aCons (aTup (aCons (aBin dSub (aVar 21) (aC (.int 2))) (aCons (aBin dSub (aVar 21) (aC (.int 2))) aNil))) (aCons (aTup (aCons (aVar 21) (aCons (aBin dAdd (aVar 21) (aC (.int 5))) aNil))) aNil))) aNil)))) (aTestB (aBin dNe2 (aCall 1 S_first_out (aCons (aVar 23) aNil)) (aC (.int 0))))) (aRet (aC (.bl false))) aSkip)
  (aSeq (aSet 24 (aLst (aCons (aTup (aCons (aTup (aCons (aC (.int 0)) (aCons (aC (.int 2)) aNil))) (aCons (aTup (aCons (aBin dSub (aVar 21) (aC (.int 1))) (aCons (aBin dSub (aVar 21) (aC (.int 1))) aNil))) aNil))) (aCons (aBin dSub (aVar 21) (aC (.int 2))) (aCons (aBin dAdd (aVar 21) (aC (.int 1))) aNil)))))
  (aSeq (aIfS (aTestB (aBin dNe2 (aOp dRepr (aCons (aLst (aCons (aCall 1 S_lot_out (aCons (aVar 22) aNil)) (aCons (aCall 1 S_first_in (aCons (aVar 23) aNil)) (aCons (aCall 1 S_first_out (aCons (aTup (aCons (aTup (aCons (aC (.int 0)) (aCons (aVar 21) aNil))) aNil)) aNil)) aNil)))) aNil)) (aOp dRepr (aCons (aVar 24) aNil)))) (aRet (aC (.bl false))) aSkip)
  (aRet (aOrV (aBin dGt (aCallZ 1 1 S__law_pick (aCons (aC (.int 3)) aNil)) (aC (.int 0))) (aCall0 (S__law_many_right (FnAt P w K mg base ec 4)))))))))))))))))))))))))))))) : AS)) (k := 6) (st0 := (defBody st_law).getD 0 (.Pass ⟨0, 0, 0, 0⟩)) (rest := (defBody st_law).drop 1) F sc_law (by decide) rfl ⟨f0, fd0, g0, k0, b0, F0⟩
    (fun cdv A outer s H E W hr tk => ps_set (i := 1) sc_law.nd rfl (by first | exact .inl rfl | exact .inr rfl) (pe_callG F0 (hr.down (by decide)) (by rfl) g0 k0 b0 (fun σ => passAt tk σ) (pa_cons (pv 0) pa_nil)))
    (fun cdv A outer s H E B W hB hr tk => (ss_cons (ss_par2 (i := 2) (j := 3) rfl sc_law.nd rfl rfl (by decide) rfl rfl (sao_d (se_callZ 1 hB D__law_stretches tk (hr.down (by decide : 3 ≤ 6)) (by rfl) (pv 1) sa_nil) (sao_d (se_callZ 1 hB D__law_stretches tk (hr.down (by decide : 3 ≤ 6)) (by rfl) (pv 1) sa_nil) sao_nil)))
  (ss_cons (ss_par2 (i := 4) (j := 5) rfl sc_law.nd rfl rfl (by decide) rfl rfl (sao_d (se_call hB D_lot_told tk (hr.down (by decide : 3 ≤ 6)) (by rfl) (sa_cons (se_of 2 (pv 2)) sa_nil)) (sao_d (se_call hB D_lot_told tk (hr.down (by decide : 3 ≤ 6)) (by rfl) (sa_cons (se_tuplec (by rfl) T.m_tuple (sa_cons (se_of_sf (sf_revL (se_of 3 (pv 3)))) sa_nil)) sa_nil)) sao_nil)))
  (ss_cons (ss_par2 (i := 6) (j := 7) rfl sc_law.nd rfl rfl (by decide) rfl rfl (sao_d (se_call hB D__law_truths tk (hr.down (by decide : 2 ≤ 6)) (by rfl) (sa_cons (se_of 2 (pv 2)) sa_nil)) (sao_d (se_call hB D__law_truths tk (hr.down (by decide : 2 ≤ 6)) (by rfl) (sa_cons (se_of 3 (pv 3)) sa_nil)) sao_nil)))
  (ss_cons (ss_if (st_bool (sw_or (st_ne2 hr.toRoom (se_repr hr (by rfl) T.m_repr (sa_cons (se_of_sf (sf_lst (sa_cons (se_of 4 (pv 4)) (sa_cons (se_of 5 (pv 5)) sa_nil)))) sa_nil)) (se_repr hr (by rfl) T.m_repr (sa_cons (se_of_sf (sf_lst (sa_cons (se_call hB D__law_lot tk (hr.down (by decide : 2 ≤ 6)) (by rfl) (sa_cons (se_of 6 (pv 6)) sa_nil)) (sa_cons (se_call hB D__law_lot tk (hr.down (by decide : 2 ≤ 6)) (by rfl) (sa_cons (se_of 7 (pv 7)) sa_nil)) sa_nil)))) sa_nil))) (sw_or1 (st_ne2 hr.toRoom (se_repr hr (by rfl) T.m_repr (sa_cons (se_call hB D_lot_told tk (hr.down (by decide : 3 ≤ 6)) (by rfl) (sa_cons (se_add (se_of 4 (pv 4)) (se_of 4 (pv 4))) sa_nil)) sa_nil)) (se_repr hr (by rfl) T.m_repr (sa_cons (se_of 4 (pv 4)) sa_nil)))))) (ss_one (ss_ret se_bl)) ss_nil)
  (ss_cons (ss_par3 (i := 8) (j := 9) (l := 10) rfl sc_law.nd rfl rfl rfl (by decide) (by decide) (by decide) rfl rfl rfl (sao_d (se_call hB D_lots_both tk (hr.down (by decide : 4 ≤ 6)) (by rfl) (sa_cons (se_of 4 (pv 4)) (sa_cons (se_of 5 (pv 5)) sa_nil))) (sao_d (se_call hB D_lots_any tk (hr.down (by decide : 4 ≤ 6)) (by rfl) (sa_cons (se_of 4 (pv 4)) (sa_cons (se_of 5 (pv 5)) sa_nil))) (sao_d (se_call hB D_lot_out tk (hr.down (by decide : 4 ≤ 6)) (by rfl) (sa_cons (se_of 4 (pv 4)) sa_nil)) sao_nil))))
  (ss_cons (ss_set (i := 11) sc_law.nd rfl (by first | exact .inl rfl | exact .inr rfl) (se_of_sf (sf_lst (sa_cons (se_of_sf (sf_lc (own := [("a", 25), ("b", 26)]) rfl sc_law.nd (si_zip (by rfl) T.m_zip (sa_cons (se_of 6 (pv 6)) (sa_cons (se_of 7 (pv 7)) sa_nil))) (blkOk_by (by kernel_rfl)) (fun _ _ _ _ _ _ => (sg_tup rfl (sgs_cons (sg_of (pg_name (i := 25) sc_law.nd rfl (by first | exact .inl rfl | exact .inr rfl)) (by decide)) (sgs_cons (sg_of (pg_name (i := 26) sc_law.nd rfl (by first | exact .inl rfl | exact .inr rfl)) (by decide)) sgs_nil)))) (fun _ _ _ _ _ _ => sts_nil) (fun _ _ _ _ _ _ => (se_and (se_of 25 (pv 25)) (se_one (se_of 26 (pv 26))))))) (sa_cons (se_of_sf (sf_lc (own := [("a", 25), ("b", 26)]) rfl sc_law.nd (si_zip (by rfl) T.m_zip (sa_cons (se_of 6 (pv 6)) (sa_cons (se_of 7 (pv 7)) sa_nil))) (blkOk_by (by kernel_rfl)) (fun _ _ _ _ _ _ => (sg_tup rfl (sgs_cons (sg_of (pg_name (i := 25) sc_law.nd rfl (by first | exact .inl rfl | exact .inr rfl)) (by decide)) (sgs_cons (sg_of (pg_name (i := 26) sc_law.nd rfl (by first | exact .inl rfl | exact .inr rfl)) (by decide)) sgs_nil)))) (fun _ _ _ _ _ _ => sts_nil) (fun _ _ _ _ _ _ => (se_or (se_of 25 (pv 25)) (se_one (se_of 26 (pv 26))))))) (sa_cons (se_of_sf (sf_lc (own := [("a", 25)]) rfl sc_law.nd (si_of (se_of 6 (pv 6))) (blkOk_by (by kernel_rfl)) (fun _ _ _ _ _ _ => (sg_of (pg_name (i := 25) sc_law.nd rfl (by first | exact .inl rfl | exact .inr rfl)) (by decide))) (fun _ _ _ _ _ _ => sts_nil) (fun _ _ _ _ _ _ => (se_not (se_of 25 (pv 25)))))) sa_nil))))))
  (ss_cons (ss_if (st_ne2 hr.toRoom (se_repr hr (by rfl) T.m_repr (sa_cons (se_of_sf (sf_lst (sa_cons (se_of 8 (pv 8)) (sa_cons (se_of 9 (pv 9)) (sa_cons (se_of 10 (pv 10)) sa_nil))))) sa_nil)) (se_repr hr (by rfl) T.m_repr (sa_cons (se_of_sf (sf_lc (own := [("due", 24)]) rfl sc_law.nd (si_of (se_of 11 (pv 11))) (blkOk_by (by kernel_rfl)) (fun _ _ _ _ _ _ => (sg_of (pg_name (i := 24) sc_law.nd rfl (by first | exact .inl rfl | exact .inr rfl)) (by decide))) (fun _ _ _ _ _ _ => sts_nil) (fun _ _ _ _ _ _ => (se_call hB D__law_lot takes0 (hr.down (by decide : 2 ≤ 6)) (by rfl) (sa_cons (se_of 24 (pv 24)) sa_nil))))) sa_nil))) (ss_one (ss_ret se_bl)) ss_nil)
  (ss_cons (ss_if (st_ne2 hr.toRoom (se_repr hr (by rfl) T.m_repr (sa_cons (se_of_sf (sf_lst (sa_cons (se_call hB D_lots_both tk (hr.down (by decide : 4 ≤ 6)) (by rfl) (sa_cons (se_of 5 (pv 5)) (sa_cons (se_of 4 (pv 4)) sa_nil))) (sa_cons (se_call hB D_lots_any tk (hr.down (by decide : 4 ≤ 6)) (by rfl) (sa_cons (se_of 5 (pv 5)) (sa_cons (se_of 4 (pv 4)) sa_nil))) (sa_cons (se_call hB D_lot_out tk (hr.down (by decide : 4 ≤ 6)) (by rfl) (sa_cons (se_of 10 (pv 10)) sa_nil)) sa_nil))))) sa_nil)) (se_repr hr (by rfl) T.m_repr (sa_cons (se_of_sf (sf_lst (sa_cons (se_of 8 (pv 8)) (sa_cons (se_of 9 (pv 9)) (sa_cons (se_of 4 (pv 4)) sa_nil))))) sa_nil))) (ss_one (ss_ret se_bl)) ss_nil)
  (ss_cons (ss_for (vs := [12]) (passes_of rfl) rfl (si_of (se_tup (sa_cons se_int (sa_cons se_int (sa_cons se_int (sa_cons se_int (sa_cons (se_callZ 1 hB D__law_pick tk (hr.down (by decide : 2 ≤ 6)) (by rfl) (pv 1) (sa_cons se_int sa_nil)) sa_nil))))))) (sg_of (pg_name (i := 12) sc_law.nd rfl (by first | exact .inl rfl | exact .inr rfl)) (by decide)) (ss_one (ss_if (st_ne2 hr.toRoom (se_of_sf (sf_lc (own := [("lot", 27)]) rfl sc_law.nd (si_of (se_tup (sa_cons (se_of 4 (pv 4)) (sa_cons (se_of 8 (pv 8)) (sa_cons (se_of 9 (pv 9)) (sa_cons (se_of 10 (pv 10)) sa_nil)))))) (blkOk_by (by kernel_rfl)) (fun _ _ _ _ _ _ => (sg_of (pg_name (i := 27) sc_law.nd rfl (by first | exact .inl rfl | exact .inr rfl)) (by decide))) (fun _ _ _ _ _ _ => sts_nil) (fun _ _ _ _ _ _ => (se_call hB D_lot_has takes0 (hr.down (by decide : 2 ≤ 6)) (by rfl) (sa_cons (se_of 27 (pv 27)) (sa_cons (se_of 12 (pv 12)) sa_nil)))))) (se_add (se_of_sf (sf_lst (sa_cons (se_ix hr.toRoom (se_of 6 (pv 6)) (se_of 12 (pv 12))) sa_nil))) (se_of_sf (sf_lc (own := [("due", 24)]) rfl sc_law.nd (si_of (se_of 11 (pv 11))) (blkOk_by (by kernel_rfl)) (fun _ _ _ _ _ _ => (sg_of (pg_name (i := 24) sc_law.nd rfl (by first | exact .inl rfl | exact .inr rfl)) (by decide))) (fun _ _ _ _ _ _ => sts_nil) (fun _ _ _ _ _ _ => (se_ix hr.toRoom (se_of 24 (pv 24)) (se_of 12 (pv 12)))))))) (ss_one (ss_ret se_bl)) ss_nil)))
  (ss_cons (ss_if (st_bool (sw_or (st_ne2 hr.toRoom (se_call hB D_lot_has tk (hr.down (by decide : 2 ≤ 6)) (by rfl) (sa_cons (se_of 4 (pv 4)) (sa_cons (se_pow se_int se_int) sa_nil))) (se_ix hr.toRoom (se_of 6 (pv 6)) se_int)) (sw_or1 (st_ne2 hr.toRoom (se_repr hr (by rfl) T.m_repr (sa_cons (se_call hB D_first_in tk (hr.down (by decide : 2 ≤ 6)) (by rfl) (sa_cons (se_of 4 (pv 4)) sa_nil)) sa_nil)) (se_repr hr (by rfl) T.m_repr (sa_cons (se_call hB D__law_first tk (hr.down (by decide : 2 ≤ 6)) (by rfl) (sa_cons (se_of 6 (pv 6)) (sa_cons se_bl sa_nil))) sa_nil)))))) (ss_one (ss_ret se_bl)) ss_nil)
  (ss_cons (ss_if (st_ne2 hr.toRoom (se_repr hr (by rfl) T.m_repr (sa_cons (se_call hB D_first_out tk (hr.down (by decide : 2 ≤ 6)) (by rfl) (sa_cons (se_of 4 (pv 4)) sa_nil)) sa_nil)) (se_repr hr (by rfl) T.m_repr (sa_cons (se_call hB D__law_first tk (hr.down (by decide : 2 ≤ 6)) (by rfl) (sa_cons (se_of 6 (pv 6)) (sa_cons se_bl sa_nil))) sa_nil))) (ss_one (ss_ret se_bl)) ss_nil)
  (ss_cons (ss_set (i := 13) sc_law.nd rfl (by first | exact .inl rfl | exact .inr rfl) (se_callZ 1 hB D__law_pick tk (hr.down (by decide : 2 ≤ 6)) (by rfl) (pv 1) (sa_cons se_int sa_nil)))
  (ss_cons (ss_if (st_bool (sw_or (st_ne2 hr.toRoom (se_call hB D_is_ever tk (hr.down (by decide : 2 ≤ 6)) (by rfl) (sa_cons (se_of 4 (pv 4)) (sa_cons (se_of 13 (pv 13)) sa_nil))) (se_notIn hr.toRoom se_bl (se_sl (se_of 6 (pv 6)) (so_some (se_of 13 (pv 13))) so_none))) (sw_or1 (st_isNot2 (se_call hB D_is_ever tk (hr.down (by decide : 2 ≤ 6)) (by rfl) (sa_cons (se_tup (sa_cons (se_tup (sa_cons se_int (sa_cons se_non sa_nil))) sa_nil)) (sa_cons (se_pow se_int se_int) sa_nil))) se_bl)))) (ss_one (ss_ret se_bl)) ss_nil)
  (ss_cons (ss_parG (is := [14, 15, 16]) rfl (pgs_cons (pg_name (i := 14) sc_law.nd rfl (by first | exact .inl rfl | exact .inr rfl)) (pgs_cons (pg_name (i := 15) sc_law.nd rfl (by first | exact .inl rfl | exact .inr rfl)) (pgs_cons (pg_name (i := 16) sc_law.nd rfl (by first | exact .inl rfl | exact .inr rfl)) pgs_nil))) rfl (by decide) (sao_o (sf_lst sa_nil) fun _ => (sao_d se_int (sao_d (se_callZ 1 hB D__law_of tk (hr.down (by decide : 3 ≤ 6)) (by rfl) (pv 1) (sa_cons (se_of_sf (sf_lst (sa_cons se_int (sa_cons se_int (sa_cons (se_neg se_int) sa_nil))))) sa_nil)) sao_nil))))
  (ss_cons (ss_for (vs := [17]) (passes_of rfl) rfl (si_range1 (by rfl) T.m_range (sa_cons (se_callZ 1 hB D__law_pick tk (hr.down (by decide : 2 ≤ 6)) (by rfl) (pv 1) (sa_cons se_int sa_nil)) sa_nil)) (sg_of (pg_name (i := 17) sc_law.nd rfl (by first | exact .inl rfl | exact .inr rfl)) (by decide)) (ss_cons (ss_set (i := 18) sc_law.nd rfl (by first | exact .inl rfl | exact .inr rfl) (se_add (se_of 15 (pv 15)) (se_callZ 1 hB D__law_pick tk (hr.down (by decide : 2 ≤ 6)) (by rfl) (pv 1) (sa_cons se_int sa_nil))))
  (ss_cons (ss_expr (se_append 14 (pv 14) (se_tup (sa_cons (se_of 15 (pv 15)) (sa_cons (se_of 18 (pv 18)) (sa_cons (se_of 16 (pv 16)) sa_nil))))))
  (ss_one (ss_parG (is := [15, 16]) rfl (pgs_cons (pg_name (i := 15) sc_law.nd rfl (by first | exact .inl rfl | exact .inr rfl)) (pgs_cons (pg_name (i := 16) sc_law.nd rfl (by first | exact .inl rfl | exact .inr rfl)) pgs_nil)) rfl (by decide) (sao_d (se_add (se_of 18 (pv 18)) se_int) (sao_d (se_callZ 1 hB D__law_of tk (hr.down (by decide : 3 ≤ 6)) (by rfl) (pv 1) (sa_cons (se_of_sf (sf_lc (own := [("late", 23)]) rfl sc_law.nd (si_of (se_tup (sa_cons se_int (sa_cons se_int (sa_cons (se_neg se_int) sa_nil))))) (blkOk_by (by kernel_rfl)) (fun _ _ _ _ _ _ => (sg_of (pg_name (i := 23) sc_law.nd rfl (by first | exact .inl rfl | exact .inr rfl)) (by decide))) (fun _ _ _ _ _ _ => (sts_one (st_ne2 hr.toRoom (se_of 23 (pv 23)) (se_of 16 (pv 16))))) (fun _ _ _ _ _ _ => (se_of 23 (pv 23))))) sa_nil)) sao_nil)))))))
  (ss_cons (ss_expr (se_append 14 (pv 14) (se_tup (sa_cons (se_of 15 (pv 15)) (sa_cons se_non (sa_cons (se_of 16 (pv 16)) sa_nil))))))
  (ss_cons (ss_set (i := 19) sc_law.nd rfl (by first | exact .inl rfl | exact .inr rfl) (se_callZ 1 hB D__law_of tk (hr.down (by decide : 3 ≤ 6)) (by rfl) (pv 1) (sa_cons (se_of_sf (sf_lst (sa_cons (se_tup (sa_cons se_int sa_nil)) (sa_cons (se_tup (sa_cons se_int sa_nil)) (sa_cons (se_tup (sa_cons (se_neg se_int) sa_nil)) (sa_cons (se_tup (sa_cons se_int (sa_cons se_int sa_nil))) (sa_cons (se_tup (sa_cons se_int (sa_cons (se_neg se_int) sa_nil))) (sa_cons (se_tup (sa_cons se_int (sa_cons (se_neg se_int) sa_nil))) (sa_cons (se_tup (sa_cons se_int (sa_cons se_int (sa_cons (se_neg se_int) sa_nil)))) (sa_cons (se_tup sa_nil) sa_nil)))))))))) sa_nil)))
  (ss_cons (ss_setLc (i := 20) (own := [("n", 12)]) rfl sc_law.nd rfl rfl (sw_true rfl rfl rfl (by decide +kernel)) (si_range1 (by rfl) T.m_range (sa_cons se_int sa_nil)) (blkOk_by (by kernel_rfl)) (fun _ _ _ _ _ _ => (sg_of (pg_name (i := 12) sc_law.nd rfl (by first | exact .inl rfl | exact .inr rfl)) (by decide))) (fun _ _ _ _ _ _ => sts_nil) (fun _ _ _ _ _ _ => (se_ne2 hr.toRoom (se_of_sf (sf_lc (own := [("low", 28), ("high", 29), ("late", 23)]) rfl sc_law.nd (si_of (se_of 14 (pv 14))) (blkOk_by (by kernel_rfl)) (fun _ _ _ _ _ _ => (sg_tup rfl (sgs_cons (sg_of (pg_name (i := 28) sc_law.nd rfl (by first | exact .inl rfl | exact .inr rfl)) (by decide)) (sgs_cons (sg_of (pg_name (i := 29) sc_law.nd rfl (by first | exact .inl rfl | exact .inr rfl)) (by decide)) (sgs_cons (sg_of (pg_name (i := 23) sc_law.nd rfl (by first | exact .inl rfl | exact .inr rfl)) (by decide)) sgs_nil))))) (fun _ _ _ _ _ _ => (sts_one (st_bool (sw_and (st_le (se_of 28 (pv 28)) (se_of 12 (pv 12))) (sw_and (st_bool (sw_or (st_is2 (se_of 29 (pv 29)) se_non) (sw_or1 (st_le (se_of 12 (pv 12)) (se_of 29 (pv 29)))))) (sw_and1 (st_in hr.toRoom (se_of 23 (pv 23)) (se_of 19 (pv 19))))))))) (fun _ _ _ _ _ _ => se_int))) (se_of_sf (sf_lst sa_nil)))))
  (ss_cons (ss_if (st_ne2 hr.toRoom (se_repr hr (by rfl) T.m_repr (sa_cons (se_call hB D_lot_signed tk (hr.down (by decide : 4 ≤ 6)) (by rfl) (sa_cons (se_tuplec (by rfl) T.m_tuple (sa_cons (se_of 14 (pv 14)) sa_nil)) (sa_cons (se_of 19 (pv 19)) sa_nil))) sa_nil)) (se_repr hr (by rfl) T.m_repr (sa_cons (se_call hB D__law_lot tk (hr.down (by decide : 2 ≤ 6)) (by rfl) (sa_cons (se_of 20 (pv 20)) sa_nil)) sa_nil))) (ss_one (ss_ret se_bl)) ss_nil)
  (ss_cons (ss_set (i := 21) sc_law.nd rfl (by first | exact .inl rfl | exact .inr rfl) (se_add (se_callZ 1 hB D__law_of tk (hr.down (by decide : 3 ≤ 6)) (by rfl) (pv 1) (sa_cons (se_of_sf (sf_lst (sa_cons (se_pow se_int se_int) (sa_cons (se_intS (by rfl) T.m_int (sa_cons (se_add se_str (se_repS se_str se_int)) sa_nil)) (sa_cons (se_pow se_int se_int) sa_nil))))) sa_nil)) (se_callZ 1 hB D__law_pick tk (hr.down (by decide : 2 ≤ 6)) (by rfl) (pv 1) (sa_cons se_int sa_nil))))
  (ss_cons (ss_par2 (i := 22) (j := 23) rfl sc_law.nd rfl rfl (by decide) rfl rfl (sao_d (se_call hB D_lot_told tk (hr.down (by decide : 3 ≤ 6)) (by rfl) (sa_cons (se_of_sf (sf_lst (sa_cons (se_tup (sa_cons (se_of 21 (pv 21)) (sa_cons se_non sa_nil))) (sa_cons (se_tup (sa_cons se_int (sa_cons (se_sub (se_of 21 (pv 21)) se_int) sa_nil))) sa_nil)))) sa_nil)) (sao_d (se_call hB D_lot_told tk (hr.down (by decide : 3 ≤ 6)) (by rfl) (sa_cons (se_of_sf (sf_lst (sa_cons (se_tup (sa_cons (se_sub (se_of 21 (pv 21)) se_int) (sa_cons (se_add (se_of 21 (pv 21)) se_int) sa_nil))) sa_nil))) sa_nil)) sao_nil)))
  (ss_cons (ss_if (st_ne2 hr.toRoom (se_repr hr (by rfl) T.m_repr (sa_cons (se_of_sf (sf_lst (sa_cons (se_of 22 (pv 22)) (sa_cons (se_call hB D_lot_told tk (hr.down (by decide : 3 ≤ 6)) (by rfl) (sa_cons (se_of_sf (sf_lst (sa_cons (se_tup (sa_cons se_int (sa_cons (se_sub (se_of 21 (pv 21)) se_int) sa_nil))) (sa_cons (se_tup (sa_cons (se_of 21 (pv 21)) (sa_cons se_non sa_nil))) sa_nil)))) sa_nil)) sa_nil)))) sa_nil)) (se_repr hr (by rfl) T.m_repr (sa_cons (se_of_sf (sf_lst (sa_cons (se_tup (sa_cons (se_tup (sa_cons se_int (sa_cons (se_sub (se_of 21 (pv 21)) se_int) sa_nil))) (sa_cons (se_tup (sa_cons (se_of 21 (pv 21)) (sa_cons se_non sa_nil))) sa_nil))) (sa_cons (se_tup (sa_cons (se_tup (sa_cons se_int (sa_cons se_non sa_nil))) sa_nil)) sa_nil)))) sa_nil))) (ss_one (ss_ret se_bl)) ss_nil)
  (ss_cons (ss_if (st_bool (sw_or (st_ne2 hr.toRoom (se_repr hr (by rfl) T.m_repr (sa_cons (se_call hB D_lots_both tk (hr.down (by decide : 4 ≤ 6)) (by rfl) (sa_cons (se_of 22 (pv 22)) (sa_cons (se_of 23 (pv 23)) sa_nil))) sa_nil)) (se_repr hr (by rfl) T.m_repr (sa_cons (se_tup (sa_cons (se_tup (sa_cons (se_sub (se_of 21 (pv 21)) se_int) (sa_cons (se_sub (se_of 21 (pv 21)) se_int) sa_nil))) (sa_cons (se_tup (sa_cons (se_of 21 (pv 21)) (sa_cons (se_add (se_of 21 (pv 21)) se_int) sa_nil))) sa_nil))) sa_nil))) (sw_or1 (st_ne2 hr.toRoom (se_call hB D_first_out tk (hr.down (by decide : 2 ≤ 6)) (by rfl) (sa_cons (se_of 23 (pv 23)) sa_nil)) se_int)))) (ss_one (ss_ret se_bl)) ss_nil)
  (ss_cons (ss_set (i := 24) sc_law.nd rfl (by first | exact .inl rfl | exact .inr rfl) (se_of_sf (sf_lst (sa_cons (se_tup (sa_cons (se_tup (sa_cons se_int (sa_cons se_int sa_nil))) (sa_cons (se_tup (sa_cons (se_sub (se_of 21 (pv 21)) se_int) (sa_cons (se_sub (se_of 21 (pv 21)) se_int) sa_nil))) sa_nil))) (sa_cons (se_sub (se_of 21 (pv 21)) se_int) (sa_cons (se_add (se_of 21 (pv 21)) se_int) sa_nil))))))
  (ss_cons (ss_if (st_ne2 hr.toRoom (se_repr hr (by rfl) T.m_repr (sa_cons (se_of_sf (sf_lst (sa_cons (se_call hB D_lot_out tk (hr.down (by decide : 4 ≤ 6)) (by rfl) (sa_cons (se_of 22 (pv 22)) sa_nil)) (sa_cons (se_call hB D_first_in tk (hr.down (by decide : 2 ≤ 6)) (by rfl) (sa_cons (se_of 23 (pv 23)) sa_nil)) (sa_cons (se_call hB D_first_out tk (hr.down (by decide : 2 ≤ 6)) (by rfl) (sa_cons (se_tup (sa_cons (se_tup (sa_cons se_int (sa_cons (se_of 21 (pv 21)) sa_nil))) sa_nil)) sa_nil)) sa_nil))))) sa_nil)) (se_repr hr (by rfl) T.m_repr (sa_cons (se_of 24 (pv 24)) sa_nil))) (ss_one (ss_ret se_bl)) ss_nil)
  (ss_one (ss_ret (se_or (se_gt (se_callZ 1 hB D__law_pick tk (hr.down (by decide : 2 ≤ 6)) (by rfl) (pv 1) (sa_cons se_int sa_nil)) se_int) (se_one (se_call0 hB D__law_many_right tk (hr.down (by decide : 6 ≤ 6)) (by rfl)))))))))))))))))))))))))))))))) holds
end
def clsInit : Stmt → Stmt
  | .ClassDef _ _ _ body _ _ _ _ _ _ _ => body.getD 0 (.Pass ⟨0, 0, 0, 0⟩)
  | s => s
abbrev in_TooGreat : Stmt := clsInit (top 2)
abbrev bd_TooGreat : List Stmt := supB "number" ⟨7, 8, 7, 13⟩ ⟨7, 8, 7, 15⟩ ⟨7, 8, 7, 24⟩ ⟨7, 25, 7, 31⟩ ⟨7, 8, 7, 32⟩ ⟨7, 8, 7, 32⟩ ⟨8, 8, 8, 12⟩ ⟨8, 8, 8, 19⟩ ⟨8, 22, 8, 28⟩ ⟨8, 8, 8, 28⟩
theorem is_TooGreat : IniS "number" (defArgs in_TooGreat) (defScope in_TooGreat) ⟨7, 8, 7, 13⟩ ⟨7, 8, 7, 15⟩ ⟨7, 8, 7, 24⟩ ⟨7, 25, 7, 31⟩ ⟨7, 8, 7, 32⟩ ⟨7, 8, 7, 32⟩ ⟨8, 8, 8, 12⟩ ⟨8, 8, 8, 19⟩ ⟨8, 22, 8, 28⟩ ⟨8, 8, 8, 28⟩ :=
  ⟨fun _ _ _ _ _ => rfl, fun _ _ _ _ _ => rfl, fun _ _ _ _ _ => rfl, fun _ _ _ _ _ => ⟨_, rfl⟩, rfl, rfl, rfl, by decide, rfl, rfl, rfl, rfl, by decide, by decide, ⟨_, rfl, rfl⟩, fun _ _ _ _ _ _ _ _ _ _ _ _ _ => .of_eq rfl⟩
theorem all_mk {l : PySem.W.OpenLaw} {w : World} {K : PySem.W.Frag} {h : Heap} {mg : Str → Option Value} {fl : Addr} (X : K.In h) (G : h.Ns mainGlobals mg) (hfa : mg "law" = some (.ref fl))
    {f__law_source : Addr} {od__law_source an__law_source : Option Addr} {sl__law_source : Array (Option Value)} {oc__law_source kV__law_source dc__law_source pm__law_source cd__law_source ct__law_source : Value}
    {f_joined : Addr} {od_joined an_joined : Option Addr} {sl_joined : Array (Option Value)} {oc_joined kV_joined dc_joined pm_joined cd_joined ct_joined : Value}
    {f_lot_told : Addr} {od_lot_told an_lot_told : Option Addr} {sl_lot_told : Array (Option Value)} {oc_lot_told kV_lot_told dc_lot_told pm_lot_told cd_lot_told ct_lot_told : Value}
    {f_lot_has : Addr} {od_lot_has an_lot_has : Option Addr} {sl_lot_has : Array (Option Value)} {oc_lot_has kV_lot_has dc_lot_has pm_lot_has cd_lot_has ct_lot_has : Value}
    {f_lots_any : Addr} {od_lots_any an_lots_any : Option Addr} {sl_lots_any : Array (Option Value)} {oc_lots_any kV_lots_any dc_lots_any pm_lots_any cd_lots_any ct_lots_any : Value}
    {f_lot_out : Addr} {od_lot_out an_lot_out : Option Addr} {sl_lot_out : Array (Option Value)} {oc_lot_out kV_lot_out dc_lot_out pm_lot_out cd_lot_out ct_lot_out : Value}
    {f_stretch_met : Addr} {od_stretch_met an_stretch_met : Option Addr} {sl_stretch_met : Array (Option Value)} {oc_stretch_met kV_stretch_met dc_stretch_met pm_stretch_met cd_stretch_met ct_stretch_met : Value}
    {f_lots_both : Addr} {od_lots_both an_lots_both : Option Addr} {sl_lots_both : Array (Option Value)} {oc_lots_both kV_lots_both dc_lots_both pm_lots_both cd_lots_both ct_lots_both : Value}
    {f_lot_signed : Addr} {od_lot_signed an_lot_signed : Option Addr} {sl_lot_signed : Array (Option Value)} {oc_lot_signed kV_lot_signed dc_lot_signed pm_lot_signed cd_lot_signed ct_lot_signed : Value}
    {f_first_in : Addr} {od_first_in an_first_in : Option Addr} {sl_first_in : Array (Option Value)} {oc_first_in kV_first_in dc_first_in pm_first_in cd_first_in ct_first_in : Value}
    {f_first_out : Addr} {od_first_out an_first_out : Option Addr} {sl_first_out : Array (Option Value)} {oc_first_out kV_first_out dc_first_out pm_first_out cd_first_out ct_first_out : Value}
    {f_is_ever : Addr} {od_is_ever an_is_ever : Option Addr} {sl_is_ever : Array (Option Value)} {oc_is_ever kV_is_ever dc_is_ever pm_is_ever cd_is_ever ct_is_ever : Value}
    {f__law_pick : Addr} {od__law_pick an__law_pick : Option Addr} {sl__law_pick : Array (Option Value)} {oc__law_pick kV__law_pick dc__law_pick pm__law_pick cd__law_pick ct__law_pick : Value}
    {f__law_of : Addr} {od__law_of an__law_of : Option Addr} {sl__law_of : Array (Option Value)} {oc__law_of kV__law_of dc__law_of pm__law_of cd__law_of ct__law_of : Value}
    {f__law_stretches : Addr} {od__law_stretches an__law_stretches : Option Addr} {sl__law_stretches : Array (Option Value)} {oc__law_stretches kV__law_stretches dc__law_stretches pm__law_stretches cd__law_stretches ct__law_stretches : Value}
    {f__law_truths : Addr} {od__law_truths an__law_truths : Option Addr} {sl__law_truths : Array (Option Value)} {oc__law_truths kV__law_truths dc__law_truths pm__law_truths cd__law_truths ct__law_truths : Value}
    {f__law_lot : Addr} {od__law_lot an__law_lot : Option Addr} {sl__law_lot : Array (Option Value)} {oc__law_lot kV__law_lot dc__law_lot pm__law_lot cd__law_lot ct__law_lot : Value}
    {f__law_first : Addr} {od__law_first an__law_first : Option Addr} {sl__law_first : Array (Option Value)} {oc__law_first kV__law_first dc__law_first pm__law_first cd__law_first ct__law_first : Value}
    {f__law_told : Addr} {od__law_told an__law_told : Option Addr} {sl__law_told : Array (Option Value)} {oc__law_told kV__law_told dc__law_told pm__law_told cd__law_told ct__law_told : Value}
    {f__law_many_right : Addr} {od__law_many_right an__law_many_right : Option Addr} {sl__law_many_right : Array (Option Value)} {oc__law_many_right kV__law_many_right dc__law_many_right pm__law_many_right cd__law_many_right ct__law_many_right : Value}
    {f_law : Addr} {od_law an_law : Option Addr} {sl_law : Array (Option Value)} {oc_law kV_law dc_law pm_law cd_law ct_law : Value}
    {t_MOST_STRETCHES : Tok}
    {t_MANY : Tok}
    {C_TooGreat fi_TooGreat cda_TooGreat cc_TooGreat : Addr} {nm_TooGreat q_TooGreat : Str} {N_TooGreat : Addr} {bs_TooGreat : List Value} {G_TooGreat : Addr} {sn_TooGreat : List Str} {sub_TooGreat : List Value} {ab_TooGreat : Bool} {col_TooGreat : Option Bool} {dd_TooGreat : Option Addr} {m0_TooGreat m1_TooGreat m2_TooGreat m3_TooGreat m5_TooGreat : Option Value}
    {oc_TooGreat kV_TooGreat dc_TooGreat pm_TooGreat ct_TooGreat ccl_TooGreat cl_TooGreat : Value} {od_TooGreat an_TooGreat cdd_TooGreat cld_TooGreat : Option Addr} {sl_TooGreat ccs_TooGreat csl_TooGreat : Array (Option Value)} {vs_TooGreat : Array Value} {file_TooGreat : Str} {tf_TooGreat : Tok}
    {nmG_TooGreat qG_TooGreat : Str} {NG_TooGreat : Addr} {bsG_TooGreat : List Value} {hdG_TooGreat : Bool} {snG_TooGreat : List Str} {subG_TooGreat : List Value} {abG_TooGreat : Bool} {colG_TooGreat : Option Bool} {ddG_TooGreat : Option Addr} {g0_TooGreat g1_TooGreat g2_TooGreat g3_TooGreat g5_TooGreat : Option Value}
    (a__law_source : PySem.W.nsIn K mainGlobals "_law_source" = some (some (.ref f__law_source)))
    (l__law_source : K.lookup f__law_source = some ⟨oc__law_source, od__law_source, .func (PySem.W.fnOf "_law_source" "_law_source" (defArgs st__law_source) (defBody st__law_source) (defScope st__law_source) .none kV__law_source dc__law_source pm__law_source an__law_source cd__law_source ct__law_source), sl__law_source⟩)
    (c__law_source : PySem.W.codeIn K cd__law_source "_law_source" = true)
    (k__law_source : PySem.W.keepIn K (.ref f__law_source) = true)
    (a_joined : PySem.W.nsIn K mainGlobals "joined" = some (some (.ref f_joined)))
    (l_joined : K.lookup f_joined = some ⟨oc_joined, od_joined, .func (PySem.W.fnOf "joined" "joined" (defArgs st_joined) (defBody st_joined) (defScope st_joined) .none kV_joined dc_joined pm_joined an_joined cd_joined ct_joined), sl_joined⟩)
    (c_joined : PySem.W.codeIn K cd_joined "joined" = true)
    (k_joined : PySem.W.keepIn K (.ref f_joined) = true)
    (a_lot_told : PySem.W.nsIn K mainGlobals "lot_told" = some (some (.ref f_lot_told)))
    (l_lot_told : K.lookup f_lot_told = some ⟨oc_lot_told, od_lot_told, .func (PySem.W.fnOf "lot_told" "lot_told" (defArgs st_lot_told) (defBody st_lot_told) (defScope st_lot_told) .none kV_lot_told dc_lot_told pm_lot_told an_lot_told cd_lot_told ct_lot_told), sl_lot_told⟩)
    (c_lot_told : PySem.W.codeIn K cd_lot_told "lot_told" = true)
    (k_lot_told : PySem.W.keepIn K (.ref f_lot_told) = true)
    (a_lot_has : PySem.W.nsIn K mainGlobals "lot_has" = some (some (.ref f_lot_has)))
    (l_lot_has : K.lookup f_lot_has = some ⟨oc_lot_has, od_lot_has, .func (PySem.W.fnOf "lot_has" "lot_has" (defArgs st_lot_has) (defBody st_lot_has) (defScope st_lot_has) .none kV_lot_has dc_lot_has pm_lot_has an_lot_has cd_lot_has ct_lot_has), sl_lot_has⟩)
    (c_lot_has : PySem.W.codeIn K cd_lot_has "lot_has" = true)
    (k_lot_has : PySem.W.keepIn K (.ref f_lot_has) = true)
    (a_lots_any : PySem.W.nsIn K mainGlobals "lots_any" = some (some (.ref f_lots_any)))
    (l_lots_any : K.lookup f_lots_any = some ⟨oc_lots_any, od_lots_any, .func (PySem.W.fnOf "lots_any" "lots_any" (defArgs st_lots_any) (defBody st_lots_any) (defScope st_lots_any) .none kV_lots_any dc_lots_any pm_lots_any an_lots_any cd_lots_any ct_lots_any), sl_lots_any⟩)
    (c_lots_any : PySem.W.codeIn K cd_lots_any "lots_any" = true)
    (k_lots_any : PySem.W.keepIn K (.ref f_lots_any) = true)
    (a_lot_out : PySem.W.nsIn K mainGlobals "lot_out" = some (some (.ref f_lot_out)))
    (l_lot_out : K.lookup f_lot_out = some ⟨oc_lot_out, od_lot_out, .func (PySem.W.fnOf "lot_out" "lot_out" (defArgs st_lot_out) (defBody st_lot_out) (defScope st_lot_out) .none kV_lot_out dc_lot_out pm_lot_out an_lot_out cd_lot_out ct_lot_out), sl_lot_out⟩)
    (c_lot_out : PySem.W.codeIn K cd_lot_out "lot_out" = true)
    (k_lot_out : PySem.W.keepIn K (.ref f_lot_out) = true)
    (a_stretch_met : PySem.W.nsIn K mainGlobals "stretch_met" = some (some (.ref f_stretch_met)))
    (l_stretch_met : K.lookup f_stretch_met = some ⟨oc_stretch_met, od_stretch_met, .func (PySem.W.fnOf "stretch_met" "stretch_met" (defArgs st_stretch_met) (defBody st_stretch_met) (defScope st_stretch_met) .none kV_stretch_met dc_stretch_met pm_stretch_met an_stretch_met cd_stretch_met ct_stretch_met), sl_stretch_met⟩)
    (c_stretch_met : PySem.W.codeIn K cd_stretch_met "stretch_met" = true)
    (k_stretch_met : PySem.W.keepIn K (.ref f_stretch_met) = true)
    (a_lots_both : PySem.W.nsIn K mainGlobals "lots_both" = some (some (.ref f_lots_both)))
    (l_lots_both : K.lookup f_lots_both = some ⟨oc_lots_both, od_lots_both, .func (PySem.W.fnOf "lots_both" "lots_both" (defArgs st_lots_both) (defBody st_lots_both) (defScope st_lots_both) .none kV_lots_both dc_lots_both pm_lots_both an_lots_both cd_lots_both ct_lots_both), sl_lots_both⟩)
    (c_lots_both : PySem.W.codeIn K cd_lots_both "lots_both" = true)
    (k_lots_both : PySem.W.keepIn K (.ref f_lots_both) = true)
    (a_lot_signed : PySem.W.nsIn K mainGlobals "lot_signed" = some (some (.ref f_lot_signed)))
    (l_lot_signed : K.lookup f_lot_signed = some ⟨oc_lot_signed, od_lot_signed, .func (PySem.W.fnOf "lot_signed" "lot_signed" (defArgs st_lot_signed) (defBody st_lot_signed) (defScope st_lot_signed) .none kV_lot_signed dc_lot_signed pm_lot_signed an_lot_signed cd_lot_signed ct_lot_signed), sl_lot_signed⟩)
    (c_lot_signed : PySem.W.codeIn K cd_lot_signed "lot_signed" = true)
    (k_lot_signed : PySem.W.keepIn K (.ref f_lot_signed) = true)
    (a_first_in : PySem.W.nsIn K mainGlobals "first_in" = some (some (.ref f_first_in)))
    (l_first_in : K.lookup f_first_in = some ⟨oc_first_in, od_first_in, .func (PySem.W.fnOf "first_in" "first_in" (defArgs st_first_in) (defBody st_first_in) (defScope st_first_in) .none kV_first_in dc_first_in pm_first_in an_first_in cd_first_in ct_first_in), sl_first_in⟩)
    (c_first_in : PySem.W.codeIn K cd_first_in "first_in" = true)
    (k_first_in : PySem.W.keepIn K (.ref f_first_in) = true)
    (a_first_out : PySem.W.nsIn K mainGlobals "first_out" = some (some (.ref f_first_out)))
    (l_first_out : K.lookup f_first_out = some ⟨oc_first_out, od_first_out, .func (PySem.W.fnOf "first_out" "first_out" (defArgs st_first_out) (defBody st_first_out) (defScope st_first_out) .none kV_first_out dc_first_out pm_first_out an_first_out cd_first_out ct_first_out), sl_first_out⟩)
    (c_first_out : PySem.W.codeIn K cd_first_out "first_out" = true)
    (k_first_out : PySem.W.keepIn K (.ref f_first_out) = true)
    (a_is_ever : PySem.W.nsIn K mainGlobals "is_ever" = some (some (.ref f_is_ever)))
    (l_is_ever : K.lookup f_is_ever = some ⟨oc_is_ever, od_is_ever, .func (PySem.W.fnOf "is_ever" "is_ever" (defArgs st_is_ever) (defBody st_is_ever) (defScope st_is_ever) .none kV_is_ever dc_is_ever pm_is_ever an_is_ever cd_is_ever ct_is_ever), sl_is_ever⟩)
    (c_is_ever : PySem.W.codeIn K cd_is_ever "is_ever" = true)
    (k_is_ever : PySem.W.keepIn K (.ref f_is_ever) = true)
    (a__law_pick : PySem.W.nsIn K mainGlobals "_law_pick" = some (some (.ref f__law_pick)))
    (l__law_pick : K.lookup f__law_pick = some ⟨oc__law_pick, od__law_pick, .func (PySem.W.fnOf "_law_pick" "_law_pick" (defArgs st__law_pick) (defBody st__law_pick) (defScope st__law_pick) .none kV__law_pick dc__law_pick pm__law_pick an__law_pick cd__law_pick ct__law_pick), sl__law_pick⟩)
    (c__law_pick : PySem.W.codeIn K cd__law_pick "_law_pick" = true)
    (k__law_pick : PySem.W.keepIn K (.ref f__law_pick) = true)
    (a__law_of : PySem.W.nsIn K mainGlobals "_law_of" = some (some (.ref f__law_of)))
    (l__law_of : K.lookup f__law_of = some ⟨oc__law_of, od__law_of, .func (PySem.W.fnOf "_law_of" "_law_of" (defArgs st__law_of) (defBody st__law_of) (defScope st__law_of) .none kV__law_of dc__law_of pm__law_of an__law_of cd__law_of ct__law_of), sl__law_of⟩)
    (c__law_of : PySem.W.codeIn K cd__law_of "_law_of" = true)
    (k__law_of : PySem.W.keepIn K (.ref f__law_of) = true)
    (a__law_stretches : PySem.W.nsIn K mainGlobals "_law_stretches" = some (some (.ref f__law_stretches)))
    (l__law_stretches : K.lookup f__law_stretches = some ⟨oc__law_stretches, od__law_stretches, .func (PySem.W.fnOf "_law_stretches" "_law_stretches" (defArgs st__law_stretches) (defBody st__law_stretches) (defScope st__law_stretches) .none kV__law_stretches dc__law_stretches pm__law_stretches an__law_stretches cd__law_stretches ct__law_stretches), sl__law_stretches⟩)
    (c__law_stretches : PySem.W.codeIn K cd__law_stretches "_law_stretches" = true)
    (k__law_stretches : PySem.W.keepIn K (.ref f__law_stretches) = true)
    (a__law_truths : PySem.W.nsIn K mainGlobals "_law_truths" = some (some (.ref f__law_truths)))
    (l__law_truths : K.lookup f__law_truths = some ⟨oc__law_truths, od__law_truths, .func (PySem.W.fnOf "_law_truths" "_law_truths" (defArgs st__law_truths) (defBody st__law_truths) (defScope st__law_truths) .none kV__law_truths dc__law_truths pm__law_truths an__law_truths cd__law_truths ct__law_truths), sl__law_truths⟩)
    (c__law_truths : PySem.W.codeIn K cd__law_truths "_law_truths" = true)
    (k__law_truths : PySem.W.keepIn K (.ref f__law_truths) = true)
    (a__law_lot : PySem.W.nsIn K mainGlobals "_law_lot" = some (some (.ref f__law_lot)))
    (l__law_lot : K.lookup f__law_lot = some ⟨oc__law_lot, od__law_lot, .func (PySem.W.fnOf "_law_lot" "_law_lot" (defArgs st__law_lot) (defBody st__law_lot) (defScope st__law_lot) .none kV__law_lot dc__law_lot pm__law_lot an__law_lot cd__law_lot ct__law_lot), sl__law_lot⟩)
    (c__law_lot : PySem.W.codeIn K cd__law_lot "_law_lot" = true)
    (k__law_lot : PySem.W.keepIn K (.ref f__law_lot) = true)
    (a__law_first : PySem.W.nsIn K mainGlobals "_law_first" = some (some (.ref f__law_first)))
    (l__law_first : K.lookup f__law_first = some ⟨oc__law_first, od__law_first, .func (PySem.W.fnOf "_law_first" "_law_first" (defArgs st__law_first) (defBody st__law_first) (defScope st__law_first) .none kV__law_first dc__law_first pm__law_first an__law_first cd__law_first ct__law_first), sl__law_first⟩)
    (c__law_first : PySem.W.codeIn K cd__law_first "_law_first" = true)
    (k__law_first : PySem.W.keepIn K (.ref f__law_first) = true)
    (a__law_told : PySem.W.nsIn K mainGlobals "_law_told" = some (some (.ref f__law_told)))
    (l__law_told : K.lookup f__law_told = some ⟨oc__law_told, od__law_told, .func (PySem.W.fnOf "_law_told" "_law_told" (defArgs st__law_told) (defBody st__law_told) (defScope st__law_told) .none kV__law_told dc__law_told pm__law_told an__law_told cd__law_told ct__law_told), sl__law_told⟩)
    (c__law_told : PySem.W.codeIn K cd__law_told "_law_told" = true)
    (k__law_told : PySem.W.keepIn K (.ref f__law_told) = true)
    (a__law_many_right : PySem.W.nsIn K mainGlobals "_law_many_right" = some (some (.ref f__law_many_right)))
    (l__law_many_right : K.lookup f__law_many_right = some ⟨oc__law_many_right, od__law_many_right, .func (PySem.W.fnOf "_law_many_right" "_law_many_right" (defArgs st__law_many_right) (defBody st__law_many_right) (defScope st__law_many_right) .none kV__law_many_right dc__law_many_right pm__law_many_right an__law_many_right cd__law_many_right ct__law_many_right), sl__law_many_right⟩)
    (c__law_many_right : PySem.W.codeIn K cd__law_many_right "_law_many_right" = true)
    (k__law_many_right : PySem.W.keepIn K (.ref f__law_many_right) = true)
    (a_law : PySem.W.nsIn K mainGlobals "law" = some (some (.ref f_law)))
    (l_law : K.lookup f_law = some ⟨oc_law, od_law, .func (PySem.W.fnOf "law" "law" (defArgs st_law) (defBody st_law) (defScope st_law) .none kV_law dc_law pm_law an_law cd_law ct_law), sl_law⟩)
    (c_law : PySem.W.codeIn K cd_law "law" = true)
    (k_law : PySem.W.keepIn K (.ref f_law) = true)
    (z_abs : PySem.W.nsIn K mainGlobals "abs" = some none)
    (z_any : PySem.W.nsIn K mainGlobals "any" = some none)
    (z_enumerate : PySem.W.nsIn K mainGlobals "enumerate" = some none)
    (z_int : PySem.W.nsIn K mainGlobals "int" = some none)
    (z_len : PySem.W.nsIn K mainGlobals "len" = some none)
    (z_max : PySem.W.nsIn K mainGlobals "max" = some none)
    (z_min : PySem.W.nsIn K mainGlobals "min" = some none)
    (z_range : PySem.W.nsIn K mainGlobals "range" = some none)
    (z_repr : PySem.W.nsIn K mainGlobals "repr" = some none)
    (z_sorted : PySem.W.nsIn K mainGlobals "sorted" = some none)
    (z_tuple : PySem.W.nsIn K mainGlobals "tuple" = some none)
    (z_zip : PySem.W.nsIn K mainGlobals "zip" = some none)
    (q_MOST_STRETCHES : PySem.W.nsIn K mainGlobals "MOST_STRETCHES" = some (some (.int 60 t_MOST_STRETCHES)))
    (q_MANY : PySem.W.nsIn K mainGlobals "MANY" = some (some (.int 3 t_MANY)))
    (z_super : PySem.W.nsIn K mainGlobals "super" = some none)
    (z_opq : PySem.W.nsIn K cStatics "thirdparty.any" = some none)
    (z_top : (l.prog.main.scope.names.lookup ("super" : Str)).isSome = false)
    (aC_TooGreat : PySem.W.nsIn K mainGlobals "TooGreat" = some (some (.ref C_TooGreat)))
    (xL_TooGreat : K.lookup C_TooGreat = some (excClassObj nm_TooGreat q_TooGreat C_TooGreat N_TooGreat bs_TooGreat (veL G_TooGreat) true sn_TooGreat sub_TooGreat ab_TooGreat col_TooGreat dd_TooGreat m0_TooGreat m1_TooGreat m2_TooGreat m3_TooGreat m5_TooGreat "ValueError.__new__"))
    (xG_TooGreat : K.lookup G_TooGreat = some (excClassObj nmG_TooGreat qG_TooGreat G_TooGreat NG_TooGreat bsG_TooGreat [.type "ValueError", .type "Exception", .type "BaseException", .type "object"] hdG_TooGreat snG_TooGreat subG_TooGreat abG_TooGreat colG_TooGreat ddG_TooGreat g0_TooGreat g1_TooGreat g2_TooGreat g3_TooGreat g5_TooGreat "ValueError.__new__"))
    (iG_TooGreat : PySem.W.findIn K (.ref G_TooGreat) "__init__" = some (some (.builtin "ValueError.__init__")))
    (nC_TooGreat : PySem.W.isClsIn K C_TooGreat = true)
    (sa_TooGreat : PySem.W.findIn K (.ref C_TooGreat) "__setattr__" = some (some (.builtin "object.__setattr__")))
    (ga_TooGreat : PySem.W.findIn K (.ref C_TooGreat) "__getattribute__" = some (some (.builtin "BaseException.__getattribute__")))
    (gg_TooGreat : PySem.W.findIn K (.ref C_TooGreat) "__getattr__" = some none)
    (nf_TooGreat : PySem.W.findIn K (.ref C_TooGreat) "number" = some none)
    (iC_TooGreat : PySem.W.findIn K (.ref C_TooGreat) "__init__" = some (some (.ref fi_TooGreat)))
    (tI_TooGreat : PySem.W.typeIn K (.ref fi_TooGreat) = some (.type "function"))
    (kC_TooGreat : PySem.W.keepIn K (.ref C_TooGreat) = true)
    (eC_TooGreat : PySem.W.subIn K (.ref C_TooGreat) (.type "BaseException") = some true)
    (tC_TooGreat : PySem.W.typeIn K (.ref C_TooGreat) = some (.type "type"))
    (hC_TooGreat : PySem.W.hasDictIn K C_TooGreat = true)
    (sv_TooGreat : PySem.W.subIn K (.ref C_TooGreat) (.type "ValueError") = some true)
    (sc_TooGreat : PySem.W.mroIn K C_TooGreat (.ref C_TooGreat) = some true)
    (lf_TooGreat : K.lookup fi_TooGreat = some ⟨oc_TooGreat, od_TooGreat, .func (PySem.W.ksFn "__init__" "TooGreat.__init__" (defArgs in_TooGreat) bd_TooGreat (defScope in_TooGreat) .none kV_TooGreat dc_TooGreat pm_TooGreat an_TooGreat (.ref cda_TooGreat) ct_TooGreat cc_TooGreat), sl_TooGreat⟩)
    (cf_TooGreat : PySem.W.codeIn K (.ref cda_TooGreat) "TooGreat.__init__" = true)
    (lc_TooGreat : K.lookup cda_TooGreat = some ⟨ccl_TooGreat, cdd_TooGreat, .fields vs_TooGreat, ccs_TooGreat⟩)
    (vc_TooGreat : vs_TooGreat[2]? = some (.str file_TooGreat tf_TooGreat))
    (fc_TooGreat : ((l.prog.main.file : Str) == file_TooGreat) = true)
    (le_TooGreat : K.lookup cc_TooGreat = some ⟨cl_TooGreat, cld_TooGreat, .cell (some (.ref C_TooGreat)), csl_TooGreat⟩)
    (sb_TooGreat_TooGreat : PySem.W.subIn K (.ref C_TooGreat) (.ref C_TooGreat) = some true) :
    ∃ fd : FuncData, (∀ (s : Shared) (u : Value), BindsTo s fd ⟨[u], []⟩ [("script", u)]) ∧ ∀ base : Heap, K.In base → base.Ns mainGlobals mg → FnG l.prog w K mg base 7 fl fd ["script"] (spLaw K) := by
  have e := hfa.symm.trans (PySem.W.mg_of X G a_law)
  cases e
  have F__law_source := fun_mk (st := st__law_source) l__law_source c__law_source k__law_source
  have b__law_source := F__law_source.binds (ps := ["script"]) fun _ _ _ _ _ _ us hl => match us, hl with | [_], _ => rfl
  have F_joined := fun_mk (st := st_joined) l_joined c_joined k_joined
  have b_joined := F_joined.binds (ps := ["stretches"]) fun _ _ _ _ _ _ us hl => match us, hl with | [_], _ => rfl
  have F_lot_told := fun_mk (st := st_lot_told) l_lot_told c_lot_told k_lot_told
  have b_lot_told := F_lot_told.binds (ps := ["stretches"]) fun _ _ _ _ _ _ us hl => match us, hl with | [_], _ => rfl
  have F_lot_has := fun_mk (st := st_lot_has) l_lot_has c_lot_has k_lot_has
  have b_lot_has := F_lot_has.binds (ps := ["lot", "n"]) fun _ _ _ _ _ _ us hl => match us, hl with | [_, _], _ => rfl
  have F_lots_any := fun_mk (st := st_lots_any) l_lots_any c_lots_any k_lots_any
  have b_lots_any := F_lots_any.binds (ps := ["one", "other"]) fun _ _ _ _ _ _ us hl => match us, hl with | [_, _], _ => rfl
  have F_lot_out := fun_mk (st := st_lot_out) l_lot_out c_lot_out k_lot_out
  have b_lot_out := F_lot_out.binds (ps := ["lot"]) fun _ _ _ _ _ _ us hl => match us, hl with | [_], _ => rfl
  have F_stretch_met := fun_mk (st := st_stretch_met) l_stretch_met c_stretch_met k_stretch_met
  have b_stretch_met := F_stretch_met.binds (ps := ["one", "other"]) fun _ _ _ _ _ _ us hl => match us, hl with | [_, _], _ => rfl
  have F_lots_both := fun_mk (st := st_lots_both) l_lots_both c_lots_both k_lots_both
  have b_lots_both := F_lots_both.binds (ps := ["one", "other"]) fun _ _ _ _ _ _ us hl => match us, hl with | [_, _], _ => rfl
  have F_lot_signed := fun_mk (st := st_lot_signed) l_lot_signed c_lot_signed k_lot_signed
  have b_lot_signed := F_lot_signed.binds (ps := ["signs", "wanted"]) fun _ _ _ _ _ _ us hl => match us, hl with | [_, _], _ => rfl
  have F_first_in := fun_mk (st := st_first_in) l_first_in c_first_in k_first_in
  have b_first_in := F_first_in.binds (ps := ["lot"]) fun _ _ _ _ _ _ us hl => match us, hl with | [_], _ => rfl
  have F_first_out := fun_mk (st := st_first_out) l_first_out c_first_out k_first_out
  have b_first_out := F_first_out.binds (ps := ["lot"]) fun _ _ _ _ _ _ us hl => match us, hl with | [_], _ => rfl
  have F_is_ever := fun_mk (st := st_is_ever) l_is_ever c_is_ever k_is_ever
  have b_is_ever := F_is_ever.binds (ps := ["lot", "begin"]) fun _ _ _ _ _ _ us hl => match us, hl with | [_, _], _ => rfl
  have F__law_pick := fun_mk (st := st__law_pick) l__law_pick c__law_pick k__law_pick
  have b__law_pick := F__law_pick.binds (ps := ["source", "many"]) fun _ _ _ _ _ _ us hl => match us, hl with | [_, _], _ => rfl
  have F__law_of := fun_mk (st := st__law_of) l__law_of c__law_of k__law_of
  have b__law_of := F__law_of.binds (ps := ["source", "some"]) fun _ _ _ _ _ _ us hl => match us, hl with | [_, _], _ => rfl
  have F__law_stretches := fun_mk (st := st__law_stretches) l__law_stretches c__law_stretches k__law_stretches
  have b__law_stretches := F__law_stretches.binds (ps := ["source"]) fun _ _ _ _ _ _ us hl => match us, hl with | [_], _ => rfl
  have F__law_truths := fun_mk (st := st__law_truths) l__law_truths c__law_truths k__law_truths
  have b__law_truths := F__law_truths.binds (ps := ["stretches"]) fun _ _ _ _ _ _ us hl => match us, hl with | [_], _ => rfl
  have F__law_lot := fun_mk (st := st__law_lot) l__law_lot c__law_lot k__law_lot
  have b__law_lot := F__law_lot.binds (ps := ["truths"]) fun _ _ _ _ _ _ us hl => match us, hl with | [_], _ => rfl
  have F__law_first := fun_mk (st := st__law_first) l__law_first c__law_first k__law_first
  have b__law_first := F__law_first.binds (ps := ["truths", "wanted"]) fun _ _ _ _ _ _ us hl => match us, hl with | [_, _], _ => rfl
  have F__law_told := fun_mk (st := st__law_told) l__law_told c__law_told k__law_told
  have b__law_told := F__law_told.binds (ps := ["call", "one", "other"]) fun _ _ _ _ _ _ us hl => match us, hl with | [_, _, _], _ => rfl
  have F__law_many_right := fun_mk (st := st__law_many_right) l__law_many_right c__law_many_right k__law_many_right
  have b__law_many_right := F__law_many_right.binds (ps := []) fun _ _ _ _ _ _ us hl => match us, hl with | [], _ => rfl
  have F_law := fun_mk (st := st_law) l_law c_law k_law
  have b_law := F_law.binds (ps := ["script"]) fun _ _ _ _ _ _ us hl => match us, hl with | [_], _ => rfl
  have xm_TooGreat_TooGreat := exm_of2 eC_TooGreat nC_TooGreat tC_TooGreat sb_TooGreat_TooGreat
  refine ⟨PySem.W.fnOf "law" "law" (defArgs st_law) (defBody st_law) (defScope st_law) .none kV_law dc_law pm_law an_law cd_law ct_law, fun s v => .of_eq rfl, fun base _ _ => ?_⟩
  have T : Txt l.prog K mg base (fun n => List.lookup n ([("TooGreat", C_TooGreat)] : List (Str × Addr))) (fun n => (List.lookup n ([("TooGreat", C_TooGreat)] : List (Str × Addr))).getD 0) (fun n => (List.lookup n ([("lot_out", f_lot_out), ("lot_told", f_lot_told), ("lots_any", f_lots_any), ("lots_both", f_lots_both)] : List (Str × Addr))).getD 0) := {
    m_abs := PySem.W.mg_none_of X G z_abs
    m_any := PySem.W.mg_none_of X G z_any
    m_enumerate := PySem.W.mg_none_of X G z_enumerate
    m_int := PySem.W.mg_none_of X G z_int
    m_len := PySem.W.mg_none_of X G z_len
    m_max := PySem.W.mg_none_of X G z_max
    m_min := PySem.W.mg_none_of X G z_min
    m_range := PySem.W.mg_none_of X G z_range
    m_repr := PySem.W.mg_none_of X G z_repr
    m_sorted := PySem.W.mg_none_of X G z_sorted
    m_tuple := PySem.W.mg_none_of X G z_tuple
    m_zip := PySem.W.mg_none_of X G z_zip
    c_MOST_STRETCHES := ⟨t_MOST_STRETCHES, PySem.W.mg_of X G q_MOST_STRETCHES⟩
    c_MANY := ⟨t_MANY, PySem.W.mg_of X G q_MANY⟩
    f_lot_out := PySem.W.mg_of X G a_lot_out
    f_lot_told := PySem.W.mg_of X G a_lot_told
    f_lots_any := PySem.W.mg_of X G a_lots_any
    f_lots_both := PySem.W.mg_of X G a_lots_both
    x_TooGreat := { gC := PySem.W.mg_of X G aC_TooGreat, noF := nf_TooGreat, te := xm_TooGreat_TooGreat, made := ⟨fi_TooGreat, cda_TooGreat, cc_TooGreat, "TooGreat.__init__", defArgs in_TooGreat, defScope in_TooGreat, _, _, _, _, _, _, _, _, _, _,
      { cls := ⟨_, _, _, _, _, _, _, _, _, _, _, _, _, _, _, xL_TooGreat, (by show (PySem.HandSPX.veTail == PySem.HandSPX.veTail) = true; decide +kernel)⟩, sa := sa_TooGreat, ga := ga_TooGreat, gg := gg_TooGreat, iC := iC_TooGreat, tI := tI_TooGreat, kC := kC_TooGreat, exC := eC_TooGreat, tyC := tC_TooGreat, hdC := hC_TooGreat, exi := exi_of xL_TooGreat, sup := sup_of xL_TooGreat xG_TooGreat iG_TooGreat, sbV := sv_TooGreat, sbC := sc_TooGreat, opq := z_opq,
        fn := ⟨_, _, _, _, _, _, _, _, lf_TooGreat⟩, cod := cf_TooGreat, fil := ⟨_, _, _, _, _, _, lc_TooGreat, vc_TooGreat, fc_TooGreat⟩, cel := ⟨_, _, _, le_TooGreat⟩, top := z_top, msup := PySem.W.mg_none_of X G z_super }, is_TooGreat⟩ }
    e_TooGreat := rfl
    xm_TooGreat := xmOk_of (List.forall_mem_cons.mpr ⟨xm_TooGreat_TooGreat, fun _ h => (nomatch h)⟩)
  }
  have so : SrcOk l.prog w K mg base := ⟨f__law_source, _, PySem.W.mg_of X G a__law_source, k__law_source, b__law_source, fn_source T.m_int T.m_abs F__law_source⟩
  have D_joined := D_joined (w := w) T  F_joined (PySem.W.mg_of X G a_joined) b_joined
  have D_lot_told := D_lot_told (w := w) T D_joined F_lot_told (PySem.W.mg_of X G a_lot_told) b_lot_told
  have D_lot_out := D_lot_out (w := w) T D_lot_told F_lot_out (PySem.W.mg_of X G a_lot_out) b_lot_out
  have D_lots_any := D_lots_any (w := w) T D_lot_told F_lots_any (PySem.W.mg_of X G a_lots_any) b_lots_any
  have D_stretch_met := D_stretch_met (w := w) T  F_stretch_met (PySem.W.mg_of X G a_stretch_met) b_stretch_met
  have D_lots_both := D_lots_both (w := w) T D_lot_told D_stretch_met F_lots_both (PySem.W.mg_of X G a_lots_both) b_lots_both
  have D__law_pick := D__law_pick (w := w) T  F__law_pick (PySem.W.mg_of X G a__law_pick) b__law_pick
  have D__law_of := D__law_of (w := w) T D__law_pick F__law_of (PySem.W.mg_of X G a__law_of) b__law_of
  have D__law_stretches := D__law_stretches (w := w) T D__law_pick F__law_stretches (PySem.W.mg_of X G a__law_stretches) b__law_stretches
  have D__law_truths := D__law_truths (w := w) T  F__law_truths (PySem.W.mg_of X G a__law_truths) b__law_truths
  have D__law_told := D__law_told (w := w) T  F__law_told (PySem.W.mg_of X G a__law_told) b__law_told
  have D__law_many_right := D__law_many_right (w := w) T D__law_told D_lot_told D_lots_any D_lots_both D_lot_out F__law_many_right (PySem.W.mg_of X G a__law_many_right) b__law_many_right
  have D_lot_has := D_lot_has (w := w) T  F_lot_has (PySem.W.mg_of X G a_lot_has) b_lot_has
  have D_first_out := D_first_out (w := w) T  F_first_out (PySem.W.mg_of X G a_first_out) b_first_out
  have D__law_first := D__law_first (w := w) T  F__law_first (PySem.W.mg_of X G a__law_first) b__law_first
  have D_is_ever := D_is_ever (w := w) T  F_is_ever (PySem.W.mg_of X G a_is_ever) b_is_ever
  have D_lot_signed := D_lot_signed (w := w) T D_lot_told F_lot_signed (PySem.W.mg_of X G a_lot_signed) b_lot_signed
  have D__law_lot := D__law_lot (w := w) T  F__law_lot (PySem.W.mg_of X G a__law_lot) b__law_lot
  have D_first_in := D_first_in (w := w) T  F_first_in (PySem.W.mg_of X G a_first_in) b_first_in
  exact fn_law T so D__law_pick D__law_of D__law_stretches D_lot_told D__law_truths D_lots_both D_lots_any D_lot_out D__law_many_right D_lot_has D_first_out D__law_first D_is_ever D_lot_signed D__law_lot D_first_in F_law (law_holds _)
end PU
open PySem PySem.W PyProof.Rows in
set_option maxRecDepth 100000 in
set_option maxHeartbeats 0 in
theorem PySem.Challenge.cw_overtakings_k21_lots_by_members_holds : PySem.Challenge.rw_overtakings_k21_lots_by_members.Holds := by
  w_on; o_law; k_head; (case hw => w_witness2)
  k_fill
  refine PU.walkG_of (k := 7) (x := "script") (l := PySem.Challenge.rw_overtakings_k21_lots_by_members) rfl rfl ⟨⟨rfl, by decide, by decide⟩, rfl⟩ (fun w h Y => PySem.W.kIn_of Y) ?F
  case F =>
    intro w mg fa h KX G hmg
    refine' PU.all_mk KX G hmg ?a__law_source ?l__law_source ?c__law_source ?k__law_source ?a_joined ?l_joined ?c_joined ?k_joined ?a_lot_told ?l_lot_told ?c_lot_told ?k_lot_told ?a_lot_has ?l_lot_has ?c_lot_has ?k_lot_has ?a_lots_any ?l_lots_any ?c_lots_any ?k_lots_any ?a_lot_out ?l_lot_out ?c_lot_out ?k_lot_out ?a_stretch_met ?l_stretch_met ?c_stretch_met ?k_stretch_met ?a_lots_both ?l_lots_both ?c_lots_both ?k_lots_both ?a_lot_signed ?l_lot_signed ?c_lot_signed ?k_lot_signed ?a_first_in ?l_first_in ?c_first_in ?k_first_in ?a_first_out ?l_first_out ?c_first_out ?k_first_out ?a_is_ever ?l_is_ever ?c_is_ever ?k_is_ever ?a__law_pick ?l__law_pick ?c__law_pick ?k__law_pick ?a__law_of ?l__law_of ?c__law_of ?k__law_of ?a__law_stretches ?l__law_stretches ?c__law_stretches ?k__law_stretches ?a__law_truths ?l__law_truths ?c__law_truths ?k__law_truths ?a__law_lot ?l__law_lot ?c__law_lot ?k__law_lot ?a__law_first ?l__law_first ?c__law_first ?k__law_first ?a__law_told ?l__law_told ?c__law_told ?k__law_told ?a__law_many_right ?l__law_many_right ?c__law_many_right ?k__law_many_right ?a_law ?l_law ?c_law ?k_law ?z_abs ?z_any ?z_enumerate ?z_int ?z_len ?z_max ?z_min ?z_range ?z_repr ?z_sorted ?z_tuple ?z_zip ?q_MOST_STRETCHES ?q_MANY ?z_super ?z_opq ?z_top ?aC_TooGreat ?xL_TooGreat ?xG_TooGreat ?iG_TooGreat ?nC_TooGreat ?sa_TooGreat ?ga_TooGreat ?gg_TooGreat ?nf_TooGreat ?iC_TooGreat ?tI_TooGreat ?kC_TooGreat ?eC_TooGreat ?tC_TooGreat ?hC_TooGreat ?sv_TooGreat ?sc_TooGreat ?lf_TooGreat ?cf_TooGreat ?lc_TooGreat ?vc_TooGreat ?fc_TooGreat ?le_TooGreat ?sb_TooGreat_TooGreat
    (case a__law_source => k_is)
    (case l__law_source => k_is)
    (case c__law_source => k_is)
    (case k__law_source => k_is)
    (case a_joined => k_is)
    (case l_joined => k_is)
    (case c_joined => k_is)
    (case k_joined => k_is)
    (case a_lot_told => k_is)
    (case l_lot_told => k_is)
    (case c_lot_told => k_is)
    (case k_lot_told => k_is)
    (case a_lot_has => k_is)
    (case l_lot_has => k_is)
    (case c_lot_has => k_is)
    (case k_lot_has => k_is)
    (case a_lots_any => k_is)
    (case l_lots_any => k_is)
    (case c_lots_any => k_is)
    (case k_lots_any => k_is)
    (case a_lot_out => k_is)
    (case l_lot_out => k_is)
    (case c_lot_out => k_is)
    (case k_lot_out => k_is)
    (case a_stretch_met => k_is)
    (case l_stretch_met => k_is)
    (case c_stretch_met => k_is)
    (case k_stretch_met => k_is)
    (case a_lots_both => k_is)
    (case l_lots_both => k_is)
    (case c_lots_both => k_is)
    (case k_lots_both => k_is)
    (case a_lot_signed => k_is)
    (case l_lot_signed => k_is)
    (case c_lot_signed => k_is)
    (case k_lot_signed => k_is)
    (case a_first_in => k_is)
    (case l_first_in => k_is)
    (case c_first_in => k_is)
    (case k_first_in => k_is)
    (case a_first_out => k_is)
    (case l_first_out => k_is)
    (case c_first_out => k_is)
    (case k_first_out => k_is)
    (case a_is_ever => k_is)
    (case l_is_ever => k_is)
    (case c_is_ever => k_is)
    (case k_is_ever => k_is)
    (case a__law_pick => k_is)
    (case l__law_pick => k_is)
    (case c__law_pick => k_is)
    (case k__law_pick => k_is)
    (case a__law_of => k_is)
    (case l__law_of => k_is)
    (case c__law_of => k_is)
    (case k__law_of => k_is)
    (case a__law_stretches => k_is)
    (case l__law_stretches => k_is)
    (case c__law_stretches => k_is)
    (case k__law_stretches => k_is)
    (case a__law_truths => k_is)
    (case l__law_truths => k_is)
    (case c__law_truths => k_is)
    (case k__law_truths => k_is)
    (case a__law_lot => k_is)
    (case l__law_lot => k_is)
    (case c__law_lot => k_is)
    (case k__law_lot => k_is)
    (case a__law_first => k_is)
    (case l__law_first => k_is)
    (case c__law_first => k_is)
    (case k__law_first => k_is)
    (case a__law_told => k_is)
    (case l__law_told => k_is)
    (case c__law_told => k_is)
    (case k__law_told => k_is)
    (case a__law_many_right => k_is)
    (case l__law_many_right => k_is)
    (case c__law_many_right => k_is)
    (case k__law_many_right => k_is)
    (case a_law => k_is)
    (case l_law => k_is)
    (case c_law => k_is)
    (case k_law => k_is)
    (case z_abs => k_is)
    (case z_any => k_is)
    (case z_enumerate => k_is)
    (case z_int => k_is)
    (case z_len => k_is)
    (case z_max => k_is)
    (case z_min => k_is)
    (case z_range => k_is)
    (case z_repr => k_is)
    (case z_sorted => k_is)
    (case z_tuple => k_is)
    (case z_zip => k_is)
    (case q_MOST_STRETCHES => k_is)
    (case q_MANY => k_is)
    (case z_super => k_is)
    (case z_opq => k_is)
    (case z_top => rfl)
    (case aC_TooGreat => k_is)
    (case xL_TooGreat => k_is)
    (case xG_TooGreat => k_is)
    (case iG_TooGreat => k_is)
    (case nC_TooGreat => k_is)
    (case sa_TooGreat => k_is)
    (case ga_TooGreat => k_is)
    (case gg_TooGreat => k_is)
    (case nf_TooGreat => k_is)
    (case iC_TooGreat => k_is)
    (case tI_TooGreat => k_is)
    (case kC_TooGreat => k_is)
    (case eC_TooGreat => k_is)
    (case tC_TooGreat => k_is)
    (case hC_TooGreat => k_is)
    (case sv_TooGreat => k_is)
    (case sc_TooGreat => k_is)
    (case lf_TooGreat => k_is)
    (case cf_TooGreat => k_is)
    (case lc_TooGreat => k_is)
    (case vc_TooGreat => rfl)
    (case fc_TooGreat => rfl)
    (case le_TooGreat => k_is)
    (case sb_TooGreat_TooGreat => k_is)
