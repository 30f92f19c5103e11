import PyProof.Rows.All
import Wide.All
import OpenK.AllK
import Wide.FinOn
import HandS.ForMost
import HandS.ForExc
import HandS.ExcInit
import HandS.ExcField
import HandS.ExcIs
import HandS.Wide
import HandS.WideBits
import HandS.TupAny
import HandS.FStr
import HandS.CallSlots
import HandS.RaiseMore
import HandS.IsInst
import PyProof.ReprRoads
import KE.DatumIndex
import HandS.Style
import KE.KExcIs
import KE.KxIndex
import HandS.ExcValue
import PySem.Challenge.RW_rootplans_k00_errors_each_of_its_own
set_option Elab.async false
set_option linter.all false
set_option maxRecDepth 100000
set_option maxHeartbeats 2000000
set_option autoImplicit false
/-! DL1: a layer of data over the hand layer: states, steps, what a mirror promises. -/
namespace DL
open PySem PySem.Spec PyProof.Rows L2

abbrev D := PyData
abbrev St := L2.St
/-- what a slot holds: data that never changes, or a list of the def's own -/
inductive Slot where
  | dat (d : D)
  | own (ds : List D)
abbrev Rh := List (Option Slot)

/-! ### data -/
theorem same_rd {H H' : Hp} {a : Addr} {u : HO} (e : Same H H') (h : Rd H a u) : Rd H' a u := by
  rcases h with h | ⟨o, h⟩
  · exact .inl (e _ _ h)
  · exact .inr ⟨o, e _ _ h⟩
theorem same_l {K : PySem.W.Frag} {H H' : Hp} {a : Addr} {xs : List V} (e : Same H H') (h : SqL K H a xs) : SqL K H' a xs := by
  rcases h with h | h
  · exact .inl (same_rd e h)
  · exact .inr h
theorem same_t {K : PySem.W.Frag} {H H' : Hp} {a : Addr} {xs : List V} (e : Same H H') (h : SqT K H a xs) : SqT K H' a xs := by
  rcases h with h | h
  · exact .inl (same_rd e h)
  · exact .inr h
/-- an exception's own object, told exactly -/
def exq (a : Addr) (oe : Obj) : HO := .ext fun h => h.get? a = some oe
/-- what stands for an exception of the class at C with the dict d: one that was made, or one that was caught -/
def ExA (a C : Addr) (d : Option Addr) (u : HO) : Prop := u = exo a C d ∨ ∃ (oe : Obj) (vs : Array Value), u = exq a oe ∧ oe.cls = .ref C ∧ oe.dict = d ∧ oe.data = .fields vs
def ExB (d : Addr) (fs : List (Str × V)) (u : HO) : Prop := u = exd d fs ∨ u = .xd fs
mutual
/-- data: a list stands as one of the def's making, or is the read-only one of the law's caller (told as a dict, which no data is) -/
inductive Dv (K : PySem.W.Frag) (H : Hp) : V → PyData → Prop
  | non : Dv K H .non .none
  | bl (b : Bool) : Dv K H (.bl b) (.bool b)
  | int (i : Int) : Dv K H (.int i) (.int i)
  | str (x : Str) : Dv K H (.str x) (.str x)
  | lst {a : Addr} {xs : List V} {ds : List PyData} : H a = some (.lst xs) → DvAll K H xs ds → Dv K H (.ref a) (.list ds)
  | tup {a : Addr} {xs : List V} {ds : List PyData} : SqT K H a xs → DvAll K H xs ds → Dv K H (.ref a) (.tuple ds)
  | rdl {a : Addr} {ns : List Int} : SqL K H a (ns.map V.int) → Dv K H (.ref a) (.dict ((.none, .none) :: ns.map fun n => (.int n, .none)))
  | emp {a : Addr} : H a = some (.dK []) → Dv K H (.ref a) (.dict [])
  /-- an exception of an own class with one attribute, held as a value -/
  | exc {a d C : Addr} {cls f : Str} {v : V} {x : PyData} : {u1 u2 : HO} → PySem.W.nsIn K mainGlobals cls = some (some (.ref C)) → H a = some u1 → ExA a C (some d) u1 → H d = some u2 → ExB d [(f, v)] u2 → Dv K H v x → Dv K H (.ref a) (.dict [(.bool true, .str cls), (.str f, x)])
  /-- one without attributes -/
  | exc0 {a C : Addr} {cls : Str} : PySem.W.nsIn K mainGlobals cls = some (some (.ref C)) → H a = some (exo a C none) → Dv K H (.ref a) (.dict [(.bool true, .str cls)])
inductive DvAll (K : PySem.W.Frag) (H : Hp) : List V → List PyData → Prop
  | nil : DvAll K H [] []
  | cons {v : V} {vs : List V} {d : PyData} {ds : List PyData} : Dv K H v d → DvAll K H vs ds → DvAll K H (v :: vs) (d :: ds)
end
mutual
theorem dv_mono {K : PySem.W.Frag} {H H' : Hp} (e : Same H H') : ∀ (d : D) (v : V), Dv K H v d → Dv K H' v d
  | .none, _, h => by cases h; exact .non
  | .bool b, _, h => by cases h; exact .bl b
  | .int i, _, h => by cases h; exact .int i
  | .str x, _, h => by cases h; exact .str x
  | .list ds, _, h => by
    cases h with
    | lst hs ha => exact .lst (e _ _ hs) (dvAll_mono e ds _ ha)
  | .tuple ds, _, h => by
    cases h with
    | tup hs ha => exact .tup (same_t e hs) (dvAll_mono e ds _ ha)
  | .dict [(.bool true, .str cls), (.str f, x)], _, h => by
    cases h with
    | exc hn ha xa hd xd hv => exact .exc hn (e _ _ ha) xa (e _ _ hd) xd (dv_mono e x _ hv)
  | .dict _, _, h => by
    cases h with
    | rdl hs => exact .rdl (same_l e hs)
    | emp hs => exact .emp (e _ _ hs)
    | exc hn ha xa hd xd hv => exact .exc hn (e _ _ ha) xa (e _ _ hd) xd (dv_mono e _ _ hv)
    | exc0 hn ha => exact .exc0 hn (e _ _ ha)
theorem dvAll_mono {K : PySem.W.Frag} {H H' : Hp} (e : Same H H') : ∀ (ds : List D) (vs : List V), DvAll K H vs ds → DvAll K H' vs ds
  | [], _, h => by cases h; exact .nil
  | d :: ds, _, h => by
    cases h with
    | cons h1 h2 => exact .cons (dv_mono e d _ h1) (dvAll_mono e ds _ h2)
end
mutual
theorem Dv.dp {K : PySem.W.Frag} {H : Hp} : ∀ (d : D) (v : V), Dv K H v d → d.canLay0 = true → Dp K H v d
  | .none, _, h, _ => by cases h; exact .non
  | .bool b, _, h, _ => by cases h; exact .bl b
  | .int i, _, h, _ => by cases h; exact .int i
  | .str x, _, h, _ => by cases h; exact .str x
  | .list ds, _, h, c => by
    cases h with
    | lst hs ha => exact .lst (SqL.of hs) (DvAll.dp ds _ ha (by simpa [PyData.canLay0] using c))
  | .tuple ds, _, h, c => by
    cases h with
    | tup hs ha => exact .tup hs (DvAll.dp ds _ ha (by simpa [PyData.canLay0] using c))
  | .dict _, _, _, c => by simp [PyData.canLay0] at c
theorem DvAll.dp {K : PySem.W.Frag} {H : Hp} : ∀ (ds : List D) (vs : List V), DvAll K H vs ds → PyData.canLayAll0 ds = true → DpAll K H vs ds
  | [], _, h, _ => by cases h; exact .nil
  | d :: ds, _, h, c => by
    cases h with
    | cons h1 h2 =>
      simp only [PyData.canLayAll0, Bool.and_eq_true] at c
      exact .cons (Dv.dp d _ h1 c.1) (DvAll.dp ds _ h2 c.2)
end
theorem DvAll.length {K : PySem.W.Frag} {H : Hp} : ∀ {vs : List V} {ds : List D}, DvAll K H vs ds → vs.length = ds.length
  | _, _, .nil => rfl
  | _, _, .cons _ h => congrArg (· + 1) (DvAll.length h)
theorem DvAll.get {K : PySem.W.Frag} {H : Hp} : ∀ {vs : List V} {ds : List D} {i : Nat} {d : D}, DvAll K H vs ds → ds[i]? = some d → ∃ v, vs[i]? = some v ∧ Dv K H v d
  | _, _, _, _, .nil, e => by simp at e
  | _, _, 0, _, .cons h _, e => by simp at e; subst e; exact ⟨_, rfl, h⟩
  | _, _, i + 1, d, .cons _ h, e => by
    obtain ⟨v, q, r⟩ := DvAll.get (i := i) (d := d) h (by simpa using e)
    exact ⟨v, by simpa using q, r⟩
theorem DvAll.getV {K : PySem.W.Frag} {H : Hp} : ∀ {vs : List V} {ds : List D} {i : Nat} {v : V}, DvAll K H vs ds → vs[i]? = some v → ∃ d, ds[i]? = some d ∧ Dv K H v d
  | _, _, _, _, .nil, e => by simp at e
  | _, _, 0, _, .cons h _, e => by simp at e; subst e; exact ⟨_, rfl, h⟩
  | _, _, i + 1, v, .cons _ h, e => by
    obtain ⟨d, q, r⟩ := DvAll.getV (i := i) (v := v) h (by simpa using e)
    exact ⟨d, by simpa using q, r⟩
theorem DvAll.append {K : PySem.W.Frag} {H : Hp} : ∀ {vs : List V} {ds : List D} {us : List V} {es : List D}, DvAll K H vs ds → DvAll K H us es → DvAll K H (vs ++ us) (ds ++ es)
  | _, _, _, _, .nil, h => h
  | _, _, _, _, .cons a b, h => .cons a (DvAll.append b h)
theorem DvAll.drop {K : PySem.W.Frag} {H : Hp} : ∀ (n : Nat) {vs : List V} {ds : List D}, DvAll K H vs ds → DvAll K H (vs.drop n) (ds.drop n)
  | 0, _, _, h => h
  | _ + 1, _, _, .nil => .nil
  | n + 1, _, _, .cons _ h => by simpa using DvAll.drop n h
theorem DvAll.take {K : PySem.W.Frag} {H : Hp} : ∀ (n : Nat) {vs : List V} {ds : List D}, DvAll K H vs ds → DvAll K H (vs.take n) (ds.take n)
  | 0, _, _, _ => by simpa using DvAll.nil
  | _ + 1, _, _, .nil => by simpa using DvAll.nil
  | n + 1, _, _, .cons a h => by simpa using DvAll.cons a (DvAll.take n h)
theorem DvAll.set {K : PySem.W.Frag} {H : Hp} {v : V} {d : D} (q : Dv K H v d) : ∀ (i : Nat) {vs : List V} {ds : List D}, DvAll K H vs ds → DvAll K H (vs.set i v) (ds.set i d)
  | _, _, _, .nil => by simpa using DvAll.nil
  | 0, _, _, .cons _ h => by simpa using DvAll.cons q h
  | i + 1, _, _, .cons a h => by simpa using DvAll.cons a (DvAll.set q i h)

/-! ### states: slots, what they hold, what stands for good (F), the heap -/
def Owned (σ : St) (ρ : Rh) (b : Addr) : Prop := ∃ (i : Nat) (ds : List D), ρ[i]? = some (some (.own ds)) ∧ σ[i]? = some (some (.ref b))
structure Con (K : PySem.W.Frag) (σ : St) (ρ : Rh) (F H : Hp) : Prop where
  ext : Same F H
  len : σ.length = ρ.length
  dat : ∀ (i : Nat) (d : D), ρ[i]? = some (some (.dat d)) → ∃ v, σ[i]? = some (some v) ∧ Dv K F v d
  own : ∀ (i : Nat) (ds : List D), ρ[i]? = some (some (.own ds)) → ∃ p vs, σ[i]? = some (some (.ref p)) ∧ F p = none ∧ H p = some (.lst vs) ∧ DvAll K F vs ds
  sep : ∀ (i j : Nat) (a b : List D) (p : Addr), i ≠ j → ρ[i]? = some (some (.own a)) → ρ[j]? = some (some (.own b)) → σ[i]? = some (some (.ref p)) → σ[j]? = some (some (.ref p)) → False
structure Stp (P : List Nat) (σ : St) (ρ : Rh) (F H : Hp) (σ' : St) (ρ' : Rh) (F' H' : Hp) : Prop where
  fr : Same F F'
  keep : ∀ b o, H b = some o → ¬ Owned σ ρ b → H' b = some o
  free : ∀ b o, H b = some o → F b = none → ¬ Owned σ ρ b → F' b = none
  own : ∀ b, Owned σ' ρ' b → Owned σ ρ b ∨ H b = none
  dom : ∀ b o, H b = some o → ∃ o', H' b = some o'
  pin : ∀ i ∈ P, σ'[i]? = σ[i]?
theorem Stp.refl {P : List Nat} {σ : St} {ρ : Rh} {F H : Hp} : Stp P σ ρ F H σ ρ F H :=
  ⟨fun _ _ h => h, fun _ _ h _ => h, fun _ _ _ h _ => h, fun _ h => .inl h, fun _ o h => ⟨o, h⟩, fun _ _ => rfl⟩
theorem Stp.not {P : List Nat} {σ σ1 : St} {ρ ρ1 : Rh} {F H F1 H1 : Hp} (a : Stp P σ ρ F H σ1 ρ1 F1 H1) {b : Addr} {o : HO} (h : H b = some o) (n : ¬ Owned σ ρ b) : ¬ Owned σ1 ρ1 b := fun q => by
  rcases a.own b q with r | r
  · exact n r
  · rw [r] at h; cases h
theorem Stp.trans {P : List Nat} {σ σ1 σ2 : St} {ρ ρ1 ρ2 : Rh} {F H F1 H1 F2 H2 : Hp} (a : Stp P σ ρ F H σ1 ρ1 F1 H1) (b : Stp P σ1 ρ1 F1 H1 σ2 ρ2 F2 H2) : Stp P σ ρ F H σ2 ρ2 F2 H2 where
  fr := fun x o h => b.fr x o (a.fr x o h)
  keep := fun x o h n => b.keep x o (a.keep x o h n) (a.not h n)
  free := fun x o h f n => b.free x o (a.keep x o h n) (a.free x o h f n) (a.not h n)
  own := fun x q => by
    rcases b.own x q with r | r
    · exact a.own x r
    · refine .inr ?_
      cases e : H x with
      | none => rfl
      | some o =>
        obtain ⟨o', e'⟩ := a.dom x o e
        rw [r] at e'; cases e'
  dom := fun x o h => by
    obtain ⟨o', e⟩ := a.dom x o h
    exact b.dom x o' e
  pin := fun i hi => (b.pin i hi).trans (a.pin i hi)
theorem Stp.back {P : List Nat} {σ σ1 : St} {ρ ρ1 : Rh} {F H F1 H1 : Hp} (a : Stp P σ ρ F H σ1 ρ1 F1 H1) {b : Addr} (h : H1 b = none) : H b = none := by
  cases e : H b with
  | none => rfl
  | some o =>
    obtain ⟨o', e'⟩ := a.dom b o e
    rw [h] at e'; cases e'

/-- only new things: what stood stands, what was free for the def is so -/
structure News (F H F' H' : Hp) : Prop where
  fr : Same F F'
  ht : Same H H'
  ex : Same F' H'
  free : ∀ b o, H b = some o → F b = none → F' b = none
theorem News.refl {F H : Hp} (e : Same F H) : News F H F H := ⟨fun _ _ h => h, fun _ _ h => h, e, fun _ _ _ h => h⟩
theorem News.trans {F H F1 H1 F2 H2 : Hp} (a : News F H F1 H1) (b : News F1 H1 F2 H2) : News F H F2 H2 :=
  ⟨fun x o h => b.fr x o (a.fr x o h), fun x o h => b.ht x o (a.ht x o h), b.ex, fun x o h f => b.free x o (a.ht x o h) (a.free x o h f)⟩
/-- a new object for good -/
theorem News.new {F H : Hp} {p : Addr} {u : HO} (e : Same F H) (n : H p = none) : News F H (upd F p u) (upd H p u) where
  fr := fun x o h => by
    rw [upd_ne (ne_of_none (e x o h) n)]; exact h
  ht := fun x o h => by
    rw [upd_ne (ne_of_none h n)]; exact h
  ex := fun x o h => by
    by_cases q : x = p
    · subst q; rw [upd_same] at h ⊢; exact h
    · rw [upd_ne q] at h ⊢; exact e x o h
  free := fun x o h f => by
    rw [upd_ne (ne_of_none h n)]; exact f
/-- a new object that is nobody's yet -/
theorem News.loose {F H : Hp} {p : Addr} {u : HO} (e : Same F H) (n : H p = none) : News F H F (upd H p u) where
  fr := fun _ _ h => h
  ht := fun x o h => by
    rw [upd_ne (ne_of_none h n)]; exact h
  ex := fun x o h => by
    rw [upd_ne (ne_of_none (e x o h) n)]; exact e x o h
  free := fun _ _ _ f => f
theorem Con.news {K : PySem.W.Frag} {σ : St} {ρ : Rh} {F H F' H' : Hp} (c : Con K σ ρ F H) (n : News F H F' H') : Con K σ ρ F' H' where
  ext := n.ex
  len := c.len
  dat := fun i d e => by
    obtain ⟨v, q, r⟩ := c.dat i d e
    exact ⟨v, q, dv_mono n.fr d v r⟩
  own := fun i ds e => by
    obtain ⟨p, vs, q, f, h, r⟩ := c.own i ds e
    exact ⟨p, vs, q, n.free p _ h f, n.ht p _ h, dvAll_mono n.fr ds vs r⟩
  sep := c.sep
theorem Stp.news {P : List Nat} {K : PySem.W.Frag} {σ : St} {ρ : Rh} {F H F' H' : Hp} (n : News F H F' H') : Stp P σ ρ F H σ ρ F' H' where
  fr := n.fr
  keep := fun b o h _ => n.ht b o h
  free := fun b o h f _ => n.free b o h f
  own := fun b h => .inl h
  dom := fun b o h => ⟨o, n.ht b o h⟩
  pin := fun _ _ => rfl

/-! ### values, exceptions, results -/
inductive Val where
  | d (d : D)
  /-- a new list that nobody knows as yet -/
  | l (ds : List D)
def ValIs (K : PySem.W.Frag) (σ0 : St) (ρ0 : Rh) (H0 : Hp) (σ : St) (ρ : Rh) (F H : Hp) (v : V) : Val → Prop
  | .d d => Dv K F v d
  | .l ds => ∃ p vs, v = .ref p ∧ F p = none ∧ H p = some (.lst vs) ∧ DvAll K F vs ds ∧ ¬ Owned σ ρ p ∧ (Owned σ0 ρ0 p ∨ H0 p = none)
structure Xn where
  cls : Str
  fld : Option (Str × D)
def XnIs (K : PySem.W.Frag) (mg : Str → Option Value) (F H : Hp) (x : Xn) (cls : Value) (dd : Option Addr) : Prop :=
  ∃ C, mg x.cls = some (.ref C) ∧ cls = .ref C ∧ match x.fld with
    | none => True
    | some (f, d) => ∃ a v, dd = some a ∧ F a = some (.xd [(f, v)]) ∧ Dv K F v d
inductive R (S : Type) where
  | ok (v : Val) (s : S)
  | exc (x : Xn) (s : S)
  | stuck
abbrev EM := Rh → R Rh
/-- what a derivation stands in: the written part, the module's names, the wish of exceptions, the slots that stay -/
structure G where
  K : PySem.W.Frag
  mg : Str → Option Value
  W : WX
  P : List Nat
def EPost (g : G) (σ : St) (ρ : Rh) (F H : Hp) (Q : VK) : R Rh → Prop
  | .ok v ρ' => ∀ x F' H', Con g.K σ ρ' F' H' → Stp g.P σ ρ F H σ ρ' F' H' → ValIs g.K σ ρ H σ ρ' F' H' x v → Q x H'
  | .exc e ρ' => ∀ cls dd F' H', Con g.K σ ρ' F' H' → Stp g.P σ ρ F H σ ρ' F' H' → XnIs g.K g.mg F' H' e cls dd → g.W cls dd σ H'
  | .stuck => False
def SndE (g : G) (te : TE) (m : EM) : Prop := ∀ σ ρ F H Q, Con g.K σ ρ F H → EPost g σ ρ F H Q (m ρ) → te σ H Q
def bindE (m : EM) (f : Val → EM) : EM := fun ρ => match m ρ with
  | .ok v ρ' => f v ρ'
  | .exc e ρ' => .exc e ρ'
  | .stuck => .stuck

theorem ValIs.shift {P : List Nat} {K : PySem.W.Frag} {σ0 : St} {ρ0 : Rh} {H0 : Hp} {σ σ1 : St} {ρ ρ1 : Rh} {F H F1 H1 : Hp} {x : V} {v : Val} (h : ValIs K σ0 ρ0 H0 σ ρ F H x v) (s : Stp P σ ρ F H σ1 ρ1 F1 H1) : ValIs K σ0 ρ0 H0 σ1 ρ1 F1 H1 x v := by
  cases v with
  | d d => exact dv_mono s.fr d x h
  | l ds =>
    obtain ⟨p, vs, e, f, q, a, n, o⟩ := h
    exact ⟨p, vs, e, s.free p _ q f n, s.keep p _ q n, dvAll_mono s.fr ds vs a, s.not q n, o⟩
theorem ValIs.from {P : List Nat} {K : PySem.W.Frag} {σ0 σ' : St} {ρ0 ρ' : Rh} {F0 H0 F' H' : Hp} {σ : St} {ρ : Rh} {F H : Hp} {x : V} {v : Val} (h : ValIs K σ' ρ' H' σ ρ F H x v) (s : Stp P σ0 ρ0 F0 H0 σ' ρ' F' H') : ValIs K σ0 ρ0 H0 σ ρ F H x v := by
  cases v with
  | d d => exact h
  | l ds =>
    obtain ⟨p, vs, e, f, q, a, n, o⟩ := h
    refine ⟨p, vs, e, f, q, a, n, ?_⟩
    rcases o with o | o
    · exact s.own p o
    · exact .inr (s.back o)
theorem EPost.shift {g : G} {σ : St} {ρ ρ1 : Rh} {F H F1 H1 : Hp} {Q : VK} {r : R Rh} (h : EPost g σ ρ F H Q r) (s : Stp g.P σ ρ F H σ ρ1 F1 H1) : EPost g σ ρ1 F1 H1 Q r := by
  cases r with
  | ok v ρ' => exact fun x F' H' c t iv => h x F' H' c (s.trans t) (iv.from s)
  | exc e ρ' => exact fun cls dd F' H' c t ix => h cls dd F' H' c (s.trans t) ix
  | stuck => exact h
theorem SndE.bind {g : G} {te : TE} {m : EM} {f : Val → EM} (h : SndE g te m) {σ : St} {ρ : Rh} {F H : Hp} {Q Q1 : VK} (c : Con g.K σ ρ F H) (hp : EPost g σ ρ F H Q (bindE m f ρ))
    (k : ∀ x v ρ' F' H', Con g.K σ ρ' F' H' → Stp g.P σ ρ F H σ ρ' F' H' → ValIs g.K σ ρ H σ ρ' F' H' x v → EPost g σ ρ' F' H' Q (f v ρ') → Q1 x H') : te σ H Q1 := by
  refine h σ ρ F H Q1 c ?_
  unfold bindE at hp
  cases e : m ρ with
  | ok v ρ' =>
    rw [e] at hp
    exact fun x F' H' c' s iv => k x v ρ' F' H' c' s iv (hp.shift s)
  | exc x ρ' =>
    rw [e] at hp
    exact hp
  | stuck =>
    rw [e] at hp
    exact hp
end DL
set_option Elab.async false
set_option linter.all false
set_option maxRecDepth 100000
set_option maxHeartbeats 2000000
set_option autoImplicit false
/-! DL2: expressions. -/
namespace DL
open PySem PySem.Spec PyProof.Rows L2

/-! ### the data of the operators -/
def OpD (K : PySem.W.Frag) (r : R2) (g2 : D → D → Option D) : Prop := ∀ (F H : Hp) (x y : V) (dx dy dz : D) (Q : VK), Same F H → Dv K F x dx → Dv K F y dy → g2 dx dy = some dz →
  (∀ v F' H', News F H F' H' → Dv K F' v dz → Q v H') → r x y H Q
def UnD (K : PySem.W.Frag) (r : V → Hp → VK → Prop) (g1 : D → Option D) : Prop := ∀ (F H : Hp) (x : V) (dx dz : D) (Q : VK), Same F H → Dv K F x dx → g1 dx = some dz →
  (∀ v F' H', News F H F' H' → Dv K F' v dz → Q v H') → r x H Q
def CaD (K : PySem.W.Frag) (r : List V → Hp → VK → Prop) (gl : List D → Option D) : Prop := ∀ (F H : Hp) (xs : List V) (ds : List D) (dz : D) (Q : VK), Same F H → DvAll K F xs ds → gl ds = some dz →
  (∀ v F' H', News F H F' H' → Dv K F' v dz → Q v H') → r xs H Q
def liftD (o : Option D) : EM := fun ρ => match o with
  | some d => .ok (.d d) ρ
  | none => .stuck
def op2 (g2 : D → D → Option D) (ma mb : EM) : EM := bindE ma fun a => bindE mb fun b => match a, b with
  | .d x, .d y => liftD (g2 x y)
  | _, _ => fun _ => .stuck
def op1 (g1 : D → Option D) (ma : EM) : EM := bindE ma fun a => match a with
  | .d x => liftD (g1 x)
  | _ => fun _ => .stuck

section
variable {g : G} {ta tb tc te : TE} {ma mb mc m : EM} {r : R2}
/-- the end of an operation that lays only new things -/
theorem EPost.lift {σ : St} {ρ : Rh} {F H : Hp} {Q : VK} {o : Option D} (c : Con g.K σ ρ F H) (h : EPost g σ ρ F H Q (liftD o ρ)) : ∃ dz, o = some dz ∧ ∀ v F' H', News F H F' H' → Dv g.K F' v dz → Q v H' := by
  cases o with
  | none => exact h.elim
  | some dz => exact ⟨dz, rfl, fun v F' H' n q => h v F' H' (c.news n) (Stp.news (K := g.K) n) q⟩
theorem snd_op {g2 : D → D → Option D} (hd : OpD g.K r g2) (ha : SndE g ta ma) (hb : SndE g tb mb) : SndE g (tOp r ta tb) (op2 g2 ma mb) := by
  intro σ ρ F H Q c hp
  refine ha.bind c hp fun x v ρ1 F1 H1 c1 s1 i1 hp1 => ?_
  refine hb.bind c1 hp1 fun y u ρ2 F2 H2 c2 s2 i2 hp2 => ?_
  cases v with
  | l ds => cases u <;> exact hp2.elim
  | d dx =>
    cases u with
    | l ds => exact hp2.elim
    | d dy =>
      obtain ⟨dz, e, k⟩ := hp2.lift c2
      exact hd F2 H2 x y dx dy dz Q c2.ext (dv_mono s2.fr dx x i1) i2 e k
theorem snd_un {r1 : V → Hp → VK → Prop} {g1 : D → Option D} (hd : UnD g.K r1 g1) (ha : SndE g ta ma) : SndE g (tUn r1 ta) (op1 g1 ma) := by
  intro σ ρ F H Q c hp
  refine ha.bind c hp fun x v ρ1 F1 H1 c1 s1 i1 hp1 => ?_
  cases v with
  | l ds => exact hp1.elim
  | d dx =>
    obtain ⟨dz, e, k⟩ := hp1.lift c1
    exact hd F1 H1 x dx dz Q c1.ext i1 e k
end

/-! ### variables, constants -/
def varM (i : Nat) : EM := fun ρ => match ρ[i]? with
  | some (some (.dat d)) => .ok (.d d) ρ
  | _ => .stuck
def conM (d : D) : EM := fun ρ => .ok (.d d) ρ
theorem snd_var {g : G} {i : Nat} : SndE g (tVar i) (varM i) := by
  intro σ ρ F H Q c hp
  unfold varM at hp
  split at hp
  · rename_i d e
    obtain ⟨v, q, r⟩ := c.dat i d e
    exact ⟨v, q, hp v F H c Stp.refl r⟩
  · exact hp.elim
theorem snd_con {g : G} {v : V} {d : D} (h : ∀ F, Dv g.K F v d) : SndE g (tC v) (conM d) := fun σ ρ F H Q c hp => hp v F H c Stp.refl (h F)

/-! ### and, or, not, if -/
def andM (ma mb : EM) : EM := bindE ma fun a => match a with
  | .d (.bool true) => mb
  | .d (.bool false) => conM (.bool false)
  | _ => fun _ => .stuck
def orM (ma mb : EM) : EM := bindE ma fun a => match a with
  | .d (.bool true) => conM (.bool true)
  | .d (.bool false) => mb
  | _ => fun _ => .stuck
def notM (ma : EM) : EM := bindE ma fun a => match a with
  | .d (.bool b) => conM (.bool (!b))
  | _ => fun _ => .stuck
def iteM (mc ma mb : EM) : EM := bindE mc fun a => match a with
  | .d (.bool true) => ma
  | .d (.bool false) => mb
  | _ => fun _ => .stuck
/-- a test -/
def SndT (g : G) (tt : TT) (m : EM) : Prop := ∀ σ ρ F H (Q : Bool → Hp → Prop), Con g.K σ ρ F H → EPost g σ ρ F H (fun x H' => ∃ b, x = .bl b ∧ Q b H') (m ρ) → tt σ H Q
theorem dv_bool {K : PySem.W.Frag} {H : Hp} {x : V} {b : Bool} (h : Dv K H x (.bool b)) : x = .bl b := by cases h; rfl
theorem dv_int {K : PySem.W.Frag} {H : Hp} {x : V} {b : Int} (h : Dv K H x (.int b)) : x = .int b := by cases h; rfl
theorem dv_str {K : PySem.W.Frag} {H : Hp} {x : V} {b : Str} (h : Dv K H x (.str b)) : x = .str b := by cases h; rfl
theorem dv_none {K : PySem.W.Frag} {H : Hp} {x : V} (h : Dv K H x .none) : x = .non := by cases h; rfl
theorem dv_tup {K : PySem.W.Frag} {H : Hp} {x : V} {ds : List D} (h : Dv K H x (.tuple ds)) : ∃ a xs, x = .ref a ∧ SqT K H a xs ∧ DvAll K H xs ds := by
  cases h with
  | tup a b => exact ⟨_, _, rfl, a, b⟩
theorem dv_lst {K : PySem.W.Frag} {H : Hp} {x : V} {ds : List D} (h : Dv K H x (.list ds)) : ∃ a xs, x = .ref a ∧ H a = some (.lst xs) ∧ DvAll K H xs ds := by
  cases h with
  | lst a b => exact ⟨_, _, rfl, a, b⟩
section
variable {g : G} {ta tb tc te : TE} {ma mb mc m : EM} {t u : TT}
theorem epost_con {σ : St} {ρ : Rh} {F H : Hp} {Q : VK} {d : D} (c : Con g.K σ ρ F H) (h : EPost g σ ρ F H Q (conM d ρ)) {v : V} (q : Dv g.K F v d) : Q v H := h v F H c Stp.refl q
theorem snd_and (ha : SndE g ta ma) (hb : SndE g tb mb) : SndE g (tAndV ta tb) (andM ma mb) := by
  intro σ ρ F H Q c hp
  refine ha.bind c hp fun x v ρ1 F1 H1 c1 s1 i1 hp1 => ?_
  split at hp1
  · exact ⟨true, dv_bool i1, by rw [if_pos rfl]; exact hb σ ρ1 F1 H1 Q c1 hp1⟩
  · exact ⟨false, dv_bool i1, by rw [if_neg Bool.false_ne_true]; exact epost_con c1 hp1 (.bl false)⟩
  · exact hp1.elim
theorem snd_or (ha : SndE g ta ma) (hb : SndE g tb mb) : SndE g (tOrV ta tb) (orM ma mb) := by
  intro σ ρ F H Q c hp
  refine ha.bind c hp fun x v ρ1 F1 H1 c1 s1 i1 hp1 => ?_
  split at hp1
  · exact ⟨true, dv_bool i1, by rw [if_pos rfl]; exact epost_con c1 hp1 (.bl true)⟩
  · exact ⟨false, dv_bool i1, by rw [if_neg Bool.false_ne_true]; exact hb σ ρ1 F1 H1 Q c1 hp1⟩
  · exact hp1.elim
theorem snd_not (ha : SndE g ta ma) : SndE g (tNotV ta) (notM ma) := by
  intro σ ρ F H Q c hp
  refine ha.bind c hp fun x v ρ1 F1 H1 c1 s1 i1 hp1 => ?_
  split at hp1
  · exact ⟨_, dv_bool i1, epost_con c1 hp1 (.bl _)⟩
  · exact hp1.elim
theorem snt_B (ha : SndE g ta ma) : SndT g (tB ta) ma := fun σ ρ F H Q c hp => ha σ ρ F H _ c hp
theorem snt_test (ha : SndE g ta ma) : SndT g (tTest ta) ma := fun σ ρ F H Q c hp => ha σ ρ F H _ c hp
/-- a test's answer, then more -/
theorem SndT.bind {f : Val → EM} (h : SndT g t m) {σ : St} {ρ : Rh} {F H : Hp} {Q : VK} {Q1 : Bool → Hp → Prop} (c : Con g.K σ ρ F H) (hp : EPost g σ ρ F H Q (bindE m f ρ))
    (hf : ∀ v, (∀ b, v ≠ .d (.bool b)) → ∀ ρ, f v ρ = .stuck)
    (k : ∀ b ρ' F' H', Con g.K σ ρ' F' H' → Stp g.P σ ρ F H σ ρ' F' H' → EPost g σ ρ' F' H' Q (f (.d (.bool b)) ρ') → Q1 b H') : t σ H Q1 := by
  refine h σ ρ F H Q1 c ?_
  unfold bindE at hp
  cases e : m ρ with
  | exc x ρ' => rw [e] at hp; exact hp
  | stuck => rw [e] at hp; exact hp
  | ok v ρ' =>
    rw [e] at hp
    intro x F' H' c' s iv
    have hp' : EPost g σ ρ' F' H' Q (f v ρ') := EPost.shift hp s
    by_cases hb : ∃ b, v = .d (.bool b)
    · obtain ⟨b, rfl⟩ := hb
      exact ⟨b, dv_bool iv, k b ρ' F' H' c' s hp'⟩
    · rw [hf v (fun b z => hb ⟨b, z⟩)] at hp'
      exact hp'.elim
theorem snt_and (ha : SndT g t ma) (hb : SndT g u mb) : SndT g (tAnd t u) (andM ma mb) := by
  intro σ ρ F H Q c hp
  refine ha.bind c hp (fun v hv ρ => ?_) fun b ρ1 F1 H1 c1 s1 hp1 => ?_
  · cases v with
    | l ds => rfl
    | d d => cases d <;> first | rfl | (exact absurd rfl (hv _))
  · cases b with
    | true =>
      rw [if_pos rfl]
      exact hb σ ρ1 F1 H1 Q c1 hp1
    | false =>
      rw [if_neg Bool.false_ne_true]
      obtain ⟨b, e, q⟩ := epost_con c1 hp1 (.bl false)
      cases e
      exact q
theorem snt_or (ha : SndT g t ma) (hb : SndT g u mb) : SndT g (tOr t u) (orM ma mb) := by
  intro σ ρ F H Q c hp
  refine ha.bind c hp (fun v hv ρ => ?_) fun b ρ1 F1 H1 c1 s1 hp1 => ?_
  · cases v with
    | l ds => rfl
    | d d => cases d <;> first | rfl | (exact absurd rfl (hv _))
  · cases b with
    | true =>
      rw [if_pos rfl]
      obtain ⟨b, e, q⟩ := epost_con c1 hp1 (.bl true)
      cases e
      exact q
    | false =>
      rw [if_neg Bool.false_ne_true]
      exact hb σ ρ1 F1 H1 Q c1 hp1
theorem snt_not (ha : SndT g t ma) : SndT g (tNot t) (notM ma) := by
  intro σ ρ F H Q c hp
  refine ha.bind c hp (fun v hv ρ => ?_) fun b ρ1 F1 H1 c1 s1 hp1 => ?_
  · cases v with
    | l ds => rfl
    | d d => cases d <;> first | rfl | (exact absurd rfl (hv _))
  · obtain ⟨b', e, q⟩ := epost_con c1 hp1 (.bl (!b))
    cases e
    exact q
theorem snd_ite (hc : SndT g t mc) (ha : SndE g ta ma) (hb : SndE g tb mb) : SndE g (tIf t ta tb) (iteM mc ma mb) := by
  intro σ ρ F H Q c hp
  refine hc.bind c hp (fun v hv ρ => ?_) fun b ρ1 F1 H1 c1 s1 hp1 => ?_
  · cases v with
    | l ds => rfl
    | d d => cases d <;> first | rfl | (exact absurd rfl (hv _))
  · cases b with
    | true =>
      rw [if_pos rfl]
      exact ha σ ρ1 F1 H1 Q c1 hp1
    | false =>
      rw [if_neg Bool.false_ne_true]
      exact hb σ ρ1 F1 H1 Q c1 hp1
end

/-! ### lists of expressions -/
inductive RL where
  | ok (vs : List Val) (s : Rh)
  | exc (x : Xn) (s : Rh)
  | stuck
abbrev LM := Rh → RL
def AllIs (K : PySem.W.Frag) (σ0 : St) (ρ0 : Rh) (H0 : Hp) (σ : St) (ρ : Rh) (F H : Hp) : List V → List Val → Prop
  | [], [] => True
  | x :: xs, v :: vs => ValIs K σ0 ρ0 H0 σ ρ F H x v ∧ AllIs K σ0 ρ0 H0 σ ρ F H xs vs
  | _, _ => False
def LPost (g : G) (σ : St) (ρ : Rh) (F H : Hp) (Q : List V → Hp → Prop) : RL → Prop
  | .ok vs ρ' => ∀ xs F' H', Con g.K σ ρ' F' H' → Stp g.P σ ρ F H σ ρ' F' H' → AllIs g.K σ ρ H σ ρ' F' H' xs vs → Q xs H'
  | .exc e ρ' => ∀ cls dd F' H', Con g.K σ ρ' F' H' → Stp g.P σ ρ F H σ ρ' F' H' → XnIs g.K g.mg F' H' e cls dd → g.W cls dd σ H'
  | .stuck => False
def SndA (g : G) (ta : TA) (m : LM) : Prop := ∀ σ ρ F H Q, Con g.K σ ρ F H → LPost g σ ρ F H Q (m ρ) → ta σ H Q
def nilL : LM := fun ρ => .ok [] ρ
def consL (m : EM) (ms : LM) : LM := fun ρ => match m ρ with
  | .ok v ρ1 => match ms ρ1 with
    | .ok vs ρ2 => .ok (v :: vs) ρ2
    | .exc x ρ2 => .exc x ρ2
    | .stuck => .stuck
  | .exc x ρ1 => .exc x ρ1
  | .stuck => .stuck
theorem AllIs.shift {P : List Nat} {K : PySem.W.Frag} {σ0 : St} {ρ0 : Rh} {H0 : Hp} {σ σ1 : St} {ρ ρ1 : Rh} {F H F1 H1 : Hp} (s : Stp P σ ρ F H σ1 ρ1 F1 H1) : ∀ {xs : List V} {vs : List Val}, AllIs K σ0 ρ0 H0 σ ρ F H xs vs → AllIs K σ0 ρ0 H0 σ1 ρ1 F1 H1 xs vs
  | [], [], _ => trivial
  | _ :: _, _ :: _, h => ⟨h.1.shift s, AllIs.shift s h.2⟩
  | [], _ :: _, h => h.elim
  | _ :: _, [], h => h.elim
theorem AllIs.from {P : List Nat} {K : PySem.W.Frag} {σ0 σ' : St} {ρ0 ρ' : Rh} {F0 H0 F' H' : Hp} {σ : St} {ρ : Rh} {F H : Hp} (s : Stp P σ0 ρ0 F0 H0 σ' ρ' F' H') : ∀ {xs : List V} {vs : List Val}, AllIs K σ' ρ' H' σ ρ F H xs vs → AllIs K σ0 ρ0 H0 σ ρ F H xs vs
  | [], [], _ => trivial
  | _ :: _, _ :: _, h => ⟨h.1.from s, AllIs.from s h.2⟩
  | [], _ :: _, h => h.elim
  | _ :: _, [], h => h.elim
section
variable {g : G} {te : TE} {ta : TA} {m : EM} {ms : LM}
theorem snd_nil : SndA g tNil nilL := fun σ ρ F H Q c hp => hp [] F H c Stp.refl trivial
theorem snd_cons (hm : SndE g te m) (hs : SndA g ta ms) : SndA g (tCons te ta) (consL m ms) := by
  intro σ ρ F H Q c hp
  refine hm σ ρ F H _ c ?_
  unfold consL at hp
  cases e : m ρ with
  | exc x ρ' => rw [e] at hp; exact hp
  | stuck => rw [e] at hp; exact hp
  | ok v ρ1 =>
    rw [e] at hp
    intro x F1 H1 c1 s1 i1
    refine hs σ ρ1 F1 H1 _ c1 ?_
    dsimp only at hp
    cases e2 : ms ρ1 with
    | exc x ρ' =>
      rw [e2] at hp
      exact fun cls dd F' H' c' s' ix => hp cls dd F' H' c' (s1.trans s') ix
    | stuck => rw [e2] at hp; exact hp
    | ok vs ρ2 =>
      rw [e2] at hp
      exact fun xs F2 H2 c2 s2 i2 => hp (x :: xs) F2 H2 c2 (s1.trans s2) ⟨i1.shift s2, i2.from s1⟩
end
/-- all of them data -/
def datL : List Val → Option (List D)
  | [] => some []
  | .d d :: r => (datL r).map (d :: ·)
  | .l _ :: _ => none
theorem AllIs.dat {K : PySem.W.Frag} {σ0 : St} {ρ0 : Rh} {H0 : Hp} {σ : St} {ρ : Rh} {F H : Hp} : ∀ {xs : List V} {vs : List Val} {ds : List D}, AllIs K σ0 ρ0 H0 σ ρ F H xs vs → datL vs = some ds → DvAll K F xs ds
  | [], [], _, _, e => by cases e; exact .nil
  | x :: xs, .d d :: vs, ds, h, e => by
    simp only [datL, Option.map_eq_some_iff] at e
    obtain ⟨es, e1, rfl⟩ := e
    exact .cons h.1 (AllIs.dat h.2 e1)
  | _ :: _, .l _ :: _, _, _, e => by cases e
  | [], _ :: _, _, h, _ => h.elim
  | _ :: _, [], _, h, _ => h.elim
def bindL (m : LM) (f : List Val → EM) : EM := fun ρ => match m ρ with
  | .ok v ρ' => f v ρ'
  | .exc e ρ' => .exc e ρ'
  | .stuck => .stuck
theorem SndA.bind {g : G} {ta : TA} {m : LM} {f : List Val → EM} (h : SndA g ta m) {σ : St} {ρ : Rh} {F H : Hp} {Q : VK} {Q1 : List V → Hp → Prop} (c : Con g.K σ ρ F H) (hp : EPost g σ ρ F H Q (bindL m f ρ))
    (k : ∀ xs vs ρ' F' H', Con g.K σ ρ' F' H' → Stp g.P σ ρ F H σ ρ' F' H' → AllIs g.K σ ρ H σ ρ' F' H' xs vs → EPost g σ ρ' F' H' Q (f vs ρ') → Q1 xs H') : ta σ H Q1 := by
  refine h σ ρ F H Q1 c ?_
  unfold bindL at hp
  cases e : m ρ with
  | ok v ρ' =>
    rw [e] at hp
    exact fun x F' H' c' s iv => k x v ρ' F' H' c' s iv (hp.shift s)
  | exc x ρ' => rw [e] at hp; exact hp
  | stuck => rw [e] at hp; exact hp
/-- an operation on a list of data -/
def opL (gl : List D → Option D) (ms : LM) : EM := bindL ms fun vs => liftD ((datL vs).bind gl)
theorem snd_call {g : G} {ta : TA} {ms : LM} {r : List V → Hp → VK → Prop} {gl : List D → Option D} (hd : CaD g.K r gl) (hs : SndA g ta ms) : SndE g (tCB r ta) (opL gl ms) := by
  intro σ ρ F H Q c hp
  refine hs.bind c hp fun xs vs ρ1 F1 H1 c1 s1 i1 hp1 => ?_
  obtain ⟨dz, e, k⟩ := hp1.lift c1
  cases e2 : datL vs with
  | none => rw [e2] at e; cases e
  | some ds =>
    rw [e2] at e
    exact hd F1 H1 xs ds dz Q c1.ext (i1.dat e2) e k
theorem News.tup {K : PySem.W.Frag} {F H : Hp} {p : Addr} {xs : List V} {ds : List D} (e : Same F H) (n : H p = none) (h : DvAll K F xs ds) : Dv K (upd F p (.tup xs)) (.ref p) (.tuple ds) :=
  .tup (SqT.of upd_same) (dvAll_mono (News.new e n).fr ds xs h)
theorem News.lst {K : PySem.W.Frag} {F H : Hp} {p : Addr} {xs : List V} {ds : List D} (e : Same F H) (n : H p = none) (h : DvAll K F xs ds) : Dv K (upd F p (.lst xs)) (.ref p) (.list ds) :=
  .lst upd_same (dvAll_mono (News.new e n).fr ds xs h)
def gTup (ds : List D) : Option D := if ds.length ≤ 100000 then some (.tuple ds) else none
def gLst (ds : List D) : Option D := if ds.length ≤ 100000 then some (.list ds) else none
theorem line_of {n : Nat} (h : n ≤ 100000) : n ≤ sizeLine := Nat.le_trans h (by decide)
theorem snd_tup {g : G} {ta : TA} {ms : LM} (hs : SndA g ta ms) : SndE g (tTup ta) (opL gTup ms) := by
  refine snd_call (r := fun xs H1 Q => xs.length ≤ sizeLine ∧ ∀ p, H1 p = none → Q (.ref p) (upd H1 p (.tup xs))) (fun F H xs ds dz Q e h hg k => ?_) hs
  unfold gTup at hg
  split at hg
  · rename_i hl
    cases hg
    refine ⟨by rw [DvAll.length h]; exact line_of hl, fun p hp => k _ _ _ (News.new e hp) (News.tup e hp h)⟩
  · cases hg
theorem snd_lst {g : G} {ta : TA} {ms : LM} (hs : SndA g ta ms) : SndE g (tLst ta) (opL gLst ms) := by
  refine snd_call (r := fun xs H1 Q => xs.length ≤ sizeLine ∧ ∀ p, H1 p = none → Q (.ref p) (upd H1 p (.lst xs))) (fun F H xs ds dz Q e h hg k => ?_) hs
  unfold gLst at hg
  split at hg
  · rename_i hl
    cases hg
    refine ⟨by rw [DvAll.length h]; exact line_of hl, fun p hp => k _ _ _ (News.new e hp) (News.lst e hp h)⟩
  · cases hg
/-- a new list that stays one's own -/
def lstO (ms : LM) : EM := bindL ms fun vs => match datL vs with
  | some ds => fun ρ => if ds.length ≤ 100000 then .ok (.l ds) ρ else .stuck
  | none => fun _ => .stuck
theorem not_owned {K : PySem.W.Frag} {σ : St} {ρ : Rh} {F H : Hp} (c : Con K σ ρ F H) {p : Addr} (n : H p = none) : ¬ Owned σ ρ p := fun ⟨i, ds, e, q⟩ => by
  obtain ⟨p', vs, q', _, h, _⟩ := c.own i ds e
  rw [q] at q'
  cases q'
  rw [n] at h
  cases h
theorem snd_lstO {g : G} {ta : TA} {ms : LM} (hs : SndA g ta ms) : SndE g (tLst ta) (lstO ms) := by
  intro σ ρ F H Q c hp
  refine hs.bind c hp fun xs vs ρ1 F1 H1 c1 s1 i1 hp1 => ?_
  cases e2 : datL vs with
  | none => rw [e2] at hp1; exact hp1.elim
  | some ds =>
    rw [e2] at hp1
    dsimp only at hp1
    split at hp1
    · rename_i hl
      have h := i1.dat e2
      refine ⟨by rw [DvAll.length h]; exact line_of hl, fun p hn => ?_⟩
      have n := News.loose (u := .lst xs) c1.ext hn
      refine hp1 _ F1 _ (c1.news n) (Stp.news (K := g.K) n) ⟨p, xs, rfl, ?_, upd_same, h, not_owned c1 hn, .inr hn⟩
      cases e : F1 p with
      | none => rfl
      | some o => rw [c1.ext p o e] at hn; cases hn
    · exact hp1.elim
/-- a new list becomes data -/
def frzE (m : EM) : EM := fun ρ => match m ρ with
  | .ok (.l ds) ρ' => .ok (.d (.list ds)) ρ'
  | r => r
theorem Con.freeze {P : List Nat} {K : PySem.W.Frag} {σ : St} {ρ : Rh} {F H : Hp} {p : Addr} {vs : List V} {ds : List D} (c : Con K σ ρ F H) (f : F p = none) (h : H p = some (.lst vs)) (a : DvAll K F vs ds) (n : ¬ Owned σ ρ p) :
    Same F (upd F p (.lst vs)) ∧ Con K σ ρ (upd F p (.lst vs)) H ∧ Dv K (upd F p (.lst vs)) (.ref p) (.list ds) := by
  have s : Same F (upd F p (.lst vs)) := fun b o e => by
    rw [upd_ne (ne_of_none e f)]; exact e
  refine ⟨s, ⟨fun b o e => ?_, c.len, fun i d e => ?_, fun i es e => ?_, c.sep⟩, .lst upd_same (dvAll_mono s ds vs a)⟩
  · by_cases q : b = p
    · subst q; rw [upd_same] at e; cases e; exact h
    · rw [upd_ne q] at e; exact c.ext b o e
  · obtain ⟨v, q, r⟩ := c.dat i d e
    exact ⟨v, q, dv_mono s d v r⟩
  · obtain ⟨p', us, q, f', h', r⟩ := c.own i es e
    refine ⟨p', us, q, ?_, h', dvAll_mono s es us r⟩
    rw [upd_ne (fun z => n ⟨i, es, e, by rw [z] at q; exact q⟩)]
    exact f'
theorem snd_frz {g : G} {te : TE} {m : EM} (h : SndE g te m) : SndE g te (frzE m) := by
  intro σ ρ F H Q c hp
  refine h σ ρ F H Q c ?_
  unfold frzE at hp
  cases e : m ρ with
  | exc x ρ' => rw [e] at hp; exact hp
  | stuck => rw [e] at hp; exact hp
  | ok v ρ1 =>
    rw [e] at hp
    cases v with
    | d d => exact hp
    | l ds =>
      intro x F1 H1 c1 s1 i1
      obtain ⟨p, vs, rfl, f, q, a, n, o⟩ := i1
      obtain ⟨s, c2, dp⟩ := Con.freeze (P := g.P) c1 f q a n
      refine hp _ (upd F1 p (.lst vs)) H1 c2 ⟨fun b ob e1 => s b ob (s1.fr b ob e1), s1.keep, fun b ob e1 e2 e3 => ?_, s1.own, s1.dom, s1.pin⟩ dp
      rw [upd_ne (fun z => ?_)]
      · exact s1.free b ob e1 e2 e3
      · subst z
        rcases o with o | o
        · exact e3 o
        · rw [o] at e1; cases e1
end DL
set_option Elab.async false
set_option linter.all false
set_option maxRecDepth 100000
set_option maxHeartbeats 2000000
set_option autoImplicit false
/-! DL3: the operators and built-ins on data; the rules of expressions. -/
namespace DL
open PySem PySem.Spec PyProof.Rows L2

def vOf : D → V
  | .none => .non
  | .bool b => .bl b
  | .int i => .int i
  | .str s => .str s
  | _ => .non
def flatD : D → Bool
  | .none => true
  | .bool _ => true
  | .int _ => true
  | .str _ => true
  | _ => false
section
variable {K : PySem.W.Frag} {H : Hp}
theorem dv_flat {d : D} {v : V} (h : Dv K H v d) (f : flatD d = true) : v = vOf d := by
  cases d <;> first | (cases h; rfl) | exact absurd f Bool.false_ne_true
theorem dv_vOf {d : D} (f : flatD d = true) : Dv K H (vOf d) d := by
  cases d with
  | none => exact .non
  | bool b => exact .bl b
  | int i => exact .int i
  | str s => exact .str s
  | _ => exact absurd f Bool.false_ne_true
theorem flat_vOf {d : D} (f : flatD d = true) : flatV (vOf d) = true := by
  cases d <;> first | rfl | exact absurd f Bool.false_ne_true
theorem dvs_flat : ∀ {ds : List D} {vs : List V}, DvAll K H vs ds → ds.all flatD = true → vs = ds.map vOf
  | [], _, h, _ => by cases h; rfl
  | d :: ds, _, h, f => by
    cases h with
    | cons a b =>
      rw [List.all_cons, Bool.and_eq_true] at f
      rw [dv_flat a f.1, dvs_flat b f.2]
      rfl
theorem flats_vOf : ∀ {ds : List D}, ds.all flatD = true → (ds.map vOf).all flatV = true
  | [], _ => rfl
  | d :: ds, f => by
    rw [List.all_cons, Bool.and_eq_true] at f
    rw [List.map_cons, List.all_cons, flat_vOf f.1, flats_vOf f.2]
    rfl
end

/-! ### + - * // % ** -/
def gAdd : D → D → Option D
  | .int a, .int b => some (.int (a + b))
  | .str a, .str b => if a.length + b.length ≤ 16777216 then some (.str (a ++ b)) else none
  | .list a, .list b => if a.length + b.length ≤ 100000 then some (.list (a ++ b)) else none
  | .tuple a, .tuple b => if a.length + b.length ≤ 100000 then some (.tuple (a ++ b)) else none
  | _, _ => none
def gSub : D → D → Option D
  | .int a, .int b => some (.int (a - b))
  | _, _ => none
def gMul : D → D → Option D
  | .int a, .int b => if (-(2 ^ 64) < a ∧ a < 2 ^ 64) ∨ (-(2 ^ 64) < b ∧ b < 2 ^ 64) then some (.int (a * b)) else none
  | _, _ => none
def gDiv : D → D → Option D
  | .int a, .int b => if 0 < b ∧ b < 2 ^ 4000 then some (.int (a / b)) else none
  | _, _ => none
def gMod : D → D → Option D
  | .int a, .int b => if 0 < b then some (.int (a % b)) else none
  | _, _ => none
def gPow : D → D → Option D
  | .int a, .int b => if 0 ≤ b ∧ b ≤ 1000000 ∧ a.natAbs < 2 ^ 64 then some (.int (a ^ b.toNat)) else none
  | _, _ => none
def rStrCat : R2 := fun x y H Q => ∃ i j, x = .str i ∧ y = .str j ∧ i.length + j.length ≤ sizeLine ∧ Q (.str (i ++ j)) H
def rAddA (K : PySem.W.Frag) : R2 := fun x y H Q => rI0 (fun i j => .int (i + j)) x y H Q ∨ (rStrCat x y H Q ∨ (rCat x y H Q ∨ rCatA K x y H Q))
theorem op_addA {X : Cx} : OpR X (binaryOp .Add) (rAddA X.K) := op_add.or (OpR.or (r := rStrCat) op_add_str (op_cat.or op_catA))
theorem line16 {n : Nat} (h : n ≤ 16777216) : n ≤ sizeLine := by rw [sizeLine_eq]; exact h
theorem add_D {K : PySem.W.Frag} : OpD K (rAddA K) gAdd := by
  intro F H x y dx dy dz Q e hx hy hg k
  unfold gAdd at hg
  split at hg
  · cases hg
    have hx := dv_int hx
    have hy := dv_int hy
    exact .inl ⟨_, _, hx, hy, k _ _ _ (News.refl e) (.int _)⟩
  · split at hg
    · rename_i hl
      cases hg
      have hx := dv_str hx
      have hy := dv_str hy
      exact .inr (.inl ⟨_, _, hx, hy, line16 hl, k _ _ _ (News.refl e) (.str _)⟩)
    · cases hg
  · split at hg
    · rename_i hl
      cases hg
      obtain ⟨a, xs, rfl, ha, da⟩ := dv_lst hx
      obtain ⟨b, ys, rfl, hb, db⟩ := dv_lst hy
      refine .inr (.inr (.inl ⟨a, b, xs, ys, rfl, rfl, e _ _ ha, e _ _ hb, by rw [DvAll.length da, DvAll.length db]; exact line_of hl, fun p hp => ?_⟩))
      exact k _ _ _ (News.new e hp) (News.lst e hp (da.append db))
    · cases hg
  · split at hg
    · rename_i hl
      cases hg
      obtain ⟨a, xs, rfl, ha, da⟩ := dv_tup hx
      obtain ⟨b, ys, rfl, hb, db⟩ := dv_tup hy
      refine .inr (.inr (.inr ⟨a, b, xs, ys, rfl, rfl, same_t e ha, same_t e hb, by rw [DvAll.length da, DvAll.length db]; exact line_of hl, fun z => ?_, fun z z2 => ?_, fun z z2 p hp => ?_⟩))
      · subst z
        cases da
        exact k _ _ _ (News.refl e) (.tup hb db)
      · subst z2
        cases db
        rw [List.append_nil] at k
        exact k _ _ _ (News.refl e) (.tup ha da)
      · exact k _ _ _ (News.new e hp) (News.tup e hp (da.append db))
    · cases hg
  · cases hg
theorem int_D {K : PySem.W.Frag} {C : Int → Int → Prop} {gf : Int → Int → Int} {g2 : D → D → Option D} (h : ∀ dx dy dz, g2 dx dy = some dz → ∃ a b, dx = .int a ∧ dy = .int b ∧ C a b ∧ dz = .int (gf a b)) : OpD K (rI C fun i j => .int (gf i j)) g2 := by
  intro F H x y dx dy dz Q e hx hy hg k
  obtain ⟨a, b, rfl, rfl, c, rfl⟩ := h dx dy dz hg
  exact ⟨a, b, dv_int hx, dv_int hy, c, k _ _ _ (News.refl e) (.int _)⟩
theorem int0_D {K : PySem.W.Frag} {gf : Int → Int → D} {gv : Int → Int → V} {g2 : D → D → Option D} (hv : ∀ a b F, Dv K F (gv a b) (gf a b)) (h : ∀ dx dy dz, g2 dx dy = some dz → ∃ a b, dx = .int a ∧ dy = .int b ∧ dz = gf a b) : OpD K (rI0 gv) g2 := by
  intro F H x y dx dy dz Q e hx hy hg k
  obtain ⟨a, b, rfl, rfl, rfl⟩ := h dx dy dz hg
  exact ⟨a, b, dv_int hx, dv_int hy, k _ _ _ (News.refl e) (hv a b F)⟩
theorem sub_D {K : PySem.W.Frag} : OpD K (rI0 fun i j => .int (i - j)) gSub := int0_D (gf := fun i j => .int (i - j)) (fun _ _ _ => .int _) fun dx dy dz h => by
  unfold gSub at h
  split at h
  · cases h; exact ⟨_, _, rfl, rfl, rfl⟩
  · cases h
theorem mul_D {K : PySem.W.Frag} : OpD K (rI CMul fun i j => .int (i * j)) gMul := int_D fun dx dy dz h => by
  unfold gMul at h
  split at h
  · split at h
    · rename_i c
      cases h; exact ⟨_, _, rfl, rfl, c, rfl⟩
    · cases h
  · cases h
theorem div_D {K : PySem.W.Frag} : OpD K (rI CDivW fun i j => .int (i / j)) gDiv := int_D fun dx dy dz h => by
  unfold gDiv at h
  split at h
  · split at h
    · rename_i a b c
      cases h; exact ⟨_, _, rfl, rfl, wide_div (b := 4000) c.1 (by have h2 : b < 2 ^ 4000 := c.2; omega) (by decide) (by decide), rfl⟩
    · cases h
  · cases h
theorem mod_D {K : PySem.W.Frag} : OpD K (rI (fun _ j => 0 < j) fun i j => .int (i % j)) gMod := int_D fun dx dy dz h => by
  unfold gMod at h
  split at h
  · split at h
    · rename_i c
      cases h; exact ⟨_, _, rfl, rfl, c, rfl⟩
    · cases h
  · cases h
theorem pow_D {K : PySem.W.Frag} : OpD K (rI CPow fun i j => .int (i ^ j.toNat)) gPow := int_D fun dx dy dz h => by
  unfold gPow at h
  split at h
  · split at h
    · rename_i c
      cases h; exact ⟨_, _, rfl, rfl, c, rfl⟩
    · cases h
  · cases h

/-! ### comparisons -/
def gLt : D → D → Option D
  | .int a, .int b => some (.bool (decide (a < b)))
  | _, _ => none
def gLe : D → D → Option D
  | .int a, .int b => some (.bool (decide (a ≤ b)))
  | _, _ => none
def gGt : D → D → Option D
  | .int a, .int b => some (.bool (decide (b < a)))
  | _, _ => none
def gGe : D → D → Option D
  | .int a, .int b => some (.bool (decide (b ≤ a)))
  | _, _ => none
theorem lt_D {K : PySem.W.Frag} : OpD K (rI0 fun i j => .bl (decide (i < j))) gLt := int0_D (gf := fun i j => .bool (decide (i < j))) (fun _ _ _ => .bl _) fun dx dy dz h => by
  unfold gLt at h
  split at h
  · cases h; exact ⟨_, _, rfl, rfl, rfl⟩
  · cases h
theorem le_D {K : PySem.W.Frag} : OpD K (rI0 fun i j => .bl (decide (i ≤ j))) gLe := int0_D (gf := fun i j => .bool (decide (i ≤ j))) (fun _ _ _ => .bl _) fun dx dy dz h => by
  unfold gLe at h
  split at h
  · cases h; exact ⟨_, _, rfl, rfl, rfl⟩
  · cases h
theorem gt_D {K : PySem.W.Frag} : OpD K (rI0 fun i j => .bl (decide (j < i))) gGt := int0_D (gf := fun i j => .bool (decide (j < i))) (fun _ _ _ => .bl _) fun dx dy dz h => by
  unfold gGt at h
  split at h
  · cases h; exact ⟨_, _, rfl, rfl, rfl⟩
  · cases h
theorem ge_D {K : PySem.W.Frag} : OpD K (rI0 fun i j => .bl (decide (j ≤ i))) gGe := int0_D (gf := fun i j => .bool (decide (j ≤ i))) (fun _ _ _ => .bl _) fun dx dy dz h => by
  unfold gGe at h
  split at h
  · cases h; exact ⟨_, _, rfl, rfl, rfl⟩
  · cases h
/-- == of data: scalars, or nested -/
def eqB (a b : D) : Option Bool :=
  if flatD a && flatD b && scal (vOf a) (vOf b) then some (decide (vOf a = vOf b))
  else if SeqAt.shaped a && SeqAt.shaped b then some (PyData.eqv a b) else none
def gEq (a b : D) : Option D := (eqB a b).map .bool
def gNe (a b : D) : Option D := (eqB a b).map fun k => .bool (!k)
theorem shaped_lay {d : D} (h : SeqAt.shaped d = true) : d.canLay0 = true := by
  unfold SeqAt.shaped at h
  rw [Bool.and_eq_true] at h
  exact h.1
theorem eq_D {K : PySem.W.Frag} : OpD K (fun x y H Q => rEq x y H Q ∨ rEqD K x y H Q) gEq := by
  intro F H x y dx dy dz Q e hx hy hg k
  unfold gEq eqB at hg
  split at hg
  · rename_i c
    cases hg
    simp only [Bool.and_eq_true] at c
    have ex := dv_flat hx c.1.1
    have ey := dv_flat hy c.1.2
    subst ex
    subst ey
    exact .inl ⟨c.2, k _ _ _ (News.refl e) (.bl _)⟩
  · split at hg
    · rename_i c
      cases hg
      rw [Bool.and_eq_true] at c
      exact .inr ⟨dx, dy, Dv.dp dx x (dv_mono e dx x hx) (shaped_lay c.1), Dv.dp dy y (dv_mono e dy y hy) (shaped_lay c.2), c.1, c.2, k _ _ _ (News.refl e) (.bl _)⟩
    · cases hg
theorem ne_D {K : PySem.W.Frag} : OpD K (fun x y H Q => rNe x y H Q ∨ rNeD K x y H Q) gNe := by
  intro F H x y dx dy dz Q e hx hy hg k
  unfold gNe eqB at hg
  split at hg
  · rename_i c
    cases hg
    simp only [Bool.and_eq_true] at c
    have ex := dv_flat hx c.1.1
    have ey := dv_flat hy c.1.2
    subst ex
    subst ey
    exact .inl ⟨c.2, k _ _ _ (News.refl e) (.bl _)⟩
  · split at hg
    · rename_i c
      cases hg
      rw [Bool.and_eq_true] at c
      exact .inr ⟨dx, dy, Dv.dp dx x (dv_mono e dx x hx) (shaped_lay c.1), Dv.dp dy y (dv_mono e dy y hy) (shaped_lay c.2), c.1, c.2, k _ _ _ (News.refl e) (.bl _)⟩
    · cases hg
/-- in: a sign in a text, a flat thing in a list or a tuple of such -/
def inB (x y : D) : Option Bool :=
  match y with
  | .str z => match x with
    | .str c => match c.cps.toList with
      | [k] => some (decide (k ∈ z.cps.toList))
      | _ => none
    | _ => none
  | .list ds => if flatD x && ds.all flatD then some (inV (vOf x) (ds.map vOf)) else none
  | .tuple ds => if flatD x && ds.all flatD then some (inV (vOf x) (ds.map vOf)) else none
  | _ => none
def gIn (a b : D) : Option D := (inB a b).map fun k => .bool k
def gNotIn (a b : D) : Option D := (inB a b).map fun k => .bool (!k)
def rInS1 (neg : Bool) : R2 := fun x y H Q => ∃ (c : Nat) (z : Str), x = .str ⟨#[c]⟩ ∧ y = .str z ∧ Q (.bl (if neg then !decide (c ∈ z.cps.toList) else decide (c ∈ z.cps.toList))) H
theorem op_inA {X : Cx} : OpR X (compareOp .In) (fun x y H Q => rInS1 false x y H Q ∨ rIn X.K false x y H Q) := OpR.or (r := rInS1 false) op_in_sign op_in_seq
theorem op_notInA {X : Cx} : OpR X (compareOp .NotIn) (fun x y H Q => rInS1 true x y H Q ∨ rIn X.K true x y H Q) := OpR.or (r := rInS1 true) op_notIn_sign op_notIn_seq
theorem inB_D {K : PySem.W.Frag} (neg : Bool) : OpD K (fun x y H Q => rInS1 neg x y H Q ∨ rIn K neg x y H Q) fun a b => (inB a b).map fun k => .bool (if neg then !k else k) := by
  intro F H x y dx dy dz Q e hx hy hg k
  obtain ⟨b, eb, rfl⟩ := Option.map_eq_some_iff.mp hg
  clear hg
  unfold inB at eb
  split at eb
  · split at eb
    · rename_i z _ c
      split at eb
      · rename_i kk ek
        cases eb
        have hx := dv_str hx
        have hy := dv_str hy
        have ec : c = ⟨#[kk]⟩ := by
          cases c with
          | mk arr => exact congrArg Str.mk (Array.toList_inj.mp ek)
        subst ec
        refine .inl ⟨kk, z, hx, hy, ?_⟩
        cases neg <;> exact k _ _ _ (News.refl e) (.bl _)
      · cases eb
    · cases eb
  · split at eb
    · rename_i ds c
      cases eb
      rw [Bool.and_eq_true] at c
      obtain ⟨a, xs, rfl, ha, da⟩ := dv_lst hy
      have ex := dv_flat hx c.1
      have exs := dvs_flat da c.2
      subst ex
      subst exs
      refine .inr ⟨a, _, rfl, .inl (SqL.of (e _ _ ha)), flat_vOf c.1, flats_vOf c.2, ?_⟩
      cases neg <;> exact k _ _ _ (News.refl e) (.bl _)
    · cases eb
  · split at eb
    · rename_i ds c
      cases eb
      rw [Bool.and_eq_true] at c
      obtain ⟨a, xs, rfl, ha, da⟩ := dv_tup hy
      have ex := dv_flat hx c.1
      have exs := dvs_flat da c.2
      subst ex
      subst exs
      refine .inr ⟨a, _, rfl, .inr (same_t e ha), flat_vOf c.1, flats_vOf c.2, ?_⟩
      cases neg <;> exact k _ _ _ (News.refl e) (.bl _)
    · cases eb
  · cases eb
theorem in_D {K : PySem.W.Frag} : OpD K (fun x y H Q => rInS1 false x y H Q ∨ rIn K false x y H Q) gIn := inB_D false
theorem notIn_D {K : PySem.W.Frag} : OpD K (fun x y H Q => rInS1 true x y H Q ∨ rIn K true x y H Q) gNotIn := inB_D true
def isNoneD : D → Bool
  | .none => true
  | _ => false
def gIsN : D → D → Option D
  | a, .none => some (.bool (isNoneD a))
  | _, _ => none
def gNotN : D → D → Option D
  | a, .none => some (.bool (!isNoneD a))
  | _, _ => none
theorem dv_isNone {K : PySem.W.Frag} {H : Hp} {v : V} {d : D} (h : Dv K H v d) : decide (v = .non) = isNoneD d := by
  cases h <;> rfl
theorem isN_D {K : PySem.W.Frag} : OpD K (fun x y H Q => y = .non ∧ Q (.bl (decide (x = .non))) H) gIsN := by
  intro F H x y dx dy dz Q e hx hy hg k
  unfold gIsN at hg
  split at hg
  · cases hg
    exact ⟨dv_none hy, by rw [dv_isNone hx]; exact k _ _ _ (News.refl e) (.bl _)⟩
  · cases hg
theorem notN_D {K : PySem.W.Frag} : OpD K (fun x y H Q => y = .non ∧ Q (.bl (!decide (x = .non))) H) gNotN := by
  intro F H x y dx dy dz Q e hx hy hg k
  unfold gNotN at hg
  split at hg
  · cases hg
    exact ⟨dv_none hy, by rw [dv_isNone hx]; exact k _ _ _ (News.refl e) (.bl _)⟩
  · cases hg

/-! ### indexes, slices -/
def roInts : List (D × D) → List D := fun kvs => kvs.map (·.1)
def gIx : D → D → Option D
  | .str z, .int i => if z.length ≤ 16777216 then (atI z.cps.toList i).map fun c => .str ⟨#[c]⟩ else none
  | .tuple ds, .int i => atI ds i
  | .list ds, .int i => atI ds i
  | .dict ((.none, .none) :: kvs), .int i => atI (roInts kvs) i
  | _, _ => none
theorem DvAll.atI {K : PySem.W.Frag} {H : Hp} {vs : List V} {ds : List D} {i : Int} {d : D} (h : DvAll K H vs ds) (e : L2.atI ds i = some d) : ∃ v, L2.atI vs i = some v ∧ Dv K H v d := by
  unfold L2.atI at e ⊢
  rw [DvAll.length h]
  cases q : ixN ds.length i with
  | none => rw [q] at e; cases e
  | some j =>
    rw [q] at e
    exact DvAll.get h e
theorem dv_ro {K : PySem.W.Frag} {H : Hp} {x : V} {kvs : List (D × D)} (h : Dv K H x (.dict ((.none, .none) :: kvs))) : ∃ (a : Addr) (ns : List Int), x = .ref a ∧ SqL K H a (ns.map V.int) ∧ kvs = ns.map fun n => (.int n, .none) := by
  cases h with
  | rdl hs => exact ⟨_, _, rfl, hs, rfl⟩
theorem dvs_ints {K : PySem.W.Frag} {H : Hp} : ∀ ns : List Int, DvAll K H (ns.map V.int) (ns.map PyData.int)
  | [] => .nil
  | n :: ns => .cons (.int n) (dvs_ints ns)
theorem roInts_map (ns : List Int) : roInts (ns.map fun n => (PyData.int n, PyData.none)) = ns.map PyData.int := by
  unfold roInts
  rw [List.map_map]
  rfl
def rIxA (K : PySem.W.Frag) : R2 := fun x y H Q => rIxS x y H Q ∨ (rIxT K x y H Q ∨ rIxL K x y H Q)
theorem ix_A {X : Cx} : IxR X (rIxA X.K) := ix_str.or (ix_tup.or ix_list)
theorem ix_D {K : PySem.W.Frag} : OpD K (rIxA K) gIx := by
  intro F H x y dx dy dz Q e hx hy hg k
  unfold gIx at hg
  split at hg
  · split at hg
    · rename_i z i hl
      have hx := dv_str hx
      have hy := dv_int hy
      cases q : atI z.cps.toList i with
      | none => rw [q] at hg; cases hg
      | some c =>
        rw [q] at hg
        cases hg
        exact .inl ⟨z, i, c, hx, hy, line16 hl, q, k _ _ _ (News.refl e) (.str _)⟩
    · cases hg
  · rename_i ds i
    obtain ⟨a, xs, rfl, ha, da⟩ := dv_tup hx
    obtain ⟨v, q, dv⟩ := DvAll.atI da hg
    exact .inr (.inl ⟨a, xs, i, v, rfl, dv_int hy, same_t e ha, q, k _ _ _ (News.refl e) dv⟩)
  · rename_i ds i
    obtain ⟨a, xs, rfl, ha, da⟩ := dv_lst hx
    obtain ⟨v, q, dv⟩ := DvAll.atI da hg
    exact .inr (.inr ⟨a, xs, i, v, rfl, dv_int hy, SqL.of (e _ _ ha), q, k _ _ _ (News.refl e) dv⟩)
  · rename_i p kvs i
    obtain ⟨a, ns, rfl, hs, rfl⟩ := dv_ro hx
    rw [roInts_map] at hg
    obtain ⟨v, q, dv⟩ := DvAll.atI (dvs_ints (K := K) (H := F) ns) hg
    exact .inr (.inr ⟨a, _, i, v, rfl, dv_int hy, same_l e hs, q, k _ _ _ (News.refl e) dv⟩)
  · cases hg
/-- the items of xs[lo:hi] -/
def cutD (xs : List D) (lo hi : Option Int) : List D := (xs.drop (HT.sIx xs.length 0 lo)).take (HT.sIx xs.length xs.length hi - HT.sIx xs.length 0 lo)
theorem DvAll.cut {K : PySem.W.Frag} {H : Hp} {vs : List V} {ds : List D} (h : DvAll K H vs ds) (lo hi : Option Int) : DvAll K H (cutV vs lo hi) (cutD ds lo hi) := by
  unfold cutV cutD
  rw [DvAll.length h]
  exact DvAll.take _ (DvAll.drop _ h)
def gSl (x : D) (lo hi : Option Int) : Option D := match x with
  | .str z => if z.length ≤ 16777216 then some (.str (cutS z lo hi)) else none
  | .tuple ds => some (.tuple (cutD ds lo hi))
  | .list ds => some (.list (cutD ds lo hi))
  | .dict ((.none, .none) :: kvs) => some (.list (cutD (roInts kvs) lo hi))
  | _ => none
def rSlX (K : PySem.W.Frag) : V → Option Int → Option Int → Hp → VK → Prop := fun x lo hi H Q => rSlS x lo hi H Q ∨ (rSlA K x lo hi H Q ∨ rSlL K x lo hi H Q)
theorem sl_X {X : Cx} : SlR X (rSlX X.K) := sl_str.or (sl_tupA.or sl_list)
theorem cut_all {ds : List D} {lo hi : Option Int} (h : HT.sIx ds.length 0 lo = 0 ∧ HT.sIx ds.length ds.length hi = ds.length) : cutD ds lo hi = ds := by
  unfold cutD
  rw [h.1, h.2, List.drop_zero, Nat.sub_zero, List.take_length]
theorem sl_D {K : PySem.W.Frag} {F H : Hp} {x : V} {dx dz : D} {lo hi : Option Int} {Q : VK} (e : Same F H) (hx : Dv K F x dx) (hg : gSl dx lo hi = some dz) (k : ∀ v F' H', News F H F' H' → Dv K F' v dz → Q v H') : rSlX K x lo hi H Q := by
  unfold gSl at hg
  split at hg
  · split at hg
    · rename_i z hl
      cases hg
      exact .inl ⟨z, dv_str hx, line16 hl, k _ _ _ (News.refl e) (.str _)⟩
    · cases hg
  · rename_i ds
    cases hg
    obtain ⟨a, xs, rfl, ha, da⟩ := dv_tup hx
    refine .inr (.inl ⟨a, xs, rfl, same_t e ha, fun z => ?_, fun z p hp => ?_⟩)
    · rw [DvAll.length da] at z
      rw [cut_all z] at k
      exact k _ _ _ (News.refl e) (.tup ha da)
    · exact k _ _ _ (News.new e hp) (News.tup e hp (da.cut lo hi))
  · rename_i ds
    cases hg
    obtain ⟨a, xs, rfl, ha, da⟩ := dv_lst hx
    exact .inr (.inr ⟨a, xs, rfl, SqL.of (e _ _ ha), fun p hp => k _ _ _ (News.new e hp) (News.lst e hp (da.cut lo hi))⟩)
  · rename_i kvs
    cases hg
    obtain ⟨a, ns, rfl, hs, rfl⟩ := dv_ro hx
    rw [roInts_map] at k
    exact .inr (.inr ⟨a, _, rfl, same_l e hs, fun p hp => k _ _ _ (News.new e hp) (News.lst e hp ((dvs_ints ns).cut lo hi))⟩)
  · cases hg
end DL
set_option Elab.async false
set_option linter.all false
set_option maxRecDepth 100000
set_option maxHeartbeats 2000000
set_option autoImplicit false
/-! DL4: built-ins, methods, f-strings on data. -/
namespace DL
open PySem PySem.Spec PyProof.Rows L2

/-! ### calls of built-ins -/
def gLen : List D → Option D
  | [.str z] => if z.length ≤ 16777216 then some (.int (z.length : Nat)) else none
  | [.tuple ds] => some (.int (ds.length : Nat))
  | [.list ds] => some (.int (ds.length : Nat))
  | [.dict ((.none, .none) :: kvs)] => some (.int (kvs.length : Nat))
  | _ => none
section
variable {K : PySem.W.Frag}
theorem dvs_one {H : Hp} {xs : List V} {d : D} (h : DvAll K H xs [d]) : ∃ x, xs = [x] ∧ Dv K H x d := by
  cases h with
  | cons a b => cases b; exact ⟨_, rfl, a⟩
theorem dvs_two {H : Hp} {xs : List V} {d e : D} (h : DvAll K H xs [d, e]) : ∃ x y, xs = [x, y] ∧ Dv K H x d ∧ Dv K H y e := by
  cases h with
  | cons a b =>
    obtain ⟨y, rfl, q⟩ := dvs_one b
    exact ⟨_, y, rfl, a, q⟩
theorem len_D : CaD K (fun xs H Q => ∃ x n, xs = [x] ∧ LenV K x H n ∧ Q (.int n) H) gLen := by
  intro F H xs ds dz Q e h hg k
  unfold gLen at hg
  split at hg
  · split at hg
    · rename_i z hl
      cases hg
      obtain ⟨x, rfl, hx⟩ := dvs_one h
      have hx := dv_str hx
      subst hx
      exact ⟨_, _, rfl, ⟨line16 hl, rfl⟩, k _ _ _ (News.refl e) (.int _)⟩
    · cases hg
  · cases hg
    obtain ⟨x, rfl, hx⟩ := dvs_one h
    obtain ⟨a, vs, rfl, ha, da⟩ := dv_tup hx
    exact ⟨_, _, rfl, .inr ⟨vs, same_t e ha, rfl⟩, by rw [DvAll.length da]; exact k _ _ _ (News.refl e) (.int _)⟩
  · cases hg
    obtain ⟨x, rfl, hx⟩ := dvs_one h
    obtain ⟨a, vs, rfl, ha, da⟩ := dv_lst hx
    exact ⟨_, _, rfl, .inl ⟨vs, SqL.of (e _ _ ha), rfl⟩, by rw [DvAll.length da]; exact k _ _ _ (News.refl e) (.int _)⟩
  · cases hg
    obtain ⟨x, rfl, hx⟩ := dvs_one h
    obtain ⟨a, ns, rfl, hs, rfl⟩ := dv_ro hx
    refine ⟨_, _, rfl, .inl ⟨_, same_l e hs, rfl⟩, ?_⟩
    rw [List.length_map] at k ⊢
    exact k _ _ _ (News.refl e) (.int _)
  · cases hg
def gInt : List D → Option D
  | [.int i] => some (.int i)
  | [.bool b] => some (.int (if b then 1 else 0))
  | [.str z] => if z.length ≤ 640 then (PySem.intText? z).map .int else none
  | _ => none
def rIntA : List V → Hp → VK → Prop := fun xs H Q => ((∃ i, xs = [.int i] ∧ Q (.int i) H) ∨ ∃ k, xs = [.bl k] ∧ Q (.int (if k then 1 else 0)) H) ∨ ∃ a n, xs = [.str a] ∧ PySem.intText? a = some n ∧ a.length ≤ 640 ∧ Q (.int n) H
theorem call_or {X : Cx} {f : Value} {r r' : List V → Hp → VK → Prop} (h : CallR X f r) (h' : CallR X f r') : CallR X f (fun xs H Q => r xs H Q ∨ r' xs H Q) := by
  intro pins s σ H xs us Q I rv q
  rcases q with q | q
  · exact h pins s σ H xs us Q I rv q
  · exact h' pins s σ H xs us Q I rv q
theorem call_intA {X : Cx} : CallR X (.type "int") rIntA := call_or call_int1 call_int_str
theorem int_CD : CaD K rIntA gInt := by
  intro F H xs ds dz Q e h hg k
  unfold gInt at hg
  split at hg
  · cases hg
    obtain ⟨x, rfl, hx⟩ := dvs_one h
    have hx := dv_int hx
    subst hx
    exact .inl (.inl ⟨_, rfl, k _ _ _ (News.refl e) (.int _)⟩)
  · cases hg
    obtain ⟨x, rfl, hx⟩ := dvs_one h
    have hx := dv_bool hx
    subst hx
    exact .inl (.inr ⟨_, rfl, k _ _ _ (News.refl e) (.int _)⟩)
  · split at hg
    · rename_i z hl
      obtain ⟨n, en, rfl⟩ := Option.map_eq_some_iff.mp hg
      obtain ⟨x, rfl, hx⟩ := dvs_one h
      have hx := dv_str hx
      subst hx
      exact .inr ⟨_, n, rfl, en, hl, k _ _ _ (News.refl e) (.int _)⟩
    · cases hg
  · cases hg
def gStr : List D → Option D
  | [.int i] => if i.natAbs.log2 < 1920 then some (.str (toString i)) else none
  | [.str z] => some (.str z)
  | _ => none
def rStrA : List V → Hp → VK → Prop := fun xs H Q => (∃ i, xs = [.int i] ∧ i.natAbs.log2 < 1920 ∧ Q (.str (toString i)) H) ∨ ∃ a, xs = [.str a] ∧ Q (.str a) H
theorem call_strA {X : Cx} : CallR X (.type "str") rStrA := call_or call_str_int SkE.call_str_str
theorem str_CD : CaD K rStrA gStr := by
  intro F H xs ds dz Q e h hg k
  unfold gStr at hg
  split at hg
  · split at hg
    · rename_i hl
      cases hg
      obtain ⟨x, rfl, hx⟩ := dvs_one h
      have hx := dv_int hx
      subst hx
      exact .inl ⟨_, rfl, hl, k _ _ _ (News.refl e) (.str _)⟩
    · cases hg
  · cases hg
    obtain ⟨x, rfl, hx⟩ := dvs_one h
    have hx := dv_str hx
    subst hx
    exact .inr ⟨_, rfl, k _ _ _ (News.refl e) (.str _)⟩
  · cases hg
def gAbs : List D → Option D
  | [.int i] => some (.int (if i < 0 then -i else i))
  | _ => none
theorem abs_D : CaD K (fun xs H Q => ∃ i, xs = [.int i] ∧ Q (.int (if i < 0 then -i else i)) H) gAbs := by
  intro F H xs ds dz Q e h hg k
  unfold gAbs at hg
  split at hg
  · cases hg
    obtain ⟨x, rfl, hx⟩ := dvs_one h
    have hx := dv_int hx
    subst hx
    exact ⟨_, rfl, k _ _ _ (News.refl e) (.int _)⟩
  · cases hg
def gMax : List D → Option D
  | [.int i, .int j] => some (.int (if j > i then j else i))
  | _ => none
def gMin : List D → Option D
  | [.int i, .int j] => some (.int (if j < i then j else i))
  | _ => none
theorem max_D : CaD K (fun xs H Q => ∃ i j, xs = [.int i, .int j] ∧ Q (.int (if j > i then j else i)) H) gMax := by
  intro F H xs ds dz Q e h hg k
  unfold gMax at hg
  split at hg
  · cases hg
    obtain ⟨x, y, rfl, hx, hy⟩ := dvs_two h
    have hx := dv_int hx
    have hy := dv_int hy
    subst hx hy
    exact ⟨_, _, rfl, k _ _ _ (News.refl e) (.int _)⟩
  · cases hg
theorem min_D : CaD K (fun xs H Q => ∃ i j, xs = [.int i, .int j] ∧ Q (.int (if j < i then j else i)) H) gMin := by
  intro F H xs ds dz Q e h hg k
  unfold gMin at hg
  split at hg
  · cases hg
    obtain ⟨x, y, rfl, hx, hy⟩ := dvs_two h
    have hx := dv_int hx
    have hy := dv_int hy
    subst hx hy
    exact ⟨_, _, rfl, k _ _ _ (News.refl e) (.int _)⟩
  · cases hg
def gDivmod : List D → Option D
  | [.int i, .int j] => if 0 < j ∧ j < 2 ^ 4000 then some (.tuple [.int (i / j), .int (i % j)]) else none
  | _ => none
theorem divmod_D : CaD K (fun xs H Q => ∃ i j, xs = [.int i, .int j] ∧ CDivP i j ∧ ∀ p, H p = none → Q (.ref p) (upd H p (.tup [.int (i / j), .int (i % j)]))) gDivmod := by
  intro F H xs ds dz Q e h hg k
  unfold gDivmod at hg
  split at hg
  · split at hg
    · rename_i i j hl
      cases hg
      obtain ⟨x, y, rfl, hx, hy⟩ := dvs_two h
      have hx := dv_int hx
      have hy := dv_int hy
      subst hx hy
      refine ⟨_, _, rfl, ⟨hl.1, PyProof.noPylong_of_log2 (wide_div (i := i) (b := 4000) hl.1 (by have h2 : j < 2 ^ 4000 := hl.2; omega) (by decide) (by decide)).2⟩, fun p hp => ?_⟩
      exact k _ _ _ (News.new e hp) (News.tup e hp (.cons (.int _) (.cons (.int _) .nil)))
    · cases hg
  · cases hg
def gTuple : List D → Option D
  | [.list ds] => some (.tuple ds)
  | [.tuple ds] => some (.tuple ds)
  | _ => none
def gList : List D → Option D
  | [.list ds] => some (.list ds)
  | [.tuple ds] => some (.list ds)
  | _ => none
theorem tuple_D : CaD K (fun xs H Q => ∃ p ys, xs = [.ref p] ∧ ((SqL K H p ys ∧ ∀ l, H l = none → Q (.ref l) (upd H l (.tup ys))) ∨ (SqT K H p ys ∧ Q (.ref p) H))) gTuple := by
  intro F H xs ds dz Q e h hg k
  unfold gTuple at hg
  split at hg
  · cases hg
    obtain ⟨x, rfl, hx⟩ := dvs_one h
    obtain ⟨a, vs, rfl, ha, da⟩ := dv_lst hx
    exact ⟨a, vs, rfl, .inl ⟨SqL.of (e _ _ ha), fun p hp => k _ _ _ (News.new e hp) (News.tup e hp da)⟩⟩
  · cases hg
    obtain ⟨x, rfl, hx⟩ := dvs_one h
    obtain ⟨a, vs, rfl, ha, da⟩ := dv_tup hx
    exact ⟨a, vs, rfl, .inr ⟨same_t e ha, k _ _ _ (News.refl e) (.tup ha da)⟩⟩
  · cases hg
theorem list_D : CaD K (fun xs H Q => ∃ p ys, xs = [.ref p] ∧ (SqL K H p ys ∨ SqT K H p ys) ∧ ∀ l, H l = none → Q (.ref l) (upd H l (.lst ys))) gList := by
  intro F H xs ds dz Q e h hg k
  unfold gList at hg
  split at hg
  · cases hg
    obtain ⟨x, rfl, hx⟩ := dvs_one h
    obtain ⟨a, vs, rfl, ha, da⟩ := dv_lst hx
    exact ⟨a, vs, rfl, .inl (SqL.of (e _ _ ha)), fun p hp => k _ _ _ (News.new e hp) (News.lst e hp da)⟩
  · cases hg
    obtain ⟨x, rfl, hx⟩ := dvs_one h
    obtain ⟨a, vs, rfl, ha, da⟩ := dv_tup hx
    exact ⟨a, vs, rfl, .inr (same_t e ha), fun p hp => k _ _ _ (News.new e hp) (News.lst e hp da)⟩
  · cases hg
/-- the truths of a list of truths -/
def boolsD : List D → Option (List Bool)
  | [] => some []
  | .bool b :: r => (boolsD r).map (b :: ·)
  | _ :: _ => none
theorem dvs_bools {H : Hp} : ∀ {ds : List D} {vs : List V} {bs : List Bool}, DvAll K H vs ds → boolsD ds = some bs → vs = bs.map V.bl
  | [], _, bs, h, e => by cases h; cases e; rfl
  | .bool b :: r, _, bs, h, e => by
    cases h with
    | cons a c =>
      simp only [boolsD, Option.map_eq_some_iff] at e
      obtain ⟨bs', e1, rfl⟩ := e
      rw [dv_bool a, dvs_bools c e1]
      rfl
  | .none :: _, _, _, _, e => by cases e
  | .int _ :: _, _, _, _, e => by cases e
  | .str _ :: _, _, _, _, e => by cases e
  | .list _ :: _, _, _, _, e => by cases e
  | .tuple _ :: _, _, _, _, e => by cases e
  | .dict _ :: _, _, _, _, e => by cases e
def gAll : List D → Option D
  | [.list ds] => (boolsD ds).map fun bs => .bool (bs.all id)
  | _ => none
def gAny : List D → Option D
  | [.list ds] => (boolsD ds).map fun bs => .bool (bs.any id)
  | _ => none
theorem all_D : CaD K (rAll K) gAll := by
  intro F H xs ds dz Q e h hg k
  unfold gAll at hg
  split at hg
  · obtain ⟨bs, eb, rfl⟩ := Option.map_eq_some_iff.mp hg
    obtain ⟨x, rfl, hx⟩ := dvs_one h
    obtain ⟨a, vs, rfl, ha, da⟩ := dv_lst hx
    have ev := dvs_bools da eb
    subst ev
    exact ⟨a, bs, rfl, SqL.of (e _ _ ha), k _ _ _ (News.refl e) (.bl _)⟩
  · cases hg
theorem any_D : CaD K (rAny K) gAny := by
  intro F H xs ds dz Q e h hg k
  unfold gAny at hg
  split at hg
  · obtain ⟨bs, eb, rfl⟩ := Option.map_eq_some_iff.mp hg
    obtain ⟨x, rfl, hx⟩ := dvs_one h
    obtain ⟨a, vs, rfl, ha, da⟩ := dv_lst hx
    have ev := dvs_bools da eb
    subst ev
    exact ⟨a, bs, rfl, SqL.of (e _ _ ha), k _ _ _ (News.refl e) (.bl _)⟩
  · cases hg

/-! ### isinstance(e, T), T a built-in class -/
def tyD : D → String
  | .none => "NoneType"
  | .bool _ => "bool"
  | .int _ => "int"
  | .str _ => "str"
  | .list _ => "list"
  | .tuple _ => "tuple"
  | .dict _ => "dict"
/-- what isinstance answers of each kind of data -/
def isiB (T : String) : D → Bool
  | .none => false
  | .bool _ => T == "bool" || T == "int"
  | .int _ => T == "int"
  | .str _ => T == "str"
  | .list _ => T == "list"
  | .tuple _ => T == "tuple"
  | .dict _ => T == "dict"
def gIsi (T : String) : D → Option D := fun d => match d with
  | .dict (_ :: _) => none
  | d => some (.bool (isiB T d))
theorem tyx_tup {H : Hp} {a : Addr} {xs : List V} (h : SqT K H a xs) : TyX K H (.ref a) (.type "tuple") := by
  rcases h with (h | ⟨o, h⟩) | ⟨o, its, n, hk, hc, _⟩
  · exact .base (.tup h)
  · exact .fTuple h
  · exact .kTuple hk hc
/-- the classes asked -/
def kitsOf (T : String) : Bool := (["NoneType", "bool", "int", "str", "list", "tuple", "dict"] : List String).all fun a => decide (kitB a T = some (a == T || (a == "bool" && T == "int")))
theorem isi_ans {T : String} (hT : kitsOf T = true) (hN : T ≠ "NoneType") {F H : Hp} {x : V} {d dz : D} (e : Same F H) (h : Dv K F x d) (hg : gIsi T d = some dz) : ∃ t b, TyX K H x t ∧ PySem.W.kitOne K t (.type T) = some b ∧ dz = .bool b := by
  have q : ∀ a ∈ (["NoneType", "bool", "int", "str", "list", "tuple", "dict"] : List String), kitB a T = some (a == T || (a == "bool" && T == "int")) := by
    unfold kitsOf at hT
    rw [List.all_eq_true] at hT
    exact fun a ha => of_decide_eq_true (hT a ha)
  have sy : ∀ a : String, (a == T) = (T == a) := fun a => by
    by_cases z : a = T
    · subst z; rfl
    · rw [beq_eq_false_iff_ne.mpr z, beq_eq_false_iff_ne.mpr (Ne.symm z)]
  cases d with
  | dict kvs =>
    cases kvs with
    | cons p kvs => cases hg
    | nil =>
      cases h with
      | emp ha =>
        refine ⟨_, _, .base (.dK (e _ _ ha)), kit_ty (q "dict" (by simp)), ?_⟩
        cases hg
        rw [sy "dict"]
        simp [isiB]
  | none =>
    cases h
    refine ⟨_, _, .base .non, kit_ty (q "NoneType" (by simp)), ?_⟩
    cases hg
    rw [sy "NoneType", beq_eq_false_iff_ne.mpr hN]
    rfl
  | bool b =>
    cases h
    refine ⟨_, _, .base (.bl b), kit_ty (q "bool" (by simp)), ?_⟩
    cases hg
    rw [sy "bool"]
    rfl
  | int i =>
    cases h
    refine ⟨_, _, .base (.int i), kit_ty (q "int" (by simp)), ?_⟩
    cases hg
    rw [sy "int"]
    simp [isiB]
  | str z =>
    cases h
    refine ⟨_, _, .base (.str z), kit_ty (q "str" (by simp)), ?_⟩
    cases hg
    rw [sy "str"]
    simp [isiB]
  | list ds =>
    cases h with
    | lst ha hd =>
      refine ⟨_, _, .base (.lst (e _ _ ha)), kit_ty (q "list" (by simp)), ?_⟩
      cases hg
      rw [sy "list"]
      simp [isiB]
  | tuple ds =>
    cases h with
    | tup ha hd =>
      refine ⟨_, _, tyx_tup (same_t e ha), kit_ty (q "tuple" (by simp)), ?_⟩
      cases hg
      rw [sy "tuple"]
      simp [isiB]
end

/-! ### repr(e) -/
def gRepr : List D → Option D
  | [d] => if d.canLay0 && d.showable && decide (d.depth ≤ 64) && decide (d.shown.length ≤ 16777216) then some (.str d.shown) else none
  | _ => none
def rReprD (K : PySem.W.Frag) : List V → Hp → VK → Prop := fun xs H Q => ∃ x d, xs = [x] ∧ Dp K H x d ∧ d.canLay0 = true ∧ d.showable = true ∧ d.depth ≤ 64 ∧ d.shown.length ≤ sizeLine ∧ Q (.str d.shown) H
theorem call_reprD {X : Cx} (hg : X.A.guards = some []) (hu : X.A.units + 66 < cLine) : CallR X (.builtin "repr") (rReprD X.K) := by
  intro pins s σ H xs us Q I r h
  obtain ⟨x, d, rfl, dp, cl, sh, hd, hz, q⟩ := h
  obtain ⟨u, rfl, ru⟩ := vals1 r
  obtain ⟨as, rd⟩ := Dp.reads I d x u dp ru
  have fin : ∀ h' u' tk, (∀ b o, s.heap.get? b = some o → h'.get? b = some o) → EP X pins σ Q (.str d.shown u') { s with heap := h', toks := tk } :=
    fun h' u' tk hk => ⟨.str d.shown, H, I.kept (t' := tk) hk, ⟨_, rfl⟩, q⟩
  cases dp with
  | non =>
    cases ru
    exact PySem.P.repr_of_none (fin _ _ _ fun _ _ e => e)
  | bl b =>
    cases ru
    exact PySem.P.repr_of_bool (fin _ _ _ fun _ _ e => e)
  | int i =>
    obtain ⟨t, rfl⟩ := ru
    exact PySem.P.repr_of_int (by simpa [PyData.showable] using sh) (fin _ _ _ fun _ _ e => e)
  | str z =>
    obtain ⟨t, rfl⟩ := ru
    exact PySem.P.repr_of_str (fin _ _ _ fun _ _ e => e) hz
  | lst a b =>
    cases ru
    exact repr_of_reads' rd sh (fun z => by rw [PyData.hasDict_of_canLay _ cl] at z; cases z) hg (by omega) (fun _ _ e => e) fin hz
  | tup a b =>
    cases ru
    exact repr_of_reads' rd sh (fun z => by rw [PyData.hasDict_of_canLay _ cl] at z; cases z) hg (by omega) (fun _ _ e => e) fin hz
theorem repr_D {K : PySem.W.Frag} : CaD K (rReprD K) gRepr := by
  intro F H xs ds dz Q e h hg k
  unfold gRepr at hg
  split at hg
  · split at hg
    · rename_i d c
      cases hg
      simp only [Bool.and_eq_true, decide_eq_true_eq] at c
      obtain ⟨x, rfl, hx⟩ := dvs_one h
      exact ⟨x, d, rfl, Dv.dp d x (dv_mono e d x hx) c.1.1.1, c.1.1.1, c.1.1.2, c.1.2, line16 c.2, k _ _ _ (News.refl e) (.str _)⟩
    · cases hg
  · cases hg

/-! ### join -/
def strsD : List D → Option (List Str)
  | [] => some []
  | .str b :: r => (strsD r).map (b :: ·)
  | _ :: _ => none
theorem dvs_strs {K : PySem.W.Frag} {H : Hp} : ∀ {ds : List D} {vs : List V} {bs : List Str}, DvAll K H vs ds → strsD ds = some bs → vs = bs.map V.str
  | [], _, bs, h, e => by cases h; cases e; rfl
  | .str b :: r, _, bs, h, e => by
    cases h with
    | cons a c =>
      simp only [strsD, Option.map_eq_some_iff] at e
      obtain ⟨bs', e1, rfl⟩ := e
      rw [dv_str a, dvs_strs c e1]
      rfl
  | .none :: _, _, _, _, e => by cases e
  | .int _ :: _, _, _, _, e => by cases e
  | .bool _ :: _, _, _, _, e => by cases e
  | .list _ :: _, _, _, _, e => by cases e
  | .tuple _ :: _, _, _, _, e => by cases e
  | .dict _ :: _, _, _, _, e => by cases e
def seqD : D → Option (List D)
  | .list ds => some ds
  | .tuple ds => some ds
  | _ => none
def gJoin : D → D → Option D
  | .str a, y => (seqD y).bind fun ds => (strsD ds).bind fun ys => if (ys.map (·.length)).sum + ys.length * a.length ≤ 16777216 then some (.str (Txt.join a ys)) else none
  | _, _ => none
def rJoin (K : PySem.W.Frag) : V → List V → Hp → VK → Prop := fun x xs H Q => ∃ a p, ∃ ys : List Str, x = .str a ∧ xs = [.ref p] ∧ (SqL K H p (ys.map V.str) ∨ SqT K H p (ys.map V.str)) ∧
  (ys.map (·.length)).sum + ys.length * a.length ≤ 16777216 ∧ Q (.str (Txt.join a ys)) H
/-- a text's method with one argument -/
def strM (g2 : D → D → Option D) (mo m : EM) : EM := bindE mo fun a => match a with
  | .d (.str z) => bindE m fun b => match b with
    | .d y => liftD (g2 (.str z) y)
    | _ => fun _ => .stuck
  | _ => fun _ => .stuck
theorem snd_join {g : G} {to te : TE} {mo m : EM} (ho : SndE g to mo) (he : SndE g te m) : SndE g (tM1 (rJoin g.K) to te) (strM gJoin mo m) := by
  intro σ ρ F H Q c hp
  refine ho.bind c hp fun x v ρ1 F1 H1 c1 s1 i1 hp1 => ?_
  split at hp1
  · rename_i z
    have ex := dv_str i1
    subst ex
    refine ⟨⟨z, rfl⟩, ?_⟩
    refine he.bind c1 hp1 fun y u ρ2 F2 H2 c2 s2 i2 hp2 => ?_
    cases u with
    | l ds => exact hp2.elim
    | d dy =>
      obtain ⟨dz, e, k⟩ := hp2.lift c2
      have e : ((seqD dy).bind fun ds => (strsD ds).bind fun ys => if (ys.map (·.length)).sum + ys.length * z.length ≤ 16777216 then some (PyData.str (Txt.join z ys)) else none) = some dz := e
      cases e1 : seqD dy with
      | none => rw [e1] at e; cases e
      | some ds =>
        rw [e1] at e
        have e : ((strsD ds).bind fun ys => if (ys.map (·.length)).sum + ys.length * z.length ≤ 16777216 then some (PyData.str (Txt.join z ys)) else none) = some dz := e
        cases e2 : strsD ds with
        | none => rw [e2] at e; cases e
        | some ys =>
          rw [e2] at e
          have e : (if (ys.map (·.length)).sum + ys.length * z.length ≤ 16777216 then some (PyData.str (Txt.join z ys)) else none) = some dz := e
          split at e
          · rename_i hl
            cases e
            cases dy with
            | list es =>
              cases e1
              obtain ⟨a, vs, rfl, ha, da⟩ := dv_lst i2
              have ev := dvs_strs da e2
              subst ev
              exact ⟨z, a, ys, rfl, rfl, .inl (SqL.of (c2.ext _ _ ha)), hl, k _ _ _ (News.refl c2.ext) (.str _)⟩
            | tuple es =>
              cases e1
              obtain ⟨a, vs, rfl, ha, da⟩ := dv_tup i2
              have ev := dvs_strs da e2
              subst ev
              exact ⟨z, a, ys, rfl, rfl, .inr (same_t c2.ext ha), hl, k _ _ _ (News.refl c2.ext) (.str _)⟩
            | _ => cases e1
          · cases e
  · exact hp1.elim

/-! ### slices -/
/-- a part of a slice: none, or a whole number -/
inductive RO where
  | ok (o : Option Int) (s : Rh)
  | exc (x : Xn) (s : Rh)
  | stuck
def partM (m : EM) : Rh → RO := fun ρ => match m ρ with
  | .ok (.d (.int i)) ρ' => .ok (some i) ρ'
  | .ok _ _ => .stuck
  | .exc x ρ' => .exc x ρ'
  | .stuck => .stuck
def noPartM : Rh → RO := fun ρ => .ok none ρ
def OPost (g : G) (σ : St) (ρ : Rh) (F H : Hp) (Q : Option Int → Hp → Prop) : RO → Prop
  | .ok o ρ' => ∀ F' H', Con g.K σ ρ' F' H' → Stp g.P σ ρ F H σ ρ' F' H' → Q o H'
  | .exc e ρ' => ∀ cls dd F' H', Con g.K σ ρ' F' H' → Stp g.P σ ρ F H σ ρ' F' H' → XnIs g.K g.mg F' H' e cls dd → g.W cls dd σ H'
  | .stuck => False
def SndO (g : G) (t : TO) (m : Rh → RO) : Prop := ∀ σ ρ F H Q, Con g.K σ ρ F H → OPost g σ ρ F H Q (m ρ) → t σ H Q
theorem sno_no {g : G} : SndO g tNoPart noPartM := fun σ ρ F H Q c hp => hp F H c Stp.refl
theorem sno_part {g : G} {te : TE} {m : EM} (h : SndE g te m) : SndO g (tPart te) (partM m) := by
  intro σ ρ F H Q c hp
  refine h σ ρ F H _ c ?_
  unfold partM at hp
  cases e : m ρ with
  | exc x ρ' => rw [e] at hp; exact hp
  | stuck => rw [e] at hp; exact hp
  | ok v ρ1 =>
    rw [e] at hp
    cases v with
    | l ds => exact hp.elim
    | d d =>
      cases d with
      | int i => exact fun x F' H' c' s' iv => ⟨i, dv_int iv, hp F' H' c' s'⟩
      | _ => exact hp.elim
def bindO (m : Rh → RO) (f : Option Int → EM) : EM := fun ρ => match m ρ with
  | .ok v ρ' => f v ρ'
  | .exc e ρ' => .exc e ρ'
  | .stuck => .stuck
theorem SndO.bind {g : G} {t : TO} {m : Rh → RO} {f : Option Int → EM} (h : SndO g t m) {σ : St} {ρ : Rh} {F H : Hp} {Q : VK} {Q1 : Option Int → Hp → Prop} (c : Con g.K σ ρ F H) (hp : EPost g σ ρ F H Q (bindO m f ρ))
    (k : ∀ o ρ' F' H', Con g.K σ ρ' F' H' → Stp g.P σ ρ F H σ ρ' F' H' → EPost g σ ρ' F' H' Q (f o ρ') → Q1 o H') : t σ H Q1 := by
  refine h σ ρ F H Q1 c ?_
  unfold bindO at hp
  cases e : m ρ with
  | ok v ρ' =>
    rw [e] at hp
    exact fun F' H' c' s => k v ρ' F' H' c' s (EPost.shift hp s)
  | exc x ρ' => rw [e] at hp; exact hp
  | stuck => rw [e] at hp; exact hp
def slM (m : EM) (lo hi : Rh → RO) : EM := bindE m fun a => match a with
  | .d x => bindO lo fun l => bindO hi fun h => liftD (gSl x l h)
  | _ => fun _ => .stuck
theorem snd_sl {g : G} {te : TE} {tl th : TO} {m : EM} {lo hi : Rh → RO} (hm : SndE g te m) (hl : SndO g tl lo) (hh : SndO g th hi) : SndE g (tSl (rSlX g.K) te tl th) (slM m lo hi) := by
  intro σ ρ F H Q c hp
  refine hm.bind c hp fun x v ρ1 F1 H1 c1 s1 i1 hp1 => ?_
  cases v with
  | l ds => exact hp1.elim
  | d dx =>
    refine hl.bind c1 hp1 fun l ρ2 F2 H2 c2 s2 hp2 => ?_
    refine hh.bind c2 hp2 fun h ρ3 F3 H3 c3 s3 hp3 => ?_
    obtain ⟨dz, e, k⟩ := hp3.lift c3
    exact sl_D c3.ext (dv_mono (s2.trans s3).fr dx x i1) e k

/-! ### chains of comparisons: a < b < c -/
def chM (g1 g2 : D → D → Option D) (ma mb mc : EM) : EM := bindE ma fun a => bindE mb fun b => match a, b with
  | .d x, .d y => match g1 x y with
    | some (.bool true) => bindE mc fun c => match c with
      | .d z => liftD (g2 y z)
      | _ => fun _ => .stuck
    | some (.bool false) => conM (.bool false)
    | _ => fun _ => .stuck
  | _, _ => fun _ => .stuck
theorem snd_ch {g : G} {ta tb tc : TE} {ma mb mc : EM} {r r' : R2} {g1 g2 : D → D → Option D} (hd : OpD g.K r g1) (hd' : OpD g.K r' g2) (ha : SndE g ta ma) (hb : SndE g tb mb) (hc : SndE g tc mc) : SndE g (tChain r r' ta tb tc) (chM g1 g2 ma mb mc) := by
  intro σ ρ F H Q c hp
  refine ha.bind c hp fun x v ρ1 F1 H1 c1 s1 i1 hp1 => ?_
  refine hb.bind c1 hp1 fun y u ρ2 F2 H2 c2 s2 i2 hp2 => ?_
  cases v with
  | l ds => cases u <;> exact hp2.elim
  | d dx =>
    cases u with
    | l ds => exact hp2.elim
    | d dy =>
      dsimp only at hp2
      cases e : g1 dx dy with
      | none => rw [e] at hp2; exact hp2.elim
      | some d =>
        rw [e] at hp2
        cases d with
        | bool b =>
          refine hd F2 H2 x y dx dy _ _ c2.ext (dv_mono s2.fr dx x i1) i2 e fun v F' H' n q => ?_
          refine ⟨b, dv_bool q, ?_⟩
          cases b with
          | true =>
            rw [if_pos rfl]
            have c3 := c2.news n
            refine hc.bind c3 (EPost.shift hp2 (Stp.news (K := g.K) n)) fun z w ρ4 F4 H4 c4 s4 i4 hp4 => ?_
            cases w with
            | l ds => exact hp4.elim
            | d dz =>
              obtain ⟨d, e', k⟩ := hp4.lift c4
              exact hd' F4 H4 y z dy dz d Q c4.ext (dv_mono s4.fr dy y (dv_mono n.fr dy y i2)) i4 e' k
          | false =>
            rw [if_neg Bool.false_ne_true]
            exact epost_con (c2.news n) (EPost.shift hp2 (Stp.news (K := g.K) n)) (.bl false)
        | _ => exact hp2.elim

/-! ### f-strings -/
def gFmt : D → Option D
  | .int i => if i.natAbs.log2 < 1920 then some (.str (toString i)) else none
  | .str z => if z.length ≤ 16777216 then some (.str z) else none
  | _ => none
theorem snd_fmt {g : G} {te : TE} {m : EM} (h : SndE g te m) : SndE g (tFmt te) (op1 gFmt m) := by
  refine snd_un (r1 := fun x H1 Q => (∃ y : Str, x = .str y ∧ y.length ≤ sizeLine ∧ Q (.str y) H1) ∨ ∃ i : Int, x = .int i ∧ i.natAbs.log2 < 1920 ∧ Q (.str (toString i)) H1) (fun F H x dx dz Q e hx hg k => ?_) h
  unfold gFmt at hg
  split at hg
  · split at hg
    · rename_i hl
      cases hg
      exact .inr ⟨_, dv_int hx, hl, k _ _ _ (News.refl e) (.str _)⟩
    · cases hg
  · split at hg
    · rename_i hl
      cases hg
      exact .inl ⟨_, dv_str hx, line16 hl, k _ _ _ (News.refl e) (.str _)⟩
    · cases hg
  · cases hg
/-- the parts one behind the other -/
def joinsM : List EM → Str → EM
  | [], acc => conM (.str acc)
  | m :: ms, acc => bindE m fun v => match v with
    | .d (.str y) => if (acc ++ y).length ≤ 16777216 then joinsM ms (acc ++ y) else fun _ => .stuck
    | _ => fun _ => .stuck
inductive SndJ (g : G) : List TE → List EM → Prop where
  | nil : SndJ g [] []
  | cons {t : TE} {m : EM} {ts : List TE} {ms : List EM} (h : SndE g t m) (r : SndJ g ts ms) : SndJ g (t :: ts) (m :: ms)
theorem snd_js {g : G} {ts : List TE} {ms : List EM} (h : SndJ g ts ms) : ∀ (acc : Str), SndE g (fun σ H Q => tJs ts acc σ H fun out H1 => Q (.str out) H1) (joinsM ms acc) := by
  induction h with
  | nil => exact fun acc σ ρ F H Q c hp => epost_con c hp (.str acc)
  | cons h r ih =>
    intro acc σ ρ F H Q c hp
    refine h.bind c hp fun x v ρ1 F1 H1 c1 s1 i1 hp1 => ?_
    split at hp1
    · rename_i y
      split at hp1
      · rename_i hl
        exact ⟨y, dv_str i1, line16 hl, ih (acc ++ y) σ ρ1 F1 H1 Q c1 hp1⟩
      · exact hp1.elim
    · exact hp1.elim
end DL
set_option Elab.async false
set_option linter.all false
set_option maxRecDepth 100000
set_option maxHeartbeats 2000000
set_option autoImplicit false
/-! DL5: statements, loops. -/
namespace DL
open PySem PySem.Spec PyProof.Rows L2

/-! ### the def's own lists -/
theorem get_set_self {α : Type} {l : List α} {i : Nat} {x y : α} (h : l[i]? = some y) : (l.set i x)[i]? = some x := by
  have hi : i < l.length := (List.getElem?_eq_some_iff.mp h).1
  exact List.getElem?_set_self hi
theorem get_set_ne {α : Type} {l : List α} {i j : Nat} {x : α} (h : i ≠ j) : (l.set i x)[j]? = l[j]? := List.getElem?_set_ne h
section
variable {K : PySem.W.Frag} {σ : St} {ρ : Rh} {F H : Hp} {P : List Nat}
theorem Owned.of {i : Nat} {ds : List D} {p : Addr} (e : ρ[i]? = some (some (.own ds))) (q : σ[i]? = some (some (.ref p))) : Owned σ ρ p := ⟨i, ds, e, q⟩
/-- a list of the def's own is written -/
theorem Con.put (c : Con K σ ρ F H) {i : Nat} {ds ds' : List D} {p : Addr} {vs' : List V} (e : ρ[i]? = some (some (.own ds))) (q : σ[i]? = some (some (.ref p))) (a : DvAll K F vs' ds') :
    Con K σ (ρ.set i (some (.own ds'))) F (upd H p (.lst vs')) ∧ Stp P σ ρ F H σ (ρ.set i (some (.own ds'))) F (upd H p (.lst vs')) := by
  obtain ⟨p', vs, q', f, h, _⟩ := c.own i ds e
  rw [q] at q'
  cases q'
  have back : ∀ (j : Nat) (es : List D), (ρ.set i (some (.own ds')))[j]? = some (some (.own es)) → ∃ es', ρ[j]? = some (some (.own es')) := fun j es z => by
    by_cases hj : i = j
    · subst hj; exact ⟨ds, e⟩
    · rw [get_set_ne hj] at z; exact ⟨es, z⟩
  refine ⟨⟨fun b o z => ?_, by rw [List.length_set]; exact c.len, fun j d z => ?_, fun j es z => ?_, fun j k x y b hn z1 z2 => ?_⟩, ⟨fun _ _ z => z, fun b o z n => ?_, fun _ _ _ z _ => z, fun b ⟨j, es, z1, z2⟩ => ?_, fun b o z => ?_, fun _ _ => rfl⟩⟩
  · rw [upd_ne (ne_of_none z f)]; exact c.ext b o z
  · by_cases hj : i = j
    · subst hj; rw [get_set_self e] at z; cases z
    · rw [get_set_ne hj] at z; exact c.dat j d z
  · by_cases hj : i = j
    · subst hj; rw [get_set_self e] at z; cases z
      exact ⟨p, vs', q, f, upd_same, a⟩
    · rw [get_set_ne hj] at z
      obtain ⟨b, us, q1, f1, h1, a1⟩ := c.own j es z
      refine ⟨b, us, q1, f1, ?_, a1⟩
      rw [upd_ne (fun w => by rw [w] at q1; exact c.sep i j ds es p hj e z q q1)]
      exact h1
  · obtain ⟨x', z1⟩ := back j x z1
    obtain ⟨y', z2⟩ := back k y z2
    exact c.sep j k x' y' b hn z1 z2
  · rw [upd_ne (fun w => n (by rw [w]; exact Owned.of e q))]; exact z
  · obtain ⟨es', z1⟩ := back j es z1
    exact .inl (Owned.of z1 z2)
  · by_cases hb : b = p
    · rw [hb]; exact ⟨_, upd_same⟩
    · exact ⟨o, by rw [upd_ne hb]; exact z⟩
/-- data goes to a slot -/
theorem Con.setD (c : Con K σ ρ F H) {i : Nat} {v : V} {d : D} (h : Dv K F v d) (hi : i ∉ P) :
    Con K (σ.set i (some v)) (ρ.set i (some (.dat d))) F H ∧ Stp P σ ρ F H (σ.set i (some v)) (ρ.set i (some (.dat d))) F H := by
  have back : ∀ (j : Nat) (es : List D), (ρ.set i (some (Slot.dat d)))[j]? = some (some (.own es)) → i ≠ j ∧ ρ[j]? = some (some (.own es)) := fun j es z => by
    by_cases hj : i = j
    · subst hj
      by_cases hl : i < ρ.length
      · rw [List.getElem?_set_self hl] at z; cases z
      · rw [List.getElem?_eq_none (by rw [List.length_set]; omega)] at z; cases z
    · rw [get_set_ne hj] at z; exact ⟨hj, z⟩
  refine ⟨⟨c.ext, by rw [List.length_set, List.length_set]; exact c.len, fun j e z => ?_, fun j es z => ?_, fun j k x y b hn z1 z2 z3 z4 => ?_⟩, ⟨fun _ _ z => z, fun b o z _ => z, fun _ _ _ z _ => z, fun b ⟨j, es, z1, z2⟩ => ?_, fun b o z => ⟨o, z⟩, fun j hj => ?_⟩⟩
  · by_cases hj : i = j
    · subst hj
      have hl : i < ρ.length := by
        have := (List.getElem?_eq_some_iff.mp z).1
        rw [List.length_set] at this
        exact this
      rw [List.getElem?_set_self hl] at z
      cases z
      exact ⟨v, List.getElem?_set_self (by rw [c.len]; exact hl), h⟩
    · rw [get_set_ne hj] at z
      rw [get_set_ne hj]
      exact c.dat j e z
  · obtain ⟨hj, z⟩ := back j es z
    rw [get_set_ne hj]
    exact c.own j es z
  · obtain ⟨hj, z1⟩ := back j x z1
    obtain ⟨hk, z2⟩ := back k y z2
    rw [get_set_ne hj] at z3
    rw [get_set_ne hk] at z4
    exact c.sep j k x y b hn z1 z2 z3 z4
  · obtain ⟨hj, z1⟩ := back j es z1
    rw [get_set_ne hj] at z2
    exact .inl (Owned.of z1 z2)
  · exact get_set_ne (fun w => hi (by rw [w]; exact hj))
/-- a slot is emptied of the def's own list -/
theorem Con.setL (c : Con K σ ρ F H) {i : Nat} {p : Addr} {vs : List V} {ds : List D} (f : F p = none) (h : H p = some (.lst vs)) (a : DvAll K F vs ds) (n : ¬ Owned σ ρ p) :
    Con K (σ.set i (some (.ref p))) (ρ.set i (some (.own ds))) F H ∧ ∀ b, Owned (σ.set i (some (.ref p))) (ρ.set i (some (.own ds))) b → Owned σ ρ b ∨ b = p := by
  have at_i : ∀ {es : List D}, (ρ.set i (some (Slot.own ds)))[i]? = some (some (.own es)) → i < ρ.length ∧ es = ds := fun {es} z => by
    have hl : i < ρ.length := by
      have := (List.getElem?_eq_some_iff.mp z).1
      rw [List.length_set] at this
      exact this
    rw [List.getElem?_set_self hl] at z
    cases z
    exact ⟨hl, rfl⟩
  refine ⟨⟨c.ext, by rw [List.length_set, List.length_set]; exact c.len, fun j e z => ?_, fun j es z => ?_, fun j k x y b hn z1 z2 z3 z4 => ?_⟩, fun b ⟨j, es, z1, z2⟩ => ?_⟩
  · by_cases hj : i = j
    · subst hj
      have hl : i < ρ.length := by
        have := (List.getElem?_eq_some_iff.mp z).1
        rw [List.length_set] at this
        exact this
      rw [List.getElem?_set_self hl] at z
      cases z
    · rw [get_set_ne hj] at z
      rw [get_set_ne hj]
      exact c.dat j e z
  · by_cases hj : i = j
    · subst hj
      obtain ⟨hl, rfl⟩ := at_i z
      exact ⟨p, vs, List.getElem?_set_self (by rw [c.len]; exact hl), f, h, a⟩
    · rw [get_set_ne hj] at z
      rw [get_set_ne hj]
      exact c.own j es z
  · by_cases hj : i = j
    · subst hj
      have hk : i ≠ k := hn
      obtain ⟨hl, rfl⟩ := at_i z1
      rw [List.getElem?_set_self (by rw [c.len]; exact hl)] at z3
      cases z3
      rw [get_set_ne hk] at z2 z4
      exact n (Owned.of z2 z4)
    · rw [get_set_ne hj] at z1 z3
      by_cases hk : i = k
      · subst hk
        obtain ⟨hl, rfl⟩ := at_i z2
        rw [List.getElem?_set_self (by rw [c.len]; exact hl)] at z4
        cases z4
        exact n (Owned.of z1 z3)
      · rw [get_set_ne hk] at z2 z4
        exact c.sep j k x y b hn z1 z2 z3 z4
  · by_cases hj : i = j
    · subst hj
      obtain ⟨hl, rfl⟩ := at_i z1
      rw [List.getElem?_set_self (by rw [c.len]; exact hl)] at z2
      cases z2
      exact .inr rfl
    · rw [get_set_ne hj] at z1 z2
      exact .inl (Owned.of z1 z2)
/-- a list of the def's own becomes data, in its slot -/
theorem Con.frz (c : Con K σ ρ F H) {i : Nat} {ds : List D} (e : ρ[i]? = some (some (.own ds))) : ∃ F', Con K σ (ρ.set i (some (.dat (.list ds)))) F' H ∧ Stp P σ ρ F H σ (ρ.set i (some (.dat (.list ds)))) F' H := by
  obtain ⟨p, vs, q, f, h, a⟩ := c.own i ds e
  have s : Same F (upd F p (.lst vs)) := fun b o z => by rw [upd_ne (ne_of_none z f)]; exact z
  have back : ∀ (j : Nat) (es : List D), (ρ.set i (some (Slot.dat (.list ds))))[j]? = some (some (.own es)) → i ≠ j ∧ ρ[j]? = some (some (.own es)) := fun j es z => by
    by_cases hj : i = j
    · subst hj; rw [get_set_self e] at z; cases z
    · rw [get_set_ne hj] at z; exact ⟨hj, z⟩
  refine ⟨upd F p (.lst vs), ⟨fun b o z => ?_, by rw [List.length_set]; exact c.len, fun j d z => ?_, fun j es z => ?_, fun j k x y b hn z1 z2 => ?_⟩, ⟨s, fun b o z _ => z, fun b o z1 z2 z3 => ?_, fun b ⟨j, es, z1, z2⟩ => ?_, fun b o z => ⟨o, z⟩, fun _ _ => rfl⟩⟩
  · by_cases hb : b = p
    · subst hb; rw [upd_same] at z; cases z; exact h
    · rw [upd_ne hb] at z; exact c.ext b o z
  · by_cases hj : i = j
    · subst hj
      rw [get_set_self e] at z
      cases z
      exact ⟨_, q, .lst upd_same (dvAll_mono s ds vs a)⟩
    · rw [get_set_ne hj] at z
      obtain ⟨v, q1, r1⟩ := c.dat j d z
      exact ⟨v, q1, dv_mono s d v r1⟩
  · obtain ⟨hj, z⟩ := back j es z
    obtain ⟨b, us, q1, f1, h1, a1⟩ := c.own j es z
    refine ⟨b, us, q1, ?_, h1, dvAll_mono s es us a1⟩
    rw [upd_ne (fun w => by rw [w] at q1; exact c.sep i j ds es p hj e z q q1)]
    exact f1
  · exact c.sep j k x y b hn (back j x z1).2 (back k y z2).2
  · rw [upd_ne (fun w => z3 (by rw [w]; exact Owned.of e q))]; exact z2
  · exact .inl (Owned.of (back j es z1).2 z2)
end

/-! ### what a statement comes to -/
inductive Out where
  | nx (s : Rh)
  | ret (v : Val) (s : Rh)
  | brk (s : Rh)
  | ct (s : Rh)
  | exc (x : Xn) (s : Rh)
  | stuck
abbrev SM := Rh → Out
def SPost (g : G) (σ : St) (ρ : Rh) (F H : Hp) (Dn : Ends) : Out → Prop
  | .nx ρ' => ∀ σ' F' H', Con g.K σ' ρ' F' H' → Stp g.P σ ρ F H σ' ρ' F' H' → Dn.nx σ' H'
  | .brk ρ' => ∀ σ' F' H', Con g.K σ' ρ' F' H' → Stp g.P σ ρ F H σ' ρ' F' H' → Dn.bk σ' H'
  | .ct ρ' => ∀ σ' F' H', Con g.K σ' ρ' F' H' → Stp g.P σ ρ F H σ' ρ' F' H' → Dn.ct σ' H'
  | .ret v ρ' => ∀ x σ' F' H', Con g.K σ' ρ' F' H' → Stp g.P σ ρ F H σ' ρ' F' H' → ValIs g.K σ ρ H σ' ρ' F' H' x v → Dn.rt x H'
  | .exc e ρ' => ∀ cls dd σ' F' H', Con g.K σ' ρ' F' H' → Stp g.P σ ρ F H σ' ρ' F' H' → XnIs g.K g.mg F' H' e cls dd → g.W cls dd σ' H'
  | .stuck => False
def SndS (g : G) (t : TS) (m : SM) : Prop := ∀ Dn σ ρ F H, Con g.K σ ρ F H → SPost g σ ρ F H Dn (m ρ) → t Dn σ H
theorem SPost.shift {g : G} {σ σ1 : St} {ρ ρ1 : Rh} {F H F1 H1 : Hp} {Dn : Ends} {r : Out} (h : SPost g σ ρ F H Dn r) (s : Stp g.P σ ρ F H σ1 ρ1 F1 H1) : SPost g σ1 ρ1 F1 H1 Dn r := by
  cases r with
  | nx ρ' => exact fun σ' F' H' c t => h σ' F' H' c (s.trans t)
  | brk ρ' => exact fun σ' F' H' c t => h σ' F' H' c (s.trans t)
  | ct ρ' => exact fun σ' F' H' c t => h σ' F' H' c (s.trans t)
  | ret v ρ' => exact fun x σ' F' H' c t iv => h x σ' F' H' c (s.trans t) (iv.from s)
  | exc e ρ' => exact fun cls dd σ' F' H' c t ix => h cls dd σ' F' H' c (s.trans t) ix
  | stuck => exact h
/-- an expression's value, then more -/
def bindS (m : EM) (f : Val → SM) : SM := fun ρ => match m ρ with
  | .ok v ρ' => f v ρ'
  | .exc e ρ' => .exc e ρ'
  | .stuck => .stuck
theorem SndE.bindS {g : G} {te : TE} {m : EM} {f : Val → SM} (h : SndE g te m) {σ : St} {ρ : Rh} {F H : Hp} {Dn : Ends} {Q1 : VK} (c : Con g.K σ ρ F H) (hp : SPost g σ ρ F H Dn (DL.bindS m f ρ))
    (k : ∀ x v ρ' F' H', Con g.K σ ρ' F' H' → Stp g.P σ ρ F H σ ρ' F' H' → ValIs g.K σ ρ H σ ρ' F' H' x v → SPost g σ ρ F H Dn (f v ρ') → Q1 x H') : te σ H Q1 := by
  refine h σ ρ F H Q1 c ?_
  unfold DL.bindS at hp
  cases e : m ρ with
  | ok v ρ' =>
    rw [e] at hp
    exact fun x F' H' c' s iv => k x v ρ' F' H' c' s iv hp
  | exc x ρ' =>
    rw [e] at hp
    exact fun cls dd F' H' c' s ix => hp cls dd σ F' H' c' s ix
  | stuck => rw [e] at hp; exact hp
theorem SndT.bindS {g : G} {t : TT} {m : EM} {f : Val → SM} (h : SndT g t m) {σ : St} {ρ : Rh} {F H : Hp} {Dn : Ends} {Q1 : Bool → Hp → Prop} (c : Con g.K σ ρ F H) (hp : SPost g σ ρ F H Dn (DL.bindS m f ρ))
    (hf : ∀ v, (∀ b, v ≠ .d (.bool b)) → ∀ ρ, f v ρ = .stuck)
    (k : ∀ b ρ' F' H', Con g.K σ ρ' F' H' → Stp g.P σ ρ F H σ ρ' F' H' → SPost g σ ρ F H Dn (f (.d (.bool b)) ρ') → Q1 b H') : t σ H Q1 := by
  refine h σ ρ F H Q1 c ?_
  unfold DL.bindS at hp
  cases e : m ρ with
  | exc x ρ' =>
    rw [e] at hp
    exact fun cls dd F' H' c' s ix => hp cls dd σ F' H' c' s ix
  | stuck => rw [e] at hp; exact hp
  | ok v ρ' =>
    rw [e] at hp
    intro x F' H' c' s iv
    by_cases hb : ∃ b, v = .d (.bool b)
    · obtain ⟨b, rfl⟩ := hb
      exact ⟨b, dv_bool iv, k b ρ' F' H' c' s hp⟩
    · have hp : SPost g σ ρ F H Dn (f v ρ') := hp
      rw [hf v (fun b z => hb ⟨b, z⟩)] at hp
      exact hp.elim

/-! ### targets -/
abbrev TGM := D → Rh → Option Rh
def SndG (g : G) (tg : TG) (mt : TGM) : Prop := ∀ σ ρ F H v d ρ' (Q : St → Hp → Prop), Con g.K σ ρ F H → Dv g.K F v d → mt d ρ = some ρ' → (∀ σ' F' H', Con g.K σ' ρ' F' H' → Stp g.P σ ρ F H σ' ρ' F' H' → Q σ' H') → tg v σ H Q
def SndGs (g : G) (tg : TGs) (mt : List D → Rh → Option Rh) : Prop := ∀ σ ρ F H vs ds ρ' (Q : St → Hp → Prop), Con g.K σ ρ F H → DvAll g.K F vs ds → mt ds ρ = some ρ' → (∀ σ' F' H', Con g.K σ' ρ' F' H' → Stp g.P σ ρ F H σ' ρ' F' H' → Q σ' H') → tg vs σ H Q
def nameT (i : Nat) : TGM := fun d ρ => some (ρ.set i (some (.dat d)))
def nilT : List D → Rh → Option Rh := fun ds ρ => match ds with
  | [] => some ρ
  | _ => none
def consT (m : TGM) (ms : List D → Rh → Option Rh) : List D → Rh → Option Rh := fun ds ρ => match ds with
  | d :: r => (m d ρ).bind fun ρ1 => ms r ρ1
  | [] => none
def tupT (n : Nat) (ms : List D → Rh → Option Rh) : TGM := fun d ρ => match d with
  | .tuple ds => if ds.length = n then ms ds ρ else none
  | _ => none
/-- own[k] = .. -/
def subT (i : Nat) (k : Int) : TGM := fun d ρ => match ρ[i]? with
  | some (some (.own ds)) => (ixN ds.length k).map fun j => ρ.set i (some (.own (ds.set j d)))
  | _ => none
section
variable {g : G}
theorem sng_name {i : Nat} (hi : i ∉ g.P) : SndG g (gName i) (nameT i) := by
  intro σ ρ F H v d ρ' Q c h e k
  cases e
  obtain ⟨c', s⟩ := c.setD (P := g.P) h hi
  exact k _ F H c' s
theorem sng_nil : SndGs g gNil nilT := by
  intro σ ρ F H vs ds ρ' Q c h e k
  cases ds with
  | nil =>
    cases e
    cases h
    exact ⟨rfl, k σ F H c Stp.refl⟩
  | cons d r => cases e
theorem sng_cons {tg : TG} {tgs : TGs} {m : TGM} {ms : List D → Rh → Option Rh} (h1 : SndG g tg m) (h2 : SndGs g tgs ms) : SndGs g (gCons tg tgs) (consT m ms) := by
  intro σ ρ F H vs ds ρ' Q c h e k
  cases ds with
  | nil => cases e
  | cons d r =>
    cases h with
    | cons a b =>
      obtain ⟨ρ1, e1, e2⟩ := Option.bind_eq_some_iff.mp e
      refine ⟨_, _, rfl, h1 σ ρ F H _ d ρ1 _ c a e1 fun σ1 F1 H1 c1 s1 => ?_⟩
      exact h2 σ1 ρ1 F1 H1 _ r ρ' Q c1 (dvAll_mono s1.fr r _ b) e2 fun σ2 F2 H2 c2 s2 => k σ2 F2 H2 c2 (s1.trans s2)
theorem sng_tup {tgs : TGs} {ms : List D → Rh → Option Rh} {n : Nat} (h : SndGs g tgs ms) : SndG g (L2.gTup g.K n tgs) (tupT n ms) := by
  intro σ ρ F H v d ρ' Q c hd e k
  unfold tupT at e
  split at e
  · split at e
    · rename_i ds hl
      obtain ⟨a, xs, rfl, ha, da⟩ := dv_tup hd
      exact ⟨a, xs, rfl, same_t c.ext ha, by rw [DvAll.length da]; exact hl, h σ ρ F H xs ds ρ' Q c da e k⟩
    · cases e
  · cases e
theorem ixN_lt {n : Nat} {k : Int} {j : Nat} (h : ixN n k = some j) : j < n := (ixN_seq h).2.1
theorem sng_sub {i : Nat} {k : Int} : SndG g (L2.gSub (tVar i) (tC (.int k)) rSetL) (subT i k) := by
  intro σ ρ F H v d ρ' Q c hd e kk
  unfold subT at e
  split at e
  · rename_i ds eo
    obtain ⟨j, hj, rfl⟩ := Option.map_eq_some_iff.mp e
    obtain ⟨p, vs, q, f, h, a⟩ := c.own i ds eo
    refine ⟨_, q, p, vs, k, j, rfl, rfl, h, by rw [DvAll.length a]; exact hj, ?_⟩
    obtain ⟨c', s⟩ := c.put (P := g.P) eo q (DvAll.set hd j a)
    exact kk σ F _ c' s
  · cases e
end

/-! ### statements -/
def nextM : SM := fun ρ => .nx ρ
def seqM (a b : SM) : SM := fun ρ => match a ρ with
  | .nx ρ' => b ρ'
  | o => o
def asgM (mt : TGM) (m : EM) : SM := bindS m fun v => match v with
  | .d d => fun ρ => match mt d ρ with
    | some ρ' => .nx ρ'
    | none => .stuck
  | _ => fun _ => .stuck
/-- a new list goes to a slot and stays the def's own -/
def asgO (i : Nat) (m : EM) : SM := bindS m fun v => match v with
  | .l ds => fun ρ => .nx (ρ.set i (some (.own ds)))
  | _ => fun _ => .stuck
def exprM (m : EM) : SM := bindS m fun _ ρ => .nx ρ
def retM (m : EM) : SM := bindS m fun v ρ => .ret v ρ
def retNM : SM := fun ρ => .ret (.d .none) ρ
def ifM (mc : EM) (a b : SM) : SM := bindS mc fun v => match v with
  | .d (.bool true) => a
  | .d (.bool false) => b
  | _ => fun _ => .stuck
def brkM : SM := fun ρ => .brk ρ
def ctM : SM := fun ρ => .ct ρ
/-- own.append(e) -/
def appM (i : Nat) (m : EM) : SM := fun ρ => match ρ[i]? with
  | some (some (.own _)) => bindS m (fun v => match v with
    | .d d => fun ρ' => match ρ'[i]? with
      | some (some (.own ds)) => if ds.length < 100000 then .nx (ρ'.set i (some (.own (ds ++ [d])))) else .stuck
      | _ => .stuck
    | _ => fun _ => .stuck) ρ
  | _ => .stuck
/-- a list of the def's own becomes data ahead of a statement -/
def frzS (i : Nat) (m : SM) : SM := fun ρ => match ρ[i]? with
  | some (some (.own ds)) => m (ρ.set i (some (.dat (.list ds))))
  | _ => m ρ
section
variable {g : G} {t u : TS} {a b : SM} {te : TE} {m mc : EM} {tt : TT}
theorem sns_next : SndS g tNext nextM := fun Dn σ ρ F H c hp => hp σ F H c Stp.refl
theorem sns_seq (ha : SndS g t a) (hb : SndS g u b) : SndS g (tSeq t u) (seqM a b) := by
  intro Dn σ ρ F H c hp
  refine ha _ σ ρ F H c ?_
  unfold seqM at hp
  cases e : a ρ with
  | nx ρ1 =>
    rw [e] at hp
    exact fun σ1 F1 H1 c1 s1 => hb Dn σ1 ρ1 F1 H1 c1 (SPost.shift hp s1)
  | brk ρ1 => rw [e] at hp; exact hp
  | ct ρ1 => rw [e] at hp; exact hp
  | ret v ρ1 => rw [e] at hp; exact hp
  | exc x ρ1 => rw [e] at hp; exact hp
  | stuck => rw [e] at hp; exact hp
theorem sns_asg {tg : TG} {mt : TGM} (hm : SndE g te m) (ht : SndG g tg mt) : SndS g (tAsg te tg) (asgM mt m) := by
  intro Dn σ ρ F H c hp
  refine hm.bindS c hp fun x v ρ1 F1 H1 c1 s1 i1 hp1 => ?_
  cases v with
  | l ds => exact hp1.elim
  | d d =>
    dsimp only at hp1
    cases e : mt d ρ1 with
    | none => rw [e] at hp1; exact hp1.elim
    | some ρ2 =>
      rw [e] at hp1
      exact ht σ ρ1 F1 H1 x d ρ2 _ c1 i1 e fun σ2 F2 H2 c2 s2 => hp1 σ2 F2 H2 c2 (s1.trans s2)
theorem sns_asgO {i : Nat} (hi : i ∉ g.P) (hm : SndE g te m) : SndS g (tAsg te (gName i)) (asgO i m) := by
  intro Dn σ ρ F H c hp
  refine hm.bindS c hp fun x v ρ1 F1 H1 c1 s1 i1 hp1 => ?_
  cases v with
  | d d => exact hp1.elim
  | l ds =>
    obtain ⟨p, vs, rfl, f, q, al, n, o⟩ := i1
    obtain ⟨c2, ow⟩ := c1.setL (i := i) f q al n
    refine hp1 _ F1 H1 c2 ⟨s1.fr, s1.keep, s1.free, fun b hb => ?_, s1.dom, fun j hj => ?_⟩
    · rcases ow b hb with z | z
      · exact s1.own b z
      · subst z; exact o
    · rw [get_set_ne (fun w => hi (by rw [w]; exact hj))]
theorem sns_expr (hm : SndE g te m) : SndS g (tDrop te) (exprM m) := by
  intro Dn σ ρ F H c hp
  exact hm.bindS c hp fun x v ρ1 F1 H1 c1 s1 i1 hp1 => hp1 σ F1 H1 c1 s1
theorem sns_ret (hm : SndE g te m) : SndS g (tRet te) (retM m) := by
  intro Dn σ ρ F H c hp
  exact hm.bindS c hp fun x v ρ1 F1 H1 c1 s1 i1 hp1 => hp1 x σ F1 H1 c1 s1 i1
theorem sns_retN : SndS g tRetN retNM := fun Dn σ ρ F H c hp => hp .non σ F H c Stp.refl .non
theorem sns_if (hc : SndT g tt mc) (ha : SndS g t a) (hb : SndS g u b) : SndS g (tIfS tt t u) (ifM mc a b) := by
  intro Dn σ ρ F H c hp
  refine hc.bindS c hp (fun v hv ρ => ?_) fun k ρ1 F1 H1 c1 s1 hp1 => ?_
  · cases v with
    | l ds => rfl
    | d d => cases d <;> first | rfl | (exact absurd rfl (hv _))
  · cases k with
    | true =>
      rw [if_pos rfl]
      exact ha Dn σ ρ1 F1 H1 c1 (SPost.shift hp1 s1)
    | false =>
      rw [if_neg Bool.false_ne_true]
      exact hb Dn σ ρ1 F1 H1 c1 (SPost.shift hp1 s1)
theorem sns_brk : SndS g tBreak brkM := fun Dn σ ρ F H c hp => hp σ F H c Stp.refl
theorem sns_ct : SndS g tCont ctM := fun Dn σ ρ F H c hp => hp σ F H c Stp.refl
theorem sns_frz {i : Nat} (h : SndS g t a) : SndS g t (frzS i a) := by
  intro Dn σ ρ F H c hp
  unfold frzS at hp
  split at hp
  · rename_i ds e
    obtain ⟨F', c', s⟩ := c.frz (P := g.P) e
    exact h Dn σ _ F' H c' (SPost.shift hp s)
  · exact h Dn σ ρ F H c hp
theorem sns_app {i : Nat} (hm : SndE g te m) : SndS g (tDrop (tBM g.K "list" rAppend (tVar i) (tCons te tNil))) (appM i m) := by
  intro Dn σ ρ F H c hp
  unfold appM at hp
  split at hp
  · rename_i ds0 e0
    obtain ⟨p, vs, q, f, h, al⟩ := c.own i ds0 e0
    refine ⟨_, q, .inl ⟨rfl, vs, SqL.of h⟩, ?_⟩
    refine hm.bindS c hp fun x v ρ1 F1 H1 c1 s1 i1 hp1 => ?_
    cases v with
    | l ds => exact hp1.elim
    | d d =>
      dsimp only at hp1
      split at hp1
      · rename_i ds e1
        split at hp1
        · rename_i hl
          obtain ⟨p', us, q', f', h', al'⟩ := c1.own i ds e1
          rw [q] at q'
          cases q'
          refine ⟨p, us, x, rfl, rfl, h', by rw [DvAll.length al']; exact Nat.lt_of_lt_of_le hl (line_of (Nat.le_refl _)), ?_⟩
          obtain ⟨c2, s2⟩ := c1.put (P := g.P) e1 q (al'.append (.cons i1 .nil))
          exact hp1 σ F1 _ c2 (s1.trans s2)
        · exact hp1.elim
      · exact hp1.elim
  · exact hp.elim
end

/-! ### while -/
def whileN (mc : EM) (body : SM) : Nat → Rh → Out
  | 0, _ => .stuck
  | n + 1, ρ => match mc ρ with
    | .ok (.d (.bool true)) ρ1 => match body ρ1 with
      | .nx ρ2 => whileN mc body n ρ2
      | .ct ρ2 => whileN mc body n ρ2
      | .brk ρ2 => .nx ρ2
      | o => o
    | .ok (.d (.bool false)) ρ1 => .nx ρ1
    | .ok _ _ => .stuck
    | .exc x ρ1 => .exc x ρ1
    | .stuck => .stuck
def whileM (fuel : Rh → Nat) (mc : EM) (body : SM) : SM := fun ρ => whileN mc body (fuel ρ) ρ
theorem sns_while {g : G} {tt : TT} {tb : TS} {mc : EM} {body : SM} (fuel : Rh → Nat) (hc : SndT g tt mc) (hb : SndS g tb body) : SndS g (tWhile tt tb) (whileM fuel mc body) := by
  intro Dn σ ρ F H c hp
  refine ⟨fun n σ' H' => ∃ ρ' F', Con g.K σ' ρ' F' H' ∧ Stp g.P σ ρ F H σ' ρ' F' H' ∧ SPost g σ ρ F H Dn (whileN mc body n ρ'), ⟨fuel ρ, ρ, F, c, Stp.refl, hp⟩, ?_⟩
  rintro n σ1 H1 ⟨ρ1, F1, c1, s1, hp1⟩
  cases n with
  | zero => exact hp1.elim
  | succ n =>
    refine hc σ1 ρ1 F1 H1 _ c1 ?_
    unfold whileN at hp1
    cases e : mc ρ1 with
    | exc x ρ2 =>
      rw [e] at hp1
      exact fun cls dd F' H' c' s ix => hp1 cls dd σ1 F' H' c' (s1.trans s) ix
    | stuck => rw [e] at hp1; exact hp1
    | ok v ρ2 =>
      rw [e] at hp1
      intro x F2 H2 c2 s2 iv
      have s12 := s1.trans s2
      cases v with
      | l ds => exact hp1.elim
      | d d =>
        cases d with
        | bool k =>
          refine ⟨k, dv_bool iv, ?_⟩
          cases k with
          | false =>
            rw [if_neg Bool.false_ne_true]
            exact hp1 σ1 F2 H2 c2 s12
          | true =>
            rw [if_pos rfl]
            refine ⟨fun σ' H' => ∃ ρ' F', Con g.K σ' ρ' F' H' ∧ Stp g.P σ ρ F H σ' ρ' F' H' ∧ SPost g σ ρ F H Dn (whileN mc body n ρ'), fun σ' H' h => ⟨n, Nat.lt_succ_self n, h⟩, ?_⟩
            refine hb _ σ1 ρ2 F2 H2 c2 ?_
            dsimp only at hp1
            cases e2 : body ρ2 with
            | nx ρ3 => rw [e2] at hp1; exact fun σ' F' H' c' s' => ⟨ρ3, F', c', s12.trans s', hp1⟩
            | ct ρ3 => rw [e2] at hp1; exact fun σ' F' H' c' s' => ⟨ρ3, F', c', s12.trans s', hp1⟩
            | brk ρ3 => rw [e2] at hp1; exact fun σ' F' H' c' s' => hp1 σ' F' H' c' (s12.trans s')
            | ret v ρ3 => rw [e2] at hp1; exact SPost.shift (r := .ret v ρ3) hp1 s12
            | exc x ρ3 => rw [e2] at hp1; exact SPost.shift (r := .exc x ρ3) hp1 s12
            | stuck => rw [e2] at hp1; exact hp1
        | _ => exact hp1.elim

/-! ### for -/
def ItD (K : PySem.W.Frag) (J : It) (items : List D) (F : Hp) : Prop := ∀ F' H', Same F F' → Same F' H' → (∀ i, items.length ≤ i → J.stop i H') ∧
  ∀ i d, items[i]? = some d → J.go i H' ∧ ∀ x H'', J.yld i H' x H'' → ∃ F'', News F' H' F'' H'' ∧ Dv K F'' x d
inductive RI where
  | ok (ds : List D) (s : Rh)
  | exc (x : Xn) (s : Rh)
  | stuck
def IPost (g : G) (σ : St) (ρ : Rh) (F H : Hp) (R : It → Hp → Prop) : RI → Prop
  | .ok ds ρ' => ∀ J F' H', Con g.K σ ρ' F' H' → Stp g.P σ ρ F H σ ρ' F' H' → ItD g.K J ds F' → R J H'
  | .exc e ρ' => ∀ cls dd F' H', Con g.K σ ρ' F' H' → Stp g.P σ ρ F H σ ρ' F' H' → XnIs g.K g.mg F' H' e cls dd → g.W cls dd σ H'
  | .stuck => False
def SndI (g : G) (wi : TI) (mi : Rh → RI) : Prop := ∀ σ ρ F H R, Con g.K σ ρ F H → IPost g σ ρ F H R (mi ρ) → wi σ H R
def forN (mt : TGM) (body : SM) : List D → Rh → Out
  | [], ρ => .nx ρ
  | d :: ds, ρ => match mt d ρ with
    | none => .stuck
    | some ρ1 => match body ρ1 with
      | .nx ρ2 => forN mt body ds ρ2
      | .ct ρ2 => forN mt body ds ρ2
      | .brk ρ2 => .nx ρ2
      | o => o
def forM (mi : Rh → RI) (mt : TGM) (body : SM) : SM := fun ρ => match mi ρ with
  | .ok ds ρ' => forN mt body ds ρ'
  | .exc x ρ' => .exc x ρ'
  | .stuck => .stuck
theorem sns_for {g : G} {wi : TI} {mi : Rh → RI} {tg : TG} {mt : TGM} {tb : TS} {body : SM} (hi : SndI g wi mi) (ht : SndG g tg mt) (hb : SndS g tb body) : SndS g (tFor wi tg tb) (forM mi mt body) := by
  intro Dn σ ρ F H c hp
  refine hi σ ρ F H _ c ?_
  unfold forM at hp
  cases e : mi ρ with
  | exc x ρ2 =>
    rw [e] at hp
    exact fun cls dd F' H' c' s ix => hp cls dd σ F' H' c' s ix
  | stuck => rw [e] at hp; exact hp
  | ok ds ρ0 =>
    rw [e] at hp
    intro J F0 H0 c0 s0 it
    refine ⟨fun i n σ' H' => ∃ ρ' F', n = ds.length - i ∧ i ≤ ds.length ∧ Con g.K σ' ρ' F' H' ∧ Same F0 F' ∧ Stp g.P σ ρ F H σ' ρ' F' H' ∧ SPost g σ ρ F H Dn (forN mt body (ds.drop i) ρ'),
      ⟨ds.length, ρ0, F0, rfl, Nat.zero_le _, c0, fun _ _ z => z, s0, hp⟩, ?_⟩
    rintro i n σ1 H1 ⟨ρ1, F1, rfl, hi, c1, f1, s1, hp1⟩
    obtain ⟨st, go⟩ := it F1 H1 f1 c1.ext
    by_cases hlt : i < ds.length
    · right
      obtain ⟨d, hd⟩ : ∃ d, ds[i]? = some d := ⟨ds[i], List.getElem?_eq_getElem hlt⟩
      obtain ⟨g1, y1⟩ := go i d hd
      have ed : ds.drop i = d :: ds.drop (i + 1) := by
        rw [List.drop_eq_getElem_cons hlt]
        rw [List.getElem?_eq_getElem hlt] at hd
        cases hd
        rfl
      rw [ed] at hp1
      unfold forN at hp1
      refine ⟨g1, fun σ' H' => ∃ ρ' F', Con g.K σ' ρ' F' H' ∧ Same F0 F' ∧ Stp g.P σ ρ F H σ' ρ' F' H' ∧ SPost g σ ρ F H Dn (forN mt body (ds.drop (i + 1)) ρ'), fun σ' H' h => ?_, fun x H2 hy => ?_⟩
      · obtain ⟨ρ', F', a1, a2, a3, a4⟩ := h
        exact ⟨ds.length - (i + 1), by omega, ρ', F', rfl, hlt, a1, a2, a3, a4⟩
      · obtain ⟨F2, n2, dv⟩ := y1 x H2 hy
        have c2 := c1.news n2
        have s2 := s1.trans (Stp.news (K := g.K) (P := g.P) n2)
        cases e2 : mt d ρ1 with
        | none => rw [e2] at hp1; exact hp1.elim
        | some ρ2 =>
          rw [e2] at hp1
          refine ht σ1 ρ1 F2 H2 x d ρ2 _ c2 dv e2 fun σ3 F3 H3 c3 s3 => ?_
          have s13 := s2.trans s3
          have f3 : Same F0 F3 := fun b o z => s3.fr b o (n2.fr b o (f1 b o z))
          refine hb _ σ3 ρ2 F3 H3 c3 ?_
          dsimp only at hp1
          cases e3 : body ρ2 with
          | nx ρ3 => rw [e3] at hp1; exact fun σ' F' H' c' s' => ⟨ρ3, F', c', fun b o z => s'.fr b o (f3 b o z), s13.trans s', hp1⟩
          | ct ρ3 => rw [e3] at hp1; exact fun σ' F' H' c' s' => ⟨ρ3, F', c', fun b o z => s'.fr b o (f3 b o z), s13.trans s', hp1⟩
          | brk ρ3 => rw [e3] at hp1; exact fun σ' F' H' c' s' => hp1 σ' F' H' c' (s13.trans s')
          | ret v ρ3 => rw [e3] at hp1; exact SPost.shift (r := .ret v ρ3) hp1 s13
          | exc x ρ3 => rw [e3] at hp1; exact SPost.shift (r := .exc x ρ3) hp1 s13
          | stuck => rw [e3] at hp1; exact hp1
    · left
      have ei : i = ds.length := by omega
      subst ei
      rw [List.drop_length] at hp1
      exact ⟨st _ (Nat.le_refl _), hp1 σ1 F1 H1 c1 s1⟩
end DL
set_option Elab.async false
set_option linter.all false
set_option maxRecDepth 100000
set_option maxHeartbeats 2000000
set_option autoImplicit false
/-! DL6: what is walked; comprehensions; the def's own lists read. -/
namespace DL
open PySem PySem.Spec PyProof.Rows L2

/-! ### what is walked -/
def iSeq (K : PySem.W.Frag) (tl : TE) : TI := fun σ H R => tl σ H fun x H1 => (∃ a, x = .ref a ∧ (∃ xs, SqL K H1 a xs) ∧ R (Itl K a) H1) ∨ ((∃ a, x = .ref a ∧ (∃ xs, SqT K H1 a xs) ∧ R (Itt K a) H1) ∨ ∃ z, x = .str z ∧ R (Its z) H1)
theorem pi_seq {X : Cx} {tg l : Expr} {tl : TE} (hl : PE X l tl) : PI X tg l (iSeq X.K tl) := by
  refine ⟨fun pins s σ H R I h => ?_⟩
  refine thn (hl.run pins s σ H _ I h) fun v s1 ⟨x, H1, I1, r1, q1⟩ => ?_
  rcases q1 with ⟨a, e, ⟨xs, hq⟩, q⟩ | ⟨a, e, ⟨xs, hq⟩, q⟩ | ⟨z, e, q⟩
  · subst e
    cases r1
    obtain ⟨its, rv, pl, hz⟩ := I1.list hq
    exact wpAny_pyIter_list pl.isList (pi_one (tk := s1.toks) I1 _ (turn_list a _) ⟨_, Heap.get?_push_size _ rfl, rfl, rfl⟩ q)
  · subst e
    cases r1
    obtain ⟨its, rv, pl, hz⟩ := I1.tuple hq
    exact wpAny_pyIter_tuple (show s1.heap.IsTuple a its.toArray from pl) (pi_one (tk := s1.toks) I1 _ (turn_tuple a _) ⟨_, Heap.get?_push_size _ rfl, rfl, rfl⟩ q)
  · subst e
    obtain ⟨t, rfl⟩ := r1
    cases ha : z.cps.all (· < 128)
    · exact wpAny_pyIter_wide ha (pi_one (tk := s1.toks) I1 _ (turn_str _ z t "str_iterator" (Or.inr rfl)) ⟨_, Heap.get?_push_size _ rfl, rfl, rfl⟩ q)
    · exact wpAny_pyIter_ascii ha (pi_one (tk := s1.toks) I1 _ (turn_str _ z t "str_ascii_iterator" (Or.inl rfl)) ⟨_, Heap.get?_push_size _ rfl, rfl, rfl⟩ q)
theorem itd_list {K : PySem.W.Frag} {F : Hp} {a : Addr} {xs : List V} {ds : List D} (h : SqL K F a xs) (d : DvAll K F xs ds) : ItD K (Itl K a) ds F := by
  intro F' H' s e
  have hq : SqL K H' a xs := same_l e (same_l s h)
  refine ⟨fun i hi => ⟨xs, hq, by rw [DvAll.length d]; exact hi⟩, fun i d0 hd => ?_⟩
  obtain ⟨v, hv, dv⟩ := DvAll.get d hd
  refine ⟨⟨xs, v, hq, hv⟩, fun x H'' hy => ?_⟩
  obtain ⟨rfl, hx⟩ := hy
  have q := hx xs hq
  rw [hv] at q
  cases q
  exact ⟨F', News.refl e, dv_mono s d0 v dv⟩
theorem itd_tup {K : PySem.W.Frag} {F : Hp} {a : Addr} {xs : List V} {ds : List D} (h : SqT K F a xs) (d : DvAll K F xs ds) : ItD K (Itt K a) ds F := by
  intro F' H' s e
  have hq : SqT K H' a xs := same_t e (same_t s h)
  refine ⟨fun i hi => ⟨xs, hq, by rw [DvAll.length d]; exact hi⟩, fun i d0 hd => ?_⟩
  obtain ⟨v, hv, dv⟩ := DvAll.get d hd
  refine ⟨⟨xs, v, hq, hv⟩, fun x H'' hy => ?_⟩
  obtain ⟨rfl, hx⟩ := hy
  have q := hx xs hq
  rw [hv] at q
  cases q
  exact ⟨F', News.refl e, dv_mono s d0 v dv⟩
/-- the signs of a text, a text each -/
def signsD (z : Str) : List D := z.cps.toList.map fun c => .str ⟨#[c]⟩
theorem itd_str {K : PySem.W.Frag} {F : Hp} {z : Str} : ItD K (Its z) (signsD z) F := by
  intro F' H' s e
  refine ⟨fun i hi => ?_, fun i d hd => ?_⟩
  · have hi : (signsD z).length ≤ i := hi
    unfold signsD at hi
    rw [List.length_map, Array.length_toList] at hi
    exact hi
  · unfold signsD at hd
    rw [List.getElem?_map] at hd
    obtain ⟨c, hc, rfl⟩ := Option.map_eq_some_iff.mp hd
    rw [Array.getElem?_toList] at hc
    refine ⟨(Array.getElem?_eq_some_iff.mp hc).1, fun x H'' hy => ?_⟩
    obtain ⟨rfl, c', hc', rfl⟩ := hy
    rw [hc] at hc'
    cases hc'
    exact ⟨F', News.refl e, .str _⟩
def itemsD : D → Option (List D)
  | .list ds => some ds
  | .tuple ds => some ds
  | .str z => some (signsD z)
  | .dict ((.none, .none) :: kvs) => some (roInts kvs)
  | _ => none
def seqI (m : EM) : Rh → RI := fun ρ => match m ρ with
  | .ok (.d d) ρ' => match itemsD d with
    | some ds => .ok ds ρ'
    | none => .stuck
  | .ok _ _ => .stuck
  | .exc x ρ' => .exc x ρ'
  | .stuck => .stuck
section
variable {g : G} {te : TE} {m : EM}
theorem sni_seq (h : SndE g te m) : SndI g (iSeq g.K te) (seqI m) := by
  intro σ ρ F H R c hp
  refine h σ ρ F H _ c ?_
  unfold seqI at hp
  cases e : m ρ with
  | exc x ρ' => rw [e] at hp; exact hp
  | stuck => rw [e] at hp; exact hp
  | ok v ρ1 =>
    rw [e] at hp
    cases v with
    | l ds => exact hp.elim
    | d d =>
      intro x F1 H1 c1 s1 i1
      cases d with
      | list ds =>
        obtain ⟨a, xs, rfl, ha, da⟩ := dv_lst i1
        exact .inl ⟨a, rfl, ⟨xs, SqL.of (c1.ext _ _ ha)⟩, hp _ F1 H1 c1 s1 (itd_list (SqL.of ha) da)⟩
      | dict kvs =>
        cases kvs with
        | nil => exact hp.elim
        | cons p kvs =>
          have ri : Dv g.K F1 x (.dict (p :: kvs)) := i1
          cases ri with
          | rdl hs => exact .inl ⟨_, rfl, ⟨_, same_l c1.ext hs⟩, hp _ F1 H1 c1 s1 (by rw [roInts_map]; exact itd_list hs (dvs_ints _))⟩
          | exc _ _ _ _ _ _ => exact hp.elim
          | exc0 _ _ => exact hp.elim
      | tuple ds =>
        obtain ⟨a, xs, rfl, ha, da⟩ := dv_tup i1
        exact .inr (.inl ⟨a, rfl, ⟨xs, same_t c1.ext ha⟩, hp _ F1 H1 c1 s1 (itd_tup ha da)⟩)
      | str z => exact .inr (.inr ⟨z, dv_str i1, hp _ F1 H1 c1 s1 itd_str⟩)
      | _ => exact hp.elim
/-- lo, lo + 1, .. -/
def rangeD (lo : Int) (n : Nat) : List D := (List.range n).map fun (k : Nat) => PyData.int (lo + (k : Int))
theorem itd_range {K : PySem.W.Frag} {F : Hp} {lo : Int} {n : Nat} : ItD K (Itr lo n) (rangeD lo n) F := by
  intro F' H' s e
  have hl : (rangeD lo n).length = n := by unfold rangeD; rw [List.length_map, List.length_range]
  refine ⟨fun i hi => by rw [hl] at hi; exact hi, fun i d hd => ?_⟩
  have hi : i < n := by
    have := (List.getElem?_eq_some_iff.mp hd).1
    rw [hl] at this
    exact this
  refine ⟨hi, fun x H'' hy => ?_⟩
  obtain ⟨rfl, rfl⟩ := hy
  unfold rangeD at hd
  rw [List.getElem?_map, List.getElem?_range hi] at hd
  cases hd
  exact ⟨F', News.refl e, .int _⟩
def rng1I (ms : LM) : Rh → RI := fun ρ => match ms ρ with
  | .ok [.d (.int j)] ρ' => if -(2 ^ 62) ≤ j ∧ j < 2 ^ 62 then .ok (rangeD 0 j.toNat) ρ' else .stuck
  | .ok _ _ => .stuck
  | .exc x ρ' => .exc x ρ'
  | .stuck => .stuck
def rng2I (ms : LM) : Rh → RI := fun ρ => match ms ρ with
  | .ok [.d (.int i), .d (.int j)] ρ' => if -(2 ^ 62) ≤ i ∧ i < 2 ^ 62 ∧ -(2 ^ 62) ≤ j ∧ j < 2 ^ 62 then .ok (rangeD i (j - i).toNat) ρ' else .stuck
  | .ok _ _ => .stuck
  | .exc x ρ' => .exc x ρ'
  | .stuck => .stuck
theorem sni_rng1 {ta : TA} {ms : LM} (h : SndA g ta ms) : SndI g (iRng1 ta) (rng1I ms) := by
  intro σ ρ F H R c hp
  refine h σ ρ F H _ c ?_
  unfold rng1I at hp
  cases e : ms ρ with
  | exc x ρ' => rw [e] at hp; exact hp
  | stuck => rw [e] at hp; exact hp
  | ok vs ρ1 =>
    rw [e] at hp
    intro xs F1 H1 c1 s1 i1
    split at hp
    · rename_i j ρ' e2
      cases e2
      split at hp
      · rename_i hl
        have ex := i1.dat (ds := [.int j]) rfl
        obtain ⟨x, rfl, hx⟩ := dvs_one ex
        have hx := dv_int hx
        subst hx
        exact ⟨j, rfl, hl.1, hl.2, hp _ F1 H1 c1 s1 itd_range⟩
      · exact hp.elim
    · exact hp.elim
    · rename_i e2
      cases e2
    · rename_i e2
      cases e2
theorem sni_rng2 {ta : TA} {ms : LM} (h : SndA g ta ms) : SndI g (iRng2 ta) (rng2I ms) := by
  intro σ ρ F H R c hp
  refine h σ ρ F H _ c ?_
  unfold rng2I at hp
  cases e : ms ρ with
  | exc x ρ' => rw [e] at hp; exact hp
  | stuck => rw [e] at hp; exact hp
  | ok vs ρ1 =>
    rw [e] at hp
    intro xs F1 H1 c1 s1 i1
    split at hp
    · rename_i i j ρ' e2
      cases e2
      split at hp
      · rename_i hl
        have ex := i1.dat (ds := [.int i, .int j]) rfl
        obtain ⟨x, y, rfl, hx, hy⟩ := dvs_two ex
        have hx := dv_int hx
        have hy := dv_int hy
        subst hx hy
        exact ⟨i, j, rfl, hl, hp _ F1 H1 c1 s1 itd_range⟩
      · exact hp.elim
    · exact hp.elim
    · rename_i e2
      cases e2
    · rename_i e2
      cases e2
end

/-! ### slots that a comprehension's own names take -/
theorem wipe_in {σ : St} : ∀ {vs : List Nat} {i : Nat} {x : Option V}, i ∈ vs → wipe (σ.set i x) vs = wipe σ vs := by
  have comm : ∀ {vs : List Nat} {i : Nat} {x : Option V}, wipe (σ.set i x) vs = if i ∈ vs then wipe σ vs else (wipe σ vs).set i x := by
    intro vs
    induction vs with
    | nil => intro i x; simp [wipe]
    | cons v vs ih =>
      intro i x
      unfold wipe
      rw [ih]
      by_cases h : i ∈ vs
      · rw [if_pos h, if_pos (List.mem_cons_of_mem _ h)]
      · rw [if_neg h]
        by_cases hv : i = v
        · subst hv
          rw [if_pos (List.mem_cons_self ..), List.set_set]
        · rw [if_neg (by simp only [List.mem_cons, not_or]; exact ⟨hv, h⟩), List.set_comm _ _ hv]
  intro vs i x h
  rw [comm, if_pos h]
theorem wipe_out {σ : St} {i : Nat} {x : Option V} : ∀ {vs : List Nat}, i ∉ vs → wipe (σ.set i x) vs = (wipe σ vs).set i x
  | [], _ => rfl
  | v :: vs, h => by
    simp only [List.mem_cons, not_or] at h
    show (wipe (σ.set i x) vs).set v none = ((wipe σ vs).set v none).set i x
    rw [wipe_out h.2, List.set_comm _ _ h.1]
theorem wipe_idem (σ : St) : ∀ vs : List Nat, wipe (wipe σ vs) vs = wipe σ vs
  | [] => rfl
  | v :: vs => by
    show (wipe ((wipe σ vs).set v none) vs).set v none = (wipe σ vs).set v none
    by_cases h : v ∈ vs
    · rw [wipe_in h, wipe_idem σ vs]
    · rw [wipe_out h, wipe_idem σ vs, List.set_set]
def wipeR (ρ : Rh) : List Nat → Rh
  | [] => ρ
  | v :: vs => (wipeR ρ vs).set v none
theorem wipeR_length (ρ : Rh) : ∀ vs, (wipeR ρ vs).length = ρ.length
  | [] => rfl
  | v :: vs => by unfold wipeR; rw [List.length_set, wipeR_length ρ vs]
theorem wipeR_some {ρ : Rh} {i : Nat} {x : Slot} : ∀ {vs : List Nat}, (wipeR ρ vs)[i]? = some (some x) → ρ[i]? = some (some x) ∧ i ∉ vs
  | [], h => ⟨h, by simp⟩
  | v :: vs, h => by
    unfold wipeR at h
    by_cases hi : v = i
    · subst hi
      by_cases hv : v < (wipeR ρ vs).length
      · rw [List.getElem?_set_self hv] at h; cases h
      · rw [List.getElem?_eq_none (by simpa using hv)] at h; cases h
    · rw [List.getElem?_set_ne hi] at h
      obtain ⟨h1, h2⟩ := wipeR_some h
      exact ⟨h1, by simp only [List.mem_cons, not_or]; exact ⟨fun e => hi e.symm, h2⟩⟩
theorem wipe_get {σ : St} {i : Nat} : ∀ {vs : List Nat}, i ∉ vs → (wipe σ vs)[i]? = σ[i]?
  | [], _ => rfl
  | v :: vs, h => by
    simp only [List.mem_cons, not_or] at h
    unfold wipe
    rw [List.getElem?_set_ne (fun e => h.1 e.symm), wipe_get h.2]
/-- the same state told with other slots where nothing is told -/
theorem Con.agree {K : PySem.W.Frag} {σ σ' : St} {ρ : Rh} {F H : Hp} (c : Con K σ ρ F H) (hl : σ'.length = σ.length) (h : ∀ (i : Nat) (x : Slot), ρ[i]? = some (some x) → σ'[i]? = σ[i]?) : Con K σ' ρ F H where
  ext := c.ext
  len := hl.trans c.len
  dat := fun i d e => by rw [h i _ e]; exact c.dat i d e
  own := fun i ds e => by rw [h i _ e]; exact c.own i ds e
  sep := fun i j a b p n e1 e2 q1 q2 => by
    rw [h i _ e1] at q1
    rw [h j _ e2] at q2
    exact c.sep i j a b p n e1 e2 q1 q2
theorem owned_agree {σ σ' : St} {ρ : Rh} (h : ∀ (i : Nat) (x : Slot), ρ[i]? = some (some x) → σ'[i]? = σ[i]?) {b : Addr} (o : Owned σ' ρ b) : Owned σ ρ b := by
  obtain ⟨i, ds, e, q⟩ := o
  rw [h i _ e] at q
  exact ⟨i, ds, e, q⟩
theorem Con.less {K : PySem.W.Frag} {σ : St} {ρ : Rh} {F H : Hp} (c : Con K σ ρ F H) (vs : List Nat) : Con K σ (wipeR ρ vs) F H where
  ext := c.ext
  len := by rw [wipeR_length]; exact c.len
  dat := fun i d e => c.dat i d (wipeR_some e).1
  own := fun i ds e => c.own i ds (wipeR_some e).1
  sep := fun i j a b p n e1 e2 => c.sep i j a b p n (wipeR_some e1).1 (wipeR_some e2).1
theorem owned_less {σ : St} {ρ : Rh} {vs : List Nat} {b : Addr} (o : Owned σ (wipeR ρ vs) b) : Owned σ ρ b := by
  obtain ⟨i, ds, e, q⟩ := o
  exact ⟨i, ds, (wipeR_some e).1, q⟩
def vsNone (vs : List Nat) (ρ : Rh) : Bool := vs.all fun i => match ρ[i]? with
  | some none => true
  | _ => false
theorem vsNone_at {vs : List Nat} {ρ : Rh} (h : vsNone vs ρ = true) {i : Nat} {x : Slot} (e : ρ[i]? = some (some x)) : i ∉ vs := fun hi => by
  unfold vsNone at h
  rw [List.all_eq_true] at h
  have q := h i hi
  rw [e] at q
  cases q
theorem wipeR_none {ρ : Rh} {i : Nat} : ∀ {vs : List Nat}, i ∈ vs → i < ρ.length → (wipeR ρ vs)[i]? = some none
  | [], h, _ => by cases h
  | v :: vs, h, hl => by
    unfold wipeR
    by_cases e : v = i
    · subst e
      exact List.getElem?_set_self (by rw [wipeR_length]; exact hl)
    · rw [List.getElem?_set_ne e]
      rcases List.mem_cons.mp h with h | h
      · exact absurd h.symm e
      · exact wipeR_none h hl
theorem vsNone_lt {vs : List Nat} {ρ : Rh} (h : vsNone vs ρ = true) {i : Nat} (hi : i ∈ vs) : i < ρ.length := by
  unfold vsNone at h
  rw [List.all_eq_true] at h
  have q := h i hi
  by_cases hl : i < ρ.length
  · exact hl
  · rw [List.getElem?_eq_none (by omega)] at q; cases q
theorem vsNone_wipe {vs : List Nat} {ρ : Rh} (h : ∀ i ∈ vs, i < ρ.length) : vsNone vs (wipeR ρ vs) = true := by
  unfold vsNone
  rw [List.all_eq_true]
  intro i hi
  rw [wipeR_none hi (h i hi)]
/-- a loose list is written -/
theorem Con.looseW {K : PySem.W.Frag} {σ : St} {ρ : Rh} {F H : Hp} (c : Con K σ ρ F H) {p : Addr} {o : HO} (f : F p = none) (n : ¬ Owned σ ρ p) : Con K σ ρ F (upd H p o) where
  ext := fun b u e => by rw [upd_ne (ne_of_none e f)]; exact c.ext b u e
  len := c.len
  dat := c.dat
  own := fun i ds e => by
    obtain ⟨q, vs, e1, e2, e3, e4⟩ := c.own i ds e
    refine ⟨q, vs, e1, e2, ?_, e4⟩
    rw [upd_ne (fun w => n (by rw [w] at e1; exact Owned.of e e1))]
    exact e3
  sep := c.sep

/-! ### comprehensions -/
/-- a target that stores only a comprehension's own names -/
def SndGv (g : G) (vs : List Nat) (tg : TG) (mt : TGM) : Prop := ∀ σ ρ F H v d ρ' (Q : St → Hp → Prop), Con g.K σ ρ F H → Dv g.K F v d → mt d ρ = some ρ' → (∀ σ', wipe σ' vs = wipe σ vs → Con g.K σ' ρ' F H → Stp g.P σ ρ F H σ' ρ' F H → Q σ' H) → tg v σ H Q
def SndGvs (g : G) (vs : List Nat) (tg : TGs) (mt : List D → Rh → Option Rh) : Prop := ∀ σ ρ F H us ds ρ' (Q : St → Hp → Prop), Con g.K σ ρ F H → DvAll g.K F us ds → mt ds ρ = some ρ' → (∀ σ', wipe σ' vs = wipe σ vs → Con g.K σ' ρ' F H → Stp g.P σ ρ F H σ' ρ' F H → Q σ' H) → tg us σ H Q
section
variable {g : G} {vs : List Nat}
theorem sgv_name {i : Nat} (hi : i ∉ g.P) (hv : i ∈ vs) : SndGv g vs (gName i) (nameT i) := by
  intro σ ρ F H v d ρ' Q c h e k
  cases e
  obtain ⟨c', s⟩ := c.setD (P := g.P) h hi
  exact k _ (wipe_in hv) c' s
theorem sgv_nil : SndGvs g vs gNil nilT := by
  intro σ ρ F H us ds ρ' Q c h e k
  cases ds with
  | nil =>
    cases e
    cases h
    exact ⟨rfl, k σ rfl c Stp.refl⟩
  | cons d r => cases e
theorem sgv_cons {tg : TG} {tgs : TGs} {m : TGM} {ms : List D → Rh → Option Rh} (h1 : SndGv g vs tg m) (h2 : SndGvs g vs tgs ms) : SndGvs g vs (gCons tg tgs) (consT m ms) := by
  intro σ ρ F H us ds ρ' Q c h e k
  cases ds with
  | nil => cases e
  | cons d r =>
    cases h with
    | cons a b =>
      obtain ⟨ρ1, e1, e2⟩ := Option.bind_eq_some_iff.mp e
      refine ⟨_, _, rfl, h1 σ ρ F H _ d ρ1 _ c a e1 fun σ1 w1 c1 s1 => ?_⟩
      exact h2 σ1 ρ1 F H _ r ρ' Q c1 b e2 fun σ2 w2 c2 s2 => k σ2 (w2.trans w1) c2 (s1.trans s2)
theorem sgv_tup {tgs : TGs} {ms : List D → Rh → Option Rh} {n : Nat} (h : SndGvs g vs tgs ms) : SndGv g vs (L2.gTup g.K n tgs) (tupT n ms) := by
  intro σ ρ F H v d ρ' Q c hd e k
  unfold tupT at e
  split at e
  · split at e
    · rename_i ds hl
      obtain ⟨a, xs, rfl, ha, da⟩ := dv_tup hd
      exact ⟨a, xs, rfl, same_t c.ext ha, by rw [DvAll.length da]; exact hl, h σ ρ F H xs ds ρ' Q c da e k⟩
    · cases e
  · cases e
end
def lcN (mt : TGM) (mtest melt : EM) (vs : List Nat) : List D → Rh → List D → RI
  | [], ρ, acc => .ok acc ρ
  | d :: ds, ρ, acc => match mt d ρ with
    | none => .stuck
    | some ρ1 => match mtest ρ1 with
      | .ok (.d (.bool true)) ρ2 => match melt ρ2 with
        | .ok (.d y) ρ3 => if acc.length < 100000 then lcN mt mtest melt vs ds (wipeR ρ3 vs) (acc ++ [y]) else .stuck
        | _ => .stuck
      | .ok (.d (.bool false)) ρ2 => lcN mt mtest melt vs ds (wipeR ρ2 vs) acc
      | _ => .stuck
def lcM (mi : Rh → RI) (mt : TGM) (mtest melt : EM) (vs : List Nat) : EM := fun ρ => match mi ρ with
  | .ok ds ρ0 => if vsNone vs ρ0 then match lcN mt mtest melt vs ds ρ0 [] with
      | .ok ys ρ' => .ok (.l ys) ρ'
      | _ => .stuck
    else .stuck
  | .exc x ρ' => .exc x ρ'
  | .stuck => .stuck
abbrev G.inner (g : G) : G := { g with W := fun _ _ _ _ => False }
theorem snd_lc {g : G} {wi : TI} {tg : TG} {tt : TT} {te : TE} {mi : Rh → RI} {mt : TGM} {mtest melt : EM} {vs : List Nat} (hi : SndI g wi mi) (hg : SndGv g.inner vs tg mt) (htt : SndT g.inner tt mtest) (hte : SndE g.inner te melt) :
    SndE g (tLc wi tg tt te vs) (lcM mi mt mtest melt vs) := by
  intro σ ρ F H Q c hp
  refine hi σ ρ F H _ c ?_
  unfold lcM at hp
  cases e : mi ρ with
  | exc x ρ' => rw [e] at hp; exact hp
  | stuck => rw [e] at hp; exact hp
  | ok ds ρ0 =>
    rw [e] at hp
    intro J F0 H0 c0 s0 it Dp hD
    dsimp only at hp
    split at hp
    · rename_i hn
      have fD : F0 Dp = none := by
        cases q : F0 Dp with
        | none => rfl
        | some o => rw [c0.ext _ _ q] at hD; cases hD
      have nD := not_owned c0 hD
      have hHD : H Dp = none := s0.back hD
      -- the invariant, over the slots as they stand around
      refine ⟨fun i n H' => ∃ ρ' F' acc us, n = ds.length - i ∧ i ≤ ds.length ∧ Con g.K σ ρ' F' H' ∧ Same F0 F' ∧ Stp g.P σ ρ F H σ ρ' F' H' ∧ vsNone vs ρ' = true ∧ H' Dp = some (.lst us) ∧ F' Dp = none ∧ ¬ Owned σ ρ' Dp ∧ DvAll g.K F' us acc ∧
        EPost g σ ρ F H Q (match lcN mt mtest melt vs (ds.drop i) ρ' acc with | .ok ys ρ' => .ok (.l ys) ρ' | _ => .stuck), ⟨ds.length, ρ0, F0, [], [], rfl, Nat.zero_le _, c0.looseW fD nD, fun _ _ z => z, ?_, hn, upd_same, fD, nD, .nil, hp⟩, ?_⟩
      · refine s0.trans ⟨fun _ _ z => z, fun b o z _ => ?_, fun _ _ _ z _ => z, fun _ z => .inl z, fun b o z => ?_, fun _ _ => rfl⟩
        · rw [upd_ne (ne_of_none z hD)]; exact z
        · exact ⟨o, by rw [upd_ne (ne_of_none z hD)]; exact z⟩
      · rintro i n H1 ⟨ρ1, F1, acc, us, rfl, hil, c1, f1, s1, hn1, hD1, fD1, nD1, dac, hp1⟩
        obtain ⟨st, go⟩ := it F1 H1 f1 c1.ext
        by_cases hlt : i < ds.length
        · right
          obtain ⟨d, hd⟩ : ∃ d, ds[i]? = some d := ⟨ds[i], List.getElem?_eq_getElem hlt⟩
          obtain ⟨g1, y1⟩ := go i d hd
          have ed : ds.drop i = d :: ds.drop (i + 1) := by
            rw [List.drop_eq_getElem_cons hlt]
            rw [List.getElem?_eq_getElem hlt] at hd
            cases hd
            rfl
          rw [ed] at hp1
          unfold lcN at hp1
          refine ⟨g1, _, fun H' h => ⟨ds.length - (i + 1), by omega, h⟩, fun x H2 hy => ?_⟩
          obtain ⟨F2, n2, dv⟩ := y1 x H2 hy
          have c2 := c1.news n2
          have s2 := s1.trans (Stp.news (K := g.K) (P := g.P) n2)
          have hD2 := n2.ht _ _ hD1
          have fD2 := n2.free _ _ hD1 fD1
          -- within the block
          have ag : ∀ j x, ρ1[j]? = some (some x) → (wipe σ vs)[j]? = σ[j]? := fun j x z => wipe_get (vsNone_at hn1 z)
          have ag' : ∀ j x, ρ1[j]? = some (some x) → σ[j]? = (wipe σ vs)[j]? := fun j x z => (ag j x z).symm
          have cb : Con g.K (wipe σ vs) ρ1 F2 H2 := c2.agree (wipe_length σ vs) ag
          have nDb : ¬ Owned (wipe σ vs) ρ1 Dp := fun z => nD1 (owned_agree ag z)
          cases e2 : mt d ρ1 with
          | none => rw [e2] at hp1; exact hp1.elim
          | some ρ2 =>
            rw [e2] at hp1
            refine hg (wipe σ vs) ρ1 F2 H2 x d ρ2 _ cb dv e2 fun σ3 w3 c3 s3 => ?_
            have w3' : wipe σ3 vs = wipe σ vs := w3.trans (wipe_idem σ vs)
            have l3 : σ3.length = σ.length := by
              have q := congrArg List.length w3'
              rw [wipe_length, wipe_length] at q
              exact q
            refine ⟨w3', ?_⟩
            dsimp only at hp1
            have nD3 : ¬ Owned σ3 ρ2 Dp := s3.not hD2 nDb
            refine htt σ3 ρ2 F2 H2 _ c3 ?_
            -- back from the block
            have out : ∀ {ρ4 : Rh} {F4 H4 : Hp}, Con g.K σ3 ρ4 F4 H4 → Stp g.P σ3 ρ2 F2 H2 σ3 ρ4 F4 H4 → Con g.K σ (wipeR ρ4 vs) F4 H4 ∧ Stp g.P σ ρ F H σ (wipeR ρ4 vs) F4 H4 ∧ vsNone vs (wipeR ρ4 vs) = true ∧ H4 Dp = some (.lst us) ∧ F4 Dp = none ∧ ¬ Owned σ (wipeR ρ4 vs) Dp ∧ Same F0 F4 ∧ Same F1 F4 := by
              intro ρ4 F4 H4 c4 s4
              have ag4 : ∀ j x, (wipeR ρ4 vs)[j]? = some (some x) → σ[j]? = σ3[j]? := fun j x z => by
                have hj := (wipeR_some z).2
                rw [← wipe_get (σ := σ) hj, ← w3', wipe_get hj]
              have s34 := s3.trans s4
              have own4 : ∀ b, Owned σ (wipeR ρ4 vs) b → Owned (wipe σ vs) ρ1 b ∨ H2 b = none := fun b z => s34.own b (owned_less (owned_agree ag4 z))
              refine ⟨(c4.less vs).agree l3.symm ag4, ?_, ?_, s34.keep _ _ hD2 nDb, s34.free _ _ hD2 fD2 nDb, fun z => ?_, fun b o z => s34.fr b o (n2.fr b o (f1 b o z)), fun b o z => s34.fr b o (n2.fr b o z)⟩
              · refine s2.trans ⟨s34.fr, fun b o z n => s34.keep b o z fun q => n (owned_agree ag q), fun b o z1 z2 n => s34.free b o z1 z2 fun q => n (owned_agree ag q), fun b z => ?_, s34.dom, fun _ _ => rfl⟩
                rcases own4 b z with q | q
                · exact .inl (owned_agree ag q)
                · exact .inr q
              · exact vsNone_wipe fun j hj => by rw [← c4.len, l3, c1.len]; exact vsNone_lt hn1 hj
              · rcases own4 _ z with q | q
                · exact nDb q
                · rw [hD2] at q; cases q
            cases e3 : mtest ρ2 with
            | exc x ρ3 => rw [e3] at hp1; exact hp1.elim
            | stuck => rw [e3] at hp1; exact hp1.elim
            | ok v ρ3 =>
              rw [e3] at hp1
              cases v with
              | l l => exact hp1.elim
              | d dd =>
                cases dd with
                | bool k =>
                  intro y F3 H3 c3' s3' iv
                  refine ⟨k, dv_bool iv, ?_⟩
                  cases k with
                  | false =>
                    rw [if_neg Bool.false_ne_true]
                    obtain ⟨a1, a2, a3, a4, a5, a6, a7, a8⟩ := out c3' s3'
                    exact ⟨_, F3, acc, us, rfl, hlt, a1, a7, a2, a3, a4, a5, a6, dvAll_mono a8 acc us dac, hp1⟩
                  | true =>
                    rw [if_pos rfl]
                    refine hte σ3 ρ3 F3 H3 _ c3' ?_
                    dsimp only at hp1
                    cases e4 : melt ρ3 with
                    | exc x ρ4 => rw [e4] at hp1; exact hp1.elim
                    | stuck => rw [e4] at hp1; exact hp1.elim
                    | ok v ρ4 =>
                      rw [e4] at hp1
                      cases v with
                      | l l => exact hp1.elim
                      | d y' =>
                        intro z F4 H4 c4 s4 iz
                        dsimp only at hp1
                        by_cases hsz : acc.length < 100000
                        · rw [if_pos hsz] at hp1
                          obtain ⟨a1, a2, a3, a4, a5, a6, a7, a8⟩ := out c4 (s3'.trans s4)
                          have dac' := dvAll_mono a8 acc us dac
                          refine ⟨us, a4, by rw [DvAll.length dac]; exact Nat.lt_of_lt_of_le hsz (line_of (Nat.le_refl _)), _, F4, acc ++ [y'], us ++ [z], rfl, hlt, a1.looseW a5 a6, a7, ?_, a3, upd_same, a5, a6, dac'.append (.cons iz .nil), hp1⟩
                          refine ⟨a2.fr, fun b o z1 z2 => ?_, a2.free, a2.own, fun b o z1 => ?_, a2.pin⟩
                          · rw [upd_ne (ne_of_none z1 hHD)]; exact a2.keep b o z1 z2
                          · rw [upd_ne (ne_of_none z1 hHD)]; exact a2.dom b o z1
                        · rw [if_neg hsz] at hp1
                          exact hp1.elim
                | _ => exact hp1.elim
        · left
          have ei : i = ds.length := by omega
          subst ei
          rw [List.drop_length] at hp1
          exact ⟨st _ (Nat.le_refl _), hp1 _ F1 H1 c1 s1 ⟨Dp, us, rfl, fD1, hD1, dac, nD1, .inr hHD⟩⟩
    · exact hp.elim
end DL
set_option Elab.async false
set_option linter.all false
set_option maxRecDepth 100000
set_option maxHeartbeats 2000000
set_option autoImplicit false
/-! DL7: defs and their calls. -/
namespace DL
open PySem PySem.Spec PyProof.Rows L2

/-! ### a def's promise, where nothing is being shown by repr around -/
structure FnG (P : Program) (w : World) (K : PySem.W.Frag) (mg : Str → Option Value) (base : Heap) (k : Nat) (f : Addr) (fd : FuncData) (ps : List Str) (sp : Sp) : Prop where
  len : ∀ vs H Q E, sp vs H Q E → vs.length = ps.length
  run : ∀ (A : Around) (outer : List Env) (s : Shared) (H : Hp) (args : Args) (us : List Value) (vs : List V) (Q : VK) (E : XK), Room k A → A.guards = some [] → Env0 P w K mg base A outer s H → BindsTo s fd args (ps.zip us) → Vals vs us → sp vs H Q E →
    codeAny (model P w) A (.call (.ref f) args) (CR (L2.CX P w) outer P w H s Q E) s
theorem FnG.mono {P : Program} {w : World} {K : PySem.W.Frag} {mg : Str → Option Value} {base : Heap} {j k : Nat} {f : Addr} {fd : FuncData} {ps : List Str} {sp : Sp} (F : FnG P w K mg base j f fd ps sp) (h : j ≤ k) : FnG P w K mg base k f fd ps sp :=
  ⟨F.len, fun A outer s H args us vs Q E hr => F.run A outer s H args us vs Q E (hr.mono h)⟩
theorem fng_of {P : Program} {w : World} {K : PySem.W.Frag} {mg : Str → Option Value} {base : Heap} {k : Nat} {name qual : Str} {st : Stmt} {f : Addr} {fd : FuncData} {N ps : List Str} {sp : Sp} (Fn : Fun K name qual st f fd) (S : FnScope N ps (defScope st))
    (len : ∀ vs H Q E, sp vs H Q E → vs.length = ps.length)
    (body : ∀ (cdv : Value) (A : Around) (outer : List Env) (s : Shared) (H : Hp) (vs : List V) (Q : VK) (E : XK), Room k (A.deeper (envOfC qual (defScope st) s.heap.objs.size f cdv)) → A.guards = some [] → sp vs H Q E →
      ∃ t, PSs (cxOf (L2.CX P w) P w K mg base N qual (defScope st) f cdv A outer s H E) (defBody st) t ∧ t { nx := fun _ H' => Q .non H', rt := Q } (L2.start N vs) H) : FnG P w K mg base (k + 1) f fd ps sp := by
  obtain ⟨oc, od, kV, doc, pm, an, cdv, ct, osl, rfl, lk, hcd⟩ := Fn.ex
  refine ⟨len, fun A outer s H args us vs Q E room gd e0 bd rv asked => ?_⟩
  have vl := len _ _ _ _ asked
  have here : ∀ b o, base.get? b = some o → s.heap.get? b = some o := fun b o e => (e0.bs b o e).1
  have params : ∀ y ∈ ps.zip us, (defScope st).names.lookup y.1 = some .local ∨ ((defScope st).names.lookup y.1 = some .cell ∧ ((cellsFrom (s.heap.objs.size + 1) (defScope st).names []).lookup y.1).isSome = true) := by
    rintro ⟨n, v⟩ hy
    rcases S.par n (List.of_mem_zip hy).1 with q | q
    · exact Or.inl q
    · exact Or.inr ⟨q, PySem.W.cellsFrom_some _ _ _ (Or.inl q)⟩
  refine codeAny_call_function room.depth (e0.mod.kin.keeps here _ _ lk) rfl S.co S.gen rfl (PySem.W.codeRec_of (e0.mod.kin.keeps here) hcd) (bd _ _ _ _ ?_)
  refine wpAny_newFunctionEnv_cells S.kind params fun env he s1 x => ?_
  subst he
  refine ⟨(e0.mod.nolimit.keeps here).keeps x.toInCall.keep, codeAny_func ?_⟩
  obtain ⟨t, pss, tq⟩ := body cdv A outer s H vs Q E (room.deeper _) gd asked
  refine wpAny_mono (pss.run [] s1 (L2.start N vs) H _ (inv_start S room.hd e0 vl rv x) tq) (fun fl s' z => ?_) fun e s' z => z
  have done : ∀ {σ' : St} {H' : Hp} {v : V} {u : Value}, Inv (cxOf (L2.CX P w) P w K mg base N qual (defScope st) f cdv A outer s H E) [] σ' H' s' → RelV v u → Q v H' → CE outer P w H s Q u s' :=
    fun {σ' H' v u} J r q => ⟨v, H', J.os, J.bare, J.base, J.hok, r, q⟩
  match fl, z with
  | .ret u, ⟨v, σ', H', J, r, q⟩ => exact done J r q
  | .next, ⟨σ', H', J, q⟩ => exact done (v := V.non) (u := Value.none) J rfl q
  | .brk, ⟨_, _, _, q⟩ => exact q.elim
  | .cont, ⟨_, _, _, q⟩ => exact q.elim
section
variable {X : Cx} {k : Nat} {f : Addr} {fd : FuncData} {ps : List Str} {sp : Sp} {W : WX} {x : Str} {p pos : Pos} {e : Expr} {es : List Expr} {t : TA}
theorem run_g {pins : List (Addr × Obj)} {σ : St} {H : Hp} {s : Shared} {Q : VK} {us : List Value} {vs : List V} (F : FnG X.prog X.w X.K X.mg X.base k f fd ps sp) (room : Room k X.A) (gd : X.A.guards = some []) (bd : Binds X.K fd ps []) (tk : Takes X W)
    (I : Inv X pins σ H s) (r : Vals vs us) (h : sp vs H Q (WE W σ)) : wpAny (model X.prog X.w) X.A (call (.ref f) us) (EP X pins σ Q) X.xe s := by
  have ul : us.length = ps.length := r.length.symm.trans (F.len _ _ _ _ h)
  have b := bd s us I.kIn (by rw [List.append_nil]; exact ul)
  rw [List.append_nil] at b
  refine wpAny_call (codeAny_mono (F.run X.A X.stack s H ⟨us, []⟩ us vs Q (WE W σ) room gd I.env0 b r h) fun r s' z => ?_)
  match r, z with
  | .error e, z => exact passAt tk σ pins H s e s' I z
  | .ok (.ret u), z => exact I.after z
  | .ok .next, z => exact z.elim
  | .ok .brk, z => exact z.elim
  | .ok .cont, z => exact z.elim
theorem pe_callG (F : FnG X.prog X.w X.K X.mg X.base k f fd ps sp) (room : Room k X.A) (gd : X.A.guards = some []) (hg : Gl X x) (hm : X.mg x = some (.ref f)) (hk : PySem.W.keepIn X.K (.ref f) = true) (bd : Binds X.K fd ps []) (tk : Takes X W)
    (ha : PA X (e :: es) t) (hdb : (x == ("__debug__" : Str)) = false := by decide) (he : starEach (e :: es) X.env = (false, eval e X.env) :: starEach es X.env := by rfl) (hpl : (backTo pos (starEach es X.env)).any (·.1) = false := by rfl) :
    PE X (.Call (.Name x p) (e :: es) [] pos) (tCallS sp (WE W) t) := by
  refine ⟨fun pins s σ H Q I h => wpAny_Call_Name_kw (ld_glob I hg hm ?_ hdb)⟩
  refine PySem.W.callWith_K (h₀ := X.base) I.ok.mod.kin hk (thn (ha.run pos pins s σ H _ I h) fun us s1 ⟨vs, H1, I1, r, q⟩ => ⟨I1.kIn, run_g F room gd bd tk I1 r q⟩) he hpl
end

/-! ### promises on data -/
abbrev FM := List Slot → R (List Slot)
abbrev argsSt (vs : List V) : St := vs.map some
abbrev argsRh (ss : List Slot) : Rh := ss.map some
def FPost (K : PySem.W.Frag) (mg : Str → Option Value) (vs : List V) (ss : List Slot) (F H : Hp) (Q : VK) (E : XK) : R (List Slot) → Prop
  | .ok v ss' => ∀ x F' H', Con K (argsSt vs) (argsRh ss') F' H' → Stp [] (argsSt vs) (argsRh ss) F H (argsSt vs) (argsRh ss') F' H' → ValIs K (argsSt vs) (argsRh ss) H (argsSt vs) (argsRh ss') F' H' x v → Q x H'
  | .exc e ss' => ∀ cls dd F' H', Con K (argsSt vs) (argsRh ss') F' H' → Stp [] (argsSt vs) (argsRh ss) F H (argsSt vs) (argsRh ss') F' H' → XnIs K mg F' H' e cls dd → E cls dd H'
  | .stuck => False
def spD (K : PySem.W.Frag) (mg : Str → Option Value) (n : Nat) (m : FM) : Sp := fun vs H Q E => ∃ (ss : List Slot) (F : Hp), ss.length = n ∧ Con K (argsSt vs) (argsRh ss) F H ∧ FPost K mg vs ss F H Q E (m ss)
/-- what is left of the arguments -/
def backS (P : List Nat) : Nat → List Slot → Rh → Option (List Slot)
  | _, [], _ => some []
  | i, .dat d :: r, ρ => (backS P (i + 1) r ρ).map (.dat d :: ·)
  | i, .own _ :: r, ρ => if i ∈ P then match ρ[i]? with
      | some (some (.own ds)) => (backS P (i + 1) r ρ).map (.own ds :: ·)
      | _ => none
    else none
def fnM (P : List Nat) (N : Nat) (body : SM) : FM := fun ss => match body (argsRh ss ++ List.replicate (N - ss.length) none) with
  | .ret v ρ' => match backS P 0 ss ρ' with
    | some ss' => .ok v ss'
    | none => .stuck
  | .nx ρ' => match backS P 0 ss ρ' with
    | some ss' => .ok (.d .none) ss'
    | none => .stuck
  | .exc x ρ' => match backS P 0 ss ρ' with
    | some ss' => .exc x ss'
    | none => .stuck
  | _ => .stuck
theorem backS_get {P : List Nat} {ρ : Rh} : ∀ {ss : List Slot} {i : Nat} {ss' : List Slot}, backS P i ss ρ = some ss' → ss'.length = ss.length ∧
    ∀ j, (∀ d, ss'[j]? = some (.dat d) → ss[j]? = some (.dat d)) ∧ ∀ ds, ss'[j]? = some (.own ds) → i + j ∈ P ∧ ρ[i + j]? = some (some (.own ds)) ∧ ∃ es, ss[j]? = some (.own es)
  | [], i, ss', h => by
    cases h
    exact ⟨rfl, fun j => ⟨fun d z => by simp at z, fun ds z => by simp at z⟩⟩
  | .dat d :: r, i, ss', h => by
    simp only [backS, Option.map_eq_some_iff] at h
    obtain ⟨r', h, rfl⟩ := h
    obtain ⟨l, q⟩ := backS_get h
    refine ⟨by simp [l], fun j => ?_⟩
    cases j with
    | zero => exact ⟨fun d' z => z, fun ds z => by simp at z⟩
    | succ j =>
      obtain ⟨q1, q2⟩ := q j
      refine ⟨fun d' z => by simpa using q1 d' (by simpa using z), fun ds z => ?_⟩
      obtain ⟨a, b, c⟩ := q2 ds (by simpa using z)
      rw [show i + (j + 1) = i + 1 + j by omega]
      exact ⟨a, b, by simpa using c⟩
  | .own es :: r, i, ss', h => by
    simp only [backS] at h
    split at h
    · rename_i hp
      split at h
      · rename_i ds0 e0
        simp only [Option.map_eq_some_iff] at h
        obtain ⟨r', h, rfl⟩ := h
        obtain ⟨l, q⟩ := backS_get h
        refine ⟨by simp [l], fun j => ?_⟩
        cases j with
        | zero =>
          refine ⟨fun d' z => by simp at z, fun ds z => ?_⟩
          simp at z
          subst z
          exact ⟨hp, e0, es, rfl⟩
        | succ j =>
          obtain ⟨q1, q2⟩ := q j
          refine ⟨fun d' z => by simpa using q1 d' (by simpa using z), fun ds z => ?_⟩
          obtain ⟨a, b, c⟩ := q2 ds (by simpa using z)
          rw [show i + (j + 1) = i + 1 + j by omega]
          exact ⟨a, b, by simpa using c⟩
      · cases h
    · cases h
theorem getmap {α : Type} {l : List α} {i : Nat} {x : α} : (l.map some)[i]? = some (some x) ↔ l[i]? = some x := by
  rw [List.getElem?_map]
  cases l[i]? <;> simp
theorem getapp {α : Type} {l : List α} {n i : Nat} {x : α} : (l.map some ++ List.replicate n (none : Option α))[i]? = some (some x) ↔ l[i]? = some x := by
  by_cases h : i < l.length
  · rw [List.getElem?_append_left (by simpa using h)]
    exact getmap
  · rw [List.getElem?_append_right (by simpa using h), List.getElem?_replicate, List.getElem?_eq_none (by omega)]
    split <;> simp
/-- the state at a def's entry -/
theorem con_start {K : PySem.W.Frag} {vs : List V} {ss : List Slot} {F H : Hp} {N : List Str} (c : Con K (argsSt vs) (argsRh ss) F H) : Con K (L2.start N vs) (argsRh ss ++ List.replicate (N.length - ss.length) none) F H where
  ext := c.ext
  len := by
    have q := c.len
    unfold L2.start
    simp only [List.length_map] at q
    simp only [List.length_append, List.length_map, List.length_replicate]
    omega
  dat := fun i d e => by
    obtain ⟨v, q, r⟩ := c.dat i d (getmap.mpr (getapp.mp e))
    exact ⟨v, getapp.mpr (getmap.mp q), r⟩
  own := fun i ds e => by
    obtain ⟨p, us, q, r⟩ := c.own i ds (getmap.mpr (getapp.mp e))
    exact ⟨p, us, getapp.mpr (getmap.mp q), r⟩
  sep := fun i j a b p n e1 e2 q1 q2 => c.sep i j a b p n (getmap.mpr (getapp.mp e1)) (getmap.mpr (getapp.mp e2)) (getmap.mpr (getapp.mp q1)) (getmap.mpr (getapp.mp q2))
theorem owned_start {vs : List V} {ss : List Slot} {N : List Str} {b : Addr} : Owned (L2.start N vs) (argsRh ss ++ List.replicate (N.length - ss.length) none) b ↔ Owned (argsSt vs) (argsRh ss) b := by
  constructor
  · rintro ⟨i, ds, e, q⟩
    exact ⟨i, ds, getmap.mpr (getapp.mp e), getmap.mpr (getapp.mp q)⟩
  · rintro ⟨i, ds, e, q⟩
    exact ⟨i, ds, getapp.mpr (getmap.mp e), getapp.mpr (getmap.mp q)⟩
section
variable {K : PySem.W.Frag} {mg : Str → Option Value} {vs : List V} {ss ss' : List Slot} {F H F' H' : Hp} {N : List Str} {P : List Nat} {σ' : St} {ρ' : Rh}
theorem owned_back (c0 : Con K (argsSt vs) (argsRh ss) F H) (s : Stp P (L2.start N vs) (argsRh ss ++ List.replicate (N.length - ss.length) none) F H σ' ρ' F' H') (hb : backS P 0 ss ρ' = some ss') {b : Addr} (o : Owned (argsSt vs) (argsRh ss') b) :
    Owned σ' ρ' b ∧ Owned (argsSt vs) (argsRh ss) b := by
  obtain ⟨i, ds, e, q⟩ := o
  obtain ⟨l, g⟩ := backS_get hb
  obtain ⟨hp, er, es, e'⟩ := (g i).2 ds (getmap.mp e)
  rw [Nat.zero_add] at hp er
  refine ⟨⟨i, ds, er, ?_⟩, ⟨i, es, getmap.mpr e', q⟩⟩
  rw [s.pin i hp]
  exact getapp.mpr (getmap.mp q)
theorem con_back (c0 : Con K (argsSt vs) (argsRh ss) F H) (c : Con K σ' ρ' F' H') (s : Stp P (L2.start N vs) (argsRh ss ++ List.replicate (N.length - ss.length) none) F H σ' ρ' F' H') (hb : backS P 0 ss ρ' = some ss') :
    Con K (argsSt vs) (argsRh ss') F' H' ∧ Stp [] (argsSt vs) (argsRh ss) F H (argsSt vs) (argsRh ss') F' H' := by
  obtain ⟨l, g⟩ := backS_get hb
  have pinned : ∀ i, i ∈ P → ∀ p, (argsSt vs)[i]? = some (some (.ref p)) → σ'[i]? = some (some (.ref p)) := fun i hi p q => by
    rw [s.pin i hi]
    exact getapp.mpr (getmap.mp q)
  refine ⟨⟨c.ext, ?_, fun i d e => ?_, fun i ds e => ?_, fun i j a b p n e1 e2 q1 q2 => ?_⟩, ⟨s.fr, fun b o e n => s.keep b o e fun z => n (owned_start.mp z), fun b o e1 e2 n => s.free b o e1 e2 fun z => n (owned_start.mp z), fun b z => .inl (owned_back c0 s hb z).2, s.dom, fun _ z => by cases z⟩⟩
  · have q := c0.len
    simp only [List.length_map] at q ⊢
    omega
  · obtain ⟨v, q, r⟩ := c0.dat i d (getmap.mpr ((g i).1 d (getmap.mp e)))
    exact ⟨v, q, dv_mono s.fr d v r⟩
  · obtain ⟨hp, er, es, e'⟩ := (g i).2 ds (getmap.mp e)
    rw [Nat.zero_add] at hp er
    obtain ⟨p, us, q, _⟩ := c0.own i es (getmap.mpr e')
    obtain ⟨p', us', q', f', h', a'⟩ := c.own i ds er
    rw [pinned i hp p q] at q'
    cases q'
    exact ⟨p, us', q, f', h', a'⟩
  · obtain ⟨hp, er, es, e'⟩ := (g i).2 a (getmap.mp e1)
    obtain ⟨hp2, er2, es2, e2'⟩ := (g j).2 b (getmap.mp e2)
    exact c0.sep i j es es2 p n (getmap.mpr e') (getmap.mpr e2') q1 q2
theorem val_back (c0 : Con K (argsSt vs) (argsRh ss) F H) (s : Stp P (L2.start N vs) (argsRh ss ++ List.replicate (N.length - ss.length) none) F H σ' ρ' F' H') (hb : backS P 0 ss ρ' = some ss') {x : V} {v : Val}
    (h : ValIs K (L2.start N vs) (argsRh ss ++ List.replicate (N.length - ss.length) none) H σ' ρ' F' H' x v) : ValIs K (argsSt vs) (argsRh ss) H (argsSt vs) (argsRh ss') F' H' x v := by
  cases v with
  | d d => exact h
  | l ds =>
    obtain ⟨p, us, e, f, q, a, n, o⟩ := h
    refine ⟨p, us, e, f, q, a, fun z => n (owned_back c0 s hb z).1, ?_⟩
    rcases o with o | o
    · exact .inl (owned_start.mp o)
    · exact .inr o
end
/-- a block on data -/
def PSsD (X : Cx) (W : WX) (P : List Nat) (sts : List Stmt) (m : SM) : Prop := ∃ t, PSs X sts t ∧ SndS ⟨X.K, X.mg, W, P⟩ t m
/-- THE RULE of a def: its body on data -/
theorem fnd_body {P : Program} {w : World} {K : PySem.W.Frag} {mg : Str → Option Value} {base : Heap} {k : Nat} {name qual : Str} {st : Stmt} {f : Addr} {fd : FuncData} {N ps : List Str} {pin : List Nat} {m : SM} (Fn : Fun K name qual st f fd) (S : FnScope N ps (defScope st))
    (body : ∀ (cdv : Value) (A : Around) (outer : List Env) (s : Shared) (H : Hp) (E : XK), Room k (A.deeper (envOfC qual (defScope st) s.heap.objs.size f cdv)) → A.guards = some [] →
      PSsD (cxOf (L2.CX P w) P w K mg base N qual (defScope st) f cdv A outer s H E) (fun cls d _ H => E cls d H) pin (defBody st) m) : FnG P w K mg base (k + 1) f fd ps (spD K mg ps.length (fnM pin N.length m)) := by
  refine fng_of Fn S (fun vs H Q E h => ?_) fun cdv A outer s H vs Q E room gd asked => ?_
  · obtain ⟨ss, F, hl, c, _⟩ := h
    have q := c.len
    simp only [List.length_map] at q
    omega
  · obtain ⟨ss, F, hl, c, hp⟩ := asked
    obtain ⟨t, pss, snd⟩ := body cdv A outer s H E room gd
    refine ⟨t, pss, snd _ (L2.start N vs) (argsRh ss ++ List.replicate (N.length - ss.length) none) F H (con_start c) ?_⟩
    unfold fnM at hp
    cases e : m (argsRh ss ++ List.replicate (N.length - ss.length) none) with
    | ret v ρ' =>
      rw [e] at hp
      cases eb : backS pin 0 ss ρ' with
      | none => simp only [eb] at hp; exact hp.elim
      | some ss' =>
        simp only [eb] at hp
        exact fun x σ' F' H' c' s' iv => hp x F' H' (con_back c c' s' eb).1 (con_back c c' s' eb).2 (val_back c s' eb iv)
    | nx ρ' =>
      rw [e] at hp
      cases eb : backS pin 0 ss ρ' with
      | none => simp only [eb] at hp; exact hp.elim
      | some ss' =>
        simp only [eb] at hp
        exact fun σ' F' H' c' s' => hp .non F' H' (con_back c c' s' eb).1 (con_back c c' s' eb).2 .non
    | exc x ρ' =>
      rw [e] at hp
      cases eb : backS pin 0 ss ρ' with
      | none => simp only [eb] at hp; exact hp.elim
      | some ss' =>
        simp only [eb] at hp
        exact fun cls dd σ' F' H' c' s' ix => hp cls dd F' H' (con_back c c' s' eb).1 (con_back c c' s' eb).2 ix
    | brk ρ' => rw [e] at hp; exact hp.elim
    | ct ρ' => rw [e] at hp; exact hp.elim
    | stuck => rw [e] at hp; exact hp.elim

/-! ### calls on data -/
/-- all arguments data -/
def callD (n : Nat) (f : FM) (ms : LM) : EM := fun ρ => match ms ρ with
  | .ok vs ρ1 => match datL vs with
    | some ds => if ds.length = n then match f (ds.map .dat) with
      | .ok v _ => .ok v ρ1
      | .exc x _ => .exc x ρ1
      | .stuck => .stuck
      else .stuck
    | none => .stuck
  | .exc x ρ1 => .exc x ρ1
  | .stuck => .stuck
def allDat (ss : List Slot) : Bool := ss.all fun s => match s with
  | .dat _ => true
  | .own _ => false
/-- what a callee has made of the list in slot i -/
def backO (i : Nat) (ρ1 : Rh) : R (List Slot) → R Rh
  | .ok v (.own os' :: ss) => if allDat ss then .ok v (ρ1.set i (some (.own os'))) else .stuck
  | .exc x (.own os' :: ss) => if allDat ss then .exc x (ρ1.set i (some (.own os'))) else .stuck
  | _ => .stuck
/-- the first argument a list of the def's own that the callee may change, the others data -/
def callO (n : Nat) (f : FM) (i : Nat) (ms : LM) : EM := fun ρ => match ρ[i]? with
  | some (some (.own _)) => match ms ρ with
    | .ok vs ρ1 => match datL vs with
      | some ds => match ρ1[i]? with
        | some (some (.own os)) => if ds.length + 1 = n then backO i ρ1 (f (.own os :: ds.map .dat)) else .stuck
        | _ => .stuck
      | none => .stuck
    | .exc x ρ1 => .exc x ρ1
    | .stuck => .stuck
  | _ => .stuck
/-- one argument, a new list -/
def callL (f : FM) (m : EM) : EM := fun ρ => match m ρ with
  | .ok (.l ds) ρ1 => match f [.own ds] with
    | .ok (.d d) _ => .ok (.d d) ρ1
    | .exc x _ => .exc x ρ1
    | _ => .stuck
  | .ok _ _ => .stuck
  | .exc x ρ1 => .exc x ρ1
  | .stuck => .stuck
/-- the first argument as in callO, the second one a list of the def's own that is read as data: a flat answer -/
def flatBack (i : Nat) (ρ : Rh) : R (List Slot) → R Rh
  | .ok (.d d) (.own os' :: ss) => if flatD d && os'.all flatD && allDat ss then .ok (.d d) (ρ.set i (some (.own os'))) else .stuck
  | _ => .stuck
def callOV (f : FM) (i j : Nat) : EM := fun ρ => match ρ[i]? with
  | some (some (.own os)) => match ρ[j]? with
    | some (some (.own es)) => if i = j then .stuck else flatBack i ρ (f [.own os, .dat (.list es)])
    | _ => .stuck
  | _ => .stuck
section
variable {K : PySem.W.Frag} {mg : Str → Option Value}
theorem dvs_at {F : Hp} : ∀ {ds : List D} {vs : List V} {i : Nat} {d : D}, DvAll K F vs ds → (ds.map Slot.dat)[i]? = some (.dat d) → ∃ v, vs[i]? = some v ∧ Dv K F v d := by
  intro ds vs i d h e
  rw [List.getElem?_map] at e
  obtain ⟨d', h', e'⟩ := Option.map_eq_some_iff.mp e
  cases e'
  exact DvAll.get h h'
theorem dvs_vOf {F : Hp} : ∀ {ds : List D}, ds.all flatD = true → DvAll K F (ds.map vOf) ds
  | [], _ => .nil
  | d :: ds, h => by
    rw [List.all_cons, Bool.and_eq_true] at h
    exact .cons (dv_vOf h.1) (dvs_vOf h.2)
theorem dat_no_own {ds : List D} {i : Nat} {es : List D} : (ds.map Slot.dat)[i]? ≠ some (.own es) := fun e => by
  rw [List.getElem?_map] at e
  obtain ⟨d', _, e'⟩ := Option.map_eq_some_iff.mp e
  cases e'
theorem con_args {F H : Hp} {vs : List V} {ds : List D} (e : Same F H) (h : DvAll K F vs ds) : Con K (argsSt vs) (argsRh (ds.map .dat)) F H where
  ext := e
  len := by simp only [List.length_map]; exact DvAll.length h
  dat := fun i d q => by
    obtain ⟨v, q1, r⟩ := dvs_at h (getmap.mp q)
    exact ⟨v, getmap.mpr q1, r⟩
  own := fun i es q => absurd (getmap.mp q) dat_no_own
  sep := fun i j a b p n q => absurd (getmap.mp q) dat_no_own
theorem con_args1 {F H : Hp} {vs us : List V} {ds os : List D} {p : Addr} (e : Same F H) (h : DvAll K F vs ds) (f : F p = none) (hp : H p = some (.lst us)) (a : DvAll K F us os) : Con K (argsSt (.ref p :: vs)) (argsRh (.own os :: ds.map .dat)) F H where
  ext := e
  len := by simp only [List.length_map, List.length_cons, DvAll.length h]
  dat := fun i d q => by
    cases i with
    | zero => simp at q
    | succ i =>
      obtain ⟨v, q1, r⟩ := dvs_at h (i := i) (d := d) (by simpa using getmap.mp q)
      exact ⟨v, getmap.mpr (by simpa using q1), r⟩
  own := fun i es q => by
    cases i with
    | zero =>
      simp at q
      subst q
      exact ⟨p, us, rfl, f, hp, a⟩
    | succ i => exact absurd (show (ds.map Slot.dat)[i]? = some (.own es) by simpa using getmap.mp q) dat_no_own
  sep := fun i j x y b n q1 q2 => by
    cases i with
    | zero =>
      cases j with
      | zero => exact absurd rfl n
      | succ j => exact absurd (show (ds.map Slot.dat)[j]? = some (.own y) by simpa using getmap.mp q2) dat_no_own
    | succ i => exact absurd (show (ds.map Slot.dat)[i]? = some (.own x) by simpa using getmap.mp q1) dat_no_own
theorem owned_args {vs : List V} {ds : List D} {b : Addr} : ¬ Owned (argsSt vs) (argsRh (ds.map .dat)) b := fun ⟨i, es, q, _⟩ => dat_no_own (getmap.mp q)
theorem owned_args1 {vs : List V} {ss : List Slot} {os : List D} {p b : Addr} (hs : ∀ (i : Nat) es, ss[i]? ≠ some (.own es)) : Owned (argsSt (.ref p :: vs)) (argsRh (.own os :: ss)) b ↔ b = p := by
  constructor
  · rintro ⟨i, es, q, r⟩
    cases i with
    | zero =>
      simp at r
      exact r.symm
    | succ i => exact absurd (show ss[i]? = some (.own es) by simpa using getmap.mp q) (hs i es)
  · rintro rfl
    exact ⟨0, os, rfl, rfl⟩
end
section
variable {g : G} {f : FM} {n : Nat} {te : TE} {ta : TA} {m : EM} {ms : LM}
theorem snd_callD (ha : SndA g ta ms) : SndE g (tCallS (spD g.K g.mg n f) (WE g.W) ta) (callD n f ms) := by
  intro σ ρ F H Q c hp
  refine ha σ ρ F H _ c ?_
  unfold callD at hp
  cases e : ms ρ with
  | exc x ρ1 => rw [e] at hp; exact hp
  | stuck => rw [e] at hp; exact hp
  | ok vals ρ1 =>
    rw [e] at hp
    intro vs F1 H1 c1 s1 i1
    cases e2 : datL vals with
    | none => simp only [e2] at hp; exact hp.elim
    | some ds =>
      simp only [e2] at hp
      have h := i1.dat e2
      by_cases hl : ds.length = n
      · rw [if_pos hl] at hp
        refine ⟨ds.map .dat, F1, by rw [List.length_map]; exact hl, con_args c1.ext h, ?_⟩
        -- nothing of what stands is the callee's
        have out : ∀ {ss' : List Slot} {F' H' : Hp}, Con g.K (argsSt vs) (argsRh ss') F' H' → Stp [] (argsSt vs) (argsRh (ds.map .dat)) F1 H1 (argsSt vs) (argsRh ss') F' H' → Con g.K σ ρ1 F' H' ∧ Stp g.P σ ρ F H σ ρ1 F' H' := by
          intro ss' F' H' c' s'
          have nw : News F1 H1 F' H' := ⟨s'.fr, fun b o z => s'.keep b o z owned_args, c'.ext, fun b o z1 z2 => s'.free b o z1 z2 owned_args⟩
          exact ⟨c1.news nw, s1.trans (Stp.news (K := g.K) nw)⟩
        cases er : f (ds.map .dat) with
        | stuck => simp only [er] at hp; exact hp.elim
        | exc x ss' =>
          simp only [er] at hp
          intro cls dd F' H' c' s' ix
          obtain ⟨a1, a2⟩ := out c' s'
          exact hp cls dd F' H' a1 a2 ix
        | ok v ss' =>
          simp only [er] at hp
          intro x F' H' c' s' iv
          obtain ⟨a1, a2⟩ := out c' s'
          refine hp x F' H' a1 a2 ?_
          cases v with
          | d d => exact iv
          | l l =>
            obtain ⟨p, us, e1, e2, e3, e4, _, o⟩ := iv
            have hn : H1 p = none := by
              rcases o with o | o
              · exact absurd o owned_args
              · exact o
            refine ⟨p, us, e1, e2, e3, e4, fun z => ?_, .inr (s1.back hn)⟩
            exact not_owned c1 hn z
      · rw [if_neg hl] at hp
        exact hp.elim
theorem all_dat {ss : List Slot} (h : allDat ss = true) : ∀ (i : Nat) es, ss[i]? ≠ some (.own es) := fun i es e => by
  unfold allDat at h
  rw [List.all_eq_true] at h
  have q := h _ (List.mem_of_getElem? e)
  cases q
/-- behind a call that may have changed the list at p -/
theorem after_own {i : Nat} {σ : St} {ρ1 : Rh} {F1 H1 F' H' : Hp} {vs : List V} {ds os os' : List D} {ss : List Slot} {p : Addr} (c1 : Con g.K σ ρ1 F1 H1) (eo : ρ1[i]? = some (some (.own os))) (q : σ[i]? = some (some (.ref p)))
    (hs : ∀ (i : Nat) es, ss[i]? ≠ some (.own es)) (c' : Con g.K (argsSt (.ref p :: vs)) (argsRh (.own os' :: ss)) F' H') (s' : Stp [] (argsSt (.ref p :: vs)) (argsRh (.own os :: ds.map .dat)) F1 H1 (argsSt (.ref p :: vs)) (argsRh (.own os' :: ss)) F' H') :
    (Con g.K σ (ρ1.set i (some (.own os'))) F' H' ∧ Stp g.P σ ρ1 F1 H1 σ (ρ1.set i (some (.own os'))) F' H') ∧ ∀ b, Owned σ (ρ1.set i (some (.own os'))) b → Owned σ ρ1 b := by
  have ow : ∀ b, Owned (argsSt (.ref p :: vs)) (argsRh (.own os :: ds.map .dat)) b ↔ b = p := fun b => owned_args1 fun _ _ => dat_no_own
  have back : ∀ (j : Nat) (es : List D), (ρ1.set i (some (Slot.own os')))[j]? = some (some (.own es)) → ∃ es', ρ1[j]? = some (some (.own es')) := fun j es z => by
    by_cases hj : i = j
    · subst hj; exact ⟨os, eo⟩
    · rw [get_set_ne hj] at z; exact ⟨es, z⟩
  have mine : Owned σ ρ1 p := Owned.of eo q
  refine ⟨⟨⟨c'.ext, by rw [List.length_set]; exact c1.len, fun j d z => ?_, fun j es z => ?_, fun j k x y b hn z1 z2 => ?_⟩, ⟨s'.fr, fun b o z n => s'.keep b o z fun w => n (by rw [(ow b).mp w]; exact mine), fun b o z1 z2 n => s'.free b o z1 z2 fun w => n (by rw [(ow b).mp w]; exact mine), fun b ⟨j, es, z1, z2⟩ => ?_, s'.dom, fun _ _ => rfl⟩⟩, fun b ⟨j, es, z1, z2⟩ => ?_⟩
  · by_cases hj : i = j
    · subst hj; rw [get_set_self eo] at z; cases z
    · rw [get_set_ne hj] at z
      obtain ⟨v, q1, r1⟩ := c1.dat j d z
      exact ⟨v, q1, dv_mono s'.fr d v r1⟩
  · by_cases hj : i = j
    · subst hj
      rw [get_set_self eo] at z
      cases z
      obtain ⟨p', us', q', f', h', a'⟩ := c'.own 0 os' rfl
      cases q'
      exact ⟨p, us', q, f', h', a'⟩
    · rw [get_set_ne hj] at z
      obtain ⟨b, ws, q1, f1, h1, a1⟩ := c1.own j es z
      have hb : b ≠ p := fun w => by
        rw [w] at q1
        exact c1.sep i j os es p hj eo z q q1
      have nb : ¬ Owned (argsSt (.ref p :: vs)) (argsRh (.own os :: ds.map .dat)) b := fun w => hb ((ow b).mp w)
      exact ⟨b, ws, q1, s'.free b _ h1 f1 nb, s'.keep b _ h1 nb, dvAll_mono s'.fr es ws a1⟩
  · obtain ⟨x', z1⟩ := back j x z1
    obtain ⟨y', z2⟩ := back k y z2
    exact c1.sep j k x' y' b hn z1 z2
  · obtain ⟨es', z1⟩ := back j es z1
    exact .inl (Owned.of z1 z2)
  · obtain ⟨es', z1⟩ := back j es z1
    exact Owned.of z1 z2
theorem snd_callO {i : Nat} (ha : SndA g ta ms) : SndE g (tCallS (spD g.K g.mg n f) (WE g.W) (tCons (tVar i) ta)) (callO n f i ms) := by
  intro σ ρ F H Q c hp
  unfold callO at hp
  split at hp
  · rename_i os0 eo0
    obtain ⟨p, us0, q, _⟩ := c.own i os0 eo0
    refine ⟨_, q, ha σ ρ F H _ c ?_⟩
    cases e : ms ρ with
    | exc x ρ1 => rw [e] at hp; exact hp
    | stuck => rw [e] at hp; exact hp
    | ok vals ρ1 =>
      rw [e] at hp
      intro vs F1 H1 c1 s1 i1
      cases e2 : datL vals with
      | none => simp only [e2] at hp; exact hp.elim
      | some ds =>
        simp only [e2] at hp
        have h := i1.dat e2
        split at hp
        · rename_i os eo
          by_cases hl : ds.length + 1 = n
          · rw [if_pos hl] at hp
            obtain ⟨p', us, q', f1, h1, a1⟩ := c1.own i os eo
            rw [q] at q'
            cases q'
            refine ⟨.own os :: ds.map .dat, F1, by simp only [List.length_cons, List.length_map]; exact hl, con_args1 c1.ext h f1 h1 a1, ?_⟩
            cases er : f (.own os :: ds.map .dat) with
            | stuck => rw [er] at hp; exact hp.elim
            | exc x ss' =>
              rw [er] at hp
              cases ss' with
              | nil => exact hp.elim
              | cons s0 ss =>
                cases s0 with
                | dat d0 => exact hp.elim
                | own os' =>
                  simp only [backO] at hp
                  by_cases hs : allDat ss = true
                  · rw [if_pos hs] at hp
                    intro cls dd F' H' c' s' ix
                    obtain ⟨⟨a2, a3⟩, _⟩ := after_own c1 eo q (all_dat hs) c' s'
                    exact hp cls dd F' H' a2 (s1.trans a3) ix
                  · rw [if_neg hs] at hp; exact hp.elim
            | ok v ss' =>
              rw [er] at hp
              cases ss' with
              | nil => exact hp.elim
              | cons s0 ss =>
                cases s0 with
                | dat d0 => exact hp.elim
                | own os' =>
                  simp only [backO] at hp
                  by_cases hs : allDat ss = true
                  · rw [if_pos hs] at hp
                    intro x F' H' c' s' iv
                    obtain ⟨⟨a2, a3⟩, a4⟩ := after_own c1 eo q (all_dat hs) c' s'
                    refine hp x F' H' a2 (s1.trans a3) ?_
                    cases v with
                    | d d => exact iv
                    | l l =>
                      obtain ⟨b, ws, e1, e2, e3, e4, n1, o⟩ := iv
                      have hb : b ≠ p := fun w => n1 (by rw [w]; exact ⟨0, os', rfl, rfl⟩)
                      have hn : H1 b = none := by
                        rcases o with o | o
                        · exact absurd ((owned_args1 fun _ _ => dat_no_own).mp o) hb
                        · exact o
                      exact ⟨b, ws, e1, e2, e3, e4, fun z => not_owned c1 hn (a4 b z), .inr (s1.back hn)⟩
                  · rw [if_neg hs] at hp; exact hp.elim
          · rw [if_neg hl] at hp
            exact hp.elim
        · exact hp.elim
  · exact hp.elim
theorem snd_callL (hm : SndE g te m) : SndE g (tCallS (spD g.K g.mg 1 f) (WE g.W) (tCons te tNil)) (callL f m) := by
  intro σ ρ F H Q c hp
  refine hm σ ρ F H _ c ?_
  unfold callL at hp
  cases e : m ρ with
  | exc x ρ1 => rw [e] at hp; exact hp
  | stuck => rw [e] at hp; exact hp
  | ok v ρ1 =>
    rw [e] at hp
    cases v with
    | d d => exact hp.elim
    | l os =>
      intro x F1 H1 c1 s1 i1
      obtain ⟨p, us, rfl, f1, h1, a1, n1, o1⟩ := i1
      refine ⟨[.own os], F1, rfl, con_args1 (ds := []) c1.ext .nil f1 h1 a1, ?_⟩
      have ow : ∀ b, Owned (argsSt [.ref p]) (argsRh [.own os]) b ↔ b = p := fun b => owned_args1 (ss := []) fun i es z => by simp at z
      have out : ∀ {ss' : List Slot} {F' H' : Hp}, Con g.K (argsSt [.ref p]) (argsRh ss') F' H' → Stp [] (argsSt [.ref p]) (argsRh [.own os]) F1 H1 (argsSt [.ref p]) (argsRh ss') F' H' → Con g.K σ ρ1 F' H' ∧ Stp g.P σ ρ F H σ ρ1 F' H' := by
        intro ss' F' H' c' s'
        have np : ∀ {b : Addr} {ob : HO}, H b = some ob → ¬ Owned σ ρ b → b ≠ p := fun {b ob} z n w => by
          subst w
          rcases o1 with o | o
          · exact n o
          · rw [o] at z; cases z
        refine ⟨⟨c'.ext, c1.len, fun i d z => ?_, fun i es z => ?_, c1.sep⟩, ⟨fun b o z => s'.fr b o (s1.fr b o z), fun b o z n => s'.keep b o (s1.keep b o z n) fun w => np z n ((ow b).mp w), fun b o z1 z2 n => s'.free b o (s1.keep b o z1 n) (s1.free b o z1 z2 n) fun w => np z1 n ((ow b).mp w), s1.own, fun b o z => ?_, fun _ _ => rfl⟩⟩
        · obtain ⟨v, q, r⟩ := c1.dat i d z
          exact ⟨v, q, dv_mono s'.fr d v r⟩
        · obtain ⟨b, ws, q, f2, h2, a2⟩ := c1.own i es z
          have hb : b ≠ p := fun w => n1 (by rw [w] at q; exact Owned.of z q)
          have nb : ¬ Owned (argsSt [.ref p]) (argsRh [.own os]) b := fun w => hb ((ow b).mp w)
          exact ⟨b, ws, q, s'.free b _ h2 f2 nb, s'.keep b _ h2 nb, dvAll_mono s'.fr es ws a2⟩
        · obtain ⟨o', z'⟩ := s1.dom b o z
          exact s'.dom b o' z'
      dsimp only at hp
      cases er : f [.own os] with
      | stuck => rw [er] at hp; exact hp.elim
      | exc x ss' =>
        rw [er] at hp
        intro cls dd F' H' c' s' ix
        obtain ⟨a1, a2⟩ := out c' s'
        exact hp cls dd F' H' a1 a2 ix
      | ok v ss' =>
        rw [er] at hp
        cases v with
        | l l => exact hp.elim
        | d d =>
          intro x F' H' c' s' iv
          obtain ⟨a1, a2⟩ := out c' s'
          exact hp x F' H' a1 a2 iv
theorem snd_callOV {i j : Nat} : SndE g (tCallS (spD g.K g.mg 2 f) (WE g.W) (tCons (tVar i) (tCons (tVar j) tNil))) (callOV f i j) := by
  intro σ ρ F H Q c hp
  unfold callOV at hp
  split at hp
  · rename_i os eo
    split at hp
    · rename_i es ee
      by_cases hij : i = j
      · rw [if_pos hij] at hp; exact hp.elim
      · rw [if_neg hij] at hp
        obtain ⟨p, us, q, f1, h1, a1⟩ := c.own i os eo
        obtain ⟨r, ws, q2, f2, h2, a2⟩ := c.own j es ee
        have hpr : p ≠ r := fun w => by
          rw [w] at q
          exact c.sep i j os es r hij eo ee q q2
        refine ⟨_, q, _, q2, ?_⟩
        -- what is read stands for good meanwhile
        have fr : Same F (upd F r (.lst ws)) := fun b o z => by rw [upd_ne (ne_of_none z f2)]; exact z
        have ex : Same (upd F r (.lst ws)) H := fun b o z => by
          by_cases hb : b = r
          · subst hb; rw [upd_same] at z; cases z; exact h2
          · rw [upd_ne hb] at z; exact c.ext b o z
        have fp : (upd F r (.lst ws)) p = none := by rw [upd_ne hpr]; exact f1
        refine ⟨[.own os, .dat (.list es)], upd F r (.lst ws), rfl, con_args1 (ds := [.list es]) ex (.cons (.lst upd_same (dvAll_mono fr es ws a2)) .nil) fp h1 (dvAll_mono fr os us a1), ?_⟩
        cases er : f [.own os, .dat (.list es)] with
        | stuck => rw [er] at hp; exact hp.elim
        | exc x ss' => rw [er] at hp; exact hp.elim
        | ok v ss' =>
          rw [er] at hp
          cases v with
          | l l => exact hp.elim
          | d d =>
            cases ss' with
            | nil => exact hp.elim
            | cons s0 ss =>
              cases s0 with
              | dat d0 => exact hp.elim
              | own os' =>
                simp only [flatBack] at hp
                by_cases hs : (flatD d && os'.all flatD && allDat ss) = true
                · rw [if_pos hs] at hp
                  simp only [Bool.and_eq_true] at hs
                  intro x F' H' c' s' iv
                  have ow : ∀ b, Owned (argsSt [.ref p, .ref r]) (argsRh [.own os, .dat (.list es)]) b ↔ b = p := fun b => owned_args1 (ss := [.dat (.list es)]) fun k zs z => by
                    cases k <;> simp at z
                  have ext : Same F H' := fun b o z => c'.ext b o (s'.fr b o (fr b o z))
                  have back : ∀ (k : Nat) (zs : List D), (ρ.set i (some (Slot.own os')))[k]? = some (some (.own zs)) → ∃ zs', ρ[k]? = some (some (.own zs')) := fun k zs z => by
                    by_cases hk : i = k
                    · subst hk; exact ⟨os, eo⟩
                    · rw [get_set_ne hk] at z; exact ⟨zs, z⟩
                  have kp : ∀ b o, H b = some o → b ≠ p → H' b = some o := fun b o z hb => s'.keep b o z fun w => hb ((ow b).mp w)
                  refine hp x F H' ⟨ext, by rw [List.length_set]; exact c.len, fun k dd z => ?_, fun k zs z => ?_, fun k l x y b hn z1 z2 => ?_⟩ ⟨fun _ _ z => z, fun b o z n => kp b o z fun w => n (by rw [w]; exact Owned.of eo q), fun _ _ _ z _ => z, fun b ⟨k, zs, z1, z2⟩ => ?_, s'.dom, fun _ _ => rfl⟩ ?_
                  · by_cases hk : i = k
                    · subst hk; rw [get_set_self eo] at z; cases z
                    · rw [get_set_ne hk] at z
                      exact c.dat k dd z
                  · by_cases hk : i = k
                    · subst hk
                      rw [get_set_self eo] at z
                      cases z
                      obtain ⟨p', us', q', f', h', a'⟩ := c'.own 0 os' rfl
                      cases q'
                      have eu := dvs_flat a' hs.1.2
                      refine ⟨p, us', q, f1, h', ?_⟩
                      rw [eu]
                      exact dvs_vOf hs.1.2
                    · rw [get_set_ne hk] at z
                      obtain ⟨b, zs', q1, g1, h3, a3⟩ := c.own k zs z
                      have hb : b ≠ p := fun w => by
                        rw [w] at q1
                        exact c.sep i k os zs p hk eo z q q1
                      exact ⟨b, zs', q1, g1, kp b _ h3 hb, a3⟩
                  · obtain ⟨x', z1⟩ := back k x z1
                    obtain ⟨y', z2⟩ := back l y z2
                    exact c.sep k l x' y' b hn z1 z2
                  · obtain ⟨zs', z1⟩ := back k zs z1
                    exact .inl (Owned.of z1 z2)
                  · show Dv g.K F x d
                    rw [dv_flat iv hs.1.1]
                    exact dv_vOf hs.1.1
                · rw [if_neg hs] at hp; exact hp.elim
    · exact hp.elim
  · exact hp.elim
end
end DL
set_option Elab.async false
set_option linter.all false
set_option maxRecDepth 100000
set_option maxHeartbeats 2000000
set_option autoImplicit false
/-! DL8: more of statements and expressions; errors. -/
namespace DL
open PySem PySem.Spec PyProof.Rows L2

/-! ### a slot forgotten; two and three names at once -/
def forgetS (i : Nat) (m : SM) : SM := fun ρ => m (ρ.set i none)
section
variable {g : G} {t : TS} {a : SM} {ta : TA} {ms : LM}
theorem sns_forget {i : Nat} (h : SndS g t a) : SndS g t (forgetS i a) := by
  intro Dn σ ρ F H c hp
  have c' : Con g.K σ (ρ.set i none) F H := c.less [i]
  refine h Dn σ _ F H c' (SPost.shift hp ⟨fun _ _ z => z, fun _ _ z _ => z, fun _ _ _ z _ => z, fun b z => .inl (owned_less (vs := [i]) z), fun b o z => ⟨o, z⟩, fun _ _ => rfl⟩)
def bindLS (m : LM) (f : List Val → SM) : SM := fun ρ => match m ρ with
  | .ok v ρ' => f v ρ'
  | .exc e ρ' => .exc e ρ'
  | .stuck => .stuck
theorem SndA.bindLS {f : List Val → SM} (h : SndA g ta ms) {σ : St} {ρ : Rh} {F H : Hp} {Dn : Ends} {Q1 : List V → Hp → Prop} (c : Con g.K σ ρ F H) (hp : SPost g σ ρ F H Dn (DL.bindLS ms f ρ))
    (k : ∀ xs vs ρ' F' H', Con g.K σ ρ' F' H' → Stp g.P σ ρ F H σ ρ' F' H' → AllIs g.K σ ρ H σ ρ' F' H' xs vs → SPost g σ ρ F H Dn (f vs ρ') → Q1 xs H') : ta σ H Q1 := by
  refine h σ ρ F H Q1 c ?_
  unfold DL.bindLS at hp
  cases e : ms ρ with
  | ok v ρ' =>
    rw [e] at hp
    exact fun x F' H' c' s iv => k x v ρ' F' H' c' s iv hp
  | exc x ρ' =>
    rw [e] at hp
    exact fun cls dd F' H' c' s ix => hp cls dd σ F' H' c' s ix
  | stuck => rw [e] at hp; exact hp
def parM (i j : Nat) (ms : LM) : SM := bindLS ms fun vs => match vs with
  | [.d a, .d b] => fun ρ => .nx ((ρ.set i (some (.dat a))).set j (some (.dat b)))
  | [.l a, .d b] => fun ρ => .nx ((ρ.set i (some (.own a))).set j (some (.dat b)))
  | _ => fun _ => .stuck
def par3M (i j k : Nat) (ms : LM) : SM := bindLS ms fun vs => match vs with
  | [.d a, .d b, .d c] => fun ρ => .nx (((ρ.set i (some (.dat a))).set j (some (.dat b))).set k (some (.dat c)))
  | _ => fun _ => .stuck
theorem sns_par {i j : Nat} (hi : i ∉ g.P) (hj : j ∉ g.P) (h : SndA g ta ms) : SndS g (tPar i j ta) (parM i j ms) := by
  intro Dn σ ρ F H c hp
  refine h.bindLS c hp fun xs vs ρ1 F1 H1 c1 s1 i1 hp1 => ?_
  split at hp1
  · rename_i a b
    match xs, i1 with
    | [x, y], ⟨h1, h2, _⟩ =>
      obtain ⟨c2, s2⟩ := c1.setD (P := g.P) (i := i) h1 hi
      obtain ⟨c3, s3⟩ := c2.setD (P := g.P) (i := j) (show Dv g.K F1 y b from h2) hj
      exact ⟨x, y, rfl, hp1 _ F1 H1 c3 (s1.trans (s2.trans s3))⟩
  · rename_i a b
    match xs, i1 with
    | [x, y], ⟨h1, h2, _⟩ =>
      obtain ⟨p, us, rfl, f, q, al, n, o⟩ := h1
      obtain ⟨c2, ow⟩ := c1.setL (i := i) f q al n
      have s2 : Stp g.P σ ρ F H (σ.set i (some (.ref p))) (ρ1.set i (some (.own a))) F1 H1 := ⟨s1.fr, s1.keep, s1.free, fun b hb => by
        rcases ow b hb with z | z
        · exact s1.own b z
        · subst z; exact o, s1.dom, fun k hk => get_set_ne (fun w => hi (by rw [w]; exact hk))⟩
      obtain ⟨c3, s3⟩ := c2.setD (P := g.P) (i := j) (show Dv g.K F1 y b from h2) hj
      exact ⟨_, y, rfl, hp1 _ F1 H1 c3 (s2.trans s3)⟩
  · exact hp1.elim
theorem sns_par3 {i j k : Nat} (hi : i ∉ g.P) (hj : j ∉ g.P) (hk : k ∉ g.P) (h : SndA g ta ms) : SndS g (tPar3 i j k ta) (par3M i j k ms) := by
  intro Dn σ ρ F H c hp
  refine h.bindLS c hp fun xs vs ρ1 F1 H1 c1 s1 i1 hp1 => ?_
  split at hp1
  · rename_i a b d
    match xs, i1 with
    | [x, y, z], ⟨h1, h2, h3, _⟩ =>
      obtain ⟨c2, s2⟩ := c1.setD (P := g.P) (i := i) h1 hi
      obtain ⟨c3, s3⟩ := c2.setD (P := g.P) (i := j) (show Dv g.K F1 y b from h2) hj
      obtain ⟨c4, s4⟩ := c3.setD (P := g.P) (i := k) (show Dv g.K F1 z d from h3) hk
      exact ⟨x, y, z, rfl, hp1 _ F1 H1 c4 (s1.trans (s2.trans (s3.trans s4)))⟩
  · exact hp1.elim
end

/-! ### the def's own lists read -/
/-- own[k] -/
def ixO (i : Nat) (m : EM) : EM := fun ρ => match ρ[i]? with
  | some (some (.own _)) => bindE m (fun v => match v with
    | .d (.int k) => fun ρ' => match ρ'[i]? with
      | some (some (.own ds)) => match atI ds k with
        | some d => .ok (.d d) ρ'
        | none => .stuck
      | _ => .stuck
    | _ => fun _ => .stuck) ρ
  | _ => .stuck
section
variable {g : G} {te ta : TE} {m : EM}
theorem snd_ixO {i : Nat} (h : SndE g te m) : SndE g (tOp (rIxA g.K) (tVar i) te) (ixO i m) := by
  intro σ ρ F H Q c hp
  unfold ixO at hp
  split at hp
  · rename_i ds0 e0
    obtain ⟨p, us0, q, _⟩ := c.own i ds0 e0
    refine ⟨_, q, h.bind c hp fun y v ρ1 F1 H1 c1 s1 i1 hp1 => ?_⟩
    split at hp1
    · rename_i k
      split at hp1
      · rename_i ds e1
        split at hp1
        · rename_i d ed
          obtain ⟨p', us, q', f, h1, al⟩ := c1.own i ds e1
          rw [q] at q'
          cases q'
          obtain ⟨x, ex, dx⟩ := DvAll.atI al ed
          exact .inr (.inr ⟨p, us, k, x, rfl, dv_int i1, SqL.of h1, ex, hp1 x F1 H1 c1 Stp.refl dx⟩)
        · exact hp1.elim
      · exact hp1.elim
    · exact hp1.elim
  · exact hp.elim
end

/-! ### {'a': 'b', ..}[e], written texts -/
def lookS (kvs : List (Str × Str)) (k : Str) : Option Str := (kvs.find? fun p => decide (p.1 = k)).map (·.2)
def dispM (kvs : List (Str × Str)) (m : EM) : EM := bindE m fun v => match v with
  | .d (.str k) => fun ρ => match lookS kvs k with
    | some z => .ok (.d (.str z)) ρ
    | none => .stuck
  | _ => fun _ => .stuck
def kvV (kvs : List (Str × Str)) : List (Key × V) := kvs.map fun p => ((Sum.inr p.1 : Key), V.str p.2)
theorem merge_app : ∀ (more acc : List (Key × V)), (∀ p ∈ more, ∀ q ∈ acc, q.1 ≠ p.1) → (more.map (·.1)).Nodup → mergeK acc more = acc ++ more
  | [], acc, _, _ => by simp [mergeK]
  | p :: r, acc, h, nd => by
    rw [List.map_cons, List.nodup_cons] at nd
    have e : putK acc p.1 p.2 = acc ++ [p] := by
      unfold putK
      rw [if_neg (fun z => by
        rw [List.any_eq_true] at z
        obtain ⟨q, hq, e⟩ := z
        exact h p List.mem_cons_self q hq (of_decide_eq_true e))]
    show mergeK (putK acc p.1 p.2) r = acc ++ p :: r
    rw [e, merge_app r (acc ++ [p]) (fun a ha b hb => ?_) nd.2, List.append_assoc]
    · rfl
    · rcases List.mem_append.mp hb with hb | hb
      · exact h a (List.mem_cons_of_mem _ ha) b hb
      · rw [List.mem_singleton] at hb
        subst hb
        exact fun z => nd.1 (List.mem_map.mpr ⟨a, ha, z.symm⟩)
theorem val_kv (kvs : List (Str × Str)) (k : Str) : valV (kvV kvs) (Sum.inr k : Key) = (lookS kvs k).map V.str := by
  unfold valV lookS kvV
  induction kvs with
  | nil => rfl
  | cons p r ih =>
    rw [List.map_cons, List.find?_cons, List.find?_cons]
    by_cases e : p.1 = k
    · rw [show decide ((Sum.inr p.1 : Key) = Sum.inr k) = true from decide_eq_true (by rw [e]), decide_eq_true e]
      rfl
    · rw [show decide ((Sum.inr p.1 : Key) = Sum.inr k) = false from decide_eq_false (fun z => e (Sum.inr.inj z)), decide_eq_false e]
      exact ih
def trsOf (kvs : List (Str × Str)) : List (TE × TE) := kvs.map fun p => (tC (.str p.1), tC (.str p.2))
theorem pairs_con {σ : St} {H : Hp} : ∀ {kvs : List (Str × Str)} {Q : List (V × V) → Hp → Prop}, Q (kvs.map fun p => (V.str p.1, V.str p.2)) H → tPairs (trsOf kvs) σ H Q
  | [], _, h => h
  | _ :: r, _, h => pairs_con (kvs := r) h
theorem snd_disp {g : G} {te : TE} {m : EM} {kvs : List (Str × Str)} (hl : kvs.length ≤ 15) (nd : (kvs.map (·.1)).Nodup) (h : SndE g te m) : SndE g (tDGet (tDisp (trsOf kvs)) te) (dispM kvs m) := by
  intro σ ρ F H Q c hp p hn
  refine pairs_con ?_
  refine ⟨upd_same, kvV kvs, ?_, by unfold kvV; rw [List.length_map]; exact hl, ?_⟩
  · unfold kvV
    rw [List.map_map]
    rfl
  · have nd' : ((kvV kvs).map (·.1)).Nodup := by
      unfold kvV
      rw [List.map_map]
      exact List.pairwise_map.mpr ((List.pairwise_map.mp nd).imp fun h z => h (Sum.inr.inj z))
    rw [upd_upd, merge_app (kvV kvs) [] (fun _ _ _ z => by cases z) nd', List.nil_append]
    have n := News.loose (F := F) (u := .dK (kvV kvs)) c.ext hn
    have c1 := c.news n
    have s1 : Stp g.P σ ρ F H σ ρ F (upd H p (.dK (kvV kvs))) := Stp.news (K := g.K) n
    refine h.bind c1 (EPost.shift hp s1) fun y v ρ2 F2 H2 c2 s2 i2 hp2 => ?_
    split at hp2
    · rename_i k
      split at hp2
      · rename_i z ez
        have ey := dv_str i2
        subst ey
        have hp' : H2 p = some (.dK (kvV kvs)) := s2.keep _ _ upd_same (not_owned c hn)
        refine ⟨p, .str z, rfl, ?_, hp2 _ F2 H2 c2 Stp.refl (.str z)⟩
        have q := DGet.k (k := (Sum.inr k : Key)) hp'
        rw [val_kv, ez] at q
        exact q
      · exact hp2.elim
    · exact hp2.elim
def emptyD : EM := conM (.dict [])
theorem snd_dnew {g : G} : SndE g tDNewK emptyD := by
  intro σ ρ F H Q c hp p hn
  have n := News.new (u := .dK []) c.ext hn
  exact hp _ _ _ (c.news n) (Stp.news (K := g.K) n) (.emp upd_same)

/-! ### a text some times -/
def rMulS : R2 := fun x y H Q => ∃ (z : Str) (i : Int), x = .str z ∧ y = .int i ∧ (z.length ≤ 16 ∧ 0 ≤ i ∧ i ≤ 1048576) ∧ Q (.str (Txt.mul z i)) H
theorem op_mulS {X : Cx} : OpR X (binaryOp .Mult) rMulS := by
  intro pins s σ H x y v u Q I rx ry h
  obtain ⟨z, i, rfl, rfl, ⟨h1, h2, h3⟩, q⟩ := h
  obtain ⟨t, rfl⟩ := rx
  obtain ⟨t', rfl⟩ := ry
  exact PySem.W.KXi.mul rfl h1 (by omega) (by omega) fun t' k _ _ => ⟨.str _, H, I.tok k, ⟨_, rfl⟩, q⟩
def gMulA : D → D → Option D
  | .int a, .int b => gMul (.int a) (.int b)
  | .str z, .int i => if z.length ≤ 16 ∧ 0 ≤ i ∧ i ≤ 1048576 then some (.str (Txt.mul z i)) else none
  | _, _ => none
def rMulA : R2 := fun x y H Q => rI CMul (fun i j => .int (i * j)) x y H Q ∨ rMulS x y H Q
theorem op_mulA {X : Cx} : OpR X (binaryOp .Mult) rMulA := op_mul.or op_mulS
theorem mulA_D {K : PySem.W.Frag} : OpD K rMulA gMulA := by
  intro F H x y dx dy dz Q e hx hy hg k
  unfold gMulA at hg
  split at hg
  · exact .inl (mul_D F H x y _ _ dz Q e hx hy hg k)
  · split at hg
    · rename_i hl
      cases hg
      exact .inr ⟨_, _, dv_str hx, dv_int hy, hl, k _ _ _ (News.refl e) (.str _)⟩
    · cases hg
  · cases hg

/-! ### isinstance(e, T) -/
theorem snd_isi {g : G} {te : TE} {m : EM} {T : String} (hT : kitsOf T = true) (hN : T ≠ "NoneType") (h : SndE g te m) : SndE g (tCB (rIsi g.K) (tCons te (tCons (tC (.ty T)) tNil))) (op1 (gIsi T) m) := by
  intro σ ρ F H Q c hp
  refine h.bind c hp fun x v ρ1 F1 H1 c1 s1 i1 hp1 => ?_
  cases v with
  | l ds => exact hp1.elim
  | d dx =>
    obtain ⟨dz, e, k⟩ := hp1.lift c1
    obtain ⟨t, b, ty, ke, rfl⟩ := isi_ans hT hN c1.ext i1 e
    exact ⟨x, .ty T, t, .type T, b, rfl, .ty T, ty, ke, k _ _ _ (News.refl c1.ext) (.bl b)⟩

/-! ### f(k = e, ..), all parameters by name, in their order -/
def BindsK (fd : FuncData) (ps : List Str) : Prop := ∀ (s : Shared) (us : List Value), us.length = ps.length → BindsTo s fd ⟨[], ps.zip us⟩ (ps.zip us)
section
variable {X : Cx} {k : Nat} {f : Addr} {fd : FuncData} {ps : List Str} {sp : Sp} {W : WX} {x : Str} {p pos : Pos} {kws : List Keyword} {t : TA}
theorem pe_callGK (F : FnG X.prog X.w X.K X.mg X.base k f fd ps sp) (room : Room k X.A) (gd : X.A.guards = some []) (hg : Gl X x) (hm : X.mg x = some (.ref f)) (hk : PySem.W.keepIn X.K (.ref f) = true) (bd : BindsK fd ps) (tk : Takes X W)
    (ha : PK X kws t) (hall : (backToKw pos (keywordEach kws X.env)).all (·.1.isSome) = true := by rfl) (hks : (backToKw pos (keywordEach kws X.env)).filterMap (·.1) = ps := by rfl) (hdb : (x == ("__debug__" : Str)) = false := by decide)
    (hpl : ((backTo pos (starEach [] X.env)).any (·.1) || (backToKw pos (keywordEach kws X.env)).any (·.1.isNone)) = false := by rfl) :
    PE X (.Call (.Name x p) [] kws pos) (tCallS sp (WE W) t) := by
  refine ⟨fun pins s σ H Q I h => wpAny_Call_Name_kw (ld_glob I hg hm ?_ hdb)⟩
  refine PySem.W.callWith_KW0 (h₀ := X.base) I.ok.mod.kin hk hall (thn (ha.run pos pins s σ H _ I h) fun us s1 ⟨vs, H1, I1, r, q⟩ => ⟨I1.kIn, ?_⟩) hpl
  rw [hks]
  have ul : us.length = ps.length := r.length.symm.trans (F.len _ _ _ _ q)
  refine wpAny_call (codeAny_mono (F.run X.A X.stack s1 H1 ⟨[], ps.zip us⟩ us vs Q (WE W σ) room gd I1.env0 (bd s1 us ul) r q) fun r s' z => ?_)
  match r, z with
  | .error e, z => exact passAt tk σ pins H1 s1 e s' I1 z
  | .ok (.ret u), z => exact I1.after z
  | .ok .next, z => exact z.elim
  | .ok .brk, z => exact z.elim
  | .ok .cont, z => exact z.elim
end

/-! ### errors of one attribute: class C(..): def __init__(self, f): self.f = f -/
def spInit (C : Addr) (f : Str) : Sp := fun vs H Q _ => ∃ (a : Addr) (y : V), vs = [.ref a, y] ∧ H a = some (exo a C none) ∧ ∀ dx, H dx = none → dx ≠ a → Q .non (upd (upd H dx (exd dx [(f, y)])) a (exo a C (some dx)))
/-- what is known of such a class -/
structure XC (P : Program) (w : World) (K : PySem.W.Frag) (mg : Str → Option Value) (base : Heap) (name f : Str) (C fI : Addr) (fd : FuncData) : Prop where
  gC : mg name = some (.ref C)
  oex : OexC K C
  iC : PySem.W.findIn K (.ref C) "__init__" = some (some (.ref fI))
  tI : PySem.W.typeIn K (.ref fI) = some (.type "function")
  noF : PySem.W.findIn K (.ref C) f = some none
  fn : FnOk P w K mg base CX0 1 fI fd ["self", f] (spInit C f)
  bd : Binds K fd ["self", f] []
theorem pure_init {K : PySem.W.Frag} {C : Addr} {f : Str} (T : OexC K C) (noF : PySem.W.findIn K (.ref C) f = some none) {vs : List V} {H : Hp} {Q : VK} {E : XK} (h : spInit C f vs H Q E) : tOst K f (tVar 0) (tVar 1) { nx := fun _ H' => Q .non H', rt := Q } (L2.start ["self", f] vs) H := by
  obtain ⟨a, y, rfl, ha, k⟩ := h
  exact ⟨_, rfl, _, rfl, a, C, rfl, T, noF, .inl ⟨ha, k⟩⟩
def raiseM (cls f : Str) (m : EM) : SM := bindS m fun v => match v with
  | .d d => fun ρ => .exc ⟨cls, some (f, d)⟩ ρ
  | _ => fun _ => .stuck
theorem news_xd {F H : Hp} {a dx : Addr} {fs gs : List (Str × V)} {C : Addr} (e : Same F H) (ha : H a = none) (n : (upd H a (exo a C none)) dx = none) (ne : dx ≠ a) :
    upd (del (upd (upd (upd H a (exo a C none)) dx (exd dx gs)) a (exo a C (some dx))) a) dx (.xd fs) = upd H dx (.xd fs) := by
  funext b
  by_cases hb : b = dx
  · subst hb; rw [upd_same, upd_same]
  · rw [upd_ne hb, upd_ne hb]
    by_cases hba : b = a
    · subst hba; rw [del_same, ha]
    · rw [del_ne hba, upd_ne hba, upd_ne hb, upd_ne hba]
theorem sns_raise {g : G} {C : Addr} {name f : Str} {te : TE} {m : EM} (gC : g.mg name = some (.ref C)) (h : SndE g te m) :
    SndS g (fun _ σ H => tMkO C (spInit C f) [] (tCons te tNil) σ H fun cls d H' => g.W cls d σ H') (raiseM name f m) := by
  intro Dn σ ρ F H c hp
  refine h.bindS c hp fun x v ρ1 F1 H1 c1 s1 i1 hp1 => ?_
  cases v with
  | l ds => exact hp1.elim
  | d d =>
    refine ⟨by show 1 ≤ 1000; decide, fun a ha => ⟨a, x, rfl, upd_same, fun dx n ne => ?_⟩⟩
    have hn : H1 dx = none := by rw [upd_ne ne] at n; exact n
    refine ⟨rfl, dx, [(f, x)], upd_same, ?_, hn, ?_⟩
    · rw [upd_ne ne, upd_same]
    · rw [news_xd c1.ext ha n ne]
      have nw := News.new (F := F1) (u := .xd [(f, x)]) c1.ext hn
      exact hp1 _ _ σ _ _ (c1.news nw) (s1.trans (Stp.news (K := g.K) nw)) ⟨C, gC, rfl, dx, x, rfl, upd_same, dv_mono nw.fr _ _ i1⟩
end DL
set_option Elab.async false
set_option linter.all false
set_option maxRecDepth 100000
set_option maxHeartbeats 2000000
set_option autoImplicit false
/-! DL9: the rules: a piece of syntax and its mirror. -/
namespace DL
open PySem PySem.Spec PyProof.Rows L2

/-! ### the weakest readings -/
def canE (g : G) (m : EM) : TE := fun σ H Q => ∃ ρ F, Con g.K σ ρ F H ∧ EPost g σ ρ F H Q (m ρ)
def canT (g : G) (m : EM) : TT := fun σ H Q => ∃ ρ F, Con g.K σ ρ F H ∧ EPost g σ ρ F H (fun x H' => ∃ b, x = .bl b ∧ Q b H') (m ρ)
def canA (g : G) (m : LM) : TA := fun σ H Q => ∃ ρ F, Con g.K σ ρ F H ∧ LPost g σ ρ F H Q (m ρ)
def canO (g : G) (m : Rh → RO) : TO := fun σ H Q => ∃ ρ F, Con g.K σ ρ F H ∧ OPost g σ ρ F H Q (m ρ)
def canI (g : G) (m : Rh → RI) : TI := fun σ H Q => ∃ ρ F, Con g.K σ ρ F H ∧ IPost g σ ρ F H Q (m ρ)
def canS (g : G) (m : SM) : TS := fun D σ H => ∃ ρ F, Con g.K σ ρ F H ∧ SPost g σ ρ F H D (m ρ)
def canG (g : G) (m : TGM) : TG := fun v σ H Q => ∃ ρ F d ρ', Con g.K σ ρ F H ∧ Dv g.K F v d ∧ m d ρ = some ρ' ∧ ∀ σ' F' H', Con g.K σ' ρ' F' H' → Stp g.P σ ρ F H σ' ρ' F' H' → Q σ' H'
def canGs (g : G) (m : List D → Rh → Option Rh) : TGs := fun v σ H Q => ∃ ρ F d ρ', Con g.K σ ρ F H ∧ DvAll g.K F v d ∧ m d ρ = some ρ' ∧ ∀ σ' F' H', Con g.K σ' ρ' F' H' → Stp g.P σ ρ F H σ' ρ' F' H' → Q σ' H'
def canGv (g : G) (vs : List Nat) (m : TGM) : TG := fun v σ H Q => ∃ ρ F d ρ', Con g.K σ ρ F H ∧ Dv g.K F v d ∧ m d ρ = some ρ' ∧ ∀ σ', wipe σ' vs = wipe σ vs → Con g.K σ' ρ' F H → Stp g.P σ ρ F H σ' ρ' F H → Q σ' H
def canGvs (g : G) (vs : List Nat) (m : List D → Rh → Option Rh) : TGs := fun v σ H Q => ∃ ρ F d ρ', Con g.K σ ρ F H ∧ DvAll g.K F v d ∧ m d ρ = some ρ' ∧ ∀ σ', wipe σ' vs = wipe σ vs → Con g.K σ' ρ' F H → Stp g.P σ ρ F H σ' ρ' F H → Q σ' H
abbrev gX (X : Cx) (W : WX) (P : List Nat) : G := ⟨X.K, X.mg, W, P⟩
section
variable (X : Cx) (W : WX) (P : List Nat)
def PED (e : Expr) (m : EM) : Prop := PE X e (canE (gX X W P) m)
def PTD (e : Expr) (m : EM) : Prop := PT X e (canT (gX X W P) m)
def PWD (e : Expr) (m : EM) : Prop := PW X e (canT (gX X W P) m)
def PAD (es : List Expr) (m : LM) : Prop := PA X es (canA (gX X W P) m)
def PKD (kws : List Keyword) (m : LM) : Prop := PK X kws (canA (gX X W P) m)
def POD (e : Option Expr) (m : Rh → RO) : Prop := PO X e (canO (gX X W P) m)
def PID (tg e : Expr) (m : Rh → RI) : Prop := PI X tg e (canI (gX X W P) m)
def PSD (st : Stmt) (m : SM) : Prop := PS X st (canS (gX X W P) m)
def PBD (sts : List Stmt) (m : SM) : Prop := PSs X sts (canS (gX X W P) m)
def PGD (tg : Expr) (m : TGM) : Prop := PG X tg (canG (gX X W P) m)
def PGsD (tgs : List Expr) (m : List D → Rh → Option Rh) : Prop := PGs X tgs (canGs (gX X W P) m)
def PVD (vs : List Nat) (tg : Expr) (m : TGM) : Prop := PG X tg (canGv (gX X W P) vs m)
def PVsD (vs : List Nat) (tgs : List Expr) (m : List D → Rh → Option Rh) : Prop := PGs X tgs (canGvs (gX X W P) vs m)
def PCD (ifs : List Expr) (m : EM) : Prop := PTs X ifs (canT (gX X W P) m)
end
section
variable {X : Cx} {W : WX} {P : List Nat} {g : G}
theorem ce {m : EM} : SndE g (canE g m) m := fun _ ρ F _ _ c p => ⟨ρ, F, c, p⟩
theorem ct {m : EM} : SndT g (canT g m) m := fun _ ρ F _ _ c p => ⟨ρ, F, c, p⟩
theorem ca {m : LM} : SndA g (canA g m) m := fun _ ρ F _ _ c p => ⟨ρ, F, c, p⟩
theorem co {m : Rh → RO} : SndO g (canO g m) m := fun _ ρ F _ _ c p => ⟨ρ, F, c, p⟩
theorem ci {m : Rh → RI} : SndI g (canI g m) m := fun _ ρ F _ _ c p => ⟨ρ, F, c, p⟩
theorem cs {m : SM} : SndS g (canS g m) m := fun _ _ ρ F _ c p => ⟨ρ, F, c, p⟩
theorem cg {m : TGM} : SndG g (canG g m) m := fun _ ρ F _ _ d ρ' _ c h e k => ⟨ρ, F, d, ρ', c, h, e, k⟩
theorem cgs {m : List D → Rh → Option Rh} : SndGs g (canGs g m) m := fun _ ρ F _ _ d ρ' _ c h e k => ⟨ρ, F, d, ρ', c, h, e, k⟩
theorem cgv {vs : List Nat} {m : TGM} : SndGv g vs (canGv g vs m) m := fun _ ρ F _ _ d ρ' _ c h e k => ⟨ρ, F, d, ρ', c, h, e, k⟩
theorem cgvs {vs : List Nat} {m : List D → Rh → Option Rh} : SndGvs g vs (canGvs g vs m) m := fun _ ρ F _ _ d ρ' _ c h e k => ⟨ρ, F, d, ρ', c, h, e, k⟩
theorem ped {e : Expr} {t : TE} {m : EM} (h : PE X e t) (s : SndE (gX X W P) t m) : PED X W P e m := ⟨fun pins s' σ H Q I ⟨ρ, F, c, p⟩ => h.run pins s' σ H Q I (s σ ρ F H Q c p)⟩
theorem ptd {e : Expr} {t : TT} {m : EM} (h : PT X e t) (s : SndT (gX X W P) t m) : PTD X W P e m := ⟨fun pins s' σ H Q I ⟨ρ, F, c, p⟩ => h.run pins s' σ H Q I (s σ ρ F H Q c p)⟩
theorem pwd {e : Expr} {t : TT} {m : EM} (h : PW X e t) (s : SndT (gX X W P) t m) : PWD X W P e m := ⟨fun wh pins s' σ H Q I ⟨ρ, F, c, p⟩ => h.run wh pins s' σ H Q I (s σ ρ F H Q c p)⟩
theorem pad {es : List Expr} {t : TA} {m : LM} (h : PA X es t) (s : SndA (gX X W P) t m) : PAD X W P es m := ⟨fun pos pins s' σ H Q I ⟨ρ, F, c, p⟩ => h.run pos pins s' σ H Q I (s σ ρ F H Q c p)⟩
theorem pkd {kws : List Keyword} {t : TA} {m : LM} (h : PK X kws t) (s : SndA (gX X W P) t m) : PKD X W P kws m := ⟨fun pos pins s' σ H Q I ⟨ρ, F, c, p⟩ => h.run pos pins s' σ H Q I (s σ ρ F H Q c p)⟩
theorem pod {e : Option Expr} {t : TO} {m : Rh → RO} (h : PO X e t) (s : SndO (gX X W P) t m) : POD X W P e m := ⟨fun pins s' σ H Q I ⟨ρ, F, c, p⟩ => h.run pins s' σ H Q I (s σ ρ F H Q c p)⟩
theorem pid {tg e : Expr} {t : TI} {m : Rh → RI} (h : PI X tg e t) (s : SndI (gX X W P) t m) : PID X W P tg e m := ⟨fun pins s' σ H Q I ⟨ρ, F, c, p⟩ => h.run pins s' σ H Q I (s σ ρ F H Q c p)⟩
theorem psd {st : Stmt} {t : TS} {m : SM} (h : PS X st t) (s : SndS (gX X W P) t m) : PSD X W P st m := ⟨fun pins s' σ H D I ⟨ρ, F, c, p⟩ => h.run pins s' σ H D I (s D σ ρ F H c p)⟩
theorem pbd {st : List Stmt} {t : TS} {m : SM} (h : PSs X st t) (s : SndS (gX X W P) t m) : PBD X W P st m := ⟨fun pins s' σ H D I ⟨ρ, F, c, p⟩ => h.run pins s' σ H D I (s D σ ρ F H c p)⟩
theorem pgd {tg : Expr} {t : TG} {m : TGM} (h : PG X tg t) (s : SndG (gX X W P) t m) : PGD X W P tg m := ⟨fun pins s' σ H v u Q I r ⟨ρ, F, d, ρ', c, hd, e, k⟩ => h.run pins s' σ H v u Q I r (s σ ρ F H v d ρ' Q c hd e k)⟩
theorem pgsd {tg : List Expr} {t : TGs} {m : List D → Rh → Option Rh} (h : PGs X tg t) (s : SndGs (gX X W P) t m) : PGsD X W P tg m := ⟨fun pins s' σ H v u Q I r ⟨ρ, F, d, ρ', c, hd, e, k⟩ => h.run pins s' σ H v u Q I r (s σ ρ F H v d ρ' Q c hd e k)⟩
theorem pvd {vs : List Nat} {tg : Expr} {t : TG} {m : TGM} (h : PG X tg t) (s : SndGv (gX X W P) vs t m) : PVD X W P vs tg m := ⟨fun pins s' σ H v u Q I r ⟨ρ, F, d, ρ', c, hd, e, k⟩ => h.run pins s' σ H v u Q I r (s σ ρ F H v d ρ' Q c hd e k)⟩
theorem pvsd {vs : List Nat} {tg : List Expr} {t : TGs} {m : List D → Rh → Option Rh} (h : PGs X tg t) (s : SndGvs (gX X W P) vs t m) : PVsD X W P vs tg m := ⟨fun pins s' σ H v u Q I r ⟨ρ, F, d, ρ', c, hd, e, k⟩ => h.run pins s' σ H v u Q I r (s σ ρ F H v d ρ' Q c hd e k)⟩

/-! ### what holds wherever a def's code stands -/
structure Here (X : Cx) (W : WX) (k : Nat) : Prop where
  room : Room k X.A
  gd : X.A.guards = some []
  tk : Takes X W
  pass : PassesOwn (model X.prog X.w) X.A X.env X.xe
  calm : X.calm = true
abbrev W0 : WX := fun _ _ _ _ => False
theorem Here.blk {k : Nat} (h : Here X W k) {s : Shared} {H : Hp} {sc : Scope} {ce : Env} {fp : List Addr} : Here (X.blk s H sc ce fp) W0 k := ⟨h.room, h.gd, takes0, PassesOwn.never, h.calm⟩
/-- a def by its name -/
def FnAt (P : Program) (w : World) (K : PySem.W.Frag) (mg : Str → Option Value) (base : Heap) (k : Nat) (name : Str) (ps : List Str) (m : FM) : Prop :=
  ∃ f fd, mg name = some (.ref f) ∧ PySem.W.keepIn K (.ref f) = true ∧ Binds K fd ps [] ∧ BindsK fd ps ∧ FnG P w K mg base k f fd ps (spD K mg ps.length m)

/-! ### expressions -/
variable {a b c e : Expr} {es : List Expr} {ma mb mc m m' : EM} {ms : LM} {pos : Pos}
theorem de_var (i : Nat) {x : Str} (hN : X.N[i]? = some x := by rfl) (hv : Vis X.env.scope x := by first | exact Or.inl rfl | exact Or.inr (Or.inl rfl) | exact Or.inr (Or.inr rfl)) (hd : (x == ("__debug__" : Str)) = false := by decide)
    (hcd : (x == ("__classdict__" : Str)) = false := by decide) : PED X W P (.Name x pos) (varM i) := ped (pe_var hN hv hd hcd) snd_var
theorem de_int {i : Int} {j} : PED X W P (.Constant (.int i) j pos) (conM (.int i)) := ped pe_int (snd_con fun _ => .int i)
theorem de_str {i : Str} {j} : PED X W P (.Constant (.str i) j pos) (conM (.str i)) := ped pe_str (snd_con fun _ => .str i)
theorem de_bool {i : Bool} {j} : PED X W P (.Constant (.bool i) j pos) (conM (.bool i)) := ped pe_bl (snd_con fun _ => .bl i)
theorem de_none {j} : PED X W P (.Constant .none j pos) (conM .none) := ped pe_non (snd_con fun _ => .non)
/-- a constant of the module -/
def GlobD (K : PySem.W.Frag) (mg : Str → Option Value) (x : Str) (d : D) : Prop := ∃ v u, mg x = some u ∧ RelV v u ∧ ∀ F, Dv K F v d
theorem de_glob {x : Str} {d : D} (h : GlobD X.K X.mg x d) (hg : Gl X x := by rfl) (hd : (x == ("__debug__" : Str)) = false := by decide) : PED X W P (.Name x pos) (conM d) := by
  obtain ⟨v, u, hm, r, q⟩ := h
  exact ped (pe_glob hg hm r hd) (snd_con q)
theorem de_add (ha : PED X W P a ma) (hb : PED X W P b mb) : PED X W P (.BinOp a .Add b pos) (op2 gAdd ma mb) := ped (pe_op op_addA ha hb) (snd_op add_D ce ce)
theorem de_sub (ha : PED X W P a ma) (hb : PED X W P b mb) : PED X W P (.BinOp a .Sub b pos) (op2 gSub ma mb) := ped (pe_op op_sub ha hb) (snd_op sub_D ce ce)
theorem de_mul (ha : PED X W P a ma) (hb : PED X W P b mb) : PED X W P (.BinOp a .Mult b pos) (op2 gMulA ma mb) := ped (pe_op op_mulA ha hb) (snd_op mulA_D ce ce)
theorem de_div (ha : PED X W P a ma) (hb : PED X W P b mb) : PED X W P (.BinOp a .FloorDiv b pos) (op2 gDiv ma mb) := ped (pe_op op_fdivW ha hb) (snd_op div_D ce ce)
theorem de_mod (ha : PED X W P a ma) (hb : PED X W P b mb) : PED X W P (.BinOp a .Mod b pos) (op2 gMod ma mb) := ped (pe_op op_mod ha hb) (snd_op mod_D ce ce)
theorem de_pow (ha : PED X W P a ma) (hb : PED X W P b mb) : PED X W P (.BinOp a .Pow b pos) (op2 gPow ma mb) := ped (pe_op op_pow ha hb) (snd_op pow_D ce ce)
def gNeg : D → Option D
  | .int i => some (.int (-i))
  | _ => none
theorem neg_D {K : PySem.W.Frag} : UnD K (rU fun i => .int (-i)) gNeg := by
  intro F H x dx dz Q e hx hg k
  unfold gNeg at hg
  split at hg
  · cases hg
    exact ⟨_, dv_int hx, k _ _ _ (News.refl e) (.int _)⟩
  · cases hg
theorem de_neg (ha : PED X W P a ma) : PED X W P (.UnaryOp .USub a pos) (op1 gNeg ma) := ped (pe_un un_neg ha) (snd_un neg_D ce)
theorem de_lt (ha : PED X W P a ma) (hb : PED X W P b mb) : PED X W P (.Compare a [.Lt] [b] pos) (op2 gLt ma mb) := ped (pe_cmpR op_lt ha hb (nomark _)) (snd_op lt_D ce ce)
theorem de_le (ha : PED X W P a ma) (hb : PED X W P b mb) : PED X W P (.Compare a [.LtE] [b] pos) (op2 gLe ma mb) := ped (pe_cmpR op_le ha hb (nomark _)) (snd_op le_D ce ce)
theorem de_gt (ha : PED X W P a ma) (hb : PED X W P b mb) : PED X W P (.Compare a [.Gt] [b] pos) (op2 gGt ma mb) := ped (pe_cmpR op_gt ha hb (nomark _)) (snd_op gt_D ce ce)
theorem de_ge (ha : PED X W P a ma) (hb : PED X W P b mb) : PED X W P (.Compare a [.GtE] [b] pos) (op2 gGe ma mb) := ped (pe_cmpR op_ge ha hb (nomark _)) (snd_op ge_D ce ce)
theorem de_eq {k : Nat} (h : Here X W k) (ha : PED X W P a ma) (hb : PED X W P b mb) : PED X W P (.Compare a [.Eq] [b] pos) (op2 gEq ma mb) := ped (pe_cmpR (op_eq.or (op_eqD h.room.units)) ha hb (nomark _)) (snd_op eq_D ce ce)
theorem de_ne {k : Nat} (h : Here X W k) (ha : PED X W P a ma) (hb : PED X W P b mb) : PED X W P (.Compare a [.NotEq] [b] pos) (op2 gNe ma mb) := ped (pe_cmpR (op_ne.or (op_neD h.room.units)) ha hb (nomark _)) (snd_op ne_D ce ce)
theorem de_in (ha : PED X W P a ma) (hb : PED X W P b mb) (hm : behindInMarks .In b = false := by rfl) : PED X W P (.Compare a [.In] [b] pos) (op2 gIn ma mb) := ped (pe_cmpR op_inA ha hb hm) (snd_op in_D ce ce)
theorem de_notIn (ha : PED X W P a ma) (hb : PED X W P b mb) (hm : behindInMarks .NotIn b = false := by rfl) : PED X W P (.Compare a [.NotIn] [b] pos) (op2 gNotIn ma mb) := ped (pe_cmpR op_notInA ha hb hm) (snd_op notIn_D ce ce)
theorem de_isN (ha : PED X W P a ma) (hb : PED X W P b mb) : PED X W P (.Compare a [.Is] [b] pos) (op2 gIsN ma mb) := ped (pe_cmpR op_isN ha hb (nomark _)) (snd_op isN_D ce ce)
theorem de_notN (ha : PED X W P a ma) (hb : PED X W P b mb) : PED X W P (.Compare a [.IsNot] [b] pos) (op2 gNotN ma mb) := ped (pe_cmpR op_notN ha hb (nomark _)) (snd_op notN_D ce ce)
theorem de_lele (ha : PED X W P a ma) (hb : PED X W P b mb) (hc : PED X W P c mc) : PED X W P (.Compare a [.LtE, .LtE] [b, c] pos) (chM gLe gLe ma mb mc) := ped (pe_chain op_le op_le ha hb hc (nomark c)) (snd_ch le_D le_D ce ce ce)
theorem de_ltle (ha : PED X W P a ma) (hb : PED X W P b mb) (hc : PED X W P c mc) : PED X W P (.Compare a [.Lt, .LtE] [b, c] pos) (chM gLt gLe ma mb mc) := ped (pe_chain op_lt op_le ha hb hc (nomark c)) (snd_ch lt_D le_D ce ce ce)
theorem de_lelt (ha : PED X W P a ma) (hb : PED X W P b mb) (hc : PED X W P c mc) : PED X W P (.Compare a [.LtE, .Lt] [b, c] pos) (chM gLe gLt ma mb mc) := ped (pe_chain op_le op_lt ha hb hc (nomark c)) (snd_ch le_D lt_D ce ce ce)
theorem de_ltlt (ha : PED X W P a ma) (hb : PED X W P b mb) (hc : PED X W P c mc) : PED X W P (.Compare a [.Lt, .Lt] [b, c] pos) (chM gLt gLt ma mb mc) := ped (pe_chain op_lt op_lt ha hb hc (nomark c)) (snd_ch lt_D lt_D ce ce ce)
theorem de_and {rest : List Expr} (ha : PED X W P a ma) (hb : PED X W P (.BoolOp .And (b :: rest) pos) mb) : PED X W P (.BoolOp .And (a :: b :: rest) pos) (andM ma mb) := ped (pe_and ha hb) (snd_and ce ce)
theorem de_or {rest : List Expr} (ha : PED X W P a ma) (hb : PED X W P (.BoolOp .Or (b :: rest) pos) mb) : PED X W P (.BoolOp .Or (a :: b :: rest) pos) (orM ma mb) := ped (pe_or ha hb) (snd_or ce ce)
theorem de_one {op : BoolOp} (ha : PED X W P a ma) : PED X W P (.BoolOp op [a] pos) ma := ped (pe_one ha) ce
theorem de_not (ha : PED X W P a ma) : PED X W P (.UnaryOp .Not a pos) (notM ma) := ped (pe_not ha) (snd_not ce)
theorem dt_val (ha : PED X W P a ma) (he : ∀ whole, isTrue a X.env whole = (do let v ← whole; standAt a.pos; holding [v] (truthy v)) := by intro _; rfl) : PTD X W P a ma := ptd (pt_val ha he) (snt_B ce)
theorem dt_lt (ha : PED X W P a ma) (hb : PED X W P b mb) : PTD X W P (.Compare a [.Lt] [b] pos) (op2 gLt ma mb) := ptd (pt_cmpR op_lt ha hb (nomark _)) (snt_test (snd_op lt_D ce ce))
theorem dt_le (ha : PED X W P a ma) (hb : PED X W P b mb) : PTD X W P (.Compare a [.LtE] [b] pos) (op2 gLe ma mb) := ptd (pt_cmpR op_le ha hb (nomark _)) (snt_test (snd_op le_D ce ce))
theorem dt_gt (ha : PED X W P a ma) (hb : PED X W P b mb) : PTD X W P (.Compare a [.Gt] [b] pos) (op2 gGt ma mb) := ptd (pt_cmpR op_gt ha hb (nomark _)) (snt_test (snd_op gt_D ce ce))
theorem dt_ge (ha : PED X W P a ma) (hb : PED X W P b mb) : PTD X W P (.Compare a [.GtE] [b] pos) (op2 gGe ma mb) := ptd (pt_cmpR op_ge ha hb (nomark _)) (snt_test (snd_op ge_D ce ce))
theorem dt_eq {k : Nat} (h : Here X W k) (ha : PED X W P a ma) (hb : PED X W P b mb) : PTD X W P (.Compare a [.Eq] [b] pos) (op2 gEq ma mb) := ptd (pt_cmpR (op_eq.or (op_eqD h.room.units)) ha hb (nomark _)) (snt_test (snd_op eq_D ce ce))
theorem dt_ne {k : Nat} (h : Here X W k) (ha : PED X W P a ma) (hb : PED X W P b mb) : PTD X W P (.Compare a [.NotEq] [b] pos) (op2 gNe ma mb) := ptd (pt_cmpR (op_ne.or (op_neD h.room.units)) ha hb (nomark _)) (snt_test (snd_op ne_D ce ce))
theorem dt_in (ha : PED X W P a ma) (hb : PED X W P b mb) (hm : behindInMarks .In b = false := by rfl) : PTD X W P (.Compare a [.In] [b] pos) (op2 gIn ma mb) := ptd (pt_cmpR op_inA ha hb hm) (snt_test (snd_op in_D ce ce))
theorem dt_notIn (ha : PED X W P a ma) (hb : PED X W P b mb) (hm : behindInMarks .NotIn b = false := by rfl) : PTD X W P (.Compare a [.NotIn] [b] pos) (op2 gNotIn ma mb) := ptd (pt_cmpR op_notInA ha hb hm) (snt_test (snd_op notIn_D ce ce))
theorem dt_isN (ha : PED X W P a ma) (hb : PED X W P b mb) : PTD X W P (.Compare a [.Is] [b] pos) (op2 gIsN ma mb) := ptd (pt_cmpR op_isN ha hb (nomark _)) (snt_test (snd_op isN_D ce ce))
theorem dt_notN (ha : PED X W P a ma) (hb : PED X W P b mb) : PTD X W P (.Compare a [.IsNot] [b] pos) (op2 gNotN ma mb) := ptd (pt_cmpR op_notN ha hb (nomark _)) (snt_test (snd_op notN_D ce ce))
theorem dt_lele (ha : PED X W P a ma) (hb : PED X W P b mb) (hc : PED X W P c mc) : PTD X W P (.Compare a [.LtE, .LtE] [b, c] pos) (chM gLe gLe ma mb mc) := ptd (pt_chain op_le op_le ha hb hc (nomark c)) (snt_test (snd_ch le_D le_D ce ce ce))
theorem dt_ltle (ha : PED X W P a ma) (hb : PED X W P b mb) (hc : PED X W P c mc) : PTD X W P (.Compare a [.Lt, .LtE] [b, c] pos) (chM gLt gLe ma mb mc) := ptd (pt_chain op_lt op_le ha hb hc (nomark c)) (snt_test (snd_ch lt_D le_D ce ce ce))
theorem dt_and {rest : List Expr} (ha : PTD X W P a ma) (hb : PWD X W P (.BoolOp .And (b :: rest) pos) mb) : PTD X W P (.BoolOp .And (a :: b :: rest) pos) (andM ma mb) := ptd (pw_and ha hb).pt (snt_and ct ct)
theorem dt_or {rest : List Expr} (ha : PTD X W P a ma) (hb : PWD X W P (.BoolOp .Or (b :: rest) pos) mb) : PTD X W P (.BoolOp .Or (a :: b :: rest) pos) (orM ma mb) := ptd (pw_or ha hb).pt (snt_or ct ct)
theorem dw_and {rest : List Expr} (ha : PTD X W P a ma) (hb : PWD X W P (.BoolOp .And (b :: rest) pos) mb) : PWD X W P (.BoolOp .And (a :: b :: rest) pos) (andM ma mb) := pwd (pw_and ha hb) (snt_and ct ct)
theorem dw_or {rest : List Expr} (ha : PTD X W P a ma) (hb : PWD X W P (.BoolOp .Or (b :: rest) pos) mb) : PWD X W P (.BoolOp .Or (a :: b :: rest) pos) (orM ma mb) := pwd (pw_or ha hb) (snt_or ct ct)
theorem dw_and1 (ha : PTD X W P a ma) : PWD X W P (.BoolOp .And [a] pos) ma := pwd (pw_and1 ha) ct
theorem dw_or1 (ha : PTD X W P a ma) : PWD X W P (.BoolOp .Or [a] pos) ma := pwd (pw_or1 ha) ct
theorem dt_not (ha : PTD X W P a ma) : PTD X W P (.UnaryOp .Not a pos) (notM ma) := ptd (pt_not ha) (snt_not ct)
theorem de_ifE (hc : PTD X W P c mc) (ha : PED X W P a ma) (hb : PED X W P b mb) : PED X W P (.IfExp c a b pos) (iteM mc ma mb) := ped (pe_ifExp hc ha hb) (snd_ite ct ce ce)
theorem da_nil : PAD X W P [] nilL := pad pa_nil snd_nil
theorem da_cons (ha : PED X W P e m) (hr : PAD X W P es ms) (hs : starEach (e :: es) X.env = (false, eval e X.env) :: starEach es X.env := by rfl) : PAD X W P (e :: es) (consL m ms) := pad (pa_cons ha hr hs) (snd_cons ce ca)
theorem dk_nil : PKD X W P [] nilL := pkd pk_nil snd_nil
theorem dk_cons {nm : Option Str} {kpos : Pos} {kws : List Keyword} (ha : PED X W P e m) (hr : PKD X W P kws ms) : PKD X W P (⟨nm, e, kpos⟩ :: kws) (consL m ms) := pkd (pk_cons ha hr) (snd_cons ce ca)
theorem de_tup {x1} (h : PAD X W P es ms) : PED X W P (.Tuple es x1 pos) (opL gTup ms) := ped (pe_tup h) (snd_tup ca)
theorem de_lst (h : PAD X W P es ms) : PED X W P (.List es pos) (opL gLst ms) := ped (pe_lst h) (snd_lst ca)
theorem de_lstO (h : PAD X W P es ms) : PED X W P (.List es pos) (lstO ms) := ped (pe_lst h) (snd_lstO ca)
theorem de_frz (h : PED X W P e m) : PED X W P e (frzE m) := ped h (snd_frz ce)
theorem de_dnew : PED X W P (.Dict [] [] pos) emptyD := ped pe_dnewK snd_dnew
theorem de_ix (ha : PED X W P a ma) (hb : PED X W P b mb) (hs : PlainIx b := by exact fun _ _ => rfl) : PED X W P (.Subscript a b pos) (op2 gIx ma mb) := ped (pe_ix ix_A ha hb hs) (snd_op ix_D ce ce)
theorem de_ixO (i : Nat) {x : Str} {px : Pos} (hb : PED X W P b mb) (hs : PlainIx b := by exact fun _ _ => rfl) (hN : X.N[i]? = some x := by rfl) (hv : Vis X.env.scope x := by first | exact Or.inl rfl | exact Or.inr (Or.inl rfl) | exact Or.inr (Or.inr rfl)) :
    (x == ("__debug__" : Str)) = false → (x == ("__classdict__" : Str)) = false → PED X W P (.Subscript (.Name x px) b pos) (ixO i mb) := fun h1 h2 => ped (pe_ix ix_A (pe_var hN hv h1 h2) hb hs) (snd_ixO ce)
theorem do_no : POD X W P none noPartM := pod po_none sno_no
theorem do_part (h : PED X W P e m) : POD X W P (some e) (partM m) := pod (po_some h) (sno_part ce)
theorem de_sl {lo hi : Option Expr} {ml mh : Rh → RO} {p2 : Pos} (ha : PED X W P a ma) (hl : POD X W P lo ml) (hh : POD X W P hi mh) : PED X W P (.Subscript a (.Slice lo hi none p2) pos) (slM ma ml mh) := ped (pe_slice sl_X ha hl hh) (snd_sl ce co co)
/-! calls of built-ins -/
section
variable {x : Str} {p : Pos}
theorem de_len (hm : X.mg "len" = none) (h : PAD X W P (e :: es) ms) (hg : Gl X "len" := by rfl) (he : starEach (e :: es) X.env = (false, eval e X.env) :: starEach es X.env := by rfl) (hpl : (backTo pos (starEach es X.env)).any (·.1) = false := by rfl) : PED X W P (.Call (.Name "len" p) (e :: es) [] pos) (opL gLen ms) := ped (pe_callB call_len hg hm (by decide +kernel) h (he := he) (hpl := hpl)) (snd_call len_D ca)
theorem de_abs (hm : X.mg "abs" = none) (h : PAD X W P (e :: es) ms) (hg : Gl X "abs" := by rfl) (he : starEach (e :: es) X.env = (false, eval e X.env) :: starEach es X.env := by rfl) (hpl : (backTo pos (starEach es X.env)).any (·.1) = false := by rfl) : PED X W P (.Call (.Name "abs" p) (e :: es) [] pos) (opL gAbs ms) := ped (pe_callB call_abs hg hm (by decide +kernel) h (he := he) (hpl := hpl)) (snd_call abs_D ca)
theorem de_divmod (hm : X.mg "divmod" = none) (h : PAD X W P (e :: es) ms) (hg : Gl X "divmod" := by rfl) (he : starEach (e :: es) X.env = (false, eval e X.env) :: starEach es X.env := by rfl) (hpl : (backTo pos (starEach es X.env)).any (·.1) = false := by rfl) : PED X W P (.Call (.Name "divmod" p) (e :: es) [] pos) (opL gDivmod ms) := ped (pe_callB call_divmodW hg hm (by decide +kernel) h (he := he) (hpl := hpl)) (snd_call divmod_D ca)
theorem de_max {k : Nat} (hh : Here X W k) (hm : X.mg "max" = none) (h : PAD X W P (e :: es) ms) (hg : Gl X "max" := by rfl) (he : starEach (e :: es) X.env = (false, eval e X.env) :: starEach es X.env := by rfl) (hpl : (backTo pos (starEach es X.env)).any (·.1) = false := by rfl) : PED X W P (.Call (.Name "max" p) (e :: es) [] pos) (opL gMax ms) := ped (pe_callB (call_max2 hh.calm) hg hm (by decide +kernel) h (he := he) (hpl := hpl)) (snd_call max_D ca)
theorem de_min {k : Nat} (hh : Here X W k) (hm : X.mg "min" = none) (h : PAD X W P (e :: es) ms) (hg : Gl X "min" := by rfl) (he : starEach (e :: es) X.env = (false, eval e X.env) :: starEach es X.env := by rfl) (hpl : (backTo pos (starEach es X.env)).any (·.1) = false := by rfl) : PED X W P (.Call (.Name "min" p) (e :: es) [] pos) (opL gMin ms) := ped (pe_callB (call_min2 hh.calm) hg hm (by decide +kernel) h (he := he) (hpl := hpl)) (snd_call min_D ca)
theorem de_all {k : Nat} (hh : Here X W k) (hm : X.mg "all" = none) (h : PAD X W P (e :: es) ms) (hg : Gl X "all" := by rfl) (he : starEach (e :: es) X.env = (false, eval e X.env) :: starEach es X.env := by rfl) (hpl : (backTo pos (starEach es X.env)).any (·.1) = false := by rfl) : PED X W P (.Call (.Name "all" p) (e :: es) [] pos) (opL gAll ms) := ped (pe_callB (cr_all hh.calm) hg hm (by decide +kernel) h (he := he) (hpl := hpl)) (snd_call all_D ca)
theorem de_any {k : Nat} (hh : Here X W k) (hm : X.mg "any" = none) (h : PAD X W P (e :: es) ms) (hg : Gl X "any" := by rfl) (he : starEach (e :: es) X.env = (false, eval e X.env) :: starEach es X.env := by rfl) (hpl : (backTo pos (starEach es X.env)).any (·.1) = false := by rfl) : PED X W P (.Call (.Name "any" p) (e :: es) [] pos) (opL gAny ms) := ped (pe_callB (cr_any hh.calm) hg hm (by decide +kernel) h (he := he) (hpl := hpl)) (snd_call any_D ca)
theorem de_repr {k : Nat} (hh : Here X W k) (hm : X.mg "repr" = none) (h : PAD X W P (e :: es) ms) (hg : Gl X "repr" := by rfl) (he : starEach (e :: es) X.env = (false, eval e X.env) :: starEach es X.env := by rfl) (hpl : (backTo pos (starEach es X.env)).any (·.1) = false := by rfl) : PED X W P (.Call (.Name "repr" p) (e :: es) [] pos) (opL gRepr ms) :=
  ped (pe_callB (call_reprD hh.gd (by have := hh.room.un; omega)) hg hm (by decide +kernel) h (he := he) (hpl := hpl)) (snd_call repr_D ca)
theorem de_intC (hm : X.mg "int" = none) (h : PAD X W P (e :: es) ms) (hg : Gl X "int" := by rfl) (he : starEach (e :: es) X.env = (false, eval e X.env) :: starEach es X.env := by rfl) (hpl : (backTo pos (starEach es X.env)).any (·.1) = false := by rfl) : PED X W P (.Call (.Name "int" p) (e :: es) [] pos) (opL gInt ms) := ped (pe_callTy call_intA hg hm (by decide +kernel) h (he := he) (hpl := hpl)) (snd_call int_CD ca)
theorem de_strC (hm : X.mg "str" = none) (h : PAD X W P (e :: es) ms) (hg : Gl X "str" := by rfl) (he : starEach (e :: es) X.env = (false, eval e X.env) :: starEach es X.env := by rfl) (hpl : (backTo pos (starEach es X.env)).any (·.1) = false := by rfl) : PED X W P (.Call (.Name "str" p) (e :: es) [] pos) (opL gStr ms) := ped (pe_callTy call_strA hg hm (by decide +kernel) h (he := he) (hpl := hpl)) (snd_call str_CD ca)
theorem de_tupC (hm : X.mg "tuple" = none) (h : PAD X W P (e :: es) ms) (hg : Gl X "tuple" := by rfl) (he : starEach (e :: es) X.env = (false, eval e X.env) :: starEach es X.env := by rfl) (hpl : (backTo pos (starEach es X.env)).any (·.1) = false := by rfl) : PED X W P (.Call (.Name "tuple" p) (e :: es) [] pos) (opL gTuple ms) := ped (pe_callTy call_tuple_of hg hm (by decide +kernel) h (he := he) (hpl := hpl)) (snd_call tuple_D ca)
theorem de_lstC (hm : X.mg "list" = none) (h : PAD X W P (e :: es) ms) (hg : Gl X "list" := by rfl) (he : starEach (e :: es) X.env = (false, eval e X.env) :: starEach es X.env := by rfl) (hpl : (backTo pos (starEach es X.env)).any (·.1) = false := by rfl) : PED X W P (.Call (.Name "list" p) (e :: es) [] pos) (opL gList ms) := ped (pe_callTy call_list_of hg hm (by decide +kernel) h (he := he) (hpl := hpl)) (snd_call list_D ca)
/-- isinstance(e, T), T a built-in class by its name -/
theorem de_isi {T : String} {Tn : Str} {pT : Pos} (hT : kitsOf T = true) (hN : T ≠ "NoneType") (hm : X.mg "isinstance" = none) (hmT : X.mg Tn = none) (hv : bootBuiltins Tn = some (.type T)) (h : PED X W P e m) (hgi : Gl X "isinstance" := by rfl) (hg : Gl X Tn := by rfl) (hn : Tn ≠ "__name__" := by decide) (hd : (Tn == ("__debug__" : Str)) = false := by decide)
    (hs : starEach (e :: [.Name Tn pT]) X.env = (false, eval e X.env) :: starEach [.Name Tn pT] X.env := by rfl) (hs2 : starEach [.Name Tn pT] X.env = (false, eval (.Name Tn pT) X.env) :: starEach [] X.env := by rfl)
    (hpl : (backTo pos (starEach [.Name Tn pT] X.env)).any (·.1) = false := by rfl) :
    PED X W P (.Call (.Name "isinstance" p) [e, .Name Tn pT] [] pos) (op1 (gIsi T) m) :=
  ped (pe_callB call_isi hgi hm (by decide +kernel) (pa_cons h (pa_cons (pe_bltn (v := .ty T) hg hmT hv rfl hn hd) pa_nil hs2) hs) (he := hs) (hpl := hpl)) (snd_isi hT hN ce)
theorem de_join {o : Expr} {mo : EM} {apos : Pos} (ho : PED X W P o mo) (he : PED X W P e m) (hs : starEach [e] X.env = [(false, eval e X.env)] := by rfl) (hbase : attributeBase o "join" X.env (eval o X.env) = eval o X.env := by rfl)
    (hline : (apos.endLine == pos.line) = true := by rfl) : PED X W P (.Call (.Attribute o "join" apos) [e] [] pos) (strM gJoin mo m) := ped (pe_join ho he hs hbase hline) (snd_join ce ce)
/-! calls of defs -/
variable {k j : Nat} {f : FM} {ps : List Str} {n : Nat}
theorem de_callD (F : FnAt X.prog X.w X.K X.mg X.base j x ps f) (hh : Here X W k) (hj : j ≤ k) (hn : ps.length = n) (h : PAD X W P (e :: es) ms) (hg : Gl X x := by rfl) (hdb : (x == ("__debug__" : Str)) = false := by decide)
    (he : starEach (e :: es) X.env = (false, eval e X.env) :: starEach es X.env := by rfl) (hpl : (backTo pos (starEach es X.env)).any (·.1) = false := by rfl) : PED X W P (.Call (.Name x p) (e :: es) [] pos) (callD n f ms) := by
  obtain ⟨fa, fd, hm, hk, bd, _, G⟩ := F
  subst hn
  exact ped (pe_callG G (hh.room.mono hj) hh.gd hg hm hk bd hh.tk h hdb he hpl) (snd_callD ca)
theorem de_callK {kw : Keyword} {kws : List Keyword} (F : FnAt X.prog X.w X.K X.mg X.base j x ps f) (hh : Here X W k) (hj : j ≤ k) (hn : ps.length = n) (h : PKD X W P (kw :: kws) ms) (hks : (backToKw pos (keywordEach (kw :: kws) X.env)).filterMap (·.1) = ps := by rfl) (hg : Gl X x := by rfl) (hdb : (x == ("__debug__" : Str)) = false := by decide)
    (hall : (backToKw pos (keywordEach (kw :: kws) X.env)).all (·.1.isSome) = true := by rfl) (hpl : ((backTo pos (starEach [] X.env)).any (·.1) || (backToKw pos (keywordEach (kw :: kws) X.env)).any (·.1.isNone)) = false := by rfl) :
    PED X W P (.Call (.Name x p) [] (kw :: kws) pos) (callD n f ms) := by
  obtain ⟨fa, fd, hm, hk, _, bd, G⟩ := F
  subst hn
  exact ped (pe_callGK G (hh.room.mono hj) hh.gd hg hm hk bd hh.tk h hall hks hdb hpl) (snd_callD ca)
theorem de_callO (i : Nat) {y : Str} {py : Pos} (F : FnAt X.prog X.w X.K X.mg X.base j x ps f) (hh : Here X W k) (hj : j ≤ k) (hn : ps.length = n) (h : PAD X W P es ms) (hg : Gl X x := by rfl) (hdb : (x == ("__debug__" : Str)) = false := by decide)
    (hN : X.N[i]? = some y := by rfl) (hv : Vis X.env.scope y := by first | exact Or.inl rfl | exact Or.inr (Or.inl rfl) | exact Or.inr (Or.inr rfl)) (hd : (y == ("__debug__" : Str)) = false := by decide) (hcd : (y == ("__classdict__" : Str)) = false := by decide)
    (he : starEach (.Name y py :: es) X.env = (false, eval (.Name y py) X.env) :: starEach es X.env := by rfl) (hpl : (backTo pos (starEach es X.env)).any (·.1) = false := by rfl) : PED X W P (.Call (.Name x p) (.Name y py :: es) [] pos) (callO n f i ms) := by
  obtain ⟨fa, fd, hm, hk, bd, _, G⟩ := F
  subst hn
  exact ped (pe_callG G (hh.room.mono hj) hh.gd hg hm hk bd hh.tk (pa_cons (pe_var hN hv hd hcd) h he) hdb he hpl) (snd_callO ca)
theorem de_callL (F : FnAt X.prog X.w X.K X.mg X.base j x ps f) (hh : Here X W k) (hj : j ≤ k) (hn : ps.length = 1) (h : PED X W P e m) (hg : Gl X x := by rfl) (hdb : (x == ("__debug__" : Str)) = false := by decide)
    (he : starEach [e] X.env = (false, eval e X.env) :: starEach [] X.env := by rfl) (hpl : (backTo pos (starEach [] X.env)).any (·.1) = false := by rfl) : PED X W P (.Call (.Name x p) [e] [] pos) (callL f m) := by
  obtain ⟨fa, fd, hm, hk, bd, _, G⟩ := F
  rw [hn] at G
  exact ped (pe_callG G (hh.room.mono hj) hh.gd hg hm hk bd hh.tk (pa_cons h pa_nil he) hdb he hpl) (snd_callL ce)
theorem de_callOV (i l : Nat) {y z : Str} {py pz : Pos} (F : FnAt X.prog X.w X.K X.mg X.base j x ps f) (hh : Here X W k) (hj : j ≤ k) (hn : ps.length = 2) (hg : Gl X x := by rfl) (hdb : (x == ("__debug__" : Str)) = false := by decide)
    (hN : X.N[i]? = some y := by rfl) (hv : Vis X.env.scope y := by first | exact Or.inl rfl | exact Or.inr (Or.inl rfl) | exact Or.inr (Or.inr rfl)) (hd : (y == ("__debug__" : Str)) = false := by decide) (hcd : (y == ("__classdict__" : Str)) = false := by decide)
    (hN2 : X.N[l]? = some z := by rfl) (hv2 : Vis X.env.scope z := by first | exact Or.inl rfl | exact Or.inr (Or.inl rfl) | exact Or.inr (Or.inr rfl)) (hd2 : (z == ("__debug__" : Str)) = false := by decide) (hcd2 : (z == ("__classdict__" : Str)) = false := by decide)
    (he : starEach [.Name y py, .Name z pz] X.env = (false, eval (.Name y py) X.env) :: starEach [.Name z pz] X.env := by rfl) (he2 : starEach [.Name z pz] X.env = (false, eval (.Name z pz) X.env) :: starEach [] X.env := by rfl)
    (hpl : (backTo pos (starEach [.Name z pz] X.env)).any (·.1) = false := by rfl) : PED X W P (.Call (.Name x p) [.Name y py, .Name z pz] [] pos) (callOV f i l) := by
  obtain ⟨fa, fd, hm, hk, bd, _, G⟩ := F
  rw [hn] at G
  exact ped (pe_callG G (hh.room.mono hj) hh.gd hg hm hk bd hh.tk (pa_cons (pe_var hN hv hd hcd) (pa_cons (pe_var hN2 hv2 hd2 hcd2) pa_nil he2) he) hdb he hpl) snd_callOV
end
/-! {'a': 'b', ..}[e] -/
theorem de_disp {k : Nat} (kvs : List (Str × Str)) {keys : List (Option Expr)} {values : List Expr} {dpos : Pos} (hh : Here X W k) (h : PPs X dpos keys values (trsOf kvs)) (hb : PED X W P e m) (hl : kvs.length ≤ 15 := by decide) (nd : (kvs.map (·.1)).Nodup := by decide) (hall : keys.all (·.isSome) = true := by rfl)
    (hlen : keys.length = values.length := by rfl) (h0 : keys ≠ [] := by (intro z; cases z)) (h15 : keys.length ≤ 15 := by decide) (hs : NoSl e := by exact fun _ _ => rfl) : PED X W P (.Subscript (.Dict keys values dpos) e pos) (dispM kvs m) :=
  ped (pe_dget (by have := hh.room.un; omega) (pe_disp h hall hlen h0 h15) hb hs) (snd_disp hl nd ce)
/-! ### walked -/
variable {tg : Expr} {mi : Rh → RI} {mt : TGM} {mts : List D → Rh → Option Rh}
theorem di_seq (h : PED X W P e m) : PID X W P tg e (seqI m) := pid (pi_seq h) (sni_seq ce)
theorem di_rng1 {p : Pos} (hm : X.mg "range" = none) (h : PAD X W P [a] ms) (hg : Gl X "range" := by rfl) (hs : starEach [a] X.env = [(false, eval a X.env)] := by rfl) : PID X W P tg (.Call (.Name "range" p) [a] [] pos) (rng1I ms) := pid (pi_range1 hg hm h hs) (sni_rng1 ca)
theorem di_rng2 {p : Pos} (hm : X.mg "range" = none) (h : PAD X W P [a, b] ms) (hg : Gl X "range" := by rfl) (hs : starEach [a, b] X.env = [(false, eval a X.env), (false, eval b X.env)] := by rfl) (hs2 : starEach [b] X.env = [(false, eval b X.env)] := by rfl) : PID X W P tg (.Call (.Name "range" p) [a, b] [] pos) (rng2I ms) := pid (pi_range2 hg hm h hs hs2) (sni_rng2 ca)
/-! ### targets -/
theorem dg_name (i : Nat) {x : Str} (hi : i ∉ P := by decide) (hN : X.N.Nodup) (hx : X.N[i]? = some x := by rfl) (hl : Loc X.env.scope x := by first | exact Or.inl rfl | exact Or.inr rfl) (hf : X.fn x = true ∨ X.env.scope.names.lookup x = some .local := by first | exact .inl rfl | exact .inr rfl) : PGD X W P (.Name x pos) (nameT i) := pgd (pg_name hN hx hl hf) (sng_name hi)
theorem dg_nil : PGsD X W P [] nilT := pgsd pgs_nil sng_nil
theorem dg_cons (h1 : PGD X W P e mt) (h2 : PGsD X W P es mts) (hs : (assignEach (e :: es) X.env).map (·.2) = assign e X.env :: (assignEach es X.env).map (·.2) := by rfl) : PGsD X W P (e :: es) (consT mt mts) := pgsd (pgs_cons h1 h2 hs) (sng_cons cg cgs)
theorem dg_tup {kk n : Nat} (hc : X.calm = true) (h : PGsD X W P es mts) (hn : (assignEach es X.env).length = n := by rfl) (hst : (assignEach es X.env).findIdx? (·.1) = none := by rfl) : PGD X W P (.Tuple es kk pos) (tupT n mts) := pgd (pg_tup hc h hn hst) (sng_tup cgs)
theorem dg_sub (i : Nat) {x : Str} {k : Int} {jj : Nat} {px pk : Pos} (hN : X.N[i]? = some x := by rfl) (hv : Vis X.env.scope x := by first | exact Or.inl rfl | exact Or.inr (Or.inl rfl) | exact Or.inr (Or.inr rfl)) (hd : (x == ("__debug__" : Str)) = false := by decide) (hcd : (x == ("__classdict__" : Str)) = false := by decide)
    (ha : ∀ v, assign (.Subscript (.Name x px) (.Constant (.int k) jj pk) pos) X.env v = (do
      let ov ← holding [v] (eval (.Name x px) X.env)
      let iv ← holding [v, ov] (eval (.Constant (.int k) jj pk) X.env)
      standAt pos
      holding [v, ov, iv] (setItem ov iv v)
      release [v, ov, iv] []) := by intro _; rfl) : PGD X W P (.Subscript (.Name x px) (.Constant (.int k) jj pk) pos) (subT i k) := pgd (pg_sub (pe_var hN hv hd hcd) pe_int set_list ha) sng_sub
variable {vs : List Nat}
theorem dv_name (i : Nat) {x : Str} (hi : i ∉ P := by decide) (hvs : i ∈ vs := by decide) (hN : X.N.Nodup) (hx : X.N[i]? = some x := by rfl) (hl : Loc X.env.scope x := by first | exact Or.inl rfl | exact Or.inr rfl) (hf : X.fn x = true ∨ X.env.scope.names.lookup x = some .local := by first | exact .inl rfl | exact .inr rfl) : PVD X W P vs (.Name x pos) (nameT i) := pvd (pg_name hN hx hl hf) (sgv_name hi hvs)
theorem dv_nil : PVsD X W P vs [] nilT := pvsd pgs_nil sgv_nil
theorem dv_cons (h1 : PVD X W P vs e mt) (h2 : PVsD X W P vs es mts) (hs : (assignEach (e :: es) X.env).map (·.2) = assign e X.env :: (assignEach es X.env).map (·.2) := by rfl) : PVsD X W P vs (e :: es) (consT mt mts) := pvsd (pgs_cons h1 h2 hs) (sgv_cons cgv cgvs)
theorem dv_tupT {kk n : Nat} (hc : X.calm = true) (h : PVsD X W P vs es mts) (hn : (assignEach es X.env).length = n := by rfl) (hst : (assignEach es X.env).findIdx? (·.1) = none := by rfl) : PVD X W P vs (.Tuple es kk pos) (tupT n mts) := pvd (pg_tup hc h hn hst) (sgv_tup cgvs)
/-! ### comprehensions -/
theorem dc_nil : PCD X W P [] (conM (.bool true)) := ⟨fun pins s σ H Q I ⟨ρ, F, c, p⟩ => pts_nil.run pins s σ H Q I (by
  obtain ⟨b, e, q⟩ := epost_con c p (.bl true)
  cases e
  exact q)⟩
theorem dc_one (h : PTD X W P c mc) : PCD X W P [c] mc := pts_one h
theorem de_lc {elt iter : Expr} {ifs : List Expr} {scope : Scope} {mtest melt : EM} {k : Nat} (own : List (Str × Nat)) (hh : Here X W k) (hN : X.N.Nodup) (hi : PID X W P tg iter mi) (ok : BlkOk X.N X.env.scope scope own)
    (hg : ∀ (s : Shared) (H : Hp) (C : Addr) (cl : List (Str × Addr)) (fp : List Addr), PVD (X.blk s H scope (compEnvC scope cl C X.env) fp) W0 P (own.map (·.2)) tg mt) (ht : ∀ (s : Shared) (H : Hp) (C : Addr) (cl : List (Str × Addr)) (fp : List Addr), PCD (X.blk s H scope (compEnvC scope cl C X.env) fp) W0 P ifs mtest)
    (he : ∀ (s : Shared) (H : Hp) (C : Addr) (cl : List (Str × Addr)) (fp : List Addr), PED (X.blk s H scope (compEnvC scope cl C X.env) fp) W0 P elt melt) (hs : ∀ x, foldedSetIterable iter X.env x = pure x := by intro _; rfl) :
    PED X W P (.ListComp elt [⟨tg, iter, ifs, 0⟩] scope pos) (lcM mi mt mtest melt (own.map (·.2))) :=
  ped (pe_lc (g := canGv (gX X W0 P) (List.map (fun x : Str × Nat => x.2) own) mt) (tt := canT (gX X W0 P) mtest) (te := canE (gX X W0 P) melt) hh.calm hN hi ok hg ht he hs) (snd_lc ci cgv ct ce)
/-! ### statements -/
variable {st : Stmt} {sts : List Stmt} {sa sb : SM}
theorem db_nil : PBD X W P [] nextM := pbd pss_nil sns_next
theorem db_cons (h : PSD X W P st sa) (hs : PBD X W P sts sb) : PBD X W P (st :: sts) (seqM sa sb) := pbd (pss_cons h hs) (sns_seq cs cs)
theorem db_one (h : PSD X W P st sa) : PBD X W P [st] sa := pbd (pss_one h) cs
theorem ds_frz (i : Nat) (h : PSD X W P st sa) : PSD X W P st (frzS i sa) := psd h (sns_frz cs)
theorem ds_forget (i : Nat) (h : PSD X W P st sa) : PSD X W P st (forgetS i sa) := psd h (sns_forget cs)
theorem ds_set (i : Nat) {x : Str} {px : Pos} (hN : X.N.Nodup) (h : PED X W P e m) (hi : i ∉ P := by decide) (hx : X.N[i]? = some x := by rfl) (hl : Loc X.env.scope x := by first | exact Or.inl rfl | exact Or.inr rfl)
    (hs : swapsWith e (some (.Name x px)) pos.line X.env = pure false := by rfl) (hf : X.fn x = true ∨ X.env.scope.names.lookup x = some .local := by first | exact .inl rfl | exact .inr rfl) : PSD X W P (.Assign [.Name x px] e pos) (asgM (nameT i) m) := psd (ps_set hN hx hl h hs hf) (sns_asg ce (sng_name hi))
theorem ds_setO (i : Nat) {x : Str} {px : Pos} (hN : X.N.Nodup) (h : PED X W P e m) (hi : i ∉ P := by decide) (hx : X.N[i]? = some x := by rfl) (hl : Loc X.env.scope x := by first | exact Or.inl rfl | exact Or.inr rfl)
    (hs : swapsWith e (some (.Name x px)) pos.line X.env = pure false := by rfl) (hf : X.fn x = true ∨ X.env.scope.names.lookup x = some .local := by first | exact .inl rfl | exact .inr rfl) : PSD X W P (.Assign [.Name x px] e pos) (asgO i m) := psd (ps_set hN hx hl h hs hf) (sns_asgO hi ce)
theorem ds_asg (h : PED X W P e m) (hg : PGD X W P tg mt) (hs : swapsWithSole [tg] e pos.line X.env = pure false := by rfl) (hw : swappedStores [tg] e X.env = pure none := by rfl) (h1 : (assignEach [tg] X.env).map (·.2) = [assign tg X.env] := by rfl) : PSD X W P (.Assign [tg] e pos) (asgM mt m) := psd (ps_asg h hg hs hw (h1 := h1)) (sns_asg ce cg)
theorem ds_par (i j : Nat) {x y : Str} {px py pt : Pos} {kt k2 : Nat} {pt2 : Pos} (hc : X.calm = true) (hN : X.N.Nodup) (ha : PAD X W P [a, b] ms) (hi : i ∉ P := by decide) (hj : j ∉ P := by decide) (h1 : X.N[i]? = some x := by rfl) (h2 : X.N[j]? = some y := by rfl) (hij : i ≠ j := by decide)
    (hx : X.env.scope.names.lookup x = some .local := by rfl) (hy : X.env.scope.names.lookup y = some .local := by rfl) (hw : swappedStores [.Tuple [.Name x px, .Name y py] kt pt] (.Tuple [a, b] k2 pt2) X.env = pure (some [x, y]) := by rfl)
    (hs : swapsWithSole [.Tuple [.Name x px, .Name y py] kt pt] (.Tuple [a, b] k2 pt2) pos.line X.env = pure false := by rfl) : PSD X W P (.Assign [.Tuple [.Name x px, .Name y py] kt pt] (.Tuple [a, b] k2 pt2) pos) (parM i j ms) := psd (ps_par hc hN h1 h2 hij hx hy ha hw hs) (sns_par hi hj ca)
theorem ds_par3 (i j l : Nat) {x y z : Str} {px py pz pt : Pos} {kt k2 : Nat} {pt2 : Pos} (hc : X.calm = true) (hN : X.N.Nodup) (ha : PAD X W P [a, b, c] ms) (hi : i ∉ P := by decide) (hj : j ∉ P := by decide) (hl : l ∉ P := by decide) (h1 : X.N[i]? = some x := by rfl) (h2 : X.N[j]? = some y := by rfl) (h3 : X.N[l]? = some z := by rfl)
    (hij : i ≠ j := by decide) (hil : i ≠ l := by decide) (hjl : j ≠ l := by decide) (hx : X.env.scope.names.lookup x = some .local := by rfl) (hy : X.env.scope.names.lookup y = some .local := by rfl) (hz : X.env.scope.names.lookup z = some .local := by rfl)
    (hw : swappedStores [.Tuple [.Name x px, .Name y py, .Name z pz] kt pt] (.Tuple [a, b, c] k2 pt2) X.env = pure (some [x, y, z]) := by rfl)
    (hs : swapsWithSole [.Tuple [.Name x px, .Name y py, .Name z pz] kt pt] (.Tuple [a, b, c] k2 pt2) pos.line X.env = pure false := by rfl) : PSD X W P (.Assign [.Tuple [.Name x px, .Name y py, .Name z pz] kt pt] (.Tuple [a, b, c] k2 pt2) pos) (par3M i j l ms) :=
  psd (ps_par3 hc hN h1 h2 h3 hij hil hjl hx hy hz ha hw hs) (sns_par3 hi hj hl ca)
theorem ds_expr (h : PED X W P e m) (hs : swapsWith e none pos.line X.env = pure false := by rfl) : PSD X W P (.Expr e pos) (exprM m) := psd (ps_expr h hs) (sns_expr ce)
theorem ds_app (i : Nat) {x : Str} {px apos cpos : Pos} (h : PED X W P e m) (hN : X.N[i]? = some x := by rfl) (hv : Vis X.env.scope x := by first | exact Or.inl rfl | exact Or.inr (Or.inl rfl) | exact Or.inr (Or.inr rfl)) (hd : (x == ("__debug__" : Str)) = false := by decide) (hcd : (x == ("__classdict__" : Str)) = false := by decide)
    (hb : attributeBase (.Name x px) "append" X.env (eval (.Name x px) X.env) = eval (.Name x px) X.env := by rfl)
    (hfew : ((backTo cpos (starEach [e] X.env)).all (fun x => !x.1) && (backToKw cpos (keywordEach [] X.env)).all (fun x => x.1.isSome) && decide (([e] : List Expr).length + ([] : List Keyword).length + (if ([] : List Keyword).isEmpty then 0 else 1) < 30)) = true := by rfl)
    (hline : (apos.endLine == cpos.line) = true := by rfl) (hst : starEach (e :: []) X.env = (false, eval e X.env) :: starEach [] X.env := by rfl) (hpl : (backTo cpos (starEach [] X.env)).any (·.1) = false := by rfl)
    (hs : swapsWith (.Call (.Attribute (.Name x px) "append" apos) [e] [] cpos) none pos.line X.env = pure false := by rfl) : PSD X W P (.Expr (.Call (.Attribute (.Name x px) "append" apos) [e] [] cpos) pos) (appM i m) :=
  psd (ps_expr (pe_bm PySem.F.plainAttrs_list PySem.F.slot_list_append PySem.F.type_list_append mt_append (pe_var hN hv hd hcd) (pa_cons h pa_nil hst) hb hfew hline hst hpl) hs) (sns_app ce)
theorem ds_ret (h : PED X W P e m) : PSD X W P (.Return (some e) pos) (retM m) := psd (ps_ret h) (sns_ret ce)
theorem ds_retN : PSD X W P (.Return none pos) retNM := psd ps_retN sns_retN
theorem ds_if {sts2 : List Stmt} (hc : PTD X W P c mc) (ha : PBD X W P sts sa) (hb : PBD X W P sts2 sb) : PSD X W P (.If c sts sts2 pos) (ifM mc sa sb) := psd (ps_if hc ha hb) (sns_if ct cs cs)
theorem ds_pass : PSD X W P (.Pass pos) nextM := psd ps_pass sns_next
theorem ds_brk : PSD X W P (.Break pos) brkM := psd ps_break sns_brk
theorem ds_ct : PSD X W P (.Continue pos) ctM := psd ps_continue sns_ct
theorem ds_while {k : Nat} (fuel : Rh → Nat) (hh : Here X W k) (hc : PTD X W P c mc) (hb : PBD X W P sts sb) : PSD X W P (.While c sts [] pos) (whileM fuel mc sb) := psd (ps_while hh.pass hc hb) (sns_while fuel ct cs)
theorem ds_for {k : Nat} {iter : Expr} (hh : Here X W k) (hi : PID X W P tg iter mi) (hg : PGD X W P tg mt) (hb : PBD X W P sts sb) (hs : ∀ x, foldedSetIterable iter X.env x = pure x := by intro _; rfl) : PSD X W P (.For tg iter sts [] pos) (forM mi mt sb) :=
  psd (ps_for hh.pass hh.calm hi hg hb hs) (sns_for ci cg cs)
/-- y = [.. for ..], y a local -/
theorem ds_setLc {elt iter : Expr} {ifs : List Expr} {scope : Scope} {mtest melt : EM} {k : Nat} {py spos : Pos} {y : Str} (i : Nat) (own : List (Str × Nat)) (hh : Here X W k) (hN : X.N.Nodup) (hi : PID X W P tg iter mi) (ok : BlkOk X.N X.env.scope scope own)
    (hg : ∀ (s : Shared) (H : Hp) (C : Addr) (cl : List (Str × Addr)) (fp : List Addr), PVD (X.blk s H scope (compEnvC scope cl C X.env) fp) W0 P (own.map (·.2)) tg mt) (ht : ∀ (s : Shared) (H : Hp) (C : Addr) (cl : List (Str × Addr)) (fp : List Addr), PCD (X.blk s H scope (compEnvC scope cl C X.env) fp) W0 P ifs mtest)
    (he : ∀ (s : Shared) (H : Hp) (C : Addr) (cl : List (Str × Addr)) (fp : List Addr), PED (X.blk s H scope (compEnvC scope cl C X.env) fp) W0 P elt melt) (hiP : i ∉ P := by decide) (hy : X.N[i]? = some y := by rfl) (hyl : X.env.scope.names.lookup y = some .local := by rfl)
    (hsw : swapsWith (.ListComp elt [⟨tg, iter, ifs, 0⟩] scope pos) (some (.Name y py)) spos.line X.env = pure true := by exact sw_true rfl rfl rfl (by decide +kernel)) (hs : ∀ x, foldedSetIterable iter X.env x = pure x := by intro _; rfl) :
    PSD X W P (.Assign [.Name y py] (.ListComp elt [⟨tg, iter, ifs, 0⟩] scope pos) spos) (asgM (nameT i) (frzE (lcM mi mt mtest melt (own.map (·.2))))) :=
  psd (ps_setLc (g := canGv (gX X W0 P) (List.map (fun x : Str × Nat => x.2) own) mt) (tt := canT (gX X W0 P) mtest) (te := canE (gX X W0 P) melt) hh.calm hN hy hyl hsw hi ok hg ht he hs) (sns_asg (snd_frz (snd_lc ci cgv ct ce)) (sng_name hiP))
/-- raise C(e), C of one attribute -/
theorem ds_raise {k : Nat} {x f : Str} {p p2 : Pos} {C fI : Addr} {fd : FuncData} (T : XC X.prog X.w X.K X.mg X.base x f C fI fd) (hh : Here X W k) (hk : 2 ≤ k) (h : PED X W P e m) (hg : Gl X x := by rfl) (hdb : (x == ("__debug__" : Str)) = false := by decide)
    (he : starEach (e :: []) X.env = (false, eval e X.env) :: starEach [] X.env := by rfl) (hpl : (backTo p2 (starEach [] X.env)).any (·.1) = false := by rfl) : PSD X W P (.Raise (some (.Call (.Name x p) [e] [] p2)) none pos) (raiseM x f m) :=
  psd (ps_raise hh.calm hh.tk (pmk_oex T.oex T.iC T.tI T.fn (hh.room.mono hk) T.bd .nil pass0 hg T.gC (pa_cons h pa_nil he) hdb he hpl)) (sns_raise T.gC ce)
end
/-! ### a def -/
theorem fnAt_mono {P : Program} {w : World} {K : PySem.W.Frag} {mg : Str → Option Value} {base : Heap} {j k : Nat} {name : Str} {ps : List Str} {m : FM} (h : FnAt P w K mg base j name ps m) (hj : j ≤ k) : FnAt P w K mg base k name ps m := by
  obtain ⟨f, fd, a, b, c, d, F⟩ := h
  exact ⟨f, fd, a, b, c, d, F.mono hj⟩
/-- where a def of the text stands behind the top -/
structure DefAt (K : PySem.W.Frag) (mg : Str → Option Value) (name : Str) (st : Stmt) (ps : List Str) : Prop where
  ex : ∃ f fd, mg name = some (.ref f) ∧ Fun K name name st f fd ∧ Binds K fd ps [] ∧ BindsK fd ps
theorem fn_rule {P : Program} {w : World} {K : PySem.W.Frag} {mg : Str → Option Value} {base : Heap} {k : Nat} {name : Str} {st : Stmt} {N ps : List Str} {pin : List Nat} {m : SM} (Df : DefAt K mg name st ps) (S : FnScope N ps (defScope st))
    (body : ∀ (X : Cx) (W : WX), X.N = N → X.env.scope = defScope st → X.prog = P → X.w = w → X.K = K → X.mg = mg → X.base = base → Here X W k → True) : True := trivial
end DL
set_option Elab.async false
set_option linter.all false
set_option maxRecDepth 100000
set_option maxHeartbeats 2000000
set_option autoImplicit false
/-! DL10: defs by their bodies; a try that returns. -/
namespace DL
open PySem PySem.Spec PyProof.Rows L2

section
variable {P : Program} {w : World} {K : PySem.W.Frag} {mg : Str → Option Value} {base : Heap} {k : Nat} {name : Str} {st : Stmt} {N ps : List Str} {pin : List Nat} {m : SM}
/-- THE RULE of a def, by its name -/
theorem fnAt_of (Df : DefAt K mg name st ps) (S : FnScope N ps (defScope st))
    (body : ∀ (f : Addr) (cdv : Value) (A : Around) (outer : List Env) (s : Shared) (H : Hp) (E : XK), Here (cxOf (L2.CX P w) P w K mg base N name (defScope st) f cdv A outer s H E) (fun cls d _ H => E cls d H) k →
      PBD (cxOf (L2.CX P w) P w K mg base N name (defScope st) f cdv A outer s H E) (fun cls d _ H => E cls d H) pin (defBody st) m) : FnAt P w K mg base (k + 1) name ps (fnM pin N.length m) := by
  obtain ⟨f, fd, hm, Fn, b1, b2⟩ := Df.ex
  refine ⟨f, fd, hm, Fn.kp, b1, b2, fnd_body Fn S fun cdv A outer s H E room gd => ?_⟩
  exact ⟨_, body f cdv A outer s H E ⟨room, gd, takes_of rfl rfl rfl rfl, passes_of rfl, rfl⟩, cs⟩
theorem fnAt_stuck (Df : DefAt K mg name st ps) : FnAt P w K mg base k name ps fun _ => .stuck := by
  obtain ⟨f, fd, hm, Fn, b1, b2⟩ := Df.ex
  refine ⟨f, fd, hm, Fn.kp, b1, b2, ⟨fun vs H Q E h => ?_, fun A outer s H args us vs Q E _ _ _ _ _ h => ?_⟩⟩
  · obtain ⟨ss, F, hl, c, _⟩ := h
    have q := c.len
    simp only [List.length_map] at q
    omega
  · obtain ⟨ss, F, hl, c, hp⟩ := h
    exact hp.elim
end

/-! ### try: return E / except C as n: return [n.f] if isinstance(n, C1) and isinstance(n, T2) else [..] -/
/-- isinstance of a caught error that has a dict -/
def rIsX (K : PySem.W.Frag) (D a : Addr) (d : Option Addr) : List V → Hp → VK → Prop := fun xs H Q => ∃ (c : V) (cv : Value) (b : Bool) (dd : Addr) (fs : List (Str × V)), xs = [.ref a, c] ∧ (∀ u, RelV c u → u = cv) ∧ d = some dd ∧ H dd = some (.xd fs) ∧ PySem.W.kitOne K (.ref D) cv = some b ∧ Q (.bl b) H
theorem call_isX {X : Cx} {a D : Addr} {d : Option Addr} {oe : Obj} {pn : List (Addr × Obj)} (C : ExcC X.K D) (hz : Zc (.ref D) d oe) (hf : ∃ vs, oe.data = .fields vs) : CallR (X.suite a ((a, oe) :: pn)) (.builtin "isinstance") (rIsX X.K D a d) := by
  intro pins s σ H xs us Q I r h
  obtain ⟨c, cv, b, dd, fs, rfl, hcv, rfl, hH, e, q⟩ := h
  obtain ⟨u1, u2, rfl, rx, rt⟩ := vals2 r
  cases rx
  have ec := hcv _ rt
  subst ec
  obtain ⟨hget, _⟩ := I.pin (a, oe) (List.mem_append_left _ List.mem_cons_self)
  obtain ⟨vs, hv⟩ := hf
  have hx : ObjOk X.prog X.w H s.heap dd (.xd fs) := I.hok dd _ hH
  obtain ⟨mA, hns, _⟩ := hx
  obtain ⟨od, ho, _⟩ := lookIn_ns hns
  have J : PySem.W.InstAt s.heap a oe D (some od) := ⟨hget, hz.1, by unfold PySem.W.notCls; rw [hv] <;> rfl, by rw [hz.2]; exact ho⟩
  have cl : (PySem.W.clsIn X.K D).isSome = true := by
    obtain ⟨cd, hc, _⟩ := PySem.W.any_some C.hd
    rw [hc]; rfl
  exact PySem.W.kia_one (PySem.W.kitx_exc cl C.hg C.hk C.hs C.ha C.hn C.ht C.hm) I.kIn J e (fun z => nomatch z) fun tk => ⟨.bl b, H, I.kept (t' := tk) fun _ _ z => z, rfl, q⟩
/-- what the classes are: C, caught by its own name; C1 above it, T2 a built-in one above it -/
structure CatchC (K : PySem.W.Frag) (mg : Str → Option Value) (C C1 f : Str) (T2 : String) (T2n : Str) : Prop where
  ex : ∃ a a1 : Addr, mg C = some (.ref a) ∧ mg C1 = some (.ref a1) ∧ PySem.W.exmOne K (.ref a) (.ref a) = some true ∧ XfC K a ∧ ExcC K a ∧ PySem.W.findIn K (.ref a) f = some none ∧
    PySem.W.kitOne K (.ref a) (.ref a1) = some true ∧ PySem.W.kitOne K (.ref a) (.type T2) = some true
  m2 : mg T2n = none
  b2 : bootBuiltins T2n = some (.type T2)
  mi : mg "isinstance" = none
def tryA (i : Nat) (C f : Str) (m : EM) : SM := fun ρ => match m ρ with
  | .ok v ρ' => .ret v ρ'
  | .exc x ρ' => if i < ρ'.length then if x.cls = C then match x.fld with
      | some (g, d) => if g = f then .ret (.d (.list [d])) (ρ'.set i none) else .stuck
      | none => .stuck
    else .stuck
    else .stuck
  | .stuck => .stuck
theorem ds_tryA {X : Cx} {W : WX} {P : List Nat} {k : Nat} (i : Nat) {C C1 f n T2n : Str} {T2 : String} {e : Expr} {m : EM} {p0 p1 p2 p3 p4 p5 p6 p7 p8 p9 q0 q1 q2 q3 q4 q5 q6 pos pos' posh : Pos} {x1 : Nat} {z : Str} (T : CatchC X.K X.mg C C1 f T2 T2n)
    (hh : Here X W k) (hs : X.stack = X.env :: X.outer) (hf : X.env.frame = some X.env.locals) (hN : X.N.Nodup) (hi : X.N[i]? = some n) (hln : X.env.kindOf n = some .local)
    (hb : ∀ (W' : WX) (pn : List (Addr × Obj)) (xe : Value → Shared → Prop), Here (X.tr pn xe) W' k → PED (X.tr pn xe) W' P e m) (hiP : i ∉ P)
    (vis : Vis X.env.scope n) (hd : (n == ("__debug__" : Str)) = false := by decide) (hcd : (n == ("__classdict__" : Str)) = false := by decide)
    (gC : Gl X C := by rfl) (gC1 : Gl X C1 := by rfl) (gT2 : Gl X T2n := by rfl) (gI : Gl X "isinstance" := by rfl) (dC : (C == ("__debug__" : Str)) = false := by decide) (dC1 : (C1 == ("__debug__" : Str)) = false := by decide) (nT2 : T2n ≠ "__name__" := by decide) (dT2 : (T2n == ("__debug__" : Str)) = false := by decide)
    (s1 : starEach (.Name n p3 :: [.Name C1 p4]) X.env = (false, eval (.Name n p3) X.env) :: starEach [.Name C1 p4] X.env := by rfl) (s2 : starEach [.Name C1 p4] X.env = (false, eval (.Name C1 p4) X.env) :: starEach [] X.env := by rfl)
    (s3 : starEach (.Name n p7 :: [.Name T2n p8]) X.env = (false, eval (.Name n p7) X.env) :: starEach [.Name T2n p8] X.env := by rfl) (s4 : starEach [.Name T2n p8] X.env = (false, eval (.Name T2n p8) X.env) :: starEach [] X.env := by rfl)
    (l1 : (backTo p5 (starEach [.Name C1 p4] X.env)).any (·.1) = false := by rfl) (l2 : (backTo p9 (starEach [.Name T2n p8] X.env)).any (·.1) = false := by rfl)
    (ab : attributeBase (.Name n q1) f X.env (eval (.Name n q1) X.env) = eval (.Name n q1) X.env := by rfl) (s5 : starEach [.Attribute (.Name n q1) f q2] X.env = (false, eval (.Attribute (.Name n q1) f q2) X.env) :: starEach [] X.env := by rfl)
    (s6 : starEach [.Constant (.str z) x1 q4] X.env = (false, eval (.Constant (.str z) x1 q4) X.env) :: starEach [] X.env := by rfl)
    (t1 : ∀ whole, isTrue (.Call (.Name "isinstance" p2) [.Name n p3, .Name C1 p4] [] p5) X.env whole = (do let v ← whole; standAt p5; holding [v] (truthy v)) := by intro _; rfl)
    (t2 : ∀ whole, isTrue (.Call (.Name "isinstance" p6) [.Name n p7, .Name T2n p8] [] p9) X.env whole = (do let v ← whole; standAt p9; holding [v] (truthy v)) := by intro _; rfl) :
    PSD X W P (.Try [.Return (some e) p0] [.ExceptHandler (some (.Name C p1)) (some n) [.Return (some (.IfExp
      (.BoolOp .And [.Call (.Name "isinstance" p2) [.Name n p3, .Name C1 p4] [] p5, .Call (.Name "isinstance" p6) [.Name n p7, .Name T2n p8] [] p9] q0)
      (.List [.Attribute (.Name n q1) f q2] q3) (.List [.Constant (.str z) x1 q4] q5) q6)) pos'] posh] [] [] pos) (tryA i C f m) := by
  obtain ⟨a, a1, g1, g2, ex, xf, ec, nf, k1', k2'⟩ := T.ex
  have bdy := ps_try_as (X := X) (x := C) (n := n) (c := .ref a) (i := i) (body := [.Return (some e) p0]) (suite := []) (np := p1) (pos := pos) (pos' := posh) (Wout := fun _ _ _ _ => False)
    (b₀ := .Return (some (.IfExp
      (.BoolOp .And [.Call (.Name "isinstance" p2) [.Name n p3, .Name C1 p4] [] p5, .Call (.Name "isinstance" p6) [.Name n p7, .Name T2n p8] [] p9] q0)
      (.List [.Attribute (.Name n q1) f q2] q3) (.List [.Constant (.str z) x1 q4] q5) q6)) pos')
    (tb := fun W' => tRet (canE (gX X W' P) m))
    (ts := fun e0 cls d D σ H => cls = .ref a ∧ tRet (tIf (tAnd (tB (tCB (rIsX X.K a e0 d) (tCons (tVar i) (tCons (tC (.ref a1)) tNil)))) (tB (tCB (rIsX X.K a e0 d) (tCons (tVar i) (tCons (tC (.ty T2)) tNil)))))
      (tLst (tCons (tXf e0 cls d a f (tVar i)) tNil)) (tLst (tCons (tC (.str z)) tNil))) D σ H)
    hs hf hN hi hln ⟨gC, dC, .inl g1⟩ takes0 (fun W' pn xe tk ps => pss_one (ps_ret (hb W' pn xe ⟨hh.room, hh.gd, tk, ps, hh.calm⟩))) (fun e0 oe cls d pn hz hf' => ?_)
  · refine psd bdy ?_
    intro Dn σ ρ F H c hp
    refine ⟨ρ, F, c, ?_⟩
    unfold tryA at hp
    cases er : m ρ with
    | stuck => rw [er] at hp; exact hp.elim
    | ok v ρ' =>
      rw [er] at hp
      exact fun x F' H' c' s' iv => hp x σ F' H' c' s' iv
    | exc x ρ' =>
      rw [er] at hp
      dsimp only at hp
      by_cases hil : i < ρ'.length
      · rw [if_pos hil] at hp
        by_cases hx : x.cls = C
        · rw [if_pos hx] at hp
          cases ef : x.fld with
          | none => rw [ef] at hp; exact hp.elim
          | some gd =>
            obtain ⟨g0, d0⟩ := gd
            rw [ef] at hp
            dsimp only at hp
            by_cases hg : g0 = f
            · rw [if_pos hg] at hp
              subst hg
              intro cls dd F' H' c' s' ix
              obtain ⟨Ca, gm, rfl, fx⟩ := ix
              rw [hx] at gm
              have gm' : X.mg C = some (.ref Ca) := gm
              rw [g1] at gm'
              cases gm'
              rw [ef] at fx
              obtain ⟨b, v, rfl, hbF, dv⟩ := fx
              have hb' := c'.ext _ _ hbF
              refine ⟨true, ex, fun _ e0 he0 => ?_, fun q => Bool.noConfusion q⟩
              have hl : i < σ.length := by rw [c'.len]; exact hil
              have hv : (σ.set i (some (V.ref e0)))[i]? = some (some (.ref e0)) := List.getElem?_set_self hl
              have lk : List.lookup g0 [(g0, v)] = some v := by simp [List.lookup]
              refine ⟨rfl, _, hv, .ref a1, .ref a1, true, b, [(g0, v)], rfl, fun u ru => ru, rfl, hb', k1', true, rfl, iteT ?_⟩
              refine ⟨_, hv, .ty T2, .type T2, true, b, [(g0, v)], rfl, fun u ru => ru, rfl, hb', k2', true, rfl, iteT ?_⟩
              refine ⟨_, hv, rfl, rfl, b, [(g0, v)], v, rfl, hb', lk, by show 1 ≤ sizeLine; decide, fun p hn => ?_⟩
              have nw := News.new (u := .lst [v]) c'.ext hn
              have c2 := c'.news nw
              have s2 := s'.trans (Stp.news (K := X.K) (P := P) nw)
              have c3 : Con X.K σ (ρ'.set i none) _ _ := c2.less [i]
              exact hp (.ref p) σ _ _ c3 (s2.trans ⟨fun _ _ z => z, fun _ _ z _ => z, fun _ _ _ z _ => z, fun b z => .inl (owned_less (vs := [i]) z), fun b o z => ⟨o, z⟩, fun _ _ => rfl⟩) (.lst upd_same (.cons (dv_mono nw.fr d0 v dv) .nil))
            · rw [if_neg hg] at hp; exact hp.elim
        · rw [if_neg hx] at hp; exact hp.elim
      · rw [if_neg hil] at hp; exact hp.elim
  · refine ⟨fun pins s σ H D I ⟨hcl, h⟩ => ?_⟩
    subst hcl
    have ci := call_isX (X := X) (a := e0) (d := d) (oe := oe) (pn := pn) ec hz hf'
    have drv := pss_one (ps_ret (pos := pos') (pe_ifExp (pos := q6) (PW.pt (pw_and (pos := q0) (pt_val (pe_callB (p := p2) ci gI T.mi (by decide +kernel) (pa_cons (pe_var (pos := p3) hi vis hd hcd) (pa_cons (pe_glob (v := .ref a1) (pos := p4) gC1 g2 rfl dC1) pa_nil s2) s1) (he := s1) (hpl := l1)) t1)
        (pw_and1 (pt_val (pe_callB (p := p6) ci gI T.mi (by decide +kernel) (pa_cons (pe_var (pos := p7) hi vis hd hcd) (pa_cons (pe_bltn (pos := p8) (v := .ty T2) gT2 T.m2 T.b2 rfl nT2 dT2) pa_nil s4) s3) (he := s3) (hpl := l2)) t2))))
        (pe_lst (pos := q3) (pa_cons (pe_xf (pos := q2) xf nf hz hf' (pe_var (pos := q1) hi vis hd hcd) ab) pa_nil s5)) (pe_lst (pos := q5) (pa_cons (pe_str (pos := q4) (j := x1)) pa_nil s6))))
    exact drv.run pins s σ H D I h
end DL
set_option Elab.async false
set_option linter.all false
set_option maxRecDepth 100000
set_option maxHeartbeats 2000000
set_option autoImplicit false
/-! DL11: the law's end: a mirror that says True on every script. -/
namespace DL
open PySem PySem.Spec PyProof.Rows L2

/-- a script as data -/
def scr (ns : List Int) : D := .dict ((.none, .none) :: ns.map fun n => (.int n, .none))
/-- what is told of the heap at the law's entry: the script, where the module does not hold it -/
def hEntry (a : Addr) (o : Obj) (ns : List Int) (told : Bool) : Hp := fun b => if told = true ∧ b = a then some (.frz o (.lst (ns.map V.int))) else none
theorem hEntry_no {a : Addr} {o : Obj} {ns : List Int} {b : Addr} {told : Bool} (h : ¬ (told = true ∧ b = a)) : hEntry a o ns told b = none := if_neg h
theorem hEntry_yes {a : Addr} {o : Obj} {ns : List Int} : hEntry a o ns true a = some (.frz o (.lst (ns.map V.int))) := if_pos ⟨rfl, rfl⟩
theorem hEntry_inv {a : Addr} {o : Obj} {ns : List Int} {b : Addr} {told : Bool} {u : HO} (h : hEntry a o ns told b = some u) : told = true ∧ b = a ∧ u = .frz o (.lst (ns.map V.int)) := by
  by_cases c : told = true ∧ b = a
  · refine ⟨c.1, c.2, ?_⟩
    have z : hEntry a o ns told b = some (.frz o (.lst (ns.map V.int))) := if_pos c
    rw [z] at h
    exact (Option.some.inj h).symm
  · rw [hEntry_no c] at h
    cases h
theorem entry_call {P : Program} {w : World} {K : PySem.W.Frag} {mg mb : Str → Option Value} {k : Nat} {a fa : Addr} {x name : Str} {m : FM} {s : Shared} {vs : List Value} {ns : List Int} (KX : K.In s.heap) (g1 : s.heap.Ns mainGlobals mg) (g2 : s.heap.Ns builtinsNs mb)
    (g3 : ∀ y : Str, y ≠ "__name__" → mb y = bootBuiltins y) (g4 : s.heap.NoLimit) (g5 : s.gens = #[]) (ha : s.heap.get? a = some { cls := .type "list", data := .seq vs.toArray }) (hi : IntsAre vs ns) (hl : ns.length ≤ sizeLine) (room : Room k callerA)
    (hm : mg name = some (.ref fa)) (F : ∀ base : Heap, K.In base → base.Ns mainGlobals mg → FnAt P w K mg base k name [x] m) (truth : ∃ ss, m [.dat (scr ns)] = .ok (.d (.bool true)) ss) :
    codeAny (model P w) callerA (.call (.ref fa) ⟨[.ref a], []⟩) (fun r s' => r = .ok (.ret (.bool true)) ∧ OldK s.heap s'.heap ∧ s'.os = s.os ∧ AllBare s'.gens) s := by
  obtain ⟨o, ho⟩ : ∃ o : Obj, o = { cls := .type "list", data := .seq vs.toArray } := ⟨_, rfl⟩
  rw [← ho] at ha
  obtain ⟨told, ht⟩ : ∃ told : Bool, told = (K.lookup a).isNone := ⟨_, rfl⟩
  have rv := vals_ints hi
  have le := hi.length
  obtain ⟨H, hH⟩ : ∃ H : Hp, H = hEntry a o ns told := ⟨_, rfl⟩
  have ok0 : HOk P w H s.heap := fun b u e => by
    rw [hH] at e
    obtain ⟨_, rfl, rfl⟩ := hEntry_inv e
    refine ⟨ha, by rw [List.length_map]; exact hl, vs, _, rv, by rw [ha, ho]⟩
  have sq : SqL K H a (ns.map V.int) := by
    cases q : K.lookup a with
    | none =>
      have t1 : told = true := by rw [ht, q]; rfl
      refine .inl (.inr ⟨o, ?_⟩)
      rw [hH, t1]
      exact hEntry_yes
    | some u =>
      have e := KX a u q
      rw [ha] at e
      cases e
      exact .inr ⟨o, vs.toArray, _, q, by rw [ho], by rw [ho], by rw [ho], by rw [List.size_toArray, le]; exact hl, by simpa using rv⟩
  have noDict : ∀ {b : Addr} {u : Obj} {es : Array DictEntry} {ep : Nat}, s.heap.get? b = some u → u.data = .dict es ep → H b = none := fun {b u es ep} e d => by
    cases q : H b with
    | none => rfl
    | some v =>
      rw [hH] at q
      obtain ⟨_, rfl, _⟩ := hEntry_inv q
      rw [ha] at e
      cases e
      rw [ho] at d
      cases d
  have nsB : ∀ {b : Addr} {f : Str → Option Value}, s.heap.Ns b f → (hidT s.heap H).Ns b f := fun {b f} ⟨u, es, ep, e, d, r⟩ => ⟨u, es, ep, hidT_get e (noDict e d), d, r⟩
  have kinB : K.In (hidT s.heap H) := fun b u e => hidT_get (KX b u e) (by
    cases q : H b with
    | none => rfl
    | some v =>
      rw [hH] at q
      obtain ⟨t1, rfl, _⟩ := hEntry_inv q
      rw [ht, e] at t1
      cases t1)
  obtain ⟨f, fd, hf, _, bd, _, G⟩ := F _ kinB (nsB g1)
  rw [hm] at hf
  cases hf
  have b0 := bd s [.ref a] KX rfl
  rw [List.append_nil] at b0
  have e0 : Env0 P w K mg (hidT s.heap H) callerA [] s H := by
    refine ⟨rfl, ⟨kinB, nsB g1, ⟨mb, nsB g2, g3⟩, ?_⟩, fun b u e => of_hidT e, Nat.le_of_eq (hidT_size _ _), trivial, (fun b hb => nomatch (show b ∈ ([] : List Addr) from hb)), ok0, .of_eq g5⟩
    obtain ⟨mc, z1, z2⟩ := g4
    exact ⟨mc, nsB z1, z2⟩
  obtain ⟨ss, et⟩ := truth
  have asked : spD K mg 1 m [.ref a] H (fun v _ => v = .bl true) fun _ _ _ => False := by
    refine ⟨[.dat (scr ns)], H, rfl, con_args (fun _ _ z => z) (.cons (.rdl sq) .nil), ?_⟩
    rw [et]
    intro y F' H' c st iv
    have dv : Dv K F' y (.bool true) := iv
    cases dv
    rfl
  refine codeAny_mono (G.run callerA [] s H ⟨[.ref a], []⟩ [.ref a] [.ref a] _ _ room rfl e0 b0 (.cons rfl .nil) asked) fun r s' z => ?_
  match r, z with
  | .error e, z =>
    obtain ⟨_, _, _, _, _, _, _, _, _, _, _, _, no⟩ := z
    exact no.elim
  | .ok .next, z => exact False.elim z
  | .ok .brk, z => exact False.elim z
  | .ok .cont, z => exact False.elim z
  | .ok (.ret u), z =>
    obtain ⟨v, H', os, bare, un, ok', r', rfl⟩ := z
    obtain rfl : u = Value.bool true := r'
    refine ⟨rfl, OldK.of_keep fun b u e => ?_, os, bare⟩
    cases q : H b with
    | none => exact un.keep b u e q (fun z => nomatch (show b ∈ ([] : List Addr) from z)) (by simp)
    | some v =>
      have q' := q
      rw [hH] at q'
      obtain ⟨_, rfl, rfl⟩ := hEntry_inv q'
      rw [ha] at e
      cases e
      exact (ok' _ _ (un.frzs _ _ _ q)).1
/-- THE END -/
theorem walkD {l : PySem.W.OpenLaw} {n k : Nat} {q : Program} {loose : List Str} {XP : (Str → Option Value) → Heap → Prop} {YP : World → Heap → Prop} {d : DefRec} {K : Params → PySem.W.Frag} {x : Str} {m : FM}
    (hn : l.most = some n) (hn2 : n ≤ sizeLine) (hdf : d.params.defaults = []) (room : Room k callerA) (hY : ∀ (w : World) (h : Heap), YP w h → (K w.params).In h)
    (truth : ∀ ns : List Int, ns.length ≤ n → ∃ ss, m [.dat (scr ns)] = .ok (.d (.bool true)) ss)
    (F : ∀ (w : World) (mg : Str → Option Value) (h : Heap), (K w.params).In h → h.Ns mainGlobals mg → ∀ base : Heap, (K w.params).In base → base.Ns mainGlobals mg → FnAt l.prog w (K w.params) mg base k d.name [x] m) :
    PySem.W.WalkO q loose XP YP l.row.toRowW d [] (fun f vs => PySem.call f vs) := by
  refine Att.attach_call hn hdf fun w s₀ s₁ mg mb fa o pm cd doc a vs ns G Y ho hd hcd hmg hobj hints hlen hg => ?_
  have KX := hY w _ Y
  exact entry_call KX G.T.g G.T.b G.T.builtins G.T.nolimit hg hobj hints (Nat.le_trans hlen hn2) room hmg (F w mg _ KX G.T.g) (truth ns hlen)
end DL
set_option Elab.async false
set_option linter.all false
set_option maxRecDepth 100000
set_option maxHeartbeats 2000000
set_option autoImplicit false
/-! DL12: what the top has written, as facts of this layer. -/
namespace DL
open PySem PySem.Spec PyProof.Rows L2
section
variable {K : PySem.W.Frag} {h : Heap} {mg : Str → Option Value} (X : K.In h) (G : h.Ns mainGlobals mg)
include X G
theorem def_mk {x : Str} {st : Stmt} {ps : List Str} {f : Addr} {oc : Value} {od an : Option Addr} {osl : Array (Option Value)} {kV doc pm cdv ct : Value} (a : PySem.W.nsIn K mainGlobals x = some (some (.ref f)))
    (l : K.lookup f = some ⟨oc, od, .func (PySem.W.fnOf x x (defArgs st) (defBody st) (defScope st) .none kV doc pm an cdv ct), osl⟩) (c : PySem.W.codeIn K cdv x = true) (k : PySem.W.keepIn K (.ref f) = true)
    (b1 : ∀ (kV doc pm : Value) (an : Option Addr) (cdv ct : Value) (us : List Value), us.length = ps.length → bindArgs (PySem.W.fnOf x x (defArgs st) (defBody st) (defScope st) .none kV doc pm an cdv ct) ⟨us, []⟩ = pure (ps.zip us))
    (b2 : ∀ (kV doc pm : Value) (an : Option Addr) (cdv ct : Value) (us : List Value), us.length = ps.length → bindArgs (PySem.W.fnOf x x (defArgs st) (defBody st) (defScope st) .none kV doc pm an cdv ct) ⟨[], ps.zip us⟩ = pure (ps.zip us)) : DefAt K mg x st ps := by
  have F := fun_mk (st := st) l c k
  exact ⟨f, _, PySem.W.mg_of X G a, F, F.binds b1, fun s us hl => .of_eq (b2 _ _ _ _ _ _ us hl)⟩
theorem glob_str {x z : Str} {t : Nat} (a : PySem.W.nsIn K mainGlobals x = some (some (.str z t))) : GlobD K mg x (.str z) := ⟨.str z, _, PySem.W.mg_of X G a, ⟨t, rfl⟩, fun _ => .str z⟩
theorem glob_int {x : Str} {z : Int} {t : Nat} (a : PySem.W.nsIn K mainGlobals x = some (some (.int z t))) : GlobD K mg x (.int z) := ⟨.int z, _, PySem.W.mg_of X G a, ⟨t, rfl⟩, fun _ => .int z⟩
omit X G in
theorem vals_strs : ∀ zs : List (Str × Nat), Vals (zs.map fun p => V.str p.1) (zs.map fun p => Value.str p.1 p.2)
  | [] => .nil
  | _ :: r => .cons ⟨_, rfl⟩ (vals_strs r)
omit X G in
theorem dvs_strsT {F : Hp} : ∀ zs : List (Str × Nat), DvAll K F (zs.map fun p => V.str p.1) (zs.map fun p => PyData.str p.1)
  | [] => .nil
  | _ :: r => .cons (.str _) (dvs_strsT r)
theorem glob_tups {x : Str} {q : Addr} {dq : Option Addr} {its : Array Value} {nq : Nat} {sq : Array (Option Value)} {d : List D} (a : PySem.W.nsIn K mainGlobals x = some (some (.ref q))) (l : K.lookup q = some ⟨.type "tuple", dq, .seq its nq, sq⟩) (zs : List (Str × Nat))
    (hi : its = (zs.map fun p => Value.str p.1 p.2).toArray) (hd : d = zs.map fun p => PyData.str p.1) (hz : zs.length ≤ 1000) : GlobD K mg x (.tuple d) := by
  subst hi
  subst hd
  refine ⟨.ref q, _, PySem.W.mg_of X G a, rfl, fun F => .tup (xs := zs.map fun p => V.str p.1) (.inr ⟨_, _, nq, l, rfl, rfl, ?_, ?_⟩) (dvs_strsT zs)⟩
  · rw [List.size_toArray, List.length_map]
    exact Nat.le_of_lt (small1000 hz)
  · exact vals_strs zs
theorem xc_mk {x qual f : Str} {st : Stmt} {C fI : Addr} {fd : FuncData} (a : PySem.W.nsIn K mainGlobals x = some (some (.ref C))) (T : OexC K C) (iC : PySem.W.findIn K (.ref C) "__init__" = some (some (.ref fI))) (tI : PySem.W.typeIn K (.ref fI) = some (.type "function"))
    (noF : PySem.W.findIn K (.ref C) f = some none) (Fn : Fun K "__init__" qual st fI fd) (S : FnScope [("self" : Str), f] [("self" : Str), f] (defScope st))
    (b1 : ∀ (kV doc pm : Value) (an : Option Addr) (cdv ct : Value) (us : List Value), us.length = ([("self" : Str), f] : List Str).length → bindArgs (PySem.W.fnOf "__init__" qual (defArgs st) (defBody st) (defScope st) .none kV doc pm an cdv ct) ⟨us, []⟩ = pure (([("self" : Str), f] : List Str).zip us))
    (body : ∀ (P : Program) (w : World) (base : Heap) (cdv : Value) (A : Around) (outer : List Env) (s : Shared) (H : Hp) (E : XK), PSs (cxOf CX0 P w K mg base [("self" : Str), f] qual (defScope st) fI cdv A outer s H E).nox (defBody st) (tOst K f (tVar 0) (tVar 1))) : ∃ C fI fd, ∀ P w base, XC P w K mg base x f C fI fd := by
  refine ⟨C, fI, fd, fun P w base => ⟨PySem.W.mg_of X G a, T, iC, tI, noF, Fn.ok S (fun vs H Q E z => ?_) fun cdv A outer s H vs Q E hr z => ?_, Fn.binds b1⟩⟩
  · obtain ⟨_, _, rfl, _⟩ := z
    rfl
  · exact ⟨_, body P w base cdv A outer s H E, pure_init T noF z⟩
end
/-- a class is caught by its own name -/
theorem exm_me {K : PySem.W.Frag} {c : Addr} (a : PySem.W.subIn K (.ref c) (.type "BaseException") = some true) (b : PySem.W.isClsIn K c = true) (d : PySem.W.typeIn K (.ref c) = some (.type "type")) (e : PySem.W.subIn K (.ref c) (.ref c) = some true) : PySem.W.exmOne K (.ref c) (.ref c) = some true := by
  have b' : (PySem.W.clsIn K c).isSome = true := b
  unfold PySem.W.exmOne PySem.W.kitCls
  rw [if_pos (by rw [a]; rfl)]
  dsimp only
  rw [if_pos (by rw [b', d]; rfl)]
  exact e
theorem kit_own {K : PySem.W.Frag} {c b : Addr} (i : PySem.W.isClsIn K b = true) (d : PySem.W.typeIn K (.ref b) = some (.type "type")) (e : PySem.W.subIn K (.ref c) (.ref b) = some true) : PySem.W.kitOne K (.ref c) (.ref b) = some true := by
  have i' : (PySem.W.clsIn K b).isSome = true := i
  unfold PySem.W.kitOne
  split
  · rfl
  · unfold PySem.W.kitCls
    dsimp only
    rw [if_pos (by rw [i', d]; rfl)]
    exact e
theorem kit_blt {K : PySem.W.Frag} {c : Addr} {T : String} (i : PySem.W.kitMeta T = true) (e : PySem.W.subIn K (.ref c) (.type T) = some true) : PySem.W.kitOne K (.ref c) (.type T) = some true := by
  unfold PySem.W.kitOne
  split
  · rfl
  · unfold PySem.W.kitCls
    dsimp only
    rw [if_pos i]
    exact e
end DL
set_option Elab.async false
set_option linter.all false
set_option maxRecDepth 100000
set_option maxHeartbeats 2000000
set_option autoImplicit false
/-! WP: what a mirror answers, read backwards. -/
namespace DL
open PySem PySem.Spec PyProof.Rows L2

def oP {α : Type} (o : Option α) (P : α → Prop) : Prop := match o with
  | some a => P a
  | none => False
@[simp] theorem oP_some {α : Type} {a : α} {P : α → Prop} : oP (some a) P ↔ P a := Iff.rfl
@[simp] theorem oP_none {α : Type} {P : α → Prop} : oP none P ↔ False := Iff.rfl
@[simp] theorem oP_if {α : Type} {c : Prop} [Decidable c] {a : α} {P : α → Prop} : oP (if c then some a else none) P ↔ c ∧ P a := by
  by_cases h : c <;> simp [h]
@[simp] theorem oP_map {α β : Type} {f : α → β} {o : Option α} {P : β → Prop} : oP (o.map f) P ↔ oP o fun a => P (f a) := by cases o <;> simp
@[simp] theorem oP_bind {α β : Type} {f : α → Option β} {o : Option α} {P : β → Prop} : oP (o.bind f) P ↔ oP o fun a => oP (f a) P := by cases o <;> simp
theorem oP_of {α : Type} {o : Option α} {a : α} {P : α → Prop} (h : o = some a) (p : P a) : oP o P := by rw [h]; exact p
def vD (v : Val) (P : D → Prop) : Prop := match v with
  | .d d => P d
  | .l _ => False
@[simp] theorem vD_d {d : D} {P : D → Prop} : vD (.d d) P ↔ P d := Iff.rfl
@[simp] theorem vD_l {d : List D} {P : D → Prop} : vD (.l d) P ↔ False := Iff.rfl
def dB (v : Val) (P : Bool → Prop) : Prop := match v with
  | .d (.bool b) => P b
  | _ => False
@[simp] theorem dB_b {b : Bool} {P : Bool → Prop} : dB (.d (.bool b)) P ↔ P b := Iff.rfl
def dI (v : Val) (P : Int → Prop) : Prop := match v with
  | .d (.int b) => P b
  | _ => False
@[simp] theorem dI_i {b : Int} {P : Int → Prop} : dI (.d (.int b)) P ↔ P b := Iff.rfl
def wE (m : EM) (ρ : Rh) (Φ : Val → Rh → Prop) : Prop := match m ρ with
  | .ok v ρ' => Φ v ρ'
  | _ => False
def wL (m : LM) (ρ : Rh) (Φ : List Val → Rh → Prop) : Prop := match m ρ with
  | .ok v ρ' => Φ v ρ'
  | _ => False
def wO (m : Rh → RO) (ρ : Rh) (Φ : Option Int → Rh → Prop) : Prop := match m ρ with
  | .ok v ρ' => Φ v ρ'
  | _ => False
def wI (m : Rh → RI) (ρ : Rh) (Φ : List D → Rh → Prop) : Prop := match m ρ with
  | .ok v ρ' => Φ v ρ'
  | _ => False
def wS (m : SM) (ρ : Rh) (Ψ : Out → Prop) : Prop := Ψ (m ρ)
def pF (f : FM) (ss : List Slot) (Φ : Val → List Slot → Prop) : Prop := match f ss with
  | .ok v s => Φ v s
  | _ => False
def rD (ρ : Rh) (i : Nat) (P : D → Prop) : Prop := match ρ[i]? with
  | some (some (.dat d)) => P d
  | _ => False
def rOw (ρ : Rh) (i : Nat) (P : List D → Prop) : Prop := match ρ[i]? with
  | some (some (.own d)) => P d
  | _ => False
@[simp] theorem rD_0 {ρ : Rh} {d : D} {P : D → Prop} : rD (some (.dat d) :: ρ) 0 P ↔ P d := Iff.rfl
@[simp] theorem rD_s {ρ : Rh} {x : Option Slot} {i : Nat} {P : D → Prop} : rD (x :: ρ) (i + 1) P ↔ rD ρ i P := by unfold rD; rw [List.getElem?_cons_succ]
@[simp] theorem rO_0 {ρ : Rh} {d : List D} {P : List D → Prop} : rOw (some (.own d) :: ρ) 0 P ↔ P d := Iff.rfl
@[simp] theorem rO_s {ρ : Rh} {x : Option Slot} {i : Nat} {P : List D → Prop} : rOw (x :: ρ) (i + 1) P ↔ rOw ρ i P := by unfold rOw; rw [List.getElem?_cons_succ]
section
variable {ρ : Rh} {Φ : Val → Rh → Prop} {ma mb mc m : EM} {ms : LM} {i n : Nat}
@[simp] theorem wE_con {d : D} : wE (conM d) ρ Φ ↔ Φ (.d d) ρ := Iff.rfl
@[simp] theorem wE_var : wE (varM i) ρ Φ ↔ rD ρ i fun d => Φ (.d d) ρ := by
  unfold wE varM rD
  rcases h : ρ[i]? with _ | _ | d | o <;> simp
theorem wE_bind {f : Val → EM} : wE (bindE m f) ρ Φ ↔ wE m ρ fun v ρ' => wE (f v) ρ' Φ := by
  unfold wE bindE
  cases m ρ <;> rfl
theorem wE_bindL {f : List Val → EM} : wE (bindL ms f) ρ Φ ↔ wL ms ρ fun v ρ' => wE (f v) ρ' Φ := by
  unfold wE wL bindL
  cases ms ρ <;> rfl
theorem wE_bindO {mo : Rh → RO} {f : Option Int → EM} : wE (bindO mo f) ρ Φ ↔ wO mo ρ fun v ρ' => wE (f v) ρ' Φ := by
  unfold wE wO bindO
  cases mo ρ <;> rfl
theorem wE_lift {o : Option D} : wE (liftD o) ρ Φ ↔ oP o fun d => Φ (.d d) ρ := by
  cases o <;> rfl
theorem wE_st : wE (fun _ => .stuck) ρ Φ ↔ False := Iff.rfl
@[simp] theorem wE_op2 {g : D → D → Option D} : wE (op2 g ma mb) ρ Φ ↔ wE ma ρ fun x ρ1 => wE mb ρ1 fun y ρ2 => vD x fun x => vD y fun y => oP (g x y) fun d => Φ (.d d) ρ2 := by
  unfold op2
  rw [wE_bind]
  apply iff_of_eq
  congr 1; funext x ρ1
  rw [wE_bind]
  congr 1; funext y ρ2
  cases x <;> cases y <;> simp [wE_lift, wE_st]
@[simp] theorem wE_op1 {g : D → Option D} : wE (op1 g ma) ρ Φ ↔ wE ma ρ fun x ρ1 => vD x fun x => oP (g x) fun d => Φ (.d d) ρ1 := by
  unfold op1
  rw [wE_bind]
  apply iff_of_eq
  congr 1; funext x ρ1
  cases x <;> simp [wE_lift, wE_st]
@[simp] theorem wE_opL {g : List D → Option D} : wE (opL g ms) ρ Φ ↔ wL ms ρ fun vs ρ1 => oP (datL vs) fun ds => oP (g ds) fun d => Φ (.d d) ρ1 := by
  unfold opL
  rw [wE_bindL]
  apply iff_of_eq
  congr 1; funext x ρ1
  simp [wE_lift]
@[simp] theorem datL_nil : datL [] = some [] := rfl
@[simp] theorem datL_d {d : D} {r : List Val} : datL (.d d :: r) = (datL r).map (d :: ·) := rfl
@[simp] theorem wL_nil {Φ : List Val → Rh → Prop} : wL nilL ρ Φ ↔ Φ [] ρ := Iff.rfl
@[simp] theorem wL_cons {Φ : List Val → Rh → Prop} : wL (consL m ms) ρ Φ ↔ wE m ρ fun v ρ1 => wL ms ρ1 fun vs ρ2 => Φ (v :: vs) ρ2 := by
  unfold wL wE consL
  cases m ρ with
  | ok v ρ1 => dsimp only; cases ms ρ1 <;> rfl
  | exc x ρ1 => rfl
  | stuck => rfl
@[simp] theorem wE_and : wE (andM ma mb) ρ Φ ↔ wE ma ρ fun v ρ1 => dB v fun b => if b = true then wE mb ρ1 Φ else Φ (.d (.bool false)) ρ1 := by
  unfold andM
  rw [wE_bind]
  apply iff_of_eq
  congr 1; funext x ρ1
  unfold dB
  split <;> simp_all [wE_con, wE_st]
@[simp] theorem wE_or : wE (orM ma mb) ρ Φ ↔ wE ma ρ fun v ρ1 => dB v fun b => if b = true then Φ (.d (.bool true)) ρ1 else wE mb ρ1 Φ := by
  unfold orM
  rw [wE_bind]
  apply iff_of_eq
  congr 1; funext x ρ1
  unfold dB
  split <;> simp_all [wE_con, wE_st]
@[simp] theorem wE_not : wE (notM ma) ρ Φ ↔ wE ma ρ fun v ρ1 => dB v fun b => Φ (.d (.bool (!b))) ρ1 := by
  unfold notM
  rw [wE_bind]
  apply iff_of_eq
  congr 1; funext x ρ1
  unfold dB
  split <;> simp_all [wE_con, wE_st]
@[simp] theorem wE_ite : wE (iteM mc ma mb) ρ Φ ↔ wE mc ρ fun v ρ1 => dB v fun b => if b = true then wE ma ρ1 Φ else wE mb ρ1 Φ := by
  unfold iteM
  rw [wE_bind]
  apply iff_of_eq
  congr 1; funext x ρ1
  unfold dB
  split <;> simp_all [wE_st]
@[simp] theorem wE_lstO : wE (lstO ms) ρ Φ ↔ wL ms ρ fun vs ρ1 => oP (datL vs) fun ds => ds.length ≤ 100000 ∧ Φ (.l ds) ρ1 := by
  unfold lstO
  rw [wE_bindL]
  apply iff_of_eq
  congr 1; funext x ρ1
  cases datL x with
  | none => simp [wE_st]
  | some ds =>
    unfold wE
    by_cases h : ds.length ≤ 100000 <;> simp [h]
def frV : Val → Val
  | .l ds => .d (.list ds)
  | .d d => .d d
@[simp] theorem frV_l {ds : List D} : frV (.l ds) = .d (.list ds) := rfl
@[simp] theorem frV_d {d : D} : frV (.d d) = .d d := rfl
@[simp] theorem wE_frz : wE (frzE m) ρ Φ ↔ wE m ρ fun v ρ1 => Φ (frV v) ρ1 := by
  unfold wE frzE
  cases m ρ with
  | ok v ρ1 => cases v <;> rfl
  | exc x ρ1 => rfl
  | stuck => rfl
@[simp] theorem wO_no {Φ : Option Int → Rh → Prop} : wO noPartM ρ Φ ↔ Φ none ρ := Iff.rfl
@[simp] theorem wO_part {Φ : Option Int → Rh → Prop} : wO (partM m) ρ Φ ↔ wE m ρ fun v ρ1 => dI v fun i => Φ (some i) ρ1 := by
  unfold wO wE partM
  cases m ρ with
  | ok v ρ1 =>
    cases v with
    | l ds => rfl
    | d d => cases d <;> rfl
  | exc x ρ1 => rfl
  | stuck => rfl
@[simp] theorem wE_sl {lo hi : Rh → RO} : wE (slM m lo hi) ρ Φ ↔ wE m ρ fun v ρ1 => vD v fun x => wO lo ρ1 fun l ρ2 => wO hi ρ2 fun h ρ3 => oP (gSl x l h) fun d => Φ (.d d) ρ3 := by
  unfold slM
  rw [wE_bind]
  apply iff_of_eq
  congr 1; funext x ρ1
  cases x <;> simp [wE_lift, wE_st, wE_bindO]
@[simp] theorem wE_ch {g1 g2 : D → D → Option D} : wE (chM g1 g2 ma mb mc) ρ Φ ↔ wE ma ρ fun x ρ1 => wE mb ρ1 fun y ρ2 => vD x fun x => vD y fun y => oP (g1 x y) fun t => dB (.d t) fun t => if t = true then wE mc ρ2 fun z ρ3 => vD z fun z => oP (g2 y z) fun d => Φ (.d d) ρ3 else Φ (.d (.bool false)) ρ2 := by
  unfold chM
  rw [wE_bind]
  apply iff_of_eq
  congr 1; funext x ρ1
  rw [wE_bind]
  congr 1; funext y ρ2
  cases x <;> cases y <;> simp [wE_st]
  rename_i x y
  cases g1 x y with
  | none => simp [wE_st]
  | some t =>
    cases t <;> simp [wE_st, dB]
    rename_i t
    cases t <;> simp [wE_con, wE_bind]
    apply iff_of_eq
    congr 1; funext z ρ3
    cases z <;> simp [wE_lift, wE_st]
def dS (v : Val) (P : Str → Prop) : Prop := match v with
  | .d (.str b) => P b
  | _ => False
@[simp] theorem dS_s {b : Str} {P : Str → Prop} : dS (.d (.str b)) P ↔ P b := Iff.rfl
@[simp] theorem wE_strM {g : D → D → Option D} {mo : EM} : wE (strM g mo m) ρ Φ ↔ wE mo ρ fun a ρ1 => dS a fun z => wE m ρ1 fun y ρ2 => vD y fun y => oP (g (.str z) y) fun d => Φ (.d d) ρ2 := by
  unfold strM
  rw [wE_bind]
  apply iff_of_eq
  congr 1; funext x ρ1
  unfold dS
  split <;> simp_all [wE_st, wE_bind]
  apply iff_of_eq
  congr 1; funext y ρ2
  cases y <;> simp [wE_lift, wE_st]
@[simp] theorem wE_disp {kvs : List (Str × Str)} : wE (dispM kvs m) ρ Φ ↔ wE m ρ fun a ρ1 => dS a fun k => oP (lookS kvs k) fun z => Φ (.d (.str z)) ρ1 := by
  unfold dispM
  rw [wE_bind]
  apply iff_of_eq
  congr 1; funext x ρ1
  unfold dS
  split <;> simp_all [wE_st]
  rename_i k
  unfold wE
  cases lookS kvs k <;> simp
@[simp] theorem wE_ixO : wE (ixO i m) ρ Φ ↔ rOw ρ i fun _ => wE m ρ fun v ρ1 => dI v fun k => rOw ρ1 i fun ds => oP (atI ds k) fun d => Φ (.d d) ρ1 := by
  rcases h : ρ[i]? with _ | _ | d | o
  · simp [wE, ixO, rOw, h]
  · simp [wE, ixO, rOw, h]
  · simp [wE, ixO, rOw, h]
  · have e : wE (ixO i m) ρ Φ ↔ wE (bindE m fun v => match v with
        | .d (.int k) => fun ρ' => match ρ'[i]? with
          | some (some (.own ds)) => match atI ds k with
            | some d => .ok (.d d) ρ'
            | none => .stuck
          | _ => .stuck
        | _ => fun _ => .stuck) ρ Φ := by unfold wE; rw [show ixO i m ρ = _ from by unfold ixO; rw [h]] <;> exact Iff.rfl
    rw [e, wE_bind, show rOw ρ i (fun _ => wE m ρ fun v ρ1 => dI v fun k => rOw ρ1 i fun ds => oP (atI ds k) fun d => Φ (.d d) ρ1) = (wE m ρ fun v ρ1 => dI v fun k => rOw ρ1 i fun ds => oP (atI ds k) fun d => Φ (.d d) ρ1) from by unfold rOw; rw [h]]
    apply iff_of_eq
    congr 1; funext v ρ1
    cases v with
    | l ds => rfl
    | d d =>
      cases d <;> try rfl
      rename_i k
      show wE _ ρ1 Φ = rOw ρ1 i _
      unfold wE rOw
      dsimp only
      rcases h1 : ρ1[i]? with _ | _ | d | o
      · rfl
      · rfl
      · rfl
      · dsimp only
        cases atI o k <;> rfl
@[simp] theorem wE_empty : wE emptyD ρ Φ ↔ Φ (.d (.dict [])) ρ := Iff.rfl
/-! calls -/
@[simp] theorem wE_callD {f : FM} : wE (callD n f ms) ρ Φ ↔ wL ms ρ fun vs ρ1 => oP (datL vs) fun ds => ds.length = n ∧ pF f (ds.map .dat) fun v _ => Φ v ρ1 := by
  unfold wE wL callD
  cases ms ρ with
  | ok vs ρ1 =>
    dsimp only
    cases datL vs with
    | none => simp
    | some ds =>
      by_cases h : ds.length = n
      · simp only [h, if_true, oP_some, true_and, pF]
        cases f (ds.map .dat) <;> simp
      · simp [h]
  | exc x ρ1 => rfl
  | stuck => rfl
def bK (i : Nat) (ρ1 : Rh) (Φ : Val → Rh → Prop) (v : Val) (ss : List Slot) : Prop := match ss with
  | .own os' :: r => allDat r = true ∧ Φ v (ρ1.set i (some (.own os')))
  | _ => False
@[simp] theorem bK_own {ρ1 : Rh} {v : Val} {os : List D} {r : List Slot} : bK i ρ1 Φ v (.own os :: r) ↔ allDat r = true ∧ Φ v (ρ1.set i (some (.own os))) := Iff.rfl
@[simp] theorem allDat_nil : allDat [] = true := rfl
@[simp] theorem allDat_d {d : D} {r : List Slot} : allDat (.dat d :: r) = allDat r := by simp [allDat]
@[simp] theorem wE_callO {f : FM} : wE (callO n f i ms) ρ Φ ↔ rOw ρ i fun _ => wL ms ρ fun vs ρ1 => oP (datL vs) fun ds => rOw ρ1 i fun os => ds.length + 1 = n ∧ pF f (.own os :: ds.map .dat) (bK i ρ1 Φ) := by
  rcases h : ρ[i]? with _ | _ | d | o
  · simp [wE, callO, rOw, h]
  · simp [wE, callO, rOw, h]
  · simp [wE, callO, rOw, h]
  · unfold wE wL rOw callO
    rw [h]
    dsimp only
    cases ms ρ with
    | exc x ρ1 => rfl
    | stuck => rfl
    | ok vs ρ1 =>
      dsimp only
      cases datL vs with
      | none => rfl
      | some ds =>
        rw [oP_some]
        dsimp only
        rcases h1 : ρ1[i]? with _ | _ | d | os
        · simp
        · simp
        · simp
        · dsimp only
          by_cases hn : ds.length + 1 = n
          · rw [if_pos hn]
            unfold pF
            cases f (.own os :: ds.map .dat) with
            | stuck => simp [backO]
            | exc x ss =>
              rcases ss with _ | ⟨_ | _, r⟩
              · simp [backO]
              · simp [backO]
              · rename_i os'
                by_cases ha : allDat r = true <;> simp [backO, ha]
            | ok v ss =>
              rcases ss with _ | ⟨_ | _, r⟩
              · simp [backO, bK]
              · simp [backO, bK]
              · rename_i os'
                by_cases ha : allDat r = true <;> simp [backO, ha, hn]
          · simp [hn]
end
end DL
set_option Elab.async false
set_option linter.all false
set_option maxRecDepth 100000
set_option maxHeartbeats 2000000
set_option autoImplicit false
/-! WP2: statements, loops, defs, read backwards. -/
namespace DL
open PySem PySem.Spec PyProof.Rows L2
section
variable {ρ : Rh} {Ψ : Out → Prop} {Φ : Val → Rh → Prop} {a b : SM} {m mc : EM} {ms : LM} {mt : TGM} {i j k n : Nat}
def seqK (b : SM) (Ψ : Out → Prop) (o : Out) : Prop := match o with
  | .nx ρ' => wS b ρ' Ψ
  | o => Ψ o
@[simp] theorem seqK_nx : seqK b Ψ (.nx ρ) ↔ wS b ρ Ψ := Iff.rfl
@[simp] theorem seqK_ret {v : Val} : seqK b Ψ (.ret v ρ) ↔ Ψ (.ret v ρ) := Iff.rfl
@[simp] theorem seqK_exc {x : Xn} : seqK b Ψ (.exc x ρ) ↔ Ψ (.exc x ρ) := Iff.rfl
@[simp] theorem wS_seq : wS (seqM a b) ρ Ψ ↔ wS a ρ (seqK b Ψ) := by
  unfold wS seqM seqK
  cases a ρ <;> rfl
@[simp] theorem wS_next : wS nextM ρ Ψ ↔ Ψ (.nx ρ) := Iff.rfl
theorem wS_bind {f : Val → SM} (h : wE m ρ fun v ρ' => wS (f v) ρ' Ψ) : wS (bindS m f) ρ Ψ := by
  unfold wS bindS
  unfold wE at h
  cases e : m ρ with
  | ok v ρ1 => rw [e] at h; exact h
  | exc x ρ1 => rw [e] at h; exact h.elim
  | stuck => rw [e] at h; exact h.elim
theorem wE_mono {Φ Φ' : Val → Rh → Prop} (h : wE m ρ Φ) (k : ∀ v ρ', Φ v ρ' → Φ' v ρ') : wE m ρ Φ' := by
  unfold wE at *
  cases e : m ρ <;> simp_all
theorem wS_mono {Ψ Ψ' : Out → Prop} (h : wS a ρ Ψ) (k : ∀ o, Ψ o → Ψ' o) : wS a ρ Ψ' := k _ h
theorem pF_mono {f : FM} {ss : List Slot} {Φ Φ' : Val → List Slot → Prop} (h : pF f ss Φ) (k : ∀ v ρ', Φ v ρ' → Φ' v ρ') : pF f ss Φ' := by
  unfold pF at *
  cases e : f ss <;> simp_all
theorem ws_asg (h : wE m ρ fun v ρ1 => vD v fun d => oP (mt d ρ1) fun ρ2 => Ψ (.nx ρ2)) : wS (asgM mt m) ρ Ψ := by
  refine wS_bind (wE_mono h fun v ρ' q => ?_)
  cases v with
  | l d => exact q.elim
  | d d =>
    unfold wS
    dsimp only
    rw [vD_d] at q
    cases e : mt d ρ' with
    | none => rw [e] at q; exact q.elim
    | some r => rw [e] at q; exact q
def lV (v : Val) (P : List D → Prop) : Prop := match v with
  | .l d => P d
  | .d _ => False
@[simp] theorem lV_l {d : List D} {P : List D → Prop} : lV (.l d) P ↔ P d := Iff.rfl
@[simp] theorem lV_d {d : D} {P : List D → Prop} : lV (.d d) P ↔ False := Iff.rfl
theorem ws_asgO (h : wE m ρ fun v ρ1 => lV v fun ds => Ψ (.nx (ρ1.set i (some (.own ds))))) : wS (asgO i m) ρ Ψ := by
  refine wS_bind (wE_mono h fun v ρ' q => ?_)
  cases v with
  | l d => exact q
  | d d => exact False.elim q
theorem ws_expr (h : wE m ρ fun v ρ1 => Ψ (.nx ρ1)) : wS (exprM m) ρ Ψ := wS_bind h
theorem ws_ret (h : wE m ρ fun v ρ1 => Ψ (.ret v ρ1)) : wS (retM m) ρ Ψ := wS_bind h
theorem ws_if (h : wE mc ρ fun v ρ1 => dB v fun t => if t = true then wS a ρ1 Ψ else wS b ρ1 Ψ) : wS (ifM mc a b) ρ Ψ := by
  refine wS_bind (wE_mono h fun v ρ' q => ?_)
  cases v with
  | l d => exact q.elim
  | d d =>
    cases d with
    | bool t =>
      rw [dB_b] at q
      cases t
      · exact q
      · exact q
    | none => exact q.elim
    | int _ => exact q.elim
    | str _ => exact q.elim
    | list _ => exact q.elim
    | tuple _ => exact q.elim
    | dict _ => exact q.elim
theorem ws_app (h : rOw ρ i fun _ => wE m ρ fun v ρ1 => vD v fun d => rOw ρ1 i fun ds => ds.length < 100000 ∧ Ψ (.nx (ρ1.set i (some (.own (ds ++ [d])))))) : wS (appM i m) ρ Ψ := by
  unfold rOw at h
  rcases e : ρ[i]? with _ | _ | d | o
  · rw [e] at h; exact h.elim
  · rw [e] at h; exact h.elim
  · rw [e] at h; exact h.elim
  · rw [e] at h
    dsimp only at h
    unfold wS appM
    rw [e]
    dsimp only
    refine wS_bind (wE_mono h fun v ρ' q => ?_)
    cases v with
    | l d => exact q.elim
    | d d =>
      unfold wS
      dsimp only
      rw [vD_d] at q
      rcases e2 : ρ'[i]? with _ | _ | d2 | o2
      · rw [e2] at q; exact q.elim
      · rw [e2] at q; exact q.elim
      · rw [e2] at q; exact q.elim
      · rw [e2] at q
        dsimp only at q ⊢
        rw [if_pos q.1]
        exact q.2
theorem ws_frz (h : match ρ[i]? with
    | some (some (.own ds)) => wS a (ρ.set i (some (.dat (.list ds)))) Ψ
    | _ => wS a ρ Ψ) : wS (frzS i a) ρ Ψ := by
  unfold wS frzS
  rcases e : ρ[i]? with _ | _ | d2 | o2 <;> rw [e] at h <;> exact h
theorem ws_forget (h : wS a (ρ.set i none) Ψ) : wS (forgetS i a) ρ Ψ := h
def v2 (vs : List Val) (P : Val → Val → Prop) : Prop := match vs with
  | [x, y] => P x y
  | _ => False
@[simp] theorem v2_2 {x y : Val} {P : Val → Val → Prop} : v2 [x, y] P ↔ P x y := Iff.rfl
theorem wS_bindL {f : List Val → SM} (h : wL ms ρ fun v ρ' => wS (f v) ρ' Ψ) : wS (bindLS ms f) ρ Ψ := by
  unfold wS bindLS
  unfold wL at h
  cases e : ms ρ with
  | ok v ρ1 => rw [e] at h; exact h
  | exc x ρ1 => rw [e] at h; exact h.elim
  | stuck => rw [e] at h; exact h.elim
theorem wL_mono {Φ Φ' : List Val → Rh → Prop} (h : wL ms ρ Φ) (k : ∀ v ρ', Φ v ρ' → Φ' v ρ') : wL ms ρ Φ' := by
  unfold wL at *
  cases e : ms ρ <;> simp_all
def sOf : Val → Slot
  | .d d => .dat d
  | .l d => .own d
@[simp] theorem sOf_d {d : D} : sOf (.d d) = .dat d := rfl
@[simp] theorem sOf_l {d : List D} : sOf (.l d) = .own d := rfl
theorem ws_par (h : wL ms ρ fun vs ρ1 => v2 vs fun x y => vD y fun y => Ψ (.nx ((ρ1.set i (some (sOf x))).set j (some (.dat y))))) : wS (parM i j ms) ρ Ψ := by
  refine wS_bindL (wL_mono h fun v ρ' q => ?_)
  match v, q with
  | [.d x, .d y], q => exact q
  | [.l x, .d y], q => exact q
  | [.d x, .l y], q => exact False.elim q
  | [.l x, .l y], q => exact False.elim q
def v3 (vs : List Val) (P : D → D → D → Prop) : Prop := match vs with
  | [.d x, .d y, .d z] => P x y z
  | _ => False
@[simp] theorem v3_3 {x y z : D} {P : D → D → D → Prop} : v3 [.d x, .d y, .d z] P ↔ P x y z := Iff.rfl
theorem ws_par3 (h : wL ms ρ fun vs ρ1 => v3 vs fun x y z => Ψ (.nx (((ρ1.set i (some (.dat x))).set j (some (.dat y))).set k (some (.dat z))))) : wS (par3M i j k ms) ρ Ψ := by
  refine wS_bindL (wL_mono h fun v ρ' q => ?_)
  match v, q with
  | [.d x, .d y, .d z], q => exact q
/-! walked -/
@[simp] theorem wI_seq {Φ : List D → Rh → Prop} : wI (seqI m) ρ Φ ↔ wE m ρ fun v ρ1 => vD v fun d => oP (itemsD d) fun ds => Φ ds ρ1 := by
  unfold wI wE seqI
  cases m ρ with
  | ok v ρ1 =>
    cases v with
    | l d => rfl
    | d d =>
      show (match (match itemsD d with
        | some ds => RI.ok ds ρ1
        | none => .stuck) with
        | .ok v ρ' => Φ v ρ'
        | _ => False) ↔ oP (itemsD d) fun ds => Φ ds ρ1
      cases itemsD d <;> exact Iff.rfl
  | exc x ρ1 => rfl
  | stuck => rfl
def v1I (vs : List Val) (P : Int → Prop) : Prop := match vs with
  | [.d (.int j)] => P j
  | _ => False
@[simp] theorem v1I_1 {j : Int} {P : Int → Prop} : v1I [.d (.int j)] P ↔ P j := Iff.rfl
theorem wi_rng1 {Φ : List D → Rh → Prop} (h : wL ms ρ fun vs ρ1 => v1I vs fun j => (-(2 ^ 62) ≤ j ∧ j < 2 ^ 62) ∧ Φ (rangeD 0 j.toNat) ρ1) : wI (rng1I ms) ρ Φ := by
  unfold wI rng1I
  unfold wL at h
  cases e : ms ρ with
  | ok v ρ1 =>
    rw [e] at h
    dsimp only at h ⊢
    match v, h with
    | [.d (.int j)], h =>
      obtain ⟨h1, h2⟩ := h
      dsimp only
      rw [if_pos h1]
      exact h2
  | exc x ρ1 => rw [e] at h; exact h.elim
  | stuck => rw [e] at h; exact h.elim
theorem ws_for {mi : Rh → RI} (h : wI mi ρ fun ds ρ1 => wS (forN mt a ds) ρ1 Ψ) : wS (forM mi mt a) ρ Ψ := by
  unfold wS forM
  unfold wI at h
  cases e : mi ρ with
  | ok v ρ1 => rw [e] at h; exact h
  | exc x ρ1 => rw [e] at h; exact h.elim
  | stuck => rw [e] at h; exact h.elim
def goK (k : Rh → Prop) (Ψ : Out → Prop) (o : Out) : Prop := match o with
  | .nx ρ => k ρ
  | .ct ρ => k ρ
  | .brk ρ => Ψ (.nx ρ)
  | o => Ψ o
@[simp] theorem goK_nx {k : Rh → Prop} : goK k Ψ (.nx ρ) ↔ k ρ := Iff.rfl
@[simp] theorem goK_ret {k : Rh → Prop} {v : Val} : goK k Ψ (.ret v ρ) ↔ Ψ (.ret v ρ) := Iff.rfl
theorem ws_forN_cons {d : D} {ds : List D} (h : oP (mt d ρ) fun ρ1 => wS a ρ1 (goK (fun ρ2 => wS (forN mt a ds) ρ2 Ψ) Ψ)) : wS (forN mt a (d :: ds)) ρ Ψ := by
  unfold wS forN
  cases e : mt d ρ with
  | none => rw [e] at h; exact h.elim
  | some ρ1 =>
    rw [e, oP_some] at h
    unfold wS goK at h
    dsimp only
    cases e2 : a ρ1 <;> rw [e2] at h <;> exact h
/-- a loop by its invariant -/
theorem ws_forN (J : List D → Rh → Prop) (step : ∀ d r ρ, J (d :: r) ρ → oP (mt d ρ) fun ρ1 => wS a ρ1 (goK (J r) Ψ)) (fin : ∀ ρ, J [] ρ → Ψ (.nx ρ)) : ∀ (ds : List D) (ρ : Rh), J ds ρ → wS (forN mt a ds) ρ Ψ
  | [], ρ, h => fin ρ h
  | d :: r, ρ, h => ws_forN_cons (by
    have q := step d r ρ h
    cases e : mt d ρ with
    | none => rw [e] at q; exact q.elim
    | some ρ1 =>
      rw [e, oP_some] at q
      rw [oP_some]
      refine wS_mono q fun o qo => ?_
      cases o with
      | nx ρ2 => exact ws_forN J step fin r ρ2 qo
      | ct ρ2 => exact ws_forN J step fin r ρ2 qo
      | brk ρ2 => exact qo
      | ret v ρ2 => exact qo
      | exc x ρ2 => exact qo
      | stuck => exact qo)
theorem ws_while_step {body : SM} (h : wE mc ρ fun v ρ1 => dB v fun t => if t = true then wS body ρ1 (goK (fun ρ2 => wS (whileN mc body n) ρ2 Ψ) Ψ) else Ψ (.nx ρ1)) : wS (whileN mc body (n + 1)) ρ Ψ := by
  unfold wS whileN
  unfold wE at h
  cases e : mc ρ with
  | ok v ρ1 =>
    rw [e] at h
    dsimp only at h ⊢
    cases v with
    | l d => exact h.elim
    | d d =>
      cases d with
      | bool t =>
        rw [dB_b] at h
        cases t
        · exact h
        · simp only [if_true] at h
          unfold wS goK at h
          dsimp only
          cases e2 : body ρ1 <;> rw [e2] at h <;> exact h
      | none => exact h.elim
      | int _ => exact h.elim
      | str _ => exact h.elim
      | list _ => exact h.elim
      | tuple _ => exact h.elim
      | dict _ => exact h.elim
  | exc x ρ1 => rw [e] at h; exact h.elim
  | stuck => rw [e] at h; exact h.elim
theorem ws_whileM {body : SM} {fuel : Rh → Nat} (h : wS (whileN mc body (fuel ρ)) ρ Ψ) : wS (whileM fuel mc body) ρ Ψ := h
/-! comprehensions -/
def wC (mt : TGM) (mtest melt : EM) (vs : List Nat) (ds : List D) (ρ : Rh) (acc : List D) (Φ : List D → Rh → Prop) : Prop := match lcN mt mtest melt vs ds ρ acc with
  | .ok ys ρ' => Φ ys ρ'
  | _ => False
theorem we_lc {mi : Rh → RI} {mtest melt : EM} {vs : List Nat} (h : wI mi ρ fun ds ρ0 => vsNone vs ρ0 = true ∧ wC mt mtest melt vs ds ρ0 [] fun ys ρ' => Φ (.l ys) ρ') : wE (lcM mi mt mtest melt vs) ρ Φ := by
  unfold wE lcM
  unfold wI at h
  cases e : mi ρ with
  | ok ds ρ0 =>
    rw [e] at h
    dsimp only at h ⊢
    obtain ⟨h1, h2⟩ := h
    rw [if_pos h1]
    unfold wC at h2
    cases e2 : lcN mt mtest melt vs ds ρ0 [] <;> rw [e2] at h2 <;> exact h2
  | exc x ρ1 => rw [e] at h; exact h.elim
  | stuck => rw [e] at h; exact h.elim
/-- a comprehension by its invariant -/
theorem wc_ind {mtest melt : EM} {vs : List Nat} {Φ : List D → Rh → Prop} (J : List D → Rh → List D → Prop)
    (step : ∀ d r ρ acc, J (d :: r) ρ acc → oP (mt d ρ) fun ρ1 => wE mtest ρ1 fun v ρ2 => dB v fun t => if t = true then acc.length < 100000 ∧ wE melt ρ2 fun y ρ3 => vD y fun y => J r (wipeR ρ3 vs) (acc ++ [y]) else J r (wipeR ρ2 vs) acc)
    (fin : ∀ ρ acc, J [] ρ acc → Φ acc ρ) : ∀ (ds : List D) (ρ : Rh) (acc : List D), J ds ρ acc → wC mt mtest melt vs ds ρ acc Φ
  | [], ρ, acc, h => fin ρ acc h
  | d :: r, ρ, acc, h => by
    have q := step d r ρ acc h
    unfold wC lcN
    cases e : mt d ρ with
    | none => rw [e] at q; exact q.elim
    | some ρ1 =>
      rw [e, oP_some] at q
      unfold wE at q
      dsimp only
      cases e1 : mtest ρ1 with
      | exc x ρ1 => rw [e1] at q; exact q.elim
      | stuck => rw [e1] at q; exact q.elim
      | ok v ρ2 =>
        rw [e1] at q
        dsimp only at q ⊢
        cases v with
        | l d => exact q.elim
        | d d =>
          cases d with
          | bool t =>
            rw [dB_b] at q
            cases t
            · exact wc_ind J step fin r _ _ q
            · simp only [if_true] at q
              obtain ⟨ql, q⟩ := q
              dsimp only
              cases e3 : melt ρ2 with
              | exc x ρ1 => rw [e3] at q; exact q.elim
              | stuck => rw [e3] at q; exact q.elim
              | ok y ρ3 =>
                rw [e3] at q
                cases y with
                | l d => exact q.elim
                | d y =>
                  dsimp only at q ⊢
                  rw [if_pos ql]
                  exact wc_ind J step fin r _ _ q
          | none => exact q.elim
          | int _ => exact q.elim
          | str _ => exact q.elim
          | list _ => exact q.elim
          | tuple _ => exact q.elim
          | dict _ => exact q.elim
/-! defs -/
def retK (P : List Nat) (ss : List Slot) (Φ : Val → List Slot → Prop) (o : Out) : Prop := match o with
  | .ret v ρ' => oP (backS P 0 ss ρ') fun ss' => Φ v ss'
  | .nx ρ' => oP (backS P 0 ss ρ') fun ss' => Φ (.d .none) ss'
  | _ => False
@[simp] theorem retK_ret {P : List Nat} {ss : List Slot} {Φ : Val → List Slot → Prop} {v : Val} : retK P ss Φ (.ret v ρ) ↔ oP (backS P 0 ss ρ) fun ss' => Φ v ss' := Iff.rfl
@[simp] theorem retK_nx {P : List Nat} {ss : List Slot} {Φ : Val → List Slot → Prop} : retK P ss Φ (.nx ρ) ↔ oP (backS P 0 ss ρ) fun ss' => Φ (.d .none) ss' := Iff.rfl
theorem pf_fn {P : List Nat} {ss : List Slot} {Φ : Val → List Slot → Prop} {N : Nat} (h : wS a (argsRh ss ++ List.replicate (N - ss.length) none) (retK P ss Φ)) : pF (fnM P N a) ss Φ := by
  unfold pF fnM
  unfold wS retK at h
  cases e : a (argsRh ss ++ List.replicate (N - ss.length) none) with
  | ret v ρ' =>
    rw [e] at h
    dsimp only at h ⊢
    cases e2 : backS P 0 ss ρ' <;> rw [e2] at h
    · exact h.elim
    · exact h
  | nx ρ' =>
    rw [e] at h
    dsimp only at h ⊢
    cases e2 : backS P 0 ss ρ' <;> rw [e2] at h
    · exact h.elim
    · exact h
  | brk ρ' => rw [e] at h; exact h.elim
  | ct ρ' => rw [e] at h; exact h.elim
  | exc x ρ' => rw [e] at h; exact h.elim
  | stuck => rw [e] at h; exact h.elim
@[simp] theorem backS_nil {P : List Nat} : backS P i [] ρ = some [] := rfl
@[simp] theorem backS_dat {P : List Nat} {d : D} {r : List Slot} : backS P i (.dat d :: r) ρ = (backS P (i + 1) r ρ).map (.dat d :: ·) := rfl
@[simp] theorem backS_own {os d : List D} {r : List Slot} : backS [0] 0 (.own os :: r) (some (.own d) :: ρ) = (backS [0] 1 r (some (.own d) :: ρ)).map (.own d :: ·) := by simp [backS]
end
end DL
set_option Elab.async false
set_option linter.all false
set_option maxRecDepth 100000
set_option maxHeartbeats 2000000
set_option autoImplicit false
/-! DL13: exceptions held as values. -/
namespace DL
open PySem PySem.Spec PyProof.Rows L2
/-- an exception as data -/
def exD (cls f : Str) (d : D) : D := .dict [(.bool true, .str cls), (.str f, d)]
def exD0 (cls : Str) : D := .dict [(.bool true, .str cls)]
/-! ### C(e), kept -/
def tMkV (C : Addr) (sp : Sp) (ta : TA) : TE := fun σ H Q => ta σ H fun vs H1 => vs.length ≤ 1000 ∧ ∀ a, H1 a = none → sp (.ref a :: vs) (upd H1 a (exo a C none)) (fun v H2 => v = .non ∧ Q (.ref a) H2) fun _ _ _ => False
section
variable {X : Cx} {CX : CXT} {x : Str} {C fI : Addr} {k : Nat} {fd : FuncData} {ps : List Str} {sp : Sp} {e : Expr} {es : List Expr} {ta : TA} {p pos : Pos}
theorem pe_mkV (T : OexC X.K C) (iC : PySem.W.findIn X.K (.ref C) "__init__" = some (some (.ref fI))) (tI : PySem.W.typeIn X.K (.ref fI) = some (.type "function"))
    (F1 : FnOk X.prog X.w X.K X.mg X.base CX k fI fd ps sp) (room : Room (k + 1) X.A) (bd : Binds X.K fd ps []) (hx : Passes CX X (fun _ _ _ => False)) (hg : Gl X x) (hm : X.mg x = some (.ref C)) (ha : PA X (e :: es) ta)
    (hdb : (x == ("__debug__" : Str)) = false := by decide) (he : starEach (e :: es) X.env = (false, eval e X.env) :: starEach es X.env := by rfl) (hpl : (backTo pos (starEach es X.env)).any (·.1) = false := by rfl) :
    PE X (.Call (.Name x p) (e :: es) [] pos) (tMkV C sp ta) := by
  refine ⟨fun pins s σ H Q I h => wpAny_Call_Name_kw (ld_glob I hg hm ?_ hdb)⟩
  obtain ⟨nm, q, N, bs, bm, sn, sub, ab, col, dd, k0, k1, k2, k3, k5, hC, hbm⟩ := T.cls
  refine PySem.W.callWith_K (h₀ := X.base) I.ok.mod.kin T.kC (thn (ha.run pos pins s σ H _ I h) fun us s1 ⟨vs, H1, I1, r1, hz, q1⟩ => ⟨I1.kIn, ?_⟩) he hpl
  show wpAny _ _ (call (.ref C) us) _ _ _
  obtain ⟨hp, g, dr, tk, os⟩ := s1
  obtain ⟨z, ez⟩ : ∃ z, z = hp.objs.size := ⟨_, rfl⟩
  have hsz : hp.objs.size ≤ z + 1 := by omega
  have hn : H1 (z + 1) = none := I1.hok.fresh hsz
  have hq := q1 (z + 1) hn
  have kk : ∀ b o, hp.get? b = some o → ((hp.push (PySem.W.kdv_tup us)).push (PySem.HandSPX.excO C z)).get? b = some o := fun b o e => Heap.get?_push_of_some _ (Heap.get?_push_of_some _ e)
  have at1 : ((hp.push (PySem.W.kdv_tup us)).push (PySem.HandSPX.excO C z)).get? (z + 1) = some (PySem.HandSPX.excO C z) := by rw [ez]; heap_get
  have I2 : Inv X pins σ (upd H1 (z + 1) (exo (z + 1) C none)) ⟨(hp.push (PySem.W.kdv_tup us)).push (PySem.HandSPX.excO C z), g, dr, tk, os⟩ :=
    I1.laid (t' := tk) (a := z + 1) (o := exo (z + 1) C none) (h' := (hp.push (PySem.W.kdv_tup us)).push (PySem.HandSPX.excO C z)) kk hsz (exo_ok at1)
  have r2 : Vals (V.ref (z + 1) :: vs) (Value.ref (z + 1) :: us) := .cons rfl r1
  have hl : (Value.ref (z + 1) :: us).length = ps.length := by
    have e := r2.length
    rw [F1.len _ _ _ _ hq] at e
    exact e.symm
  have b2 := bd ⟨(hp.push (PySem.W.kdv_tup us)).push (PySem.HandSPX.excO C z), g, dr, tk, os⟩ (Value.ref (z + 1) :: us) I2.kIn (by rw [List.append_nil]; exact hl)
  rw [List.append_nil] at b2
  have hus : us.length ≤ sizeLine := by
    rw [← Paired.length r1, sizeLine_eq]
    omega
  subst ez
  refine wpAny_call (PySem.HandSPX.call_own F.excBase_ValueError (fun Y => PySem.HandSPX.refsVE_contains Y bm hbm) (I1.kIn _ _ hC) (PySem.W.looks_findIn I1.kIn iC) (fun self => PySem.W.bind_fn I1.kIn self tI) hus
    (codeAny_mono (F1.run _ X.stack _ _ ⟨Value.ref (hp.objs.size + 1) :: us, []⟩ (Value.ref (hp.objs.size + 1) :: us) _ _ (fun _ _ _ => False) (room.make C us []) (I2.env0.make C us []) b2 r2 hq) fun r s' hq' => ?_))
  cases r with
  | error er => exact hx pins σ _ _ er s' I2 hq'
  | ok fl =>
    cases fl with
    | ret u =>
      obtain ⟨v, H', I3, rv, ev, q3⟩ := I2.after hq'
      subst ev
      exact ⟨rv, ⟨V.ref (hp.objs.size + 1), H', I3, rfl, q3⟩⟩
    | next => exact False.elim hq'
    | brk => exact False.elim hq'
    | cont => exact False.elim hq'
end
theorem upd_back {H : Hp} {a d : Addr} {o o' u : HO} (n : d ≠ a) : upd (upd (upd H a o) d u) a o' = upd (upd H d u) a o' := by
  funext b
  by_cases hb : b = a
  · subst hb; rw [upd_same, upd_same]
  · rw [upd_ne hb, upd_ne hb]
    by_cases hd : b = d
    · subst hd; rw [upd_same, upd_same]
    · rw [upd_ne hd, upd_ne hd, upd_ne hb]
def mkXM (cls f : Str) (m : EM) : EM := op1 (fun d => some (exD cls f d)) m
theorem snd_mkX {g : G} {C : Addr} {cls f : Str} {te : TE} {m : EM} (hn : PySem.W.nsIn g.K mainGlobals cls = some (some (.ref C))) (h : SndE g te m) : SndE g (tMkV C (spInit C f) (tCons te tNil)) (mkXM cls f m) := by
  intro σ ρ F H Q c hp
  refine h.bind c hp fun x v ρ1 F1 H1 c1 s1 i1 hp1 => ?_
  cases v with
  | l ds => exact hp1.elim
  | d d =>
    refine ⟨by show 1 ≤ 1000; decide, fun a ha => ⟨a, x, rfl, upd_same, fun dx ndx ne => ?_⟩⟩
    rw [upd_back ne]
    have hdx : H1 dx = none := by
      rw [upd_ne ne] at ndx
      exact ndx
    have n1 : News F1 H1 (upd F1 dx (exd dx [(f, x)])) (upd H1 dx (exd dx [(f, x)])) := News.new c1.ext hdx
    have ha2 : (upd H1 dx (exd dx [(f, x)])) a = none := by rw [upd_ne (Ne.symm ne)]; exact ha
    have n2 := News.new (u := exo a C (some dx)) n1.ex ha2
    have n3 := n1.trans n2
    refine ⟨rfl, hp1 _ _ _ (c1.news n3) (Stp.news (K := g.K) n3) ?_⟩
    exact Dv.exc (C := C) (d := dx) hn upd_same (.inl rfl) (by rw [upd_ne ne]; exact upd_same) (.inl rfl) (dv_mono n3.fr _ _ i1)
end DL
set_option Elab.async false
set_option linter.all false
set_option maxRecDepth 100000
set_option maxHeartbeats 2000000
/-! DL14: an exception of an own class by a call with keywords. -/
namespace PySem
namespace DLX
open Builtin Builtin.ObjectAttr HandSPX
section
variable {M : Model} {A : Around} {E : Value → Shared → Prop} {h : Heap} {g : Array GenState} {d : Drawn} {t : Nat} {os : OsState}
variable {nm q : Str} {C N : Addr} {bs bm bmB : List Value} {hdct : Bool} {sn : List Str} {sub : List Value} {ab : Bool} {col : Option Bool} {dd : Option Addr} {k0 k1 k2 k3 k5 : Option Value} {B newId initId : String}
theorem check_newK (F : ExcBaseFacts B newId initId bmB) (hT : ∀ X : String, bm.contains (.type X) = bmB.contains (.type X)) {f : Str} {u : Value} {Q : Unit → Shared → Prop}
    (hC : h.get? C = some (excClassObj nm q C N bs bm hdct sn sub ab col dd k0 k1 k2 k3 k5 newId)) (hq : Q () ⟨h, g, d, t, os⟩) : wpAny M A (checkBuiltinCall newId ⟨[.ref C], [(f, u)]⟩) Q E ⟨h, g, d, t, os⟩ := by
  have hc : (Value.ref C :: bm).contains (.type B) = true := by rw [List.contains_cons, hT, F.hasB, Bool.or_true]
  have hs := F.noStar
  simp only [checkBuiltinCall, F.newKind, F.newSplit, F.newRow]
  repeat (first | refine wpAny_loadPart_at hC ?_ | (refine wpAny_isSubtype_exc hC ?_; rw [hc]) | refine wpAny_staticBase_exc hC ?_ | refine wpAny_madeBy_exc hC ?_ | simp only [bne_self_eq_false, Bool.false_eq_true, if_false] | wp_step)
  exact hq
end
section
variable {prog : Program} {w : World} {A : Around} {E : Value → Shared → Prop} {R : Result → Shared → Prop} {h : Heap} {g : Array GenState} {d : Drawn} {t : Nat} {os : OsState}
variable {nm q : Str} {C N : Addr} {bs bm bmB : List Value} {hdct : Bool} {sn : List Str} {sub : List Value} {ab : Bool} {col : Option Bool} {dd : Option Addr} {k0 k1 k2 k3 k5 : Option Value} {B newId initId : String}
theorem new_K (F : ExcBaseFacts B newId initId bmB) (hT : ∀ X : String, bm.contains (.type X) = bmB.contains (.type X)) {f : Str} {u : Value}
    (hC : h.get? C = some (excClassObj nm q C N bs bm hdct sn sub ab col dd k0 k1 k2 k3 k5 newId))
    (hq : R (.ok (.ret (.ref (h.objs.size + 1)))) ⟨(h.push (W.kdv_tup [])).push (excO C h.objs.size), g, d, t, os⟩) :
    codeAny (model prog w) A (.builtin newId ⟨[.ref C], [(f, u)]⟩) R ⟨h, g, d, t, os⟩ := by
  have he := F.ends
  have c1 : (Value.ref C :: bm).contains (.type B) = true := by rw [List.contains_cons, hT, F.hasB, Bool.or_true]
  have c2 : (Value.ref C :: bm).contains (.type "AttributeError") = false := by rw [List.contains_cons, hT, F.noAttr]; rfl
  have c3 : (Value.ref C :: bm).contains (.type "NameError") = false := by rw [List.contains_cons, hT, F.noName]; rfl
  refine codeAny_builtinAt F.entry ?_
  unfold Builtin.«BaseException.__new__»
  refine wpAt_bind ?_
  show wpAt _ _ _ (stack >>= _) _ _ _
  refine wpAt_bind (wpAt_stack fun p below => wpAt_of_wpAny ?_)
  wp_walk
  refine wpAt_of_wpAny ?_
  rw [F.owner]
  repeat (first | with_reducible refine wpAny_madeHere_exc F.canon hC ?_ | with_reducible refine wpAny_loadPart_at hC ?_ | (with_reducible refine wpAny_isSubtype_exc hC ?_; first | rw [c1] | rw [c2] | rw [c3]) | wp_step)
  show R _ _
  rw [Heap.size_push]
  exact hq
theorem type_call_K (F : ExcBaseFacts B newId initId bmB) (hT : ∀ X : String, bm.contains (.type X) = bmB.contains (.type X)) {f : Str} {u : Value} {fI : Addr} {Q : Fin → Shared → Prop}
    (hC : h.get? C = some (excClassObj nm q C N bs bm hdct sn sub ab col dd k0 k1 k2 k3 k5 newId))
    (hi : W.Looks (model prog w) h (typeLookup (.ref C) "__init__") (some (.ref fI))) (hb : ∀ self, W.Looks (model prog w) h (bindSpecial (.ref fI) self) (.ref fI, [self]))
    (hq : codeAny (model prog w) A (.call (.ref fI) ⟨[.ref (h.objs.size + 1)], [(f, u)]⟩)
      (fun r s' => match r with | .ok (.ret v) => v = .none ∧ Q (.done (.ret (.ref (h.objs.size + 1)))) s' | .ok _ => False | .error e => E e s')
      ⟨(h.push (W.kdv_tup [])).push (excO C h.objs.size), g, d, t, os⟩) :
    wpAny (model prog w) A (Builtin.«type.__call__» ⟨[.ref C], [(f, u)]⟩) Q E ⟨h, g, d, t, os⟩ := by
  repeat (first | with_reducible refine wpAny_loadPart_at hC ?_ | with_reducible refine wpAny_madeBy_exc hC ?_ | wp_step)
  refine codeAny_call_builtin_code (Code.quiet_builtin _ F.quiet) (check_newK F hT hC ?_)
  refine new_K F hT hC ?_
  show wpAny _ _ _ _ _ _
  have k : ∀ b o, h.get? b = some o → ((h.push (W.kdv_tup [])).push (excO C h.objs.size)).get? b = some o := fun b o e => Heap.get?_push_of_some _ (Heap.get?_push_of_some _ e)
  have hC1 := k _ _ hC
  have at1 : ((h.push (W.kdv_tup [])).push (excO C h.objs.size)).get? (h.objs.size + 1) = some (excO C h.objs.size) := by heap_get
  have cC : (Value.ref C :: bm).contains (.ref C) = true := by simp
  have i1 := hi.keeps k
  have b1 := (hb (.ref (h.objs.size + 1))).keeps k
  unfold isInstance
  repeat (first | with_reducible refine wpAny_loadPart_at at1 ?_ | (with_reducible refine wpAny_isSubtype_exc hC1 ?_; rw [cC]) | wp_step)
  show wpAny _ _ (typeLookup (.ref C) _) _ _ _
  refine i1.at ?_
  refine wpAny_holding (wpAny_bind (b1.at ?_))
  refine wpAny_bind (wpAny_call (codeAny_mono hq fun r s' z => ?_))
  rcases r with e | (v | _ | _ | _) <;> first | exact z | exact z.elim | skip
  obtain ⟨rfl, z⟩ := z
  first
    | exact wpAny_pure (wpAny_pure z)
    | (wp_walk; exact z)
theorem call_K (F : ExcBaseFacts B newId initId bmB) (hT : ∀ X : String, bm.contains (.type X) = bmB.contains (.type X)) {f : Str} {u : Value} {fI : Addr}
    (hC : h.get? C = some (excClassObj nm q C N bs bm hdct sn sub ab col dd k0 k1 k2 k3 k5 newId))
    (hi : W.Looks (model prog w) h (typeLookup (.ref C) "__init__") (some (.ref fI))) (hb : ∀ self, W.Looks (model prog w) h (bindSpecial (.ref fI) self) (.ref fI, [self]))
    (hq : codeAny (model prog w) (A.under (.builtin "type.__call__" ⟨[.ref C], [(f, u)]⟩)) (.call (.ref fI) ⟨[.ref (h.objs.size + 1)], [(f, u)]⟩) (W.InitBack (h.objs.size + 1) R)
      ⟨(h.push (W.kdv_tup [])).push (excO C h.objs.size), g, d, t, os⟩) :
    codeAny (model prog w) A (.call (.ref C) ⟨[], [(f, u)]⟩) R ⟨h, g, d, t, os⟩ := by
  have f1 := tc_lookup
  have f2 := tc_bind (.ref C)
  have ty : (⟨h, g, d, t, os⟩ : Shared).TypeIs (.ref C) "type" := ⟨_, hC, rfl⟩
  refine codeAny_of_tree ?_
  show wpAny _ _ (callAny (.ref C) _) _ _ _
  repeat (any_goals (first | assumption | with_reducible refine wpAny_loadPart_at hC ?_ | wp_step))
  refine ⟨rfl, ?_⟩
  refine codeAny_call_builtin_at (Code.quiet_builtin _ (by decide +kernel)) entry_typeCall (wpAny_check_type_call_sub hC (type_call_K F hT hC hi hb ?_))
  refine codeAny_mono hq fun r s' z => ?_
  rcases r with e | (v | _ | _ | _) <;> exact z
end
end DLX
end PySem
set_option Elab.async false
set_option linter.all false
set_option maxRecDepth 100000
set_option maxHeartbeats 2000000
set_option autoImplicit false
/-! DL15: exceptions held as values: by keyword, isinstance, their attribute. -/
namespace DL
open PySem PySem.Spec PyProof.Rows L2
def BindsI (fd : FuncData) (f : Str) : Prop := ∀ (s : Shared) (a u : Value), BindsTo s fd ⟨[a], [(f, u)]⟩ [(("self" : Str), a), (f, u)]
section
variable {X : Cx} {CX : CXT} {x f : Str} {C fI : Addr} {k : Nat} {fd : FuncData} {sp : Sp} {kws : List Keyword} {ta : TA} {p pos : Pos}
theorem pe_mkVK (T : OexC X.K C) (iC : PySem.W.findIn X.K (.ref C) "__init__" = some (some (.ref fI))) (tI : PySem.W.typeIn X.K (.ref fI) = some (.type "function"))
    (F1 : FnOk X.prog X.w X.K X.mg X.base CX k fI fd [("self" : Str), f] sp) (room : Room (k + 1) X.A) (bd : BindsI fd f) (hx : Passes CX X (fun _ _ _ => False)) (hg : Gl X x) (hm : X.mg x = some (.ref C)) (ha : PK X kws ta)
    (hall : (backToKw pos (keywordEach kws X.env)).all (·.1.isSome) = true := by rfl) (hks : (backToKw pos (keywordEach kws X.env)).filterMap (·.1) = [f] := by rfl) (hdb : (x == ("__debug__" : Str)) = false := by decide)
    (hpl : ((backTo pos (starEach [] X.env)).any (·.1) || (backToKw pos (keywordEach kws X.env)).any (·.1.isNone)) = false := by rfl) :
    PE X (.Call (.Name x p) [] kws pos) (tMkV C sp ta) := by
  refine ⟨fun pins s σ H Q I h => wpAny_Call_Name_kw (ld_glob I hg hm ?_ hdb)⟩
  obtain ⟨nm, q, N, bs, bm, sn, sub, ab, col, dd, k0, k1, k2, k3, k5, hC, hbm⟩ := T.cls
  refine PySem.W.callWith_KW0 (h₀ := X.base) I.ok.mod.kin T.kC hall (thn (ha.run pos pins s σ H _ I h) fun us s1 ⟨vs, H1, I1, r1, hz, q1⟩ => ⟨I1.kIn, ?_⟩) hpl
  rw [hks]
  obtain ⟨hp, g, dr, tk, os⟩ := s1
  obtain ⟨z, ez⟩ : ∃ z, z = hp.objs.size := ⟨_, rfl⟩
  have hsz : hp.objs.size ≤ z + 1 := by omega
  have hn : H1 (z + 1) = none := I1.hok.fresh hsz
  have hq := q1 (z + 1) hn
  have hlen := F1.len _ _ _ _ hq
  obtain ⟨u, rfl⟩ : ∃ u, us = [u] := by
    have e := r1.length
    simp only [List.length_cons, List.length_nil] at hlen
    match us, e with
    | [], e => simp at e; subst e; simp at hlen
    | [u], _ => exact ⟨u, rfl⟩
    | _ :: _ :: _, e => simp at e; omega
  have kk : ∀ b o, hp.get? b = some o → ((hp.push (PySem.W.kdv_tup [])).push (PySem.HandSPX.excO C z)).get? b = some o := fun b o e => Heap.get?_push_of_some _ (Heap.get?_push_of_some _ e)
  have at1 : ((hp.push (PySem.W.kdv_tup [])).push (PySem.HandSPX.excO C z)).get? (z + 1) = some (PySem.HandSPX.excO C z) := by rw [ez]; heap_get
  have I2 : Inv X pins σ (upd H1 (z + 1) (exo (z + 1) C none)) ⟨(hp.push (PySem.W.kdv_tup [])).push (PySem.HandSPX.excO C z), g, dr, tk, os⟩ :=
    I1.laid (t' := tk) (a := z + 1) (o := exo (z + 1) C none) (h' := (hp.push (PySem.W.kdv_tup [])).push (PySem.HandSPX.excO C z)) kk hsz (exo_ok at1)
  have r2 : Vals (V.ref (z + 1) :: vs) [Value.ref (z + 1), u] := .cons rfl r1
  have b2 := bd ⟨(hp.push (PySem.W.kdv_tup [])).push (PySem.HandSPX.excO C z), g, dr, tk, os⟩ (.ref (z + 1)) u
  subst ez
  show wpAny _ _ (call (.ref C) [] [(f, u)]) _ _ _
  refine wpAny_call (PySem.DLX.call_K F.excBase_ValueError (fun Y => PySem.HandSPX.refsVE_contains Y bm hbm) (I1.kIn _ _ hC) (PySem.W.looks_findIn I1.kIn iC) (fun self => PySem.W.bind_fn I1.kIn self tI)
    (codeAny_mono (F1.run _ X.stack _ _ ⟨[Value.ref (hp.objs.size + 1)], [(f, u)]⟩ [Value.ref (hp.objs.size + 1), u] _ _ (fun _ _ _ => False) (room.make C [] [(f, u)]) (I2.env0.make C [] [(f, u)]) b2 r2 hq) fun r s' hq' => ?_))
  cases r with
  | error er => exact hx pins σ _ _ er s' I2 hq'
  | ok fl =>
    cases fl with
    | ret u =>
      obtain ⟨v, H', I3, rv, ev, q3⟩ := I2.after hq'
      subst ev
      exact ⟨rv, ⟨V.ref (hp.objs.size + 1), H', I3, rfl, q3⟩⟩
    | next => exact False.elim hq'
    | brk => exact False.elim hq'
    | cont => exact False.elim hq'
end
theorem exa_at {P : Program} {w : World} {H : Hp} {h : Heap} {a C : Addr} {d : Option Addr} {u : HO} (hok : HOk P w H h) (ha : H a = some u) (x : ExA a C d u) : ∃ (oe : Obj) (vs : Array Value), h.get? a = some oe ∧ oe.cls = .ref C ∧ oe.dict = d ∧ oe.data = .fields vs := by
  rcases x with rfl | ⟨oe, vs, rfl, e1, e2, e3⟩
  · obtain ⟨t1, q⟩ := exo_at hok ha
    exact ⟨_, _, q, rfl, rfl, rfl⟩
  · have x : ObjOk P w H h a (.ext fun h => h.get? a = some oe) := hok a _ ha
    exact ⟨oe, vs, x.1, e1, e2, e3⟩
theorem exb_at {P : Program} {w : World} {H : Hp} {h : Heap} {d : Addr} {fs : List (Str × V)} {u : HO} (hok : HOk P w H h) (hd : H d = some u) (x : ExB d fs u) : ∃ mA, h.Ns1 d mA ∧ ∀ f, RelO (fs.lookup f) (mA f) := by
  rcases x with rfl | rfl
  · exact exd_at hok hd
  · exact hok d _ hd
/-! ### isinstance of such a value -/
def rIsV (K : PySem.W.Frag) : List V → Hp → VK → Prop := fun xs H Q => ∃ (a C : Addr) (d : Option Addr) (c : V) (cv : Value) (b : Bool) (u1 : HO), xs = [.ref a, c] ∧ (∀ u, RelV c u → u = cv) ∧ H a = some u1 ∧ ExA a C d u1 ∧ ExcC K C ∧ (∀ dd, d = some dd → ∃ fs u2, H dd = some u2 ∧ ExB dd fs u2) ∧
  PySem.W.kitOne K (.ref C) cv = some b ∧ Q (.bl b) H
theorem call_isV {X : Cx} : CallR X (.builtin "isinstance") (rIsV X.K) := by
  intro pins s σ H xs us Q I r h
  obtain ⟨a, D, d, c, cv, b, u1, rfl, hcv, hH, xa, C, hd, e, q⟩ := h
  obtain ⟨u1, u2, rfl, rx, rt⟩ := vals2 r
  cases rx
  have ec := hcv _ rt
  subst ec
  obtain ⟨oe, vs, hget, o1, o2, o3⟩ := exa_at I.hok hH xa
  have cl : (PySem.W.clsIn X.K D).isSome = true := by
    obtain ⟨cd, hc, _⟩ := PySem.W.any_some C.hd
    rw [hc]; rfl
  have nc : PySem.W.notCls oe = true := by unfold PySem.W.notCls; rw [o3]
  have fin : ∀ od, PySem.W.InstAt s.heap a oe D od → wpAny (model X.prog X.w) X.A (call (.builtin "isinstance") [.ref a, u2]) (EP X pins σ Q) X.xe s := fun od J =>
    PySem.W.kia_one (PySem.W.kitx_exc cl C.hg C.hk C.hs C.ha C.hn C.ht C.hm) I.kIn J e (fun z => nomatch z) fun tk => ⟨.bl b, H, I.kept (t' := tk) fun _ _ z => z, rfl, q⟩
  cases d with
  | none => exact fin none ⟨hget, o1, nc, by rw [o2]; trivial⟩
  | some dd =>
    obtain ⟨fs, u2', hfs, xb⟩ := hd dd rfl
    obtain ⟨mA, hns, _⟩ := exb_at I.hok hfs xb
    obtain ⟨od, ho, _⟩ := lookIn_ns hns
    exact fin (some od) ⟨hget, o1, nc, by rw [o2]; exact ho⟩
/-! ### its attribute -/
def tXv (K : PySem.W.Frag) (f : Str) (te : TE) : TE := fun σ H Q => te σ H fun x H1 => ∃ (a C dd : Addr) (fs : List (Str × V)) (v : V) (u1 u2 : HO), x = .ref a ∧ H1 a = some u1 ∧ ExA a C (some dd) u1 ∧ H1 dd = some u2 ∧ ExB dd fs u2 ∧ XfC K C ∧ PySem.W.findIn K (.ref C) f = some none ∧ fs.lookup f = some v ∧ Q v H1
theorem pe_xv {X : Cx} {e : Expr} {te : TE} {pos : Pos} {n : Str} (he : PE X e te) (hb : attributeBase e n X.env (eval e X.env) = eval e X.env := by rfl) : PE X (.Attribute e n pos) (tXv X.K n te) := by
  refine ⟨fun pins s σ H Q I h => ?_⟩
  refine attr_of hb (thn (he.run pins s σ H _ I h) fun u s1 hh => ?_)
  obtain ⟨x, H1, I1, rx, a, C, dd, fs, v, u1, u2, rfl, hH, xa, hfs, xb, T, nof, l, q⟩ := hh
  obtain rfl : u = Value.ref a := rx
  obtain ⟨oe, vs, hget, o1, o2, o3⟩ := exa_at I1.hok hH xa
  obtain ⟨mA, hns, hr⟩ := exb_at I1.hok hfs xb
  obtain ⟨od, ho, hl⟩ := lookIn_ns hns
  obtain ⟨u, hu, ru⟩ := RelO.some_of (v := v) (o := mA n) (by rw [← l]; exact hr n)
  have J : PySem.W.InstAt s1.heap a oe C (some od) := ⟨hget, o1, by unfold PySem.W.notCls; rw [o3], by rw [o2]; exact ho⟩
  exact HandSPX.exc_get I1.kIn J T.ga T.gg T.exC (PySem.W.findObj_own T.hdC nof rfl (by rw [hl, hu])) (handed_of ru) ⟨v, H1, I1.tok _, ru, q⟩
end DL
set_option Elab.async false
set_option linter.all false
set_option maxRecDepth 100000
set_option maxHeartbeats 2000000
set_option autoImplicit false
/-! DL16: rules for exceptions held as values. -/
namespace DL
open PySem PySem.Spec PyProof.Rows L2
/-- C(), C an own class of exceptions without __init__ -/
theorem pe_exc0 {X : Cx} {C : Addr} {bmB : List Value} {B newId initId : String} {x : Str} {p pos : Pos} (F : ExcBaseFacts B newId initId bmB) (q : PySem.W.excIn X.K C bmB newId = true) (gC : X.mg x = some (.ref C)) (kC : PySem.W.keepIn X.K (.ref C) = true) (hg : Gl X x)
    (hdb : (x == ("__debug__" : Str)) = false := by decide) : PE X (.Call (.Name x p) [] [] pos) (fun σ H Q => ∀ a, H a = none → Q (.ref a) (upd H a (exo a C none))) := by
  refine ⟨fun pins s σ H Q I h => ?_⟩
  refine wpAny_Call_Name_kw (ld_glob I hg gC ?_ hdb)
  refine PySem.W.callWith_K0 I.kIn kC ?_
  show wpAny _ _ (call (.ref C) []) _ _ _
  obtain ⟨bm, N, nm, qn, bs, hdct, sn, sub, ab, col, dd, k0, k1, k2, k3, k5, mN, hC, hN, hni, T⟩ := exc_obj I.kIn q
  refine wpAny_call_exc_subT F T hC hN hni (fun h' a hm => ?_) (by show 0 ≤ sizeLine; omega)
  have hn : H a = none := I.hok.gone hm.new
  obtain ⟨t, ht, _, _⟩ := hm.there
  exact ⟨.ref a, upd H a (exo a C none), I.laidN hm.keeps hm.new hn (exo_ok ht), rfl, h a hn⟩
def mk0M (cls : Str) : EM := conM (exD0 cls)
theorem snd_mk0 {g : G} {C : Addr} {cls : Str} (hn : PySem.W.nsIn g.K mainGlobals cls = some (some (.ref C))) : SndE g (fun σ H Q => ∀ a, H a = none → Q (.ref a) (upd H a (exo a C none))) (mk0M cls) := by
  intro σ ρ F H Q c hp a ha
  have n := News.new (u := exo a C none) c.ext ha
  exact hp _ _ _ (c.news n) (Stp.news (K := g.K) n) (Dv.exc0 hn upd_same)
/-- isinstance of such values: tbl says what it answers -/
def gIsX (tbl : Str → Option Bool) : D → Option D
  | .dict ((.bool true, .str cls) :: _) => (tbl cls).map .bool
  | _ => none
def IsF (K : PySem.W.Frag) (cv : Value) (tbl : Str → Option Bool) : Prop := ∀ (cls : Str) (b : Bool) (C : Addr), tbl cls = some b → PySem.W.nsIn K mainGlobals cls = some (some (.ref C)) → ExcC K C ∧ PySem.W.kitOne K (.ref C) cv = some b
theorem snd_isV {g : G} {te : TE} {m : EM} {cv : Value} {c : V} {tbl : Str → Option Bool} (hF : IsF g.K cv tbl) (hcv : ∀ u, RelV c u → u = cv) (h : SndE g te m) : SndE g (tCB (rIsV g.K) (tCons te (tCons (tC c) tNil))) (op1 (gIsX tbl) m) := by
  intro σ ρ F H Q co hp
  refine h.bind co hp fun x v ρ1 F1 H1 c1 s1 i1 hp1 => ?_
  cases v with
  | l ds => exact hp1.elim
  | d d =>
    have dv : Dv g.K F1 x d := i1
    have hp2 : EPost g σ ρ1 F1 H1 Q (liftD (gIsX tbl d) ρ1) := hp1
    have s0 : Stp g.P σ ρ1 F1 H1 σ ρ1 F1 H1 := Stp.news (K := g.K) (News.refl c1.ext)
    have go : ∀ (cls : Str) (a C : Addr) (od : Option Addr) (r : List (D × D)), d = .dict ((.bool true, .str cls) :: r) → x = .ref a → PySem.W.nsIn g.K mainGlobals cls = some (some (.ref C)) → (∃ u1, F1 a = some u1 ∧ ExA a C od u1) → (∀ dd, od = some dd → ∃ fs u2, F1 dd = some u2 ∧ ExB dd fs u2) →
        rIsV g.K [x, c] H1 Q := by
      intro cls a C od r ed ex hn ⟨u1, ha, xa⟩ hd
      subst ed
      subst ex
      have e : gIsX tbl (.dict ((.bool true, .str cls) :: r)) = (tbl cls).map .bool := rfl
      rw [e] at hp2
      cases eb : tbl cls with
      | none => rw [eb] at hp2; exact hp2.elim
      | some b =>
        rw [eb] at hp2
        obtain ⟨ec, ek⟩ := hF cls b C eb hn
        exact ⟨a, C, od, c, cv, b, u1, rfl, hcv, c1.ext _ _ ha, xa, ec, fun dd z => by
          obtain ⟨fs, u2, q, xb⟩ := hd dd z
          exact ⟨fs, u2, c1.ext _ _ q, xb⟩, ek, hp2 _ _ _ c1 s0 (.bl b)⟩
    cases dv with
    | exc hn ha xa hd xb hv => exact go _ _ _ _ _ rfl rfl hn ⟨_, ha, xa⟩ fun dd z => by cases z; exact ⟨_, _, hd, xb⟩
    | exc0 hn ha => exact go _ _ _ _ _ rfl rfl hn ⟨_, ha, .inl rfl⟩ fun dd z => by cases z
    | non => exact hp2.elim
    | bl b => exact hp2.elim
    | int b => exact hp2.elim
    | str b => exact hp2.elim
    | lst _ _ => exact hp2.elim
    | tup _ _ => exact hp2.elim
    | rdl _ => exact hp2.elim
    | emp _ => exact hp2.elim
/-- the attribute of such a value -/
def gFld (known : List Str) (f : Str) : D → Option D
  | .dict [(.bool true, .str cls), (.str g, d)] => if g = f ∧ cls ∈ known then some d else none
  | _ => none
def FldF (K : PySem.W.Frag) (known : List Str) (f : Str) : Prop := ∀ (cls : Str) (C : Addr), cls ∈ known → PySem.W.nsIn K mainGlobals cls = some (some (.ref C)) → XfC K C ∧ PySem.W.findIn K (.ref C) f = some none
theorem snd_xv {g : G} {te : TE} {m : EM} {f : Str} {known : List Str} (hF : FldF g.K known f) (h : SndE g te m) : SndE g (tXv g.K f te) (op1 (gFld known f) m) := by
  intro σ ρ F H Q co hp
  refine h.bind co hp fun x v ρ1 F1 H1 c1 s1 i1 hp1 => ?_
  cases v with
  | l ds => exact hp1.elim
  | d d =>
    have dv : Dv g.K F1 x d := i1
    have hp2 : EPost g σ ρ1 F1 H1 Q (liftD (gFld known f d) ρ1) := hp1
    have s0 : Stp g.P σ ρ1 F1 H1 σ ρ1 F1 H1 := Stp.news (K := g.K) (News.refl c1.ext)
    cases dv with
    | exc hn ha xa hd xb hv =>
      rename_i a dd C cls g' v x' u1 u2
      have e : gFld known f (.dict [(.bool true, .str cls), (.str g', x')]) = if g' = f ∧ cls ∈ known then some x' else none := rfl
      rw [e] at hp2
      by_cases hc : g' = f ∧ cls ∈ known
      · rw [if_pos hc] at hp2
        obtain ⟨rfl, hk⟩ := hc
        obtain ⟨t, nf⟩ := hF cls C hk hn
        exact ⟨a, C, dd, [(g', v)], v, _, _, rfl, c1.ext _ _ ha, xa, c1.ext _ _ hd, xb, t, nf, by simp [List.lookup], hp2 _ _ _ c1 s0 hv⟩
      · rw [if_neg hc] at hp2
        exact hp2.elim
    | exc0 hn ha => exact hp2.elim
    | non => exact hp2.elim
    | bl b => exact hp2.elim
    | int b => exact hp2.elim
    | str b => exact hp2.elim
    | lst _ _ => exact hp2.elim
    | tup _ _ => exact hp2.elim
    | rdl _ => exact hp2.elim
    | emp _ => exact hp2.elim
/-! ### the rules -/
structure XV (K : PySem.W.Frag) (mg : Str → Option Value) (x f : Str) : Prop where
  ex : ∃ C fI fd, PySem.W.nsIn K mainGlobals x = some (some (.ref C)) ∧ (∀ P w base, XC P w K mg base x f C fI fd) ∧ BindsI fd f
section
variable {X : Cx} {W : WX} {P : List Nat} {k : Nat} {x f : Str} {p pos : Pos} {e : Expr} {m : EM}
theorem de_mkX (T : XV X.K X.mg x f) (hh : Here X W k) (hk : 2 ≤ k) (h : PED X W P e m) (hg : Gl X x := by rfl) (hdb : (x == ("__debug__" : Str)) = false := by decide)
    (he : starEach (e :: []) X.env = (false, eval e X.env) :: starEach [] X.env := by rfl) (hpl : (backTo pos (starEach [] X.env)).any (·.1) = false := by rfl) : PED X W P (.Call (.Name x p) [e] [] pos) (mkXM x f m) := by
  obtain ⟨C, fI, fd, hn, q, _⟩ := T.ex
  have t := q X.prog X.w X.base
  exact ped (pe_mkV t.oex t.iC t.tI t.fn (hh.room.mono hk) t.bd pass0 hg t.gC (pa_cons h pa_nil he) hdb he hpl) (snd_mkX hn ce)
theorem de_mkXK {kw : Keyword} {ms : LM} (T : XV X.K X.mg x f) (hh : Here X W k) (hk : 2 ≤ k) (h : PED X W P e m) (ek : kw = ⟨some f, e, kw.pos⟩) (hg : Gl X x := by rfl) (hdb : (x == ("__debug__" : Str)) = false := by decide)
    (hall : (backToKw pos (keywordEach [kw] X.env)).all (·.1.isSome) = true := by rfl) (hks : (backToKw pos (keywordEach [kw] X.env)).filterMap (·.1) = [f] := by rfl)
    (hpl : ((backTo pos (starEach [] X.env)).any (·.1) || (backToKw pos (keywordEach [kw] X.env)).any (·.1.isNone)) = false := by rfl) : PED X W P (.Call (.Name x p) [] [kw] pos) (mkXM x f m) := by
  obtain ⟨C, fI, fd, hn, q, bi⟩ := T.ex
  have t := q X.prog X.w X.base
  have hp : PK X [kw] (tCons (canE (gX X W P) m) tNil) := by
    rw [ek]
    exact pk_cons h pk_nil
  exact ped (pe_mkVK t.oex t.iC t.tI t.fn (hh.room.mono hk) bi pass0 hg t.gC hp hall hks hdb hpl) (snd_mkX hn ce)
theorem de_mk0 {C : Addr} (hn : PySem.W.nsIn X.K mainGlobals x = some (some (.ref C))) (gC : X.mg x = some (.ref C)) (kC : PySem.W.keepIn X.K (.ref C) = true) (q : PySem.W.excIn X.K C [.type "ValueError", .type "Exception", .type "BaseException", .type "object"] "ValueError.__new__" = true) (hg : Gl X x := by rfl)
    (hdb : (x == ("__debug__" : Str)) = false := by decide) : PED X W P (.Call (.Name x p) [] [] pos) (mk0M x) := ped (pe_exc0 F.excBase_ValueError q gC kC hg hdb) (snd_mk0 hn)
theorem de_isO {C : Addr} {pT : Pos} {Tn : Str} {tbl : Str → Option Bool} (hF : IsF X.K (.ref C) tbl) (hC : X.mg Tn = some (.ref C)) (hm : X.mg "isinstance" = none) (h : PED X W P e m) (hgi : Gl X "isinstance" := by rfl) (hg : Gl X Tn := by rfl) (hd : (Tn == ("__debug__" : Str)) = false := by decide)
    (hs : starEach (e :: [.Name Tn pT]) X.env = (false, eval e X.env) :: starEach [.Name Tn pT] X.env := by rfl) (hs2 : starEach [.Name Tn pT] X.env = (false, eval (.Name Tn pT) X.env) :: starEach [] X.env := by rfl)
    (hpl : (backTo pos (starEach [.Name Tn pT] X.env)).any (·.1) = false := by rfl) : PED X W P (.Call (.Name "isinstance" p) [e, .Name Tn pT] [] pos) (op1 (gIsX tbl) m) :=
  ped (pe_callB call_isV hgi hm (by decide +kernel) (pa_cons h (pa_cons (pe_glob (v := .ref C) hg hC rfl hd) pa_nil hs2) hs) (he := hs) (hpl := hpl)) (snd_isV hF (fun u ru => ru) ce)
theorem de_isB {T : String} {pT : Pos} {Tn : Str} {tbl : Str → Option Bool} (hF : IsF X.K (.type T) tbl) (hmT : X.mg Tn = none) (hv : bootBuiltins Tn = some (.type T)) (hm : X.mg "isinstance" = none) (h : PED X W P e m) (hgi : Gl X "isinstance" := by rfl) (hg : Gl X Tn := by rfl) (hn : Tn ≠ "__name__" := by decide)
    (hd : (Tn == ("__debug__" : Str)) = false := by decide)
    (hs : starEach (e :: [.Name Tn pT]) X.env = (false, eval e X.env) :: starEach [.Name Tn pT] X.env := by rfl) (hs2 : starEach [.Name Tn pT] X.env = (false, eval (.Name Tn pT) X.env) :: starEach [] X.env := by rfl)
    (hpl : (backTo pos (starEach [.Name Tn pT] X.env)).any (·.1) = false := by rfl) : PED X W P (.Call (.Name "isinstance" p) [e, .Name Tn pT] [] pos) (op1 (gIsX tbl) m) :=
  ped (pe_callB call_isV hgi hm (by decide +kernel) (pa_cons h (pa_cons (pe_bltn (v := .ty T) hg hmT hv rfl hn hd) pa_nil hs2) hs) (he := hs) (hpl := hpl)) (snd_isV hF (fun u ru => ru) ce)
theorem de_fld {known : List Str} (hF : FldF X.K known f) (h : PED X W P e m) (hb : attributeBase e f X.env (eval e X.env) = eval e X.env := by rfl) : PED X W P (.Attribute e f pos) (op1 (gFld known f) m) := ped (pe_xv h hb) (snd_xv hF ce)
end
end DL
set_option Elab.async false
set_option linter.all false
set_option maxRecDepth 100000
set_option maxHeartbeats 2000000
set_option autoImplicit false
/-! DL17: defs that may be called within an except suite too. -/
namespace DL
open PySem PySem.Spec PyProof.Rows L2
structure RoomQ (k : Nat) (A : Around) : Prop where
  dp : A.depth + 3 * k + 5 < recursionLimit
  un : A.units + 16 * k + 200 < cLine
theorem RoomQ.mono {j k : Nat} {A : Around} (r : RoomQ k A) (h : j ≤ k) : RoomQ j A := ⟨by have := r.dp; omega, by have := r.un; omega⟩
theorem RoomQ.deeper {k : Nat} {A : Around} (r : RoomQ (k + 1) A) (env : Env) : RoomQ k (A.deeper env) := by
  obtain ⟨a, b⟩ := r
  refine ⟨?_, ?_⟩
  · show A.depth + 1 + 3 * k + 5 < recursionLimit
    omega
  · show A.units + 3 + 16 * k + 200 < cLine
    omega
theorem roomQ_of {k : Nat} {A : Around} (r : Room k A) : RoomQ k A := ⟨r.dp, r.un⟩
structure FnQ (P : Program) (w : World) (K : PySem.W.Frag) (mg : Str → Option Value) (base : Heap) (k : Nat) (f : Addr) (fd : FuncData) (ps : List Str) (sp : Sp) : Prop where
  len : ∀ vs H Q E, sp vs H Q E → vs.length = ps.length
  run : ∀ (A : Around) (outer : List Env) (s : Shared) (H : Hp) (args : Args) (us : List Value) (vs : List V) (Q : VK) (E : XK), RoomQ k A → A.guards = some [] → Env0 P w K mg base A outer s H → BindsTo s fd args (ps.zip us) → Vals vs us → sp vs H Q E →
    codeAny (model P w) A (.call (.ref f) args) (CR (L2.CX P w) outer P w H s Q E) s
theorem FnQ.g {P : Program} {w : World} {K : PySem.W.Frag} {mg : Str → Option Value} {base : Heap} {k : Nat} {f : Addr} {fd : FuncData} {ps : List Str} {sp : Sp} (F : FnQ P w K mg base k f fd ps sp) : FnG P w K mg base k f fd ps sp :=
  ⟨F.len, fun A outer s H args us vs Q E r => F.run A outer s H args us vs Q E (roomQ_of r)⟩
/-- the context of such a def's body -/
def cxQ (P : Program) (w : World) (K : PySem.W.Frag) (mg : Str → Option Value) (base : Heap) (N : List Str) (qual : Str) (scope : Scope) (f : Addr) (cd : Value) (A : Around) (outer : List Env) (s : Shared) (H : Hp) (E : XK) : Cx :=
  { cxOf (L2.CX P w) P w K mg base N qual scope f cd A outer s H E with calm := false }
theorem env0_calm {P : Program} {w : World} {K : PySem.W.Frag} {mg : Str → Option Value} {base : Heap} {A : Around} {outer : List Env} {s : Shared} {H : Hp} (e : Env0 P w K mg base A outer s H) : Env0 P w K mg base { A with handled := none } outer s H :=
  ⟨e.frames, e.mod, e.bs, e.bsz, e.funs, e.frf, e.hok, e.bare⟩
theorem inv_startQ {P : Program} {w : World} {K : PySem.W.Frag} {mg : Str → Option Value} {base : Heap} {N ps : List Str} {qual : Str} {scope : Scope} {f : Addr} {cd : Value} {A : Around} {outer : List Env} {s s1 : Shared} {H : Hp} {E : XK} {us : List Value} {vs : List V}
    (S : FnScope N ps scope) (e0 : Env0 P w K mg base A outer s H) (hl : vs.length = ps.length) (r : Vals vs us)
    (x : InCallC s s.heap.objs.size (PySem.bindL (envOfC qual scope s.heap.objs.size f cd).kindOf (ps.zip us) fun _ => none) (cellsFrom (s.heap.objs.size + 1) scope.names []) (PySem.bindC (envOfC qual scope s.heap.objs.size f cd).kindOf (ps.zip us) fun _ => none) s1) :
    Inv (cxQ P w K mg base N qual scope f cd A outer s H E) [] (L2.start N vs) H s1 := by
  have J := inv_start (CX := L2.CX P w) (E := E) S (A := { A with handled := none }) rfl (env0_calm e0) hl r x
  have o := J.ok
  exact ⟨⟨o.mod, o.kind, o.glob, o.blt, o.above, o.inj, o.has, o.cab, fun z => Bool.noConfusion (show false = true from z), Around.frames_deeper e0.frames, o.stk, o.exf, o.bs, o.bsz, o.noex, o.exfs, o.funs, o.frf⟩,
    J.os, J.bare, J.base, J.loc, J.cell, J.free, J.freeC, J.pin, J.hok, J.len⟩
theorem fnq_of {P : Program} {w : World} {K : PySem.W.Frag} {mg : Str → Option Value} {base : Heap} {k : Nat} {name qual : Str} {st : Stmt} {f : Addr} {fd : FuncData} {N ps : List Str} {sp : Sp} (Fn : Fun K name qual st f fd) (S : FnScope N ps (defScope st))
    (len : ∀ vs H Q E, sp vs H Q E → vs.length = ps.length)
    (body : ∀ (cdv : Value) (A : Around) (outer : List Env) (s : Shared) (H : Hp) (vs : List V) (Q : VK) (E : XK), RoomQ k (A.deeper (envOfC qual (defScope st) s.heap.objs.size f cdv)) → A.guards = some [] → sp vs H Q E →
      ∃ t, PSs (cxQ P w K mg base N qual (defScope st) f cdv A outer s H E) (defBody st) t ∧ t { nx := fun _ H' => Q .non H', rt := Q } (L2.start N vs) H) : FnQ P w K mg base (k + 1) f fd ps sp := by
  obtain ⟨oc, od, kV, doc, pm, an, cdv, ct, osl, rfl, lk, hcd⟩ := Fn.ex
  refine ⟨len, fun A outer s H args us vs Q E room gd e0 bd rv asked => ?_⟩
  have vl := len _ _ _ _ asked
  have here : ∀ b o, base.get? b = some o → s.heap.get? b = some o := fun b o e => (e0.bs b o e).1
  have params : ∀ y ∈ ps.zip us, (defScope st).names.lookup y.1 = some .local ∨ ((defScope st).names.lookup y.1 = some .cell ∧ ((cellsFrom (s.heap.objs.size + 1) (defScope st).names []).lookup y.1).isSome = true) := by
    rintro ⟨n, v⟩ hy
    rcases S.par n (List.of_mem_zip hy).1 with q | q
    · exact Or.inl q
    · exact Or.inr ⟨q, PySem.W.cellsFrom_some _ _ _ (Or.inl q)⟩
  have dq : A.depth < recursionLimit := by have := room.dp; omega
  refine codeAny_call_function dq (e0.mod.kin.keeps here _ _ lk) rfl S.co S.gen rfl (PySem.W.codeRec_of (e0.mod.kin.keeps here) hcd) (bd _ _ _ _ ?_)
  refine wpAny_newFunctionEnv_cells S.kind params fun env he s1 x => ?_
  subst he
  refine ⟨(e0.mod.nolimit.keeps here).keeps x.toInCall.keep, codeAny_func ?_⟩
  obtain ⟨t, pss, tq⟩ := body cdv A outer s H vs Q E (room.deeper _) gd asked
  refine wpAny_mono (pss.run [] s1 (L2.start N vs) H _ (inv_startQ S e0 vl rv x) tq) (fun fl s' z => ?_) fun e s' z => z
  have done : ∀ {σ' : St} {H' : Hp} {v : V} {u : Value}, Inv (cxQ P w K mg base N qual (defScope st) f cdv A outer s H E) [] σ' H' s' → RelV v u → Q v H' → CE outer P w H s Q u s' :=
    fun {σ' H' v u} J r q => ⟨v, H', J.os, J.bare, J.base, J.hok, r, q⟩
  match fl, z with
  | .ret u, ⟨v, σ', H', J, r, q⟩ => exact done J r q
  | .next, ⟨σ', H', J, q⟩ => exact done (v := V.non) (u := Value.none) J rfl q
  | .brk, ⟨_, _, _, q⟩ => exact q.elim
  | .cont, ⟨_, _, _, q⟩ => exact q.elim
section
variable {X : Cx} {k : Nat} {f : Addr} {fd : FuncData} {ps : List Str} {sp : Sp} {W : WX} {x : Str} {p pos : Pos} {e : Expr} {es : List Expr} {t : TA}
theorem run_q {pins : List (Addr × Obj)} {σ : St} {H : Hp} {s : Shared} {Q : VK} {us : List Value} {vs : List V} (F : FnQ X.prog X.w X.K X.mg X.base k f fd ps sp) (room : RoomQ k X.A) (gd : X.A.guards = some []) (bd : Binds X.K fd ps []) (tk : Takes X W)
    (I : Inv X pins σ H s) (r : Vals vs us) (h : sp vs H Q (WE W σ)) : wpAny (model X.prog X.w) X.A (call (.ref f) us) (EP X pins σ Q) X.xe s := by
  have ul : us.length = ps.length := r.length.symm.trans (F.len _ _ _ _ h)
  have b := bd s us I.kIn (by rw [List.append_nil]; exact ul)
  rw [List.append_nil] at b
  refine wpAny_call (codeAny_mono (F.run X.A X.stack s H ⟨us, []⟩ us vs Q (WE W σ) room gd I.env0 b r h) fun r s' z => ?_)
  match r, z with
  | .error e, z => exact passAt tk σ pins H s e s' I z
  | .ok (.ret u), z => exact I.after z
  | .ok .next, z => exact z.elim
  | .ok .brk, z => exact z.elim
  | .ok .cont, z => exact z.elim
theorem pe_callQ (F : FnQ X.prog X.w X.K X.mg X.base k f fd ps sp) (room : RoomQ k X.A) (gd : X.A.guards = some []) (hg : Gl X x) (hm : X.mg x = some (.ref f)) (hk : PySem.W.keepIn X.K (.ref f) = true) (bd : Binds X.K fd ps []) (tk : Takes X W)
    (ha : PA X (e :: es) t) (hdb : (x == ("__debug__" : Str)) = false := by decide) (he : starEach (e :: es) X.env = (false, eval e X.env) :: starEach es X.env := by rfl) (hpl : (backTo pos (starEach es X.env)).any (·.1) = false := by rfl) :
    PE X (.Call (.Name x p) (e :: es) [] pos) (tCallS sp (WE W) t) := by
  refine ⟨fun pins s σ H Q I h => wpAny_Call_Name_kw (ld_glob I hg hm ?_ hdb)⟩
  refine PySem.W.callWith_K (h₀ := X.base) I.ok.mod.kin hk (thn (ha.run pos pins s σ H _ I h) fun us s1 ⟨vs, H1, I1, r, q⟩ => ⟨I1.kIn, run_q F room gd bd tk I1 r q⟩) he hpl
end
end DL
set_option Elab.async false
set_option linter.all false
set_option maxRecDepth 100000
set_option maxHeartbeats 2000000
set_option autoImplicit false
/-! DL18: what is caught, told as a value. -/
namespace DL
open PySem PySem.Spec PyProof.Rows L2
theorem exq_ok {P : Program} {w : World} {H : Hp} {h : Heap} {a : Addr} {oe : Obj} (e : h.get? a = some oe) : ObjOk P w H h a (exq a oe) := ⟨e, ⟨oe, e⟩, fun _ _ z k => k _ z⟩
theorem exq_own {a b : Addr} {oe : Obj} : exq a oe ≠ .own b := fun z => by
  have y : HO.ext _ = HO.own b := z
  cases y
/-- the caught exception, from now on told -/
theorem inv_trackq {X : Cx} {a : Addr} {oe : Obj} {pn : List (Addr × Obj)} {σ : St} {H : Hp} {s : Shared} (S : Inv (X.suite a ((a, oe) :: pn)) [] σ H s) (new : X.s_0.heap.get? a = none) (pp : ∀ p ∈ pn, p.1 ≠ a) : Inv (X.suite a pn) [] σ (upd H a (exq a oe)) s := by
  obtain ⟨get, free, nL, nF, nc⟩ := S.pin (a, oe) List.mem_cons_self
  have o := S.ok
  have up : ∀ {b : Addr} {u : HO}, H b = some u → (upd H a (exq a oe)) b = some u := fun {b u} z => by rw [upd_ne (ne_of_none z free)]; exact z
  refine ⟨⟨o.mod, o.kind, o.glob, o.blt, o.above, o.inj, o.has, o.cab, o.hd, o.frames, o.stk, o.exf, o.bs, o.bsz, o.noex, o.exfs, o.funs, o.frf⟩, S.os, S.bare, ⟨S.base.keep, S.base.slot, fun b u e n hx => ?_, S.base.there, fun b xs e => up (S.base.tups b xs e), fun b u v e => up (S.base.frzs b u v e), fun b ps e => ?_⟩,
    S.loc, S.cell, ?_, fun x c e => ?_, fun p hp => ?_, fun b u e => ?_, S.len⟩
  · have ne : b ≠ a := fun z => by
      subst z
      rw [new] at e
      cases e
    rw [upd_ne ne]
    exact S.base.free b u e n hx
  · obtain ⟨m, z⟩ := S.base.tbls b ps e
    exact ⟨m, up z⟩
  · rw [upd_ne (Ne.symm nL)]
    exact S.free
  · have ne : c ≠ a := fun z => by
      subst z
      obtain ⟨v, ob, ho, hd⟩ := S.cell x c e
      have g : s.heap.get? c = some oe := get
      rw [g] at ho
      cases ho
      exact nc _ hd
    rw [upd_ne ne]
    exact S.freeC x c e
  · have hp' : p ∈ pn := by simpa using hp
    obtain ⟨q1, q2, q3⟩ := S.pin p (by simp [hp'])
    exact ⟨q1, by rw [upd_ne (pp p hp')]; exact q2, q3⟩
  · by_cases hb : b = a
    · subst hb
      rw [upd_same] at e
      cases e
      exact exq_ok get
    · rw [upd_ne hb] at e
      exact (S.hok b u e).stay (fun _ _ _ q => q) (fun c q => up q) fun c xs q => up q
/-- what the clause wishes -/
def wQ (K : PySem.W.Frag) (c : Value) (i : Nat) (ts : TS) (Wout : WX) (D : Ends) : WX := fun cls d σ H => ∃ b, PySem.W.exmOne K cls c = some b ∧
  (b = true → ∀ (a : Addr) (oe : Obj) (vs : Array Value), H a = none → oe.cls = cls → oe.dict = d → oe.data = .fields vs → ts { nx := fun σ' H' => D.nx (σ'.set i none) H', rt := D.rt, bk := fun σ' H' => D.bk (σ'.set i none) H', ct := fun σ' H' => D.ct (σ'.set i none) H' } (σ.set i (some (.ref a))) (upd H a (exq a oe))) ∧
  (b = false → Wout cls d σ H)
theorem ps_try_q {X : Cx} {x n : Str} {c : Value} {i : Nat} {body suite : List Stmt} {b₀ : Stmt} {np pos pos' : Pos} {tb : WX → TS} {ts : TS} {Wout : WX} (hs : X.stack = X.env :: X.outer) (hf : X.env.frame = some X.env.locals) (hx : X.ex = []) (hN : X.N.Nodup) (hi : X.N[i]? = some n) (hln : X.env.kindOf n = some .local)
    (hc : Names X x c) (tk : Takes X Wout)
    (hb : ∀ (W : WX) (pn : List (Addr × Obj)) (xe : Value → Shared → Prop), Takes (X.tr pn xe) W → PassesOwn (model X.prog X.w) X.A X.env xe → PSs (X.tr pn xe) body (tb W))
    (hsu : ∀ (a : Addr) (pn : List (Addr × Obj)), PSs (X.suite a pn) (b₀ :: suite) ts) :
    PS X (.Try body [.ExceptHandler (some (.Name x np)) (some n) (b₀ :: suite) pos'] [] [] pos) (fun D σ H => tb (wQ X.K c i ts Wout D) D σ H) := by
  refine ⟨fun pins s σ H D I asked => ?_⟩
  have ok := I.ok
  have frames : X.A.frames = some (X.env :: X.outer) := hs ▸ ok.frames
  refine wpAny_Try_except (wpAny_mono ((hb (wQ X.K c i ts Wout D) (X.pn ++ pins) (fun e s₁ => wpAny (model X.prog X.w) X.A (noteFrame e X.env) (fun _ s₂ => wpAny (model X.prog X.w) X.A (setFlight e none) (fun _ s₃ =>
    wpAny (model X.prog X.w) X.A (handleBy e X.env [.ExceptHandler (some (.Name x np)) (some n) (b₀ :: suite) pos']) (SP X pins D) X.xe s₃) X.xe s₂) X.xe s₁) (fun u s' air => ?_) PassesOwn.looking).run [] s σ H D (I.toTry _) asked) (fun f s1 z => ?_) fun _ _ z => z)
  · obtain ⟨a, B, sI, pinsT, σ', H', cls, d, rfl, JT, nb, up, sky, na, os, ag, b, hb1, yes, no⟩ := air
    have J := JT.ofTry (pins := pins) ok
    have sky' : Sky B (X.env :: X.outer) a (Zc cls d) X.env.locals s'.heap := hs ▸ sky
    show wpAny (model X.prog X.w) X.A (noteFrame (.ref a) X.env) _ _ _
    refine Sky.land Zc.steady frames hf sky' fun h3 fl3 up3 => ?_
    have bareB : B.get? a = none := fl3.2.1
    obtain ⟨oe3, vs3, he3, hz3, hd3⟩ := fl3.there
    have outF : a ∉ frs (X.env :: X.outer) := fun hm => by
      obtain ⟨_, o', e', hnf⟩ := fl3.2.2.1.mem hm
      rw [he3] at e'
      cases e'
      exact hnf _ hd3
    have outL : a ≠ X.env.locals := fun z => outF (List.mem_filterMap.mpr ⟨X.env, List.mem_cons_self, by rw [hf, z]⟩)
    have outO : a ∉ X.fs := fun hm => by
      obtain ⟨e, he, q⟩ := List.mem_filterMap.mp hm
      exact outF (List.mem_filterMap.mpr ⟨e, List.mem_cons_of_mem _ he, q⟩)
    have newI : sI.heap.get? a = none := by
      cases e : sI.heap.get? a with
      | none => rfl
      | some o =>
        have z := nb a o e (by rw [hs]; exact outF)
        rw [bareB] at z
        cases z
    have new0 : X.s_0.heap.get? a = none := by
      cases e : X.s_0.heap.get? a with
      | none => rfl
      | some o =>
        obtain ⟨o', z⟩ := J.base.there a o e (by rw [hx]; exact fun z => nomatch z)
        rw [newI] at z
        cases z
    have pp : ∀ p ∈ X.pn ++ pins, p.1 ≠ a := fun p hp z => by
      have q := (J.pin p hp).1
      rw [z, newI] at q
      cases q
    have J3 : Inv X pins σ' H' { s' with heap := h3 } := J.landed nb fl3.1 (up.trans up3) os ag
    have S3 := J3.suite he3 hd3 na outL outO
    refine wpAny_handleBy_cons (codeAny_handlers_test ?_) (by intro q; cases q)
    have LT : PySem.W.Looks (model X.prog X.w) h3 (typeOf (.ref a)) cls := fun A Q E s k q => wpAny_typeOf_ref (k _ _ he3) (by rw [hz3.1]; exact q)
    have LM := PySem.W.exm_one (M := model X.prog X.w) J3.kIn LT hb1
    have named : ∀ {Q : Value → Shared → Prop} {E : Value → Shared → Prop}, Q c { s' with heap := h3 } → wpAny (model X.prog X.w) (X.A.mark (some (.ref a))) (eval (.Name x np) X.env) Q E { s' with heap := h3 } := fun {Q E} q => by
      obtain ⟨hg, hdb, hm | ⟨hm, hv, hnn⟩⟩ := hc
      · exact ld_glob (X := X.suite a ((a, oe3) :: (X.pn ++ pins))) S3 hg hm q hdb
      · exact ld_blt (X := X.suite a ((a, oe3) :: (X.pn ++ pins))) S3 hg hm hv q hnn hdb
    refine named (LM.here ?_)
    cases b with
    | true =>
      refine codeAny_handlers_suite_as (HandSPX.lands_againZ fl3 fun h4 fl4 up4 => ?_)
      have J4 : Inv X pins σ' H' { s' with heap := h4 } := J.landed nb fl4.1 ((up.trans up3).trans up4) os ag
      obtain ⟨oe4, vs4, he4, hz4, hd4⟩ := fl4.there
      have S4 := J4.suite he4 hd4 na outL outO
      refine store_ok (X := X.suite a ((a, oe4) :: (X.pn ++ pins))) (v := .ref a) S4 hN hi (.inl hln) rfl (fun s5 S5 => ?_) (.inr hln)
      have T5 := inv_trackq S5 new0 pp
      have back : ∀ {σ6 : St} {H6 : Hp} {s6 : Shared}, Inv (X.suite a (X.pn ++ pins)) [] σ6 H6 s6 → Inv X pins σ6 H6 s6 := fun {σ6 H6 s6} S6 => ⟨ok, S6.os, S6.bare, S6.base, S6.loc, S6.cell, S6.free, S6.freeC, fun p hp => S6.pin p (by simpa using hp), S6.hok, S6.len⟩
      refine wpAny_mono ((hsu a (X.pn ++ pins)).run [] s5 _ _ _ T5 (yes rfl a oe4 vs4 na hz4.1 hz4.2 hd4)) (fun f s6 z => ?_) fun _ _ z => False.elim z
      match f, z with
      | .next, ⟨σ6, H6, S6, q6⟩ => exact gone_ok (back S6) hN hi hln fun s7 J7 => ⟨_, _, J7, q6⟩
      | .brk, ⟨σ6, H6, S6, q6⟩ => exact gone_ok (back S6) hN hi hln fun s7 J7 => ⟨_, _, J7, q6⟩
      | .cont, ⟨σ6, H6, S6, q6⟩ => exact gone_ok (back S6) hN hi hln fun s7 J7 => ⟨_, _, J7, q6⟩
      | .ret u, ⟨v6, σ6, H6, S6, r6, q6⟩ => exact gone_ok (back S6) hN hi hln fun s7 J7 => ⟨_, _, _, J7, r6, q6⟩
    | false =>
      show wpAny _ X.A (handleBy (.ref a) X.env []) _ _ _
      refine wpAny_handleBy_nil ?_
      obtain ⟨_, _, _, oe, vs, T, oT, ts', he, _, hd, h1, _⟩ := id fl3
      unfold PySem.passOn
      refine wpAny_bind (wpAny_field he hd h1 ?_)
      rw [if_neg (show ¬ ((Value.ref T == Value.none) = true) from by simp)]
      have fin : wpAny (model X.prog X.w) X.A (setFlight (.ref a) X.env.frame) (fun _ s4 => wpAny (model X.prog X.w) X.A (throw (.ref a) : Sem Flow) (SP X pins D) X.xe s4) X.xe { s' with heap := h3 } := by
        rw [hf]
        exact HandSPX.setFlight_upZ fl3 fun h4 hh4 up4 => wpAny_throw (tk _ _ ⟨a, B, sI, pins, σ', H', cls, d, rfl, J, nb, (up.trans up3).trans up4, .inr (.inr (by rw [hs]; exact hh4)), na, os, ag, no rfl⟩)
      first
        | exact wpAny_bind (wpAny_pure (wpAny_bind fin))
        | exact wpAny_bind fin
  · match f, z with
    | .next, ⟨σ', H', J', q⟩ => exact wpAny_execs_nil ⟨σ', H', J'.ofTry ok, q⟩
    | .brk, ⟨σ', H', J', q⟩ => exact ⟨σ', H', J'.ofTry ok, q⟩
    | .cont, ⟨σ', H', J', q⟩ => exact ⟨σ', H', J'.ofTry ok, q⟩
    | .ret u, ⟨v, σ', H', J', r, q⟩ => exact ⟨v, σ', H', J'.ofTry ok, r, q⟩
end DL
set_option Elab.async false
set_option linter.all false
set_option maxRecDepth 100000
set_option maxHeartbeats 2000000
set_option autoImplicit false
/-! DL19: rules that hold within an except suite too. -/
namespace DL
open PySem PySem.Spec PyProof.Rows L2
theorem asked_body {K : PySem.W.Frag} {mg : Str → Option Value} {N : List Str} {n : Nat} {pin : List Nat} {m : SM} {vs : List V} {H : Hp} {Q : VK} {E : XK} {t : TS} (asked : spD K mg n (fnM pin N.length m) vs H Q E)
    (snd : SndS ⟨K, mg, fun cls d _ H => E cls d H, pin⟩ t m) : t { nx := fun _ H' => Q .non H', rt := Q } (L2.start N vs) H := by
  obtain ⟨ss, F, hl, c, hp⟩ := asked
  refine snd _ (L2.start N vs) (argsRh ss ++ List.replicate (N.length - ss.length) none) F H (con_start c) ?_
  unfold fnM at hp
  cases e : m (argsRh ss ++ List.replicate (N.length - ss.length) none) with
  | ret v ρ' =>
    rw [e] at hp
    cases eb : backS pin 0 ss ρ' with
    | none => simp only [eb] at hp; exact hp.elim
    | some ss' =>
      simp only [eb] at hp
      exact fun x σ' F' H' c' s' iv => hp x F' H' (con_back c c' s' eb).1 (con_back c c' s' eb).2 (val_back c s' eb iv)
  | nx ρ' =>
    rw [e] at hp
    cases eb : backS pin 0 ss ρ' with
    | none => simp only [eb] at hp; exact hp.elim
    | some ss' =>
      simp only [eb] at hp
      exact fun σ' F' H' c' s' => hp .non F' H' (con_back c c' s' eb).1 (con_back c c' s' eb).2 .non
  | exc x ρ' =>
    rw [e] at hp
    cases eb : backS pin 0 ss ρ' with
    | none => simp only [eb] at hp; exact hp.elim
    | some ss' =>
      simp only [eb] at hp
      exact fun cls dd σ' F' H' c' s' ix => hp cls dd F' H' (con_back c c' s' eb).1 (con_back c c' s' eb).2 ix
  | brk ρ' => rw [e] at hp; exact hp.elim
  | ct ρ' => rw [e] at hp; exact hp.elim
  | stuck => rw [e] at hp; exact hp.elim
structure HereQ (X : Cx) (W : WX) (k : Nat) : Prop where
  room : RoomQ k X.A
  gd : X.A.guards = some []
  tk : Takes X W
theorem Here.q {X : Cx} {W : WX} {k : Nat} (h : Here X W k) : HereQ X W k := ⟨roomQ_of h.room, h.gd, h.tk⟩
def FnAtQ (P : Program) (w : World) (K : PySem.W.Frag) (mg : Str → Option Value) (base : Heap) (k : Nat) (name : Str) (ps : List Str) (m : FM) : Prop :=
  ∃ f fd, mg name = some (.ref f) ∧ PySem.W.keepIn K (.ref f) = true ∧ Binds K fd ps [] ∧ BindsK fd ps ∧ FnQ P w K mg base k f fd ps (spD K mg ps.length m)
theorem FnAtQ.at {P : Program} {w : World} {K : PySem.W.Frag} {mg : Str → Option Value} {base : Heap} {k : Nat} {name : Str} {ps : List Str} {m : FM} (h : FnAtQ P w K mg base k name ps m) : FnAt P w K mg base k name ps m := by
  obtain ⟨f, fd, a, b, c, d, F⟩ := h
  exact ⟨f, fd, a, b, c, d, F.g⟩
theorem fnAtQ_of {P : Program} {w : World} {K : PySem.W.Frag} {mg : Str → Option Value} {base : Heap} {k : Nat} {name : Str} {st : Stmt} {N ps : List Str} {pin : List Nat} {m : SM} (Df : DefAt K mg name st ps) (S : FnScope N ps (defScope st))
    (body : ∀ (f : Addr) (cdv : Value) (A : Around) (outer : List Env) (s : Shared) (H : Hp) (E : XK), HereQ (cxQ P w K mg base N name (defScope st) f cdv A outer s H E) (fun cls d _ H => E cls d H) k →
      PBD (cxQ P w K mg base N name (defScope st) f cdv A outer s H E) (fun cls d _ H => E cls d H) pin (defBody st) m) : FnAtQ P w K mg base (k + 1) name ps (fnM pin N.length m) := by
  obtain ⟨f, fd, hm, Fn, b1, b2⟩ := Df.ex
  refine ⟨f, fd, hm, Fn.kp, b1, b2, fnq_of Fn S (fun vs H Q E h => ?_) fun cdv A outer s H vs Q E room gd asked => ?_⟩
  · obtain ⟨ss, F, hl, c, _⟩ := h
    have q := c.len
    simp only [List.length_map] at q
    omega
  · exact ⟨_, body f cdv A outer s H E ⟨room, gd, takes_of rfl rfl rfl rfl⟩, asked_body asked cs⟩
section
variable {X : Cx} {W : WX} {P : List Nat} {k j n : Nat} {x : Str} {p pos : Pos} {a b e : Expr} {es : List Expr} {ma mb m : EM} {ms : LM} {f : FM} {ps : List Str}
theorem de_callQ (F : FnAtQ X.prog X.w X.K X.mg X.base j x ps f) (hh : HereQ X W k) (hj : j ≤ k) (hn : ps.length = n) (h : PAD X W P (e :: es) ms) (hg : Gl X x := by rfl) (hdb : (x == ("__debug__" : Str)) = false := by decide)
    (he : starEach (e :: es) X.env = (false, eval e X.env) :: starEach es X.env := by rfl) (hpl : (backTo pos (starEach es X.env)).any (·.1) = false := by rfl) : PED X W P (.Call (.Name x p) (e :: es) [] pos) (callD n f ms) := by
  obtain ⟨fa, fd, hm, hk, bd, _, G⟩ := F
  subst hn
  exact ped (pe_callQ G (hh.room.mono hj) hh.gd hg hm hk bd hh.tk h hdb he hpl) (snd_callD ca)
theorem unitsQ (hh : HereQ X W k) : X.A.units + 64 < cLine := by
  have := hh.room.un
  omega
theorem de_eqQ (h : HereQ X W k) (ha : PED X W P a ma) (hb : PED X W P b mb) : PED X W P (.Compare a [.Eq] [b] pos) (op2 gEq ma mb) := ped (pe_cmpR (op_eq.or (op_eqD (unitsQ h))) ha hb (nomark _)) (snd_op eq_D ce ce)
theorem dt_eqQ (h : HereQ X W k) (ha : PED X W P a ma) (hb : PED X W P b mb) : PTD X W P (.Compare a [.Eq] [b] pos) (op2 gEq ma mb) := ptd (pt_cmpR (op_eq.or (op_eqD (unitsQ h))) ha hb (nomark _)) (snt_test (snd_op eq_D ce ce))
theorem de_reprQ (hh : HereQ X W k) (hm : X.mg "repr" = none) (h : PAD X W P (e :: es) ms) (hg : Gl X "repr" := by rfl) (he : starEach (e :: es) X.env = (false, eval e X.env) :: starEach es X.env := by rfl) (hpl : (backTo pos (starEach es X.env)).any (·.1) = false := by rfl) : PED X W P (.Call (.Name "repr" p) (e :: es) [] pos) (opL gRepr ms) :=
  ped (pe_callB (call_reprD hh.gd (by have := hh.room.un; omega)) hg hm (by decide +kernel) h (he := he) (hpl := hpl)) (snd_call repr_D ca)
end
/-! ### try: body, except C as n: suite -/
/-- which classes the clause takes -/
def CatF (K : PySem.W.Frag) (mg : Str → Option Value) (c : Value) (known : List Str) : Prop := ∀ (cls : Str) (C : Addr), cls ∈ known → mg cls = some (.ref C) → PySem.W.nsIn K mainGlobals cls = some (some (.ref C)) ∧ PySem.W.exmOne K (.ref C) c = some true
def tryB (i : Nat) (known : List Str) (mb ms : SM) : SM := fun ρ => match mb ρ with
  | .exc x ρ' => if x.cls ∈ known ∧ i < ρ'.length then match x.fld with
      | some (f, d) => match ms (ρ'.set i (some (.dat (exD x.cls f d)))) with
        | .ret v ρ2 => .ret v (ρ2.set i none)
        | _ => .stuck
      | none => .stuck
    else .stuck
  | o => o
end DL
set_option Elab.async false
set_option linter.all false
set_option maxRecDepth 100000
set_option maxHeartbeats 2000000
set_option autoImplicit false
/-! DL20: try with a clause that holds what it caught. -/
namespace DL
open PySem PySem.Spec PyProof.Rows L2
theorem stp_less {P : List Nat} {σ : St} {ρ : Rh} {F H : Hp} (i : Nat) : Stp P σ ρ F H σ (ρ.set i none) F H :=
  ⟨fun _ _ z => z, fun _ _ z _ => z, fun _ _ _ z _ => z, fun b z => .inl (owned_less (vs := [i]) z), fun b o z => ⟨o, z⟩, fun _ _ => rfl⟩
theorem ds_tryB {X : Cx} {W : WX} {P : List Nat} {k : Nat} (i : Nat) {known : List Str} {c : Value} {x n : Str} {body suite : List Stmt} {b₀ : Stmt} {np pos pos' : Pos} {mb ms : SM} (hh : Here X W k) (hF : CatF X.K X.mg c known) (hs : X.stack = X.env :: X.outer) (hf : X.env.frame = some X.env.locals) (hx : X.ex = [])
    (hN : X.N.Nodup) (hi : X.N[i]? = some n) (hln : X.env.kindOf n = some .local) (hc : Names X x c)
    (hb : ∀ (W' : WX) (pn : List (Addr × Obj)) (xe : Value → Shared → Prop), Here (X.tr pn xe) W' k → PBD (X.tr pn xe) W' P body mb)
    (hsu : ∀ (a : Addr) (pn : List (Addr × Obj)), HereQ (X.suite a pn) W0 k → PBD (X.suite a pn) W0 P (b₀ :: suite) ms) (hiP : i ∉ P) :
    PSD X W P (.Try body [.ExceptHandler (some (.Name x np)) (some n) (b₀ :: suite) pos'] [] [] pos) (tryB i known mb ms) := by
  refine psd (ps_try_q (tb := fun W' => canS (gX X W' P) mb) (ts := canS (gX X W0 P) ms) (Wout := fun _ _ _ _ => False) hs hf hx hN hi hln hc takes0 (fun W' pn xe tk ps => hb W' pn xe ⟨hh.room, hh.gd, tk, ps, hh.calm⟩) fun a pn => hsu a pn ⟨⟨hh.room.dp, hh.room.un⟩, hh.gd, takes0⟩) ?_
  intro Dn σ ρ F H c0 hp
  refine ⟨ρ, F, c0, ?_⟩
  unfold tryB at hp
  cases er : mb ρ with
  | stuck => rw [er] at hp; exact hp.elim
  | nx ρ' => rw [er] at hp; exact hp
  | brk ρ' => rw [er] at hp; exact hp
  | ct ρ' => rw [er] at hp; exact hp
  | ret v ρ' => rw [er] at hp; exact hp
  | exc e ρ' =>
    rw [er] at hp
    dsimp only at hp
    by_cases hk : e.cls ∈ known ∧ i < ρ'.length
    · rw [if_pos hk] at hp
      cases ef : e.fld with
      | none => rw [ef] at hp; exact hp.elim
      | some gd =>
        obtain ⟨f, d⟩ := gd
        rw [ef] at hp
        dsimp only at hp
        intro cls dd σ' F' H' c' s' ix
        obtain ⟨C, gm, rfl, fx⟩ := ix
        obtain ⟨hn, hex⟩ := hF e.cls C hk.1 gm
        rw [ef] at fx
        obtain ⟨a0, v, rfl, hF0, dv⟩ := fx
        refine ⟨true, hex, fun _ a oe vs na o1 o2 o3 => ?_, fun q => Bool.noConfusion q⟩
        have nw : News F' H' (upd F' a (exq a oe)) (upd H' a (exq a oe)) := News.new c'.ext na
        have c2 := c'.news nw
        have dx : Dv X.K (upd F' a (exq a oe)) (.ref a) (exD e.cls f d) := Dv.exc (d := a0) hn upd_same (.inr ⟨oe, vs, rfl, o1, o2, o3⟩) (nw.fr _ _ hF0) (.inr rfl) (dv_mono nw.fr _ _ dv)
        obtain ⟨c3, s3⟩ := c2.setD (P := P) dx hiP
        refine ⟨_, _, c3, ?_⟩
        have s4 := s'.trans ((Stp.news (K := X.K) (P := P) nw).trans s3)
        cases em : ms (ρ'.set i (some (.dat (exD e.cls f d)))) with
        | ret v2 ρ2 =>
          rw [em] at hp
          dsimp only at hp
          intro y σ5 F5 H5 c5 s5 i5
          have c6 : Con X.K σ5 (ρ2.set i none) F5 H5 := c5.less [i]
          have s6 := (s4.trans s5).trans (stp_less (P := P) (σ := σ5) (ρ := ρ2) (F := F5) (H := H5) i)
          refine hp y σ5 F5 H5 c6 s6 ?_
          cases v2 with
          | d d2 => exact i5
          | l ds =>
            obtain ⟨p, us, rfl, fp, hpp, dvs, no, old⟩ := i5
            refine ⟨p, us, rfl, fp, hpp, dvs, fun z => no (owned_less (vs := [i]) z), ?_⟩
            rcases old with o | o
            · exact s4.own p o
            · right
              cases eh : H p with
              | none => rfl
              | some u =>
                obtain ⟨u', z⟩ := s4.dom p u eh
                rw [z] at o
                cases o
        | nx ρ2 => rw [em] at hp; exact hp.elim
        | brk ρ2 => rw [em] at hp; exact hp.elim
        | ct ρ2 => rw [em] at hp; exact hp.elim
        | exc x2 ρ2 => rw [em] at hp; exact hp.elim
        | stuck => rw [em] at hp; exact hp.elim
    · rw [if_neg hk] at hp
      exact hp.elim
end DL
set_option Elab.async false
set_option linter.all false
set_option maxRecDepth 100000
set_option maxHeartbeats 2000000
set_option autoImplicit false
/-! DL21: repr, of {} too. -/
namespace DL
open PySem PySem.Spec PyProof.Rows L2
def gReprE : List D → Option D
  | [.dict []] => some (.str (PyData.shown (.dict [])))
  | ds => gRepr ds
def rReprE (K : PySem.W.Frag) : List V → Hp → VK → Prop := fun xs H Q => rReprD K xs H Q ∨ ∃ a, xs = [.ref a] ∧ H a = some (.dK []) ∧ Q (.str (PyData.shown (.dict []))) H
theorem call_reprE {X : Cx} (hg : X.A.guards = some []) (hu : X.A.units + 66 < cLine) : CallR X (.builtin "repr") (rReprE X.K) := by
  intro pins s σ H xs us Q I r h
  rcases h with h | ⟨a, rfl, ha, q⟩
  · exact call_reprD hg hu pins s σ H xs us Q I r h
  · obtain ⟨u, rfl, ru⟩ := vals1 r
    cases ru
    have fin : ∀ h' u' tk, (∀ b o, s.heap.get? b = some o → h'.get? b = some o) → EP X pins σ Q (.str (PyData.shown (.dict [])) u') { s with heap := h', toks := tk } :=
      fun h' u' tk hk => ⟨.str _, H, I.kept (t' := tk) hk, ⟨_, rfl⟩, q⟩
    obtain ⟨_, hsm, vs, kv, o, es, ep, ho, hex, hd, hk, hp, hnd⟩ := I.hok a _ ha
    have e0 : es.toList = [] := by
      cases kv
      cases e : es.toList with
      | nil => rfl
      | cons x r => rw [e] at hp; cases hp
    have rd : Reads s.heap (.ref a) (.dict []) (a :: [] ++ []) := .dict ho hex.1 hd (by rw [e0]; exact .nil) (by rw [e0]; exact .nil)
    refine repr_of_reads' rd rfl (fun _ hm => ?_) hg (by show X.A.units + (1 + 1) < cLine; omega) (fun _ _ e => e) fin (by show (PyData.shown (.dict [])).length ≤ sizeLine; exact Nat.le_of_lt (small1000 (by decide +kernel)))
    have hm' : sysModules = a := by simpa using hm
    rw [← hm'] at hsm
    simp at hsm
theorem reprE_D {K : PySem.W.Frag} : CaD K (rReprE K) gReprE := by
  intro F H xs ds dz Q e h hg k
  unfold gReprE at hg
  split at hg
  · cases hg
    obtain ⟨x, rfl, hx⟩ := dvs_one h
    cases hx with
    | emp hs => exact .inr ⟨_, rfl, e _ _ hs, k _ _ _ (News.refl e) (.str _)⟩
  · exact .inl (repr_D F H xs ds dz Q e h hg k)
section
variable {X : Cx} {W : WX} {P : List Nat} {k : Nat} {p pos : Pos} {e : Expr} {es : List Expr} {ms : LM}
theorem de_reprE (hh : HereQ X W k) (hm : X.mg "repr" = none) (h : PAD X W P (e :: es) ms) (hg : Gl X "repr" := by rfl) (he : starEach (e :: es) X.env = (false, eval e X.env) :: starEach es X.env := by rfl) (hpl : (backTo pos (starEach es X.env)).any (·.1) = false := by rfl) : PED X W P (.Call (.Name "repr" p) (e :: es) [] pos) (opL gReprE ms) :=
  ped (pe_callB (call_reprE hh.gd (by have := hh.room.un; omega)) hg hm (by decide +kernel) h (he := he) (hpl := hpl)) (snd_call reprE_D ca)
end
end DL
set_option Elab.async false
set_option linter.all false
set_option maxRecDepth 100000
set_option maxHeartbeats 2000000
set_option autoImplicit false
/-! DL22: classes of exceptions of a module: who is whose. -/
namespace DL
open PySem PySem.Spec PyProof.Rows L2
abbrev veM : List Value := [.type "ValueError", .type "Exception", .type "BaseException", .type "object"]
/-- what is known of the class cls at C: its mro is itself, then bm -/
structure Cl (K : PySem.W.Frag) (cls : Str) (C : Addr) (bm : List Value) : Prop where
  ns : PySem.W.nsIn K mainGlobals cls = some (some (.ref C))
  lk : ∃ q N bs sn sub ab col dd k0 k1 k2 k3 k5, K.lookup C = some (excClassObj cls q C N bs bm true sn sub ab col dd k0 k1 k2 k3 k5 "ValueError.__new__")
  ex : ExcC K C
theorem Cl.cls {K : PySem.W.Frag} {cls : Str} {C : Addr} {bm : List Value} (h : Cl K cls C bm) : ∃ cd : ClassData, PySem.W.clsIn K C = some cd ∧ cd.mro = .ref C :: bm ∧ cd.name = cls := by
  obtain ⟨q, N, bs, sn, sub, ab, col, dd, k0, k1, k2, k3, k5, l⟩ := h.lk
  exact ⟨_, by unfold PySem.W.clsIn; rw [l], rfl, rfl⟩
theorem Cl.ty {K : PySem.W.Frag} {cls : Str} {C : Addr} {bm : List Value} (h : Cl K cls C bm) : PySem.W.typeIn K (.ref C) = some (.type "type") := by
  obtain ⟨q, N, bs, sn, sub, ab, col, dd, k0, k1, k2, k3, k5, l⟩ := h.lk
  show (K.lookup C).map (·.cls) = _
  rw [l]
  rfl
theorem Cl.sub {K : PySem.W.Frag} {cls : Str} {C : Addr} {bm : List Value} (h : Cl K cls C bm) (c : Value) : PySem.W.subIn K (.ref C) c = some ((Value.ref C :: bm).contains c) := by
  obtain ⟨cd, e, m, _⟩ := h.cls
  show PySem.W.mroIn K C c = _
  unfold PySem.W.mroIn
  rw [e]
  simp only [Option.bind_some, m]
  rfl
theorem Cl.inj {K : PySem.W.Frag} {c1 c2 : Str} {C1 C2 : Addr} {b1 b2 : List Value} (h1 : Cl K c1 C1 b1) (h2 : Cl K c2 C2 b2) : C1 = C2 ↔ c1 = c2 := by
  constructor
  · rintro rfl
    obtain ⟨cd, e, _, n⟩ := h1.cls
    obtain ⟨cd', e', _, n'⟩ := h2.cls
    rw [e] at e'
    cases e'
    rw [← n, ← n']
  · rintro rfl
    have e := h1.ns.symm.trans h2.ns
    cases e
    rfl
/-- a module's classes: the root, and those right below it -/
structure Fam (K : PySem.W.Frag) (root : Str) (names : List Str) : Prop where
  no : root ∉ names
  rt : ∃ R, Cl K root R veM ∧ ∀ cls ∈ names, ∃ C, Cl K cls C (.ref R :: veM)
def tblC (root : Str) (names : List Str) (c2 : Str) : Str → Option Bool := fun cls => if cls ∈ root :: names then some (decide (cls = c2 ∨ c2 = root)) else none
def tblV (root : Str) (names : List Str) : Str → Option Bool := fun cls => if cls ∈ root :: names then some true else none
theorem Fam.get {K : PySem.W.Frag} {root cls : Str} {names : List Str} (F : Fam K root names) (h : cls ∈ root :: names) : ∃ R C bm, Cl K root R veM ∧ Cl K cls C bm ∧ (bm = veM ∧ cls = root ∨ bm = .ref R :: veM ∧ cls ≠ root) := by
  obtain ⟨R, r1, r2⟩ := F.rt
  rcases List.mem_cons.mp h with rfl | h
  · exact ⟨R, R, _, r1, r1, .inl ⟨rfl, rfl⟩⟩
  · obtain ⟨C, c⟩ := r2 cls h
    exact ⟨R, C, _, r1, c, .inr ⟨rfl, fun e => F.no (e ▸ h)⟩⟩
theorem ve_ref {C : Addr} : veM.contains (.ref C) = false := by rfl
theorem isF_own {K : PySem.W.Frag} {root c2 : Str} {names : List Str} (F : Fam K root names) (h2 : c2 ∈ root :: names) {C2 : Addr} (n2 : PySem.W.nsIn K mainGlobals c2 = some (some (.ref C2))) : IsF K (.ref C2) (tblC root names c2) := by
  intro cls b C e n
  unfold tblC at e
  by_cases hc : cls ∈ root :: names
  · rw [if_pos hc] at e
    cases e
    obtain ⟨R, C', bm, r, k, kb⟩ := F.get hc
    obtain ⟨R', C2', bm2, r', k2, _⟩ := F.get h2
    have eR := (r.inj r').mpr rfl
    subst eR
    have e1 := k.ns.symm.trans n
    cases e1
    have e2 := k2.ns.symm.trans n2
    cases e2
    refine ⟨k.ex, ?_⟩
    unfold PySem.W.kitOne
    by_cases he : C = C2
    · rw [if_pos (by rw [he]; simp)]
      have := (k.inj k2).mp he
      simp [this]
    · have ne : cls ≠ c2 := fun z => he ((k.inj k2).mpr z)
      rw [if_neg (by simpa using he)]
      unfold PySem.W.kitCls
      obtain ⟨cd, ecd, _, _⟩ := k2.cls
      dsimp only
      rw [if_pos (by rw [ecd, k2.ty]; rfl), k.sub]
      congr 1
      rw [List.contains_cons]
      have e3 : (Value.ref C2 == Value.ref C) = false := by simpa using Ne.symm he
      rw [e3]
      rcases kb with ⟨rfl, rfl⟩ | ⟨rfl, hne⟩
      · have e4 : c2 ≠ cls := Ne.symm ne
        simp [ne, e4]
      · rw [List.contains_cons, ve_ref]
        by_cases hr : C2 = R
        · have := (k2.inj r).mp hr
          simp [hr, this]
        · have hr' : c2 ≠ root := fun z => hr ((k2.inj r).mpr z)
          simp [hr, hr', ne]
  · rw [if_neg hc] at e
    cases e
theorem isF_ve {K : PySem.W.Frag} {root : Str} {names : List Str} (F : Fam K root names) : IsF K (.type "ValueError") (tblV root names) := by
  intro cls b C e n
  unfold tblV at e
  by_cases hc : cls ∈ root :: names
  · rw [if_pos hc] at e
    cases e
    obtain ⟨R, C', bm, r, k, kb⟩ := F.get hc
    have e1 := k.ns.symm.trans n
    cases e1
    refine ⟨k.ex, kit_blt (by decide +kernel) ?_⟩
    rw [k.sub]
    congr 1
    rcases kb with ⟨rfl, _⟩ | ⟨rfl, _⟩ <;> rfl
  · rw [if_neg hc] at e
    cases e
theorem catF_own {K : PySem.W.Frag} {mg : Str → Option Value} {h : Heap} {root : Str} {names known : List Str} (X : K.In h) (G : h.Ns mainGlobals mg) (F : Fam K root names) (sub : ∀ c ∈ known, c ∈ names) {R : Addr} (n : PySem.W.nsIn K mainGlobals root = some (some (.ref R))) : CatF K mg (.ref R) known := by
  intro cls C hk hm
  obtain ⟨R', C', bm, r, k, kb⟩ := F.get (List.mem_cons_of_mem _ (sub cls hk))
  have e1 := r.ns.symm.trans n
  cases e1
  have e2 := (PySem.W.mg_of X G k.ns).symm.trans hm
  cases e2
  refine ⟨k.ns, ?_⟩
  have hr : PySem.W.subIn K (.ref R) (.type "BaseException") = some true := r.ex.hs
  unfold PySem.W.exmOne PySem.W.kitCls
  rw [if_pos (by rw [hr]; rfl)]
  obtain ⟨cd, ecd, _, _⟩ := r.cls
  dsimp only
  rw [if_pos (by rw [ecd, r.ty]; rfl), k.sub]
  congr 1
  rcases kb with ⟨_, e⟩ | ⟨rfl, _⟩
  · exact absurd (e ▸ sub cls hk) F.no
  · simp
structure IsO (K : PySem.W.Frag) (mg : Str → Option Value) (x : Str) (tbl : Str → Option Bool) : Prop where
  ex : ∃ C, mg x = some (.ref C) ∧ IsF K (.ref C) tbl
structure X0 (K : PySem.W.Frag) (mg : Str → Option Value) (x : Str) : Prop where
  ex : ∃ C, PySem.W.nsIn K mainGlobals x = some (some (.ref C)) ∧ mg x = some (.ref C) ∧ PySem.W.keepIn K (.ref C) = true ∧ PySem.W.excIn K C veM "ValueError.__new__" = true
section
variable {X : Cx} {W : WX} {P : List Nat} {k : Nat} {x f : Str} {p pos p2 : Pos} {e : Expr} {m : EM}
theorem de_isOx {pT : Pos} {Tn : Str} {tbl : Str → Option Bool} (hF : IsO X.K X.mg Tn tbl) (hm : X.mg "isinstance" = none) (h : PED X W P e m) (hgi : Gl X "isinstance" := by rfl) (hg : Gl X Tn := by rfl) (hd : (Tn == ("__debug__" : Str)) = false := by decide)
    (hs : starEach (e :: [.Name Tn pT]) X.env = (false, eval e X.env) :: starEach [.Name Tn pT] X.env := by rfl) (hs2 : starEach [.Name Tn pT] X.env = (false, eval (.Name Tn pT) X.env) :: starEach [] X.env := by rfl)
    (hpl : (backTo pos (starEach [.Name Tn pT] X.env)).any (·.1) = false := by rfl) : PED X W P (.Call (.Name "isinstance" p) [e, .Name Tn pT] [] pos) (op1 (gIsX tbl) m) := by
  obtain ⟨C, h1, h2⟩ := hF.ex
  exact de_isO h2 h1 hm h hgi hg hd hs hs2 hpl
theorem de_mk0x (T : X0 X.K X.mg x) (hg : Gl X x := by rfl) (hdb : (x == ("__debug__" : Str)) = false := by decide) : PED X W P (.Call (.Name x p) [] [] pos) (mk0M x) := by
  obtain ⟨C, a, b, c, d⟩ := T.ex
  exact de_mk0 a b c d hg hdb
theorem ds_raiseV (T : XV X.K X.mg x f) (hh : Here X W k) (hk : 2 ≤ k) (h : PED X W P e m) (hg : Gl X x := by rfl) (hdb : (x == ("__debug__" : Str)) = false := by decide)
    (he : starEach (e :: []) X.env = (false, eval e X.env) :: starEach [] X.env := by rfl) (hpl : (backTo p2 (starEach [] X.env)).any (·.1) = false := by rfl) : PSD X W P (.Raise (some (.Call (.Name x p) [e] [] p2)) none pos) (raiseM x f m) := by
  obtain ⟨C, fI, fd, _, q, _⟩ := T.ex
  exact ds_raise (q _ _ _) hh hk h hg hdb he hpl
end
end DL
set_option Elab.async false
set_option linter.all false
set_option maxRecDepth 100000
set_option maxHeartbeats 2000000
set_option autoImplicit false
/-! DL23: what the top has written of such classes. -/
namespace DL
open PySem PySem.Spec PyProof.Rows L2
section
variable {K : PySem.W.Frag} {h : Heap} {mg : Str → Option Value} (X : K.In h) (G : h.Ns mainGlobals mg)
include X G
theorem xv_mk {x qual f : Str} {st : Stmt} {C fI : Addr} {oc : Value} {od an : Option Addr} {osl : Array (Option Value)} {kV doc pm cdv ct : Value} (a : PySem.W.nsIn K mainGlobals x = some (some (.ref C))) (T : OexC K C) (iC : PySem.W.findIn K (.ref C) "__init__" = some (some (.ref fI))) (tI : PySem.W.typeIn K (.ref fI) = some (.type "function"))
    (noF : PySem.W.findIn K (.ref C) f = some none) (l : K.lookup fI = some ⟨oc, od, .func (PySem.W.fnOf "__init__" qual (defArgs st) (defBody st) (defScope st) .none kV doc pm an cdv ct), osl⟩) (c : PySem.W.codeIn K cdv qual = true) (k : PySem.W.keepIn K (.ref fI) = true) (S : FnScope [("self" : Str), f] [("self" : Str), f] (defScope st))
    (b1 : ∀ (kV doc pm : Value) (an : Option Addr) (cdv ct : Value) (us : List Value), us.length = ([("self" : Str), f] : List Str).length → bindArgs (PySem.W.fnOf "__init__" qual (defArgs st) (defBody st) (defScope st) .none kV doc pm an cdv ct) ⟨us, []⟩ = pure (([("self" : Str), f] : List Str).zip us))
    (b2 : ∀ (kV doc pm : Value) (an : Option Addr) (cdv ct : Value) (a u : Value), bindArgs (PySem.W.fnOf "__init__" qual (defArgs st) (defBody st) (defScope st) .none kV doc pm an cdv ct) ⟨[a], [(f, u)]⟩ = pure [(("self" : Str), a), (f, u)])
    (body : ∀ (P : Program) (w : World) (base : Heap) (cdv : Value) (A : Around) (outer : List Env) (s : Shared) (H : Hp) (E : XK), PSs (cxOf CX0 P w K mg base [("self" : Str), f] qual (defScope st) fI cdv A outer s H E).nox (defBody st) (tOst K f (tVar 0) (tVar 1))) : XV K mg x f := by
  have Fn := fun_mk (st := st) l c k
  refine ⟨C, fI, _, a, fun P w base => ⟨PySem.W.mg_of X G a, T, iC, tI, noF, Fn.ok S (fun vs H Q E z => ?_) fun cdv A outer s H vs Q E hr z => ?_, Fn.binds b1⟩, fun s a u => .of_eq (b2 _ _ _ _ _ _ a u)⟩
  · obtain ⟨_, _, rfl, _⟩ := z
    rfl
  · exact ⟨_, body P w base cdv A outer s H E, pure_init T noF z⟩
end
theorem fldF_nil {K : PySem.W.Frag} {f : Str} : FldF K [] f := fun _ _ h => nomatch h
theorem fldF_cons {K : PySem.W.Frag} {f c : Str} {known : List Str} {C : Addr} (n : PySem.W.nsIn K mainGlobals c = some (some (.ref C))) (x : XfC K C) (q : PySem.W.findIn K (.ref C) f = some none) (r : FldF K known f) : FldF K (c :: known) f := by
  intro cls D h m
  rcases List.mem_cons.mp h with rfl | h
  · have e := n.symm.trans m
    cases e
    exact ⟨x, q⟩
  · exact r cls D h m
def AllCl (K : PySem.W.Frag) (R : Addr) (names : List Str) : Prop := ∀ cls ∈ names, ∃ C, Cl K cls C (.ref R :: veM)
theorem allCl_nil {K : PySem.W.Frag} {R : Addr} : AllCl K R [] := fun _ h => nomatch h
theorem allCl_cons {K : PySem.W.Frag} {R C : Addr} {c : Str} {names : List Str} (h : Cl K c C (.ref R :: veM)) (r : AllCl K R names) : AllCl K R (c :: names) := by
  intro cls hc
  rcases List.mem_cons.mp hc with rfl | hc
  · exact ⟨C, h⟩
  · exact r cls hc
theorem ds_tryBx {X : Cx} {W : WX} {P : List Nat} {k : Nat} (i : Nat) {known : List Str} {x n : Str} {body suite : List Stmt} {b₀ : Stmt} {np pos pos' : Pos} {mb ms : SM} (T : ∃ R, X.mg x = some (.ref R) ∧ CatF X.K X.mg (.ref R) known) (hh : Here X W k) (hs : X.stack = X.env :: X.outer) (hf : X.env.frame = some X.env.locals) (hx : X.ex = [])
    (hN : X.N.Nodup) (hi : X.N[i]? = some n) (hln : X.env.kindOf n = some .local)
    (hb : ∀ (W' : WX) (pn : List (Addr × Obj)) (xe : Value → Shared → Prop), Here (X.tr pn xe) W' k → PBD (X.tr pn xe) W' P body mb)
    (hsu : ∀ (a : Addr) (pn : List (Addr × Obj)), HereQ (X.suite a pn) W0 k → PBD (X.suite a pn) W0 P (b₀ :: suite) ms) (hiP : i ∉ P) (hg : Gl X x := by rfl) (hdb : (x == ("__debug__" : Str)) = false := by decide) :
    PSD X W P (.Try body [.ExceptHandler (some (.Name x np)) (some n) (b₀ :: suite) pos'] [] [] pos) (tryB i known mb ms) := by
  obtain ⟨R, h1, h2⟩ := T
  exact ds_tryB i hh h2 hs hf hx hN hi hln ⟨hg, hdb, .inl h1⟩ hb hsu hiP
end DL
set_option Elab.async false
set_option linter.all false
set_option maxRecDepth 100000
set_option maxHeartbeats 2000000
set_option autoImplicit false
/-! K00M: the mirrors of the defs (printed by gen.py). -/
namespace DL
namespace K00
open PySem PySem.Spec PyProof.Rows L2
/-- fuel for a walk along the text in a slot -/
def fuelText (i : Nat) : Rh → Nat := fun ρ => match ρ[i]? with
  | some (some (.dat (.str z))) => z.length + 1
  | _ => 0
def root : Str := "PlanError"
def names : List Str := ["InvalidValue", "InvalidPoly", "InvalidChain", "InvalidFraction", "InvalidNumber", "InvalidLine", "NotADesk", "NotNow", "InvalidText", "InvalidPlan", "Misfit", "InvalidCode", "InvalidTower", "InvalidBook", "Broken", "TooMany", "NothingToUndo"]
def catK : List Str := ["Misfit", "InvalidValue"]
def k_given : List Str := ["InvalidValue", "InvalidPoly", "InvalidChain", "InvalidFraction", "InvalidNumber", "InvalidLine", "NotADesk", "NotNow"]
def k_index : List Str := ["InvalidText", "InvalidPlan", "Misfit", "InvalidCode", "InvalidTower", "InvalidBook", "Broken"]
def b__law_pool : SM :=
  seqM (parM 2 3 (consL (iteM (op2 gLt (varM 1) (opL gLen (consL (varM 0) (nilL)))) (opL gInt (consL (op2 gIx (varM 0) (varM 1)) (nilL))) (op2 gAdd (op2 gMulA (conM (.int 70001)) (varM 1)) (conM (.int 2800)))) (consL (op2 gAdd (conM (.int 1030001)) (op2 gMulA (conM (.int 5087)) (varM 1))) (nilL)))) (seqM (forM (seqI (slM (varM 0) (noPartM) (partM (conM (.int 63))))) (nameT 4) (asgM (nameT 3) (op2 gMod (opL gInt (consL (op2 gAdd (op2 gAdd (op2 gMulA (varM 3) (conM (.int 48271))) (op2 gMod (opL gInt (consL (varM 4) (nilL))) (conM (.int 2147483489)))) (conM (.int 549))) (nilL))) (conM (.int 2147483489))))) (retM (lstO (consL (op2 gMod (opL gInt (consL (op2 gAdd (varM 3) (op2 gMulA (varM 2) (conM (.int 1013)))) (nilL))) (conM (.int 2147483489))) (consL (iteM (orM (op2 gLt (varM 2) (conM (.int 0))) (op2 gGe (varM 2) (op2 gPow (conM (.int 10)) (conM (.int 18))))) (opL gAbs (consL (varM 2) (nilL))) (conM (.int 0))) (consL (conM (.int 0)) (nilL)))))))
def f__law_pool : FM := fnM [] 5 b__law_pool
def b__law_draw : SM :=
  seqM (ifM (op2 gGt (ixO 0 (conM (.int 1))) (conM (.int 0))) (seqM (asgM (tupT 2 (consT (subT 0 1) (consT (nameT 2) (nilT)))) (opL gDivmod (consL (ixO 0 (conM (.int 1))) (consL (varM 1) (nilL))))) (retM (varM 2))) (nextM)) (seqM (asgM (subT 0 2) (op2 gAdd (ixO 0 (conM (.int 2))) (conM (.int 1)))) (seqM (asgM (nameT 3) (opL gInt (consL (ixO 0 (conM (.int 0))) (nilL)))) (seqM (asgM (subT 0 0) (op2 gMod (opL gInt (consL (op2 gAdd (op2 gAdd (op2 gMulA (varM 3) (op2 gAdd (op2 gMod (varM 3) (conM (.int 20011))) (conM (.int 30011)))) (op2 gMulA (conM (.int 70001)) (ixO 0 (conM (.int 2))))) (conM (.int 9))) (nilL))) (conM (.int 2147483489)))) (retM (op2 gMod (opL gInt (consL (op2 gDiv (ixO 0 (conM (.int 0))) (conM (.int 128))) (nilL))) (varM 1))))))
def f__law_draw : FM := fnM [0] 4 b__law_draw
def b__law_pick : SM :=
  retM (op2 gIx (varM 1) (callO 2 f__law_draw 0 (consL (opL gLen (consL (varM 1) (nilL))) (nilL))))
def f__law_pick : FM := fnM [0] 2 b__law_pick
def b__law_words : SM :=
  seqM (asgM (nameT 1) (opL gLst (nilL))) (seqM (asgM (nameT 1) (op2 gAdd (varM 1) (iteM (op1 (gIsX (tblC root names "InvalidValue")) (varM 0)) (opL gLst (consL (conM (.str "InvalidValue")) (nilL))) (opL gLst (nilL))))) (seqM (asgM (nameT 1) (op2 gAdd (varM 1) (iteM (op1 (gIsX (tblC root names "InvalidPoly")) (varM 0)) (opL gLst (consL (conM (.str "InvalidPoly")) (nilL))) (opL gLst (nilL))))) (seqM (asgM (nameT 1) (op2 gAdd (varM 1) (iteM (op1 (gIsX (tblC root names "InvalidChain")) (varM 0)) (opL gLst (consL (conM (.str "InvalidChain")) (nilL))) (opL gLst (nilL))))) (seqM (asgM (nameT 1) (op2 gAdd (varM 1) (iteM (op1 (gIsX (tblC root names "InvalidFraction")) (varM 0)) (opL gLst (consL (conM (.str "InvalidFraction")) (nilL))) (opL gLst (nilL))))) (seqM (asgM (nameT 1) (op2 gAdd (varM 1) (iteM (op1 (gIsX (tblC root names "InvalidNumber")) (varM 0)) (opL gLst (consL (conM (.str "InvalidNumber")) (nilL))) (opL gLst (nilL))))) (seqM (asgM (nameT 1) (op2 gAdd (varM 1) (iteM (op1 (gIsX (tblC root names "InvalidLine")) (varM 0)) (opL gLst (consL (conM (.str "InvalidLine")) (nilL))) (opL gLst (nilL))))) (seqM (asgM (nameT 1) (op2 gAdd (varM 1) (iteM (op1 (gIsX (tblC root names "NotADesk")) (varM 0)) (opL gLst (consL (conM (.str "NotADesk")) (nilL))) (opL gLst (nilL))))) (seqM (asgM (nameT 1) (op2 gAdd (varM 1) (iteM (op1 (gIsX (tblC root names "NotNow")) (varM 0)) (opL gLst (consL (conM (.str "NotNow")) (nilL))) (opL gLst (nilL))))) (seqM (asgM (nameT 1) (op2 gAdd (varM 1) (iteM (op1 (gIsX (tblC root names "InvalidText")) (varM 0)) (opL gLst (consL (conM (.str "InvalidText")) (nilL))) (opL gLst (nilL))))) (seqM (asgM (nameT 1) (op2 gAdd (varM 1) (iteM (op1 (gIsX (tblC root names "InvalidPlan")) (varM 0)) (opL gLst (consL (conM (.str "InvalidPlan")) (nilL))) (opL gLst (nilL))))) (seqM (asgM (nameT 1) (op2 gAdd (varM 1) (iteM (op1 (gIsX (tblC root names "Misfit")) (varM 0)) (opL gLst (consL (conM (.str "Misfit")) (nilL))) (opL gLst (nilL))))) (seqM (asgM (nameT 1) (op2 gAdd (varM 1) (iteM (op1 (gIsX (tblC root names "InvalidCode")) (varM 0)) (opL gLst (consL (conM (.str "InvalidCode")) (nilL))) (opL gLst (nilL))))) (seqM (asgM (nameT 1) (op2 gAdd (varM 1) (iteM (op1 (gIsX (tblC root names "InvalidTower")) (varM 0)) (opL gLst (consL (conM (.str "InvalidTower")) (nilL))) (opL gLst (nilL))))) (seqM (asgM (nameT 1) (op2 gAdd (varM 1) (iteM (op1 (gIsX (tblC root names "InvalidBook")) (varM 0)) (opL gLst (consL (conM (.str "InvalidBook")) (nilL))) (opL gLst (nilL))))) (seqM (asgM (nameT 1) (op2 gAdd (varM 1) (iteM (op1 (gIsX (tblC root names "Broken")) (varM 0)) (opL gLst (consL (conM (.str "Broken")) (nilL))) (opL gLst (nilL))))) (seqM (asgM (nameT 1) (op2 gAdd (varM 1) (iteM (op1 (gIsX (tblC root names "TooMany")) (varM 0)) (opL gLst (consL (conM (.str "TooMany")) (nilL))) (opL gLst (nilL))))) (seqM (asgM (nameT 1) (op2 gAdd (varM 1) (iteM (op1 (gIsX (tblC root names "NothingToUndo")) (varM 0)) (opL gLst (consL (conM (.str "NothingToUndo")) (nilL))) (opL gLst (nilL))))) (retM (varM 1)))))))))))))))))))
def f__law_words : FM := fnM [] 2 b__law_words
def b__law_kept : SM :=
  seqM (ifM (op2 gEq (varM 0) (conM (.str "InvalidValue"))) (retM (iteM (varM 2) (mkXM "InvalidValue" "given" (varM 1)) (mkXM "InvalidValue" "given" (varM 1)))) (nextM)) (seqM (ifM (op2 gEq (varM 0) (conM (.str "InvalidPoly"))) (retM (iteM (varM 2) (mkXM "InvalidPoly" "given" (varM 1)) (mkXM "InvalidPoly" "given" (varM 1)))) (nextM)) (seqM (ifM (op2 gEq (varM 0) (conM (.str "InvalidChain"))) (retM (iteM (varM 2) (mkXM "InvalidChain" "given" (varM 1)) (mkXM "InvalidChain" "given" (varM 1)))) (nextM)) (seqM (ifM (op2 gEq (varM 0) (conM (.str "InvalidFraction"))) (retM (iteM (varM 2) (mkXM "InvalidFraction" "given" (varM 1)) (mkXM "InvalidFraction" "given" (varM 1)))) (nextM)) (seqM (ifM (op2 gEq (varM 0) (conM (.str "InvalidNumber"))) (retM (iteM (varM 2) (mkXM "InvalidNumber" "given" (varM 1)) (mkXM "InvalidNumber" "given" (varM 1)))) (nextM)) (seqM (ifM (op2 gEq (varM 0) (conM (.str "InvalidLine"))) (retM (iteM (varM 2) (mkXM "InvalidLine" "given" (varM 1)) (mkXM "InvalidLine" "given" (varM 1)))) (nextM)) (seqM (ifM (op2 gEq (varM 0) (conM (.str "NotADesk"))) (retM (iteM (varM 2) (mkXM "NotADesk" "given" (varM 1)) (mkXM "NotADesk" "given" (varM 1)))) (nextM)) (retM (iteM (varM 2) (mkXM "NotNow" "given" (varM 1)) (mkXM "NotNow" "given" (varM 1))))))))))
def f__law_kept : FM := fnM [] 3 b__law_kept
def b__law_placed : SM :=
  seqM (ifM (op2 gEq (varM 0) (conM (.str "InvalidText"))) (retM (iteM (varM 2) (mkXM "InvalidText" "index" (varM 1)) (mkXM "InvalidText" "index" (varM 1)))) (nextM)) (seqM (ifM (op2 gEq (varM 0) (conM (.str "InvalidPlan"))) (retM (iteM (varM 2) (mkXM "InvalidPlan" "index" (varM 1)) (mkXM "InvalidPlan" "index" (varM 1)))) (nextM)) (seqM (ifM (op2 gEq (varM 0) (conM (.str "Misfit"))) (retM (iteM (varM 2) (mkXM "Misfit" "index" (varM 1)) (mkXM "Misfit" "index" (varM 1)))) (nextM)) (seqM (ifM (op2 gEq (varM 0) (conM (.str "InvalidCode"))) (retM (iteM (varM 2) (mkXM "InvalidCode" "index" (varM 1)) (mkXM "InvalidCode" "index" (varM 1)))) (nextM)) (seqM (ifM (op2 gEq (varM 0) (conM (.str "InvalidTower"))) (retM (iteM (varM 2) (mkXM "InvalidTower" "index" (varM 1)) (mkXM "InvalidTower" "index" (varM 1)))) (nextM)) (seqM (ifM (op2 gEq (varM 0) (conM (.str "InvalidBook"))) (retM (iteM (varM 2) (mkXM "InvalidBook" "index" (varM 1)) (mkXM "InvalidBook" "index" (varM 1)))) (nextM)) (retM (iteM (varM 2) (mkXM "Broken" "index" (varM 1)) (mkXM "Broken" "index" (varM 1)))))))))
def f__law_placed : FM := fnM [] 3 b__law_placed
def b__law_stands : SM :=
  retM (andM (op1 (gIsX (tblC root names "PlanError")) (varM 0)) (andM (op1 (gIsX (tblV root names)) (varM 0)) (op2 gEq (callD 1 f__law_words (consL (varM 0) (nilL))) (opL gLst (consL (varM 1) (nilL))))))
def f__law_stands : FM := fnM [] 2 b__law_stands
def b__law_caught : SM :=
  tryB 2 catK (seqM (ifM (op2 gEq (varM 0) (conM (.str "Misfit"))) (raiseM "Misfit" "index" (varM 1)) (nextM)) (raiseM "InvalidValue" "given" (varM 1))) (retM (andM (callD 2 f__law_stands (consL (varM 2) (consL (varM 0) (nilL)))) (op2 gEq (opL gReprE (consL (iteM (op2 gEq (varM 0) (conM (.str "Misfit"))) (op1 (gFld k_index "index") (varM 2)) (op1 (gFld k_given "given") (varM 2))) (nilL))) (opL gReprE (consL (varM 1) (nilL))))))
def f__law_caught : FM := fnM [] 3 b__law_caught
def b__law_right : SM :=
  seqM (asgM (nameT 1) (opL gLst (consL (conM .none) (consL (conM (.int 0)) (consL (conM (.bool true)) (consL (op1 gNeg (conM (.int 1))) (consL (conM (.str "")) (consL (conM (.str "a = 1")) (consL (opL gTup (nilL)) (consL (opL gTup (consL (conM (.int 1)) (consL (conM (.int 2)) (nilL)))) (consL (opL gTup (consL (conM (.int 0)) (consL (opL gTup (consL (conM (.int 1)) (consL (conM (.int 1)) (nilL)))) (nilL)))) (consL (opL gLst (consL (conM (.int 1)) (consL (opL gLst (consL (conM (.int 2)) (nilL))) (nilL)))) (consL (emptyD) (consL (op2 gPow (conM (.int 10)) (conM (.int 29))) (consL (callO 2 f__law_draw 0 (consL (conM (.int 1000)) (nilL))) (consL (opL gTup (consL (conM (.str "number")) (consL (conM (.str "a")) (consL (opL gTup (consL (conM (.str "numeral")) (consL (conM (.int 1)) (nilL)))) (nilL))))) (consL (opL gTup (consL (opL gTup (consL (opL gTup (nilL)) (nilL))) (nilL))) (nilL)))))))))))))))))) (seqM (forM (rng1I (consL (conM (.int 4)) (nilL))) (nameT 2) (seqM (parM 3 4 (consL (callO 2 f__law_pick 0 (consL (varM 1) (nilL))) (consL (op2 gGt (varM 2) (conM (.int 1))) (nilL)))) (seqM (forM (seqI (opL gLst (consL (conM (.str "InvalidValue")) (consL (conM (.str "InvalidPoly")) (consL (conM (.str "InvalidChain")) (consL (conM (.str "InvalidFraction")) (consL (conM (.str "InvalidNumber")) (consL (conM (.str "InvalidLine")) (consL (conM (.str "NotADesk")) (consL (conM (.str "NotNow")) (nilL))))))))))) (nameT 5) (seqM (asgM (nameT 6) (callD 3 f__law_kept (consL (varM 5) (consL (varM 3) (consL (varM 4) (nilL)))))) (ifM (orM (notM (callD 2 f__law_stands (consL (varM 6) (consL (varM 5) (nilL))))) (op2 gNe (opL gReprE (consL (op1 (gFld k_given "given") (varM 6)) (nilL))) (opL gReprE (consL (varM 3) (nilL))))) (retM (conM (.bool false))) (nextM)))) (seqM (forM (seqI (opL gLst (consL (conM (.str "InvalidText")) (consL (conM (.str "InvalidPlan")) (consL (conM (.str "Misfit")) (consL (conM (.str "InvalidCode")) (consL (conM (.str "InvalidTower")) (consL (conM (.str "InvalidBook")) (consL (conM (.str "Broken")) (nilL)))))))))) (nameT 5) (seqM (asgM (nameT 6) (callD 3 f__law_placed (consL (varM 5) (consL (varM 3) (consL (varM 4) (nilL)))))) (ifM (orM (notM (callD 2 f__law_stands (consL (varM 6) (consL (varM 5) (nilL))))) (op2 gNe (opL gReprE (consL (op1 (gFld k_index "index") (varM 6)) (nilL))) (opL gReprE (consL (varM 3) (nilL))))) (retM (conM (.bool false))) (nextM)))) (ifM (orM (notM (callD 2 f__law_caught (consL (conM (.str "Misfit")) (consL (varM 3) (nilL))))) (notM (callD 2 f__law_caught (consL (conM (.str "InvalidValue")) (consL (varM 3) (nilL)))))) (retM (conM (.bool false))) (nextM)))))) (seqM (asgM (nameT 7) (mk0M "PlanError")) (seqM (ifM (orM (notM (callD 2 f__law_stands (consL (mk0M "TooMany") (consL (conM (.str "TooMany")) (nilL))))) (notM (callD 2 f__law_stands (consL (mk0M "NothingToUndo") (consL (conM (.str "NothingToUndo")) (nilL)))))) (retM (conM (.bool false))) (nextM)) (retM (andM (op1 (gIsX (tblV root names)) (varM 7)) (op2 gEq (callD 1 f__law_words (consL (varM 7) (nilL))) (opL gLst (nilL))))))))
def f__law_right : FM := fnM [0] 8 b__law_right
def b_law : SM :=
  seqM (forM (rng1I (consL (opL gMax (consL (conM (.int 2)) (consL (opL gMin (consL (opL gLen (consL (varM 0) (nilL))) (consL (conM (.int 3)) (nilL)))) (nilL)))) (nilL))) (nameT 1) (ifM (notM (callL f__law_right (callD 2 f__law_pool (consL (varM 0) (consL (varM 1) (nilL)))))) (retM (conM (.bool false))) (nextM))) (retM (conM (.bool true)))
def f_law : FM := fnM [] 2 b_law
end K00
end DL
set_option Elab.async false
set_option linter.all false
set_option maxRecDepth 100000
set_option maxHeartbeats 2000000
set_option autoImplicit false
/-! K00W: the defs against their mirrors (printed by gen.py). -/
namespace DL
namespace K00
open PySem PySem.Spec PyProof.Rows L2
abbrev s__law_pool : Stmt := PySem.Challenge.pw_rootplans_k00_errors_each_of_its_own.main.body.getD 20 (.Pass ⟨0, 0, 0, 0⟩)
abbrev s__law_draw : Stmt := PySem.Challenge.pw_rootplans_k00_errors_each_of_its_own.main.body.getD 21 (.Pass ⟨0, 0, 0, 0⟩)
abbrev s__law_pick : Stmt := PySem.Challenge.pw_rootplans_k00_errors_each_of_its_own.main.body.getD 22 (.Pass ⟨0, 0, 0, 0⟩)
abbrev s__law_words : Stmt := PySem.Challenge.pw_rootplans_k00_errors_each_of_its_own.main.body.getD 23 (.Pass ⟨0, 0, 0, 0⟩)
abbrev s__law_kept : Stmt := PySem.Challenge.pw_rootplans_k00_errors_each_of_its_own.main.body.getD 24 (.Pass ⟨0, 0, 0, 0⟩)
abbrev s__law_placed : Stmt := PySem.Challenge.pw_rootplans_k00_errors_each_of_its_own.main.body.getD 25 (.Pass ⟨0, 0, 0, 0⟩)
abbrev s__law_stands : Stmt := PySem.Challenge.pw_rootplans_k00_errors_each_of_its_own.main.body.getD 26 (.Pass ⟨0, 0, 0, 0⟩)
abbrev s__law_caught : Stmt := PySem.Challenge.pw_rootplans_k00_errors_each_of_its_own.main.body.getD 27 (.Pass ⟨0, 0, 0, 0⟩)
abbrev s__law_right : Stmt := PySem.Challenge.pw_rootplans_k00_errors_each_of_its_own.main.body.getD 28 (.Pass ⟨0, 0, 0, 0⟩)
abbrev s_law : Stmt := PySem.Challenge.pw_rootplans_k00_errors_each_of_its_own.main.body.getD 29 (.Pass ⟨0, 0, 0, 0⟩)
structure Txt (K : PySem.W.Frag) (mg : Str → Option Value) : Prop where
  d__law_pool : DefAt K mg "_law_pool" s__law_pool ["script", "turn"]
  d__law_draw : DefAt K mg "_law_draw" s__law_draw ["pool", "many"]
  d__law_pick : DefAt K mg "_law_pick" s__law_pick ["pool", "some"]
  d__law_words : DefAt K mg "_law_words" s__law_words ["e"]
  d__law_kept : DefAt K mg "_law_kept" s__law_kept ["word", "thing", "by_name"]
  d__law_placed : DefAt K mg "_law_placed" s__law_placed ["word", "thing", "by_name"]
  d__law_stands : DefAt K mg "_law_stands" s__law_stands ["e", "word"]
  d__law_caught : DefAt K mg "_law_caught" s__law_caught ["word", "thing"]
  d__law_right : DefAt K mg "_law_right" s__law_right ["pool"]
  d_law : DefAt K mg "law" s_law ["script"]
  n_ValueError : mg "ValueError" = none
  n_abs : mg "abs" = none
  n_divmod : mg "divmod" = none
  n_int : mg "int" = none
  n_isinstance : mg "isinstance" = none
  n_len : mg "len" = none
  n_max : mg "max" = none
  n_min : mg "min" = none
  n_range : mg "range" = none
  n_repr : mg "repr" = none
  v_Broken : XV K mg "Broken" "index"
  v_InvalidBook : XV K mg "InvalidBook" "index"
  v_InvalidChain : XV K mg "InvalidChain" "given"
  v_InvalidCode : XV K mg "InvalidCode" "index"
  v_InvalidFraction : XV K mg "InvalidFraction" "given"
  v_InvalidLine : XV K mg "InvalidLine" "given"
  v_InvalidNumber : XV K mg "InvalidNumber" "given"
  v_InvalidPlan : XV K mg "InvalidPlan" "index"
  v_InvalidPoly : XV K mg "InvalidPoly" "given"
  v_InvalidText : XV K mg "InvalidText" "index"
  v_InvalidTower : XV K mg "InvalidTower" "index"
  v_InvalidValue : XV K mg "InvalidValue" "given"
  v_Misfit : XV K mg "Misfit" "index"
  v_NotADesk : XV K mg "NotADesk" "given"
  v_NotNow : XV K mg "NotNow" "given"
  z_NothingToUndo : X0 K mg "NothingToUndo"
  z_PlanError : X0 K mg "PlanError"
  z_TooMany : X0 K mg "TooMany"
  i_Broken : IsO K mg "Broken" (tblC root names "Broken")
  i_InvalidBook : IsO K mg "InvalidBook" (tblC root names "InvalidBook")
  i_InvalidChain : IsO K mg "InvalidChain" (tblC root names "InvalidChain")
  i_InvalidCode : IsO K mg "InvalidCode" (tblC root names "InvalidCode")
  i_InvalidFraction : IsO K mg "InvalidFraction" (tblC root names "InvalidFraction")
  i_InvalidLine : IsO K mg "InvalidLine" (tblC root names "InvalidLine")
  i_InvalidNumber : IsO K mg "InvalidNumber" (tblC root names "InvalidNumber")
  i_InvalidPlan : IsO K mg "InvalidPlan" (tblC root names "InvalidPlan")
  i_InvalidPoly : IsO K mg "InvalidPoly" (tblC root names "InvalidPoly")
  i_InvalidText : IsO K mg "InvalidText" (tblC root names "InvalidText")
  i_InvalidTower : IsO K mg "InvalidTower" (tblC root names "InvalidTower")
  i_InvalidValue : IsO K mg "InvalidValue" (tblC root names "InvalidValue")
  i_Misfit : IsO K mg "Misfit" (tblC root names "Misfit")
  i_NotADesk : IsO K mg "NotADesk" (tblC root names "NotADesk")
  i_NotNow : IsO K mg "NotNow" (tblC root names "NotNow")
  i_NothingToUndo : IsO K mg "NothingToUndo" (tblC root names "NothingToUndo")
  i_PlanError : IsO K mg "PlanError" (tblC root names "PlanError")
  i_TooMany : IsO K mg "TooMany" (tblC root names "TooMany")
  f_given : FldF K k_given "given"
  f_index : FldF K k_index "index"
  i_VE : IsF K (.type "ValueError") (tblV root names)
  cat : ∃ R, mg "PlanError" = some (.ref R) ∧ CatF K mg (.ref R) catK
theorem ds_raiseX {X : Cx} {W : WX} {Pn : List Nat} {k : Nat} {x f : Str} {p p2 pos : Pos} {e : Expr} {m : EM} (T : ∃ C fI fd, ∀ P w base, XC P w X.K X.mg base x f C fI fd) (hh : Here X W k) (hk : 2 ≤ k) (h : PED X W Pn e m) (hg : Gl X x := by rfl) (hdb : (x == ("__debug__" : Str)) = false := by decide)
    (he : starEach (e :: []) X.env = (false, eval e X.env) :: starEach [] X.env := by rfl) (hpl : (backTo p2 (starEach [] X.env)).any (·.1) = false := by rfl) : PSD X W Pn (.Raise (some (.Call (.Name x p) [e] [] p2)) none pos) (raiseM x f m) := by
  obtain ⟨C, fI, fd, q⟩ := T
  exact ds_raise (q _ _ _) hh hk h hg hdb he hpl
variable {P : Program} {w : World} {K : PySem.W.Frag} {mg : Str → Option Value} {base : Heap}
theorem sc__law_pool : FnScope ["script", "turn", "own", "stirred", "cell"] ["script", "turn"] (defScope s__law_pool) := ⟨rfl, rfl, rfl, by decide +kernel, rfl, by decide +kernel, by decide +kernel⟩
theorem sc__law_draw : FnScope ["pool", "many", "figure", "held"] ["pool", "many"] (defScope s__law_draw) := ⟨rfl, rfl, rfl, by decide +kernel, rfl, by decide +kernel, by decide +kernel⟩
theorem sc__law_pick : FnScope ["pool", "some"] ["pool", "some"] (defScope s__law_pick) := ⟨rfl, rfl, rfl, by decide +kernel, rfl, by decide +kernel, by decide +kernel⟩
theorem sc__law_words : FnScope ["e", "found"] ["e"] (defScope s__law_words) := ⟨rfl, rfl, rfl, by decide +kernel, rfl, by decide +kernel, by decide +kernel⟩
theorem sc__law_kept : FnScope ["word", "thing", "by_name"] ["word", "thing", "by_name"] (defScope s__law_kept) := ⟨rfl, rfl, rfl, by decide +kernel, rfl, by decide +kernel, by decide +kernel⟩
theorem sc__law_placed : FnScope ["word", "thing", "by_name"] ["word", "thing", "by_name"] (defScope s__law_placed) := ⟨rfl, rfl, rfl, by decide +kernel, rfl, by decide +kernel, by decide +kernel⟩
theorem sc__law_stands : FnScope ["e", "word"] ["e", "word"] (defScope s__law_stands) := ⟨rfl, rfl, rfl, by decide +kernel, rfl, by decide +kernel, by decide +kernel⟩
theorem sc__law_caught : FnScope ["word", "thing", "e"] ["word", "thing"] (defScope s__law_caught) := ⟨rfl, rfl, rfl, by decide +kernel, rfl, by decide +kernel, by decide +kernel⟩
theorem sc__law_right : FnScope ["pool", "things", "turn", "thing", "by_name", "word", "e", "plain"] ["pool"] (defScope s__law_right) := ⟨rfl, rfl, rfl, by decide +kernel, rfl, by decide +kernel, by decide +kernel⟩
theorem sc_law : FnScope ["script", "turn"] ["script"] (defScope s_law) := ⟨rfl, rfl, rfl, by decide +kernel, rfl, by decide +kernel, by decide +kernel⟩
theorem at__law_pool (T : Txt K mg) : FnAt P w K mg base 1 "_law_pool" ["script", "turn"] f__law_pool :=
  fnAt_of (N := ["script", "turn", "own", "stirred", "cell"]) (pin := []) (m := b__law_pool) T.d__law_pool sc__law_pool fun f cdv A outer s H E h =>
    db_cons (ds_par 2 3 h.calm sc__law_pool.nd (da_cons (de_ifE (dt_lt (de_var 1) (de_len T.n_len (da_cons (de_var 0) (da_nil)))) (de_intC T.n_int (da_cons (de_ix (de_var 0) (de_var 1)) (da_nil))) (de_add (de_mul (de_int) (de_var 1)) (de_int))) (da_cons (de_add (de_int) (de_mul (de_int) (de_var 1))) (da_nil)))) (db_cons (ds_for h (di_seq (de_sl (de_var 0) (do_no) (do_part (de_int)))) (dg_name 4 (by decide) sc__law_pool.nd) (db_one (ds_set 3 sc__law_pool.nd (de_mod (de_intC T.n_int (da_cons (de_add (de_add (de_mul (de_var 3) (de_int)) (de_mod (de_intC T.n_int (da_cons (de_var 4) (da_nil))) (de_int))) (de_int)) (da_nil))) (de_int))))) (db_one (ds_ret (de_lstO (da_cons (de_mod (de_intC T.n_int (da_cons (de_add (de_var 3) (de_mul (de_var 2) (de_int))) (da_nil))) (de_int)) (da_cons (de_ifE (dt_or (dt_lt (de_var 2) (de_int)) (dw_or1 (dt_ge (de_var 2) (de_pow (de_int) (de_int))))) (de_abs T.n_abs (da_cons (de_var 2) (da_nil))) (de_int)) (da_cons (de_int) (da_nil))))))))
theorem at__law_draw (T : Txt K mg) : FnAt P w K mg base 1 "_law_draw" ["pool", "many"] f__law_draw :=
  fnAt_of (N := ["pool", "many", "figure", "held"]) (pin := [0]) (m := b__law_draw) T.d__law_draw sc__law_draw fun f cdv A outer s H E h =>
    db_cons (ds_if (dt_gt (de_ixO 0 (de_int) (fun _ _ => rfl) rfl (by first | exact Or.inl rfl | exact Or.inr (Or.inl rfl) | exact Or.inr (Or.inr rfl)) (by decide) (by decide)) (de_int)) (db_cons (ds_asg (de_divmod T.n_divmod (da_cons (de_ixO 0 (de_int) (fun _ _ => rfl) rfl (by first | exact Or.inl rfl | exact Or.inr (Or.inl rfl) | exact Or.inr (Or.inr rfl)) (by decide) (by decide)) (da_cons (de_var 1) (da_nil)))) (dg_tup h.calm (dg_cons (dg_sub 0) (dg_cons (dg_name 2 (by decide) sc__law_draw.nd) (dg_nil))))) (db_one (ds_ret (de_var 2)))) (db_nil)) (db_cons (ds_asg (de_add (de_ixO 0 (de_int) (fun _ _ => rfl) rfl (by first | exact Or.inl rfl | exact Or.inr (Or.inl rfl) | exact Or.inr (Or.inr rfl)) (by decide) (by decide)) (de_int)) (dg_sub 0)) (db_cons (ds_set 3 sc__law_draw.nd (de_intC T.n_int (da_cons (de_ixO 0 (de_int) (fun _ _ => rfl) rfl (by first | exact Or.inl rfl | exact Or.inr (Or.inl rfl) | exact Or.inr (Or.inr rfl)) (by decide) (by decide)) (da_nil)))) (db_cons (ds_asg (de_mod (de_intC T.n_int (da_cons (de_add (de_add (de_mul (de_var 3) (de_add (de_mod (de_var 3) (de_int)) (de_int))) (de_mul (de_int) (de_ixO 0 (de_int) (fun _ _ => rfl) rfl (by first | exact Or.inl rfl | exact Or.inr (Or.inl rfl) | exact Or.inr (Or.inr rfl)) (by decide) (by decide)))) (de_int)) (da_nil))) (de_int)) (dg_sub 0)) (db_one (ds_ret (de_mod (de_intC T.n_int (da_cons (de_div (de_ixO 0 (de_int) (fun _ _ => rfl) rfl (by first | exact Or.inl rfl | exact Or.inr (Or.inl rfl) | exact Or.inr (Or.inr rfl)) (by decide) (by decide)) (de_int)) (da_nil))) (de_var 1)))))))
theorem at__law_pick (T : Txt K mg) : FnAt P w K mg base 2 "_law_pick" ["pool", "some"] f__law_pick :=
  fnAt_of (N := ["pool", "some"]) (pin := [0]) (m := b__law_pick) T.d__law_pick sc__law_pick fun f cdv A outer s H E h =>
    db_one (ds_ret (de_ix (de_var 1) (de_callO 0 (at__law_draw (P := P) (w := w) (base := base) T) h (by omega) rfl (da_cons (de_len T.n_len (da_cons (de_var 1) (da_nil))) (da_nil)))))
theorem at__law_words (T : Txt K mg) : FnAtQ P w K mg base 1 "_law_words" ["e"] f__law_words :=
  fnAtQ_of (N := ["e", "found"]) (pin := []) (m := b__law_words) T.d__law_words sc__law_words fun f cdv A outer s H E h =>
    db_cons (ds_set 1 sc__law_words.nd (de_lst (da_nil))) (db_cons (ds_set 1 sc__law_words.nd (de_add (de_var 1) (de_ifE (dt_val (de_isOx T.i_InvalidValue T.n_isinstance (de_var 0))) (de_lst (da_cons (de_str) (da_nil))) (de_lst (da_nil))))) (db_cons (ds_set 1 sc__law_words.nd (de_add (de_var 1) (de_ifE (dt_val (de_isOx T.i_InvalidPoly T.n_isinstance (de_var 0))) (de_lst (da_cons (de_str) (da_nil))) (de_lst (da_nil))))) (db_cons (ds_set 1 sc__law_words.nd (de_add (de_var 1) (de_ifE (dt_val (de_isOx T.i_InvalidChain T.n_isinstance (de_var 0))) (de_lst (da_cons (de_str) (da_nil))) (de_lst (da_nil))))) (db_cons (ds_set 1 sc__law_words.nd (de_add (de_var 1) (de_ifE (dt_val (de_isOx T.i_InvalidFraction T.n_isinstance (de_var 0))) (de_lst (da_cons (de_str) (da_nil))) (de_lst (da_nil))))) (db_cons (ds_set 1 sc__law_words.nd (de_add (de_var 1) (de_ifE (dt_val (de_isOx T.i_InvalidNumber T.n_isinstance (de_var 0))) (de_lst (da_cons (de_str) (da_nil))) (de_lst (da_nil))))) (db_cons (ds_set 1 sc__law_words.nd (de_add (de_var 1) (de_ifE (dt_val (de_isOx T.i_InvalidLine T.n_isinstance (de_var 0))) (de_lst (da_cons (de_str) (da_nil))) (de_lst (da_nil))))) (db_cons (ds_set 1 sc__law_words.nd (de_add (de_var 1) (de_ifE (dt_val (de_isOx T.i_NotADesk T.n_isinstance (de_var 0))) (de_lst (da_cons (de_str) (da_nil))) (de_lst (da_nil))))) (db_cons (ds_set 1 sc__law_words.nd (de_add (de_var 1) (de_ifE (dt_val (de_isOx T.i_NotNow T.n_isinstance (de_var 0))) (de_lst (da_cons (de_str) (da_nil))) (de_lst (da_nil))))) (db_cons (ds_set 1 sc__law_words.nd (de_add (de_var 1) (de_ifE (dt_val (de_isOx T.i_InvalidText T.n_isinstance (de_var 0))) (de_lst (da_cons (de_str) (da_nil))) (de_lst (da_nil))))) (db_cons (ds_set 1 sc__law_words.nd (de_add (de_var 1) (de_ifE (dt_val (de_isOx T.i_InvalidPlan T.n_isinstance (de_var 0))) (de_lst (da_cons (de_str) (da_nil))) (de_lst (da_nil))))) (db_cons (ds_set 1 sc__law_words.nd (de_add (de_var 1) (de_ifE (dt_val (de_isOx T.i_Misfit T.n_isinstance (de_var 0))) (de_lst (da_cons (de_str) (da_nil))) (de_lst (da_nil))))) (db_cons (ds_set 1 sc__law_words.nd (de_add (de_var 1) (de_ifE (dt_val (de_isOx T.i_InvalidCode T.n_isinstance (de_var 0))) (de_lst (da_cons (de_str) (da_nil))) (de_lst (da_nil))))) (db_cons (ds_set 1 sc__law_words.nd (de_add (de_var 1) (de_ifE (dt_val (de_isOx T.i_InvalidTower T.n_isinstance (de_var 0))) (de_lst (da_cons (de_str) (da_nil))) (de_lst (da_nil))))) (db_cons (ds_set 1 sc__law_words.nd (de_add (de_var 1) (de_ifE (dt_val (de_isOx T.i_InvalidBook T.n_isinstance (de_var 0))) (de_lst (da_cons (de_str) (da_nil))) (de_lst (da_nil))))) (db_cons (ds_set 1 sc__law_words.nd (de_add (de_var 1) (de_ifE (dt_val (de_isOx T.i_Broken T.n_isinstance (de_var 0))) (de_lst (da_cons (de_str) (da_nil))) (de_lst (da_nil))))) (db_cons (ds_set 1 sc__law_words.nd (de_add (de_var 1) (de_ifE (dt_val (de_isOx T.i_TooMany T.n_isinstance (de_var 0))) (de_lst (da_cons (de_str) (da_nil))) (de_lst (da_nil))))) (db_cons (ds_set 1 sc__law_words.nd (de_add (de_var 1) (de_ifE (dt_val (de_isOx T.i_NothingToUndo T.n_isinstance (de_var 0))) (de_lst (da_cons (de_str) (da_nil))) (de_lst (da_nil))))) (db_one (ds_ret (de_var 1))))))))))))))))))))
theorem at__law_kept (T : Txt K mg) : FnAt P w K mg base 3 "_law_kept" ["word", "thing", "by_name"] f__law_kept :=
  fnAt_of (N := ["word", "thing", "by_name"]) (pin := []) (m := b__law_kept) T.d__law_kept sc__law_kept fun f cdv A outer s H E h =>
    db_cons (ds_if (dt_eq h (de_var 0) (de_str)) (db_one (ds_ret (de_ifE (dt_val (de_var 2)) (de_mkXK (ms := nilL) T.v_InvalidValue h (by omega) (de_var 1) rfl) (de_mkX T.v_InvalidValue h (by omega) (de_var 1))))) (db_nil)) (db_cons (ds_if (dt_eq h (de_var 0) (de_str)) (db_one (ds_ret (de_ifE (dt_val (de_var 2)) (de_mkXK (ms := nilL) T.v_InvalidPoly h (by omega) (de_var 1) rfl) (de_mkX T.v_InvalidPoly h (by omega) (de_var 1))))) (db_nil)) (db_cons (ds_if (dt_eq h (de_var 0) (de_str)) (db_one (ds_ret (de_ifE (dt_val (de_var 2)) (de_mkXK (ms := nilL) T.v_InvalidChain h (by omega) (de_var 1) rfl) (de_mkX T.v_InvalidChain h (by omega) (de_var 1))))) (db_nil)) (db_cons (ds_if (dt_eq h (de_var 0) (de_str)) (db_one (ds_ret (de_ifE (dt_val (de_var 2)) (de_mkXK (ms := nilL) T.v_InvalidFraction h (by omega) (de_var 1) rfl) (de_mkX T.v_InvalidFraction h (by omega) (de_var 1))))) (db_nil)) (db_cons (ds_if (dt_eq h (de_var 0) (de_str)) (db_one (ds_ret (de_ifE (dt_val (de_var 2)) (de_mkXK (ms := nilL) T.v_InvalidNumber h (by omega) (de_var 1) rfl) (de_mkX T.v_InvalidNumber h (by omega) (de_var 1))))) (db_nil)) (db_cons (ds_if (dt_eq h (de_var 0) (de_str)) (db_one (ds_ret (de_ifE (dt_val (de_var 2)) (de_mkXK (ms := nilL) T.v_InvalidLine h (by omega) (de_var 1) rfl) (de_mkX T.v_InvalidLine h (by omega) (de_var 1))))) (db_nil)) (db_cons (ds_if (dt_eq h (de_var 0) (de_str)) (db_one (ds_ret (de_ifE (dt_val (de_var 2)) (de_mkXK (ms := nilL) T.v_NotADesk h (by omega) (de_var 1) rfl) (de_mkX T.v_NotADesk h (by omega) (de_var 1))))) (db_nil)) (db_one (ds_ret (de_ifE (dt_val (de_var 2)) (de_mkXK (ms := nilL) T.v_NotNow h (by omega) (de_var 1) rfl) (de_mkX T.v_NotNow h (by omega) (de_var 1)))))))))))
theorem at__law_placed (T : Txt K mg) : FnAt P w K mg base 3 "_law_placed" ["word", "thing", "by_name"] f__law_placed :=
  fnAt_of (N := ["word", "thing", "by_name"]) (pin := []) (m := b__law_placed) T.d__law_placed sc__law_placed fun f cdv A outer s H E h =>
    db_cons (ds_if (dt_eq h (de_var 0) (de_str)) (db_one (ds_ret (de_ifE (dt_val (de_var 2)) (de_mkXK (ms := nilL) T.v_InvalidText h (by omega) (de_var 1) rfl) (de_mkX T.v_InvalidText h (by omega) (de_var 1))))) (db_nil)) (db_cons (ds_if (dt_eq h (de_var 0) (de_str)) (db_one (ds_ret (de_ifE (dt_val (de_var 2)) (de_mkXK (ms := nilL) T.v_InvalidPlan h (by omega) (de_var 1) rfl) (de_mkX T.v_InvalidPlan h (by omega) (de_var 1))))) (db_nil)) (db_cons (ds_if (dt_eq h (de_var 0) (de_str)) (db_one (ds_ret (de_ifE (dt_val (de_var 2)) (de_mkXK (ms := nilL) T.v_Misfit h (by omega) (de_var 1) rfl) (de_mkX T.v_Misfit h (by omega) (de_var 1))))) (db_nil)) (db_cons (ds_if (dt_eq h (de_var 0) (de_str)) (db_one (ds_ret (de_ifE (dt_val (de_var 2)) (de_mkXK (ms := nilL) T.v_InvalidCode h (by omega) (de_var 1) rfl) (de_mkX T.v_InvalidCode h (by omega) (de_var 1))))) (db_nil)) (db_cons (ds_if (dt_eq h (de_var 0) (de_str)) (db_one (ds_ret (de_ifE (dt_val (de_var 2)) (de_mkXK (ms := nilL) T.v_InvalidTower h (by omega) (de_var 1) rfl) (de_mkX T.v_InvalidTower h (by omega) (de_var 1))))) (db_nil)) (db_cons (ds_if (dt_eq h (de_var 0) (de_str)) (db_one (ds_ret (de_ifE (dt_val (de_var 2)) (de_mkXK (ms := nilL) T.v_InvalidBook h (by omega) (de_var 1) rfl) (de_mkX T.v_InvalidBook h (by omega) (de_var 1))))) (db_nil)) (db_one (ds_ret (de_ifE (dt_val (de_var 2)) (de_mkXK (ms := nilL) T.v_Broken h (by omega) (de_var 1) rfl) (de_mkX T.v_Broken h (by omega) (de_var 1))))))))))
theorem at__law_stands (T : Txt K mg) : FnAtQ P w K mg base 2 "_law_stands" ["e", "word"] f__law_stands :=
  fnAtQ_of (N := ["e", "word"]) (pin := []) (m := b__law_stands) T.d__law_stands sc__law_stands fun f cdv A outer s H E h =>
    db_one (ds_ret (de_and (de_isOx T.i_PlanError T.n_isinstance (de_var 0)) (de_and (de_isB (T := "ValueError") (Tn := "ValueError") T.i_VE T.n_ValueError rfl T.n_isinstance (de_var 0)) (de_one (de_eqQ h (de_callQ (at__law_words (P := P) (w := w) (base := base) T) h (by omega) rfl (da_cons (de_var 0) (da_nil))) (de_lst (da_cons (de_var 1) (da_nil))))))))
theorem at__law_caught (T : Txt K mg) : FnAt P w K mg base 3 "_law_caught" ["word", "thing"] f__law_caught :=
  fnAt_of (N := ["word", "thing", "e"]) (pin := []) (m := b__law_caught) T.d__law_caught sc__law_caught fun f cdv A outer s H E h =>
    db_one (by refine ds_tryBx 2 T.cat h rfl rfl rfl sc__law_caught.nd rfl rfl ?hb ?hsu ?hP; (case hb => exact fun W' pn xe h' => db_cons (ds_if (dt_eq h' (de_var 0) (de_str)) (db_one (ds_raiseV T.v_Misfit h' (by omega) (de_var 1))) (db_nil)) (db_one (ds_raiseV T.v_InvalidValue h' (by omega) (de_var 1)))); (case hsu => exact fun a pn hq => db_one (ds_ret (de_and (de_callQ (at__law_stands (P := P) (w := w) (base := base) T) hq (by omega) rfl (da_cons (de_var 2) (da_cons (de_var 0) (da_nil)))) (de_one (de_eqQ hq (de_reprE hq T.n_repr (da_cons (de_ifE (dt_eqQ hq (de_var 0) (de_str)) (de_fld T.f_index (de_var 2)) (de_fld T.f_given (de_var 2))) (da_nil))) (de_reprE hq T.n_repr (da_cons (de_var 1) (da_nil)))))))); (case hP => decide))
theorem at__law_right (T : Txt K mg) : FnAt P w K mg base 4 "_law_right" ["pool"] f__law_right :=
  fnAt_of (N := ["pool", "things", "turn", "thing", "by_name", "word", "e", "plain"]) (pin := [0]) (m := b__law_right) T.d__law_right sc__law_right fun f cdv A outer s H E h =>
    db_cons (ds_set 1 sc__law_right.nd (de_lst (da_cons (de_none) (da_cons (de_int) (da_cons (de_bool) (da_cons (de_neg (de_int)) (da_cons (de_str) (da_cons (de_str) (da_cons (de_tup (da_nil)) (da_cons (de_tup (da_cons (de_int) (da_cons (de_int) (da_nil)))) (da_cons (de_tup (da_cons (de_int) (da_cons (de_tup (da_cons (de_int) (da_cons (de_int) (da_nil)))) (da_nil)))) (da_cons (de_lst (da_cons (de_int) (da_cons (de_lst (da_cons (de_int) (da_nil))) (da_nil)))) (da_cons (de_dnew) (da_cons (de_pow (de_int) (de_int)) (da_cons (de_callO 0 (at__law_draw (P := P) (w := w) (base := base) T) h (by omega) rfl (da_cons (de_int) (da_nil))) (da_cons (de_tup (da_cons (de_str) (da_cons (de_str) (da_cons (de_tup (da_cons (de_str) (da_cons (de_int) (da_nil)))) (da_nil))))) (da_cons (de_tup (da_cons (de_tup (da_cons (de_tup (da_nil)) (da_nil))) (da_nil))) (da_nil)))))))))))))))))) (db_cons (ds_for h (di_rng1 T.n_range (da_cons (de_int) (da_nil))) (dg_name 2 (by decide) sc__law_right.nd) (db_cons (ds_par 3 4 h.calm sc__law_right.nd (da_cons (de_callO 0 (at__law_pick (P := P) (w := w) (base := base) T) h (by omega) rfl (da_cons (de_var 1) (da_nil))) (da_cons (de_gt (de_var 2) (de_int)) (da_nil)))) (db_cons (ds_for h (di_seq (de_lst (da_cons (de_str) (da_cons (de_str) (da_cons (de_str) (da_cons (de_str) (da_cons (de_str) (da_cons (de_str) (da_cons (de_str) (da_cons (de_str) (da_nil))))))))))) (dg_name 5 (by decide) sc__law_right.nd) (db_cons (ds_set 6 sc__law_right.nd (de_callD (at__law_kept (P := P) (w := w) (base := base) T) h (by omega) rfl (da_cons (de_var 5) (da_cons (de_var 3) (da_cons (de_var 4) (da_nil)))))) (db_one (ds_if (dt_or (dt_not (dt_val (de_callD (at__law_stands (P := P) (w := w) (base := base) T).at h (by omega) rfl (da_cons (de_var 6) (da_cons (de_var 5) (da_nil)))))) (dw_or1 (dt_ne h (de_reprE h.q T.n_repr (da_cons (de_fld T.f_given (de_var 6)) (da_nil))) (de_reprE h.q T.n_repr (da_cons (de_var 3) (da_nil)))))) (db_one (ds_ret (de_bool))) (db_nil))))) (db_cons (ds_for h (di_seq (de_lst (da_cons (de_str) (da_cons (de_str) (da_cons (de_str) (da_cons (de_str) (da_cons (de_str) (da_cons (de_str) (da_cons (de_str) (da_nil)))))))))) (dg_name 5 (by decide) sc__law_right.nd) (db_cons (ds_set 6 sc__law_right.nd (de_callD (at__law_placed (P := P) (w := w) (base := base) T) h (by omega) rfl (da_cons (de_var 5) (da_cons (de_var 3) (da_cons (de_var 4) (da_nil)))))) (db_one (ds_if (dt_or (dt_not (dt_val (de_callD (at__law_stands (P := P) (w := w) (base := base) T).at h (by omega) rfl (da_cons (de_var 6) (da_cons (de_var 5) (da_nil)))))) (dw_or1 (dt_ne h (de_reprE h.q T.n_repr (da_cons (de_fld T.f_index (de_var 6)) (da_nil))) (de_reprE h.q T.n_repr (da_cons (de_var 3) (da_nil)))))) (db_one (ds_ret (de_bool))) (db_nil))))) (db_one (ds_if (dt_or (dt_not (dt_val (de_callD (at__law_caught (P := P) (w := w) (base := base) T) h (by omega) rfl (da_cons (de_str) (da_cons (de_var 3) (da_nil)))))) (dw_or1 (dt_not (dt_val (de_callD (at__law_caught (P := P) (w := w) (base := base) T) h (by omega) rfl (da_cons (de_str) (da_cons (de_var 3) (da_nil)))))))) (db_one (ds_ret (de_bool))) (db_nil))))))) (db_cons (ds_set 7 sc__law_right.nd (de_mk0x T.z_PlanError)) (db_cons (ds_if (dt_or (dt_not (dt_val (de_callD (at__law_stands (P := P) (w := w) (base := base) T).at h (by omega) rfl (da_cons (de_mk0x T.z_TooMany) (da_cons (de_str) (da_nil)))))) (dw_or1 (dt_not (dt_val (de_callD (at__law_stands (P := P) (w := w) (base := base) T).at h (by omega) rfl (da_cons (de_mk0x T.z_NothingToUndo) (da_cons (de_str) (da_nil)))))))) (db_one (ds_ret (de_bool))) (db_nil)) (db_one (ds_ret (de_and (de_isB (T := "ValueError") (Tn := "ValueError") T.i_VE T.n_ValueError rfl T.n_isinstance (de_var 7)) (de_one (de_eq h (de_callD (at__law_words (P := P) (w := w) (base := base) T).at h (by omega) rfl (da_cons (de_var 7) (da_nil))) (de_lst (da_nil))))))))))
theorem at_law (T : Txt K mg) : FnAt P w K mg base 5 "law" ["script"] f_law :=
  fnAt_of (N := ["script", "turn"]) (pin := []) (m := b_law) T.d_law sc_law fun f cdv A outer s H E h =>
    db_cons (ds_for h (di_rng1 T.n_range (da_cons (de_max h T.n_max (da_cons (de_int) (da_cons (de_min h T.n_min (da_cons (de_len T.n_len (da_cons (de_var 0) (da_nil))) (da_cons (de_int) (da_nil)))) (da_nil)))) (da_nil))) (dg_name 1 (by decide) sc_law.nd) (db_one (ds_if (dt_not (dt_val (de_callL (at__law_right (P := P) (w := w) (base := base) T) h (by omega) rfl (de_callD (at__law_pool (P := P) (w := w) (base := base) T) h (by omega) rfl (da_cons (de_var 0) (da_cons (de_var 1) (da_nil))))))) (db_one (ds_ret (de_bool))) (db_nil)))) (db_one (ds_ret (de_bool)))
end K00
end DL
set_option Elab.async false
set_option linter.all false
set_option maxRecDepth 100000
set_option maxHeartbeats 2000000
set_option autoImplicit false
/-! K00H: what the top has written (printed by gen.py). -/
namespace DL
namespace K00
open PySem PySem.Spec PyProof.Rows L2
abbrev i_InvalidValue : Stmt := match PySem.Challenge.pw_rootplans_k00_errors_each_of_its_own.main.body.getD 2 (.Pass ⟨0, 0, 0, 0⟩) with
  | .ClassDef _ _ _ (st :: _) _ _ _ _ _ _ _ => st
  | st => st
abbrev i_InvalidPoly : Stmt := match PySem.Challenge.pw_rootplans_k00_errors_each_of_its_own.main.body.getD 3 (.Pass ⟨0, 0, 0, 0⟩) with
  | .ClassDef _ _ _ (st :: _) _ _ _ _ _ _ _ => st
  | st => st
abbrev i_InvalidChain : Stmt := match PySem.Challenge.pw_rootplans_k00_errors_each_of_its_own.main.body.getD 4 (.Pass ⟨0, 0, 0, 0⟩) with
  | .ClassDef _ _ _ (st :: _) _ _ _ _ _ _ _ => st
  | st => st
abbrev i_InvalidFraction : Stmt := match PySem.Challenge.pw_rootplans_k00_errors_each_of_its_own.main.body.getD 5 (.Pass ⟨0, 0, 0, 0⟩) with
  | .ClassDef _ _ _ (st :: _) _ _ _ _ _ _ _ => st
  | st => st
abbrev i_InvalidNumber : Stmt := match PySem.Challenge.pw_rootplans_k00_errors_each_of_its_own.main.body.getD 6 (.Pass ⟨0, 0, 0, 0⟩) with
  | .ClassDef _ _ _ (st :: _) _ _ _ _ _ _ _ => st
  | st => st
abbrev i_InvalidLine : Stmt := match PySem.Challenge.pw_rootplans_k00_errors_each_of_its_own.main.body.getD 7 (.Pass ⟨0, 0, 0, 0⟩) with
  | .ClassDef _ _ _ (st :: _) _ _ _ _ _ _ _ => st
  | st => st
abbrev i_NotADesk : Stmt := match PySem.Challenge.pw_rootplans_k00_errors_each_of_its_own.main.body.getD 8 (.Pass ⟨0, 0, 0, 0⟩) with
  | .ClassDef _ _ _ (st :: _) _ _ _ _ _ _ _ => st
  | st => st
abbrev i_NotNow : Stmt := match PySem.Challenge.pw_rootplans_k00_errors_each_of_its_own.main.body.getD 9 (.Pass ⟨0, 0, 0, 0⟩) with
  | .ClassDef _ _ _ (st :: _) _ _ _ _ _ _ _ => st
  | st => st
abbrev i_InvalidText : Stmt := match PySem.Challenge.pw_rootplans_k00_errors_each_of_its_own.main.body.getD 10 (.Pass ⟨0, 0, 0, 0⟩) with
  | .ClassDef _ _ _ (st :: _) _ _ _ _ _ _ _ => st
  | st => st
abbrev i_InvalidPlan : Stmt := match PySem.Challenge.pw_rootplans_k00_errors_each_of_its_own.main.body.getD 11 (.Pass ⟨0, 0, 0, 0⟩) with
  | .ClassDef _ _ _ (st :: _) _ _ _ _ _ _ _ => st
  | st => st
abbrev i_Misfit : Stmt := match PySem.Challenge.pw_rootplans_k00_errors_each_of_its_own.main.body.getD 12 (.Pass ⟨0, 0, 0, 0⟩) with
  | .ClassDef _ _ _ (st :: _) _ _ _ _ _ _ _ => st
  | st => st
abbrev i_InvalidCode : Stmt := match PySem.Challenge.pw_rootplans_k00_errors_each_of_its_own.main.body.getD 13 (.Pass ⟨0, 0, 0, 0⟩) with
  | .ClassDef _ _ _ (st :: _) _ _ _ _ _ _ _ => st
  | st => st
abbrev i_InvalidTower : Stmt := match PySem.Challenge.pw_rootplans_k00_errors_each_of_its_own.main.body.getD 14 (.Pass ⟨0, 0, 0, 0⟩) with
  | .ClassDef _ _ _ (st :: _) _ _ _ _ _ _ _ => st
  | st => st
abbrev i_InvalidBook : Stmt := match PySem.Challenge.pw_rootplans_k00_errors_each_of_its_own.main.body.getD 15 (.Pass ⟨0, 0, 0, 0⟩) with
  | .ClassDef _ _ _ (st :: _) _ _ _ _ _ _ _ => st
  | st => st
abbrev i_Broken : Stmt := match PySem.Challenge.pw_rootplans_k00_errors_each_of_its_own.main.body.getD 16 (.Pass ⟨0, 0, 0, 0⟩) with
  | .ClassDef _ _ _ (st :: _) _ _ _ _ _ _ _ => st
  | st => st
theorem all_mk {K : PySem.W.Frag} {h : Heap} {mg : Str → Option Value} (X : K.In h) (G : h.Ns mainGlobals mg)
    {f0 : Addr} {od0 an0 : Option Addr} {sl0 : Array (Option Value)} {oc0 kV0 dc0 pm0 cd0 ct0 : Value}
    {f1 : Addr} {od1 an1 : Option Addr} {sl1 : Array (Option Value)} {oc1 kV1 dc1 pm1 cd1 ct1 : Value}
    {f2 : Addr} {od2 an2 : Option Addr} {sl2 : Array (Option Value)} {oc2 kV2 dc2 pm2 cd2 ct2 : Value}
    {f3 : Addr} {od3 an3 : Option Addr} {sl3 : Array (Option Value)} {oc3 kV3 dc3 pm3 cd3 ct3 : Value}
    {f4 : Addr} {od4 an4 : Option Addr} {sl4 : Array (Option Value)} {oc4 kV4 dc4 pm4 cd4 ct4 : Value}
    {f5 : Addr} {od5 an5 : Option Addr} {sl5 : Array (Option Value)} {oc5 kV5 dc5 pm5 cd5 ct5 : Value}
    {f6 : Addr} {od6 an6 : Option Addr} {sl6 : Array (Option Value)} {oc6 kV6 dc6 pm6 cd6 ct6 : Value}
    {f7 : Addr} {od7 an7 : Option Addr} {sl7 : Array (Option Value)} {oc7 kV7 dc7 pm7 cd7 ct7 : Value}
    {f8 : Addr} {od8 an8 : Option Addr} {sl8 : Array (Option Value)} {oc8 kV8 dc8 pm8 cd8 ct8 : Value}
    {f9 : Addr} {od9 an9 : Option Addr} {sl9 : Array (Option Value)} {oc9 kV9 dc9 pm9 cd9 ct9 : Value}
    {C_PlanError N_PlanError : Addr} {qn_PlanError : Str} {bs_PlanError sub_PlanError : List Value} {sn_PlanError : List Str} {ab_PlanError : Bool} {col_PlanError : Option Bool} {dd_PlanError : Option Addr} {m0_PlanError m1_PlanError m2_PlanError m3_PlanError m5_PlanError : Option Value}
    {C_InvalidValue N_InvalidValue : Addr} {qn_InvalidValue : Str} {bs_InvalidValue sub_InvalidValue : List Value} {sn_InvalidValue : List Str} {ab_InvalidValue : Bool} {col_InvalidValue : Option Bool} {dd_InvalidValue : Option Addr} {m0_InvalidValue m1_InvalidValue m2_InvalidValue m3_InvalidValue m5_InvalidValue : Option Value}
    {I_InvalidValue : Addr} {odi_InvalidValue ani_InvalidValue : Option Addr} {sli_InvalidValue : Array (Option Value)} {oci_InvalidValue kVi_InvalidValue dci_InvalidValue pmi_InvalidValue cdi_InvalidValue cti_InvalidValue : Value}
    {C_InvalidPoly N_InvalidPoly : Addr} {qn_InvalidPoly : Str} {bs_InvalidPoly sub_InvalidPoly : List Value} {sn_InvalidPoly : List Str} {ab_InvalidPoly : Bool} {col_InvalidPoly : Option Bool} {dd_InvalidPoly : Option Addr} {m0_InvalidPoly m1_InvalidPoly m2_InvalidPoly m3_InvalidPoly m5_InvalidPoly : Option Value}
    {I_InvalidPoly : Addr} {odi_InvalidPoly ani_InvalidPoly : Option Addr} {sli_InvalidPoly : Array (Option Value)} {oci_InvalidPoly kVi_InvalidPoly dci_InvalidPoly pmi_InvalidPoly cdi_InvalidPoly cti_InvalidPoly : Value}
    {C_InvalidChain N_InvalidChain : Addr} {qn_InvalidChain : Str} {bs_InvalidChain sub_InvalidChain : List Value} {sn_InvalidChain : List Str} {ab_InvalidChain : Bool} {col_InvalidChain : Option Bool} {dd_InvalidChain : Option Addr} {m0_InvalidChain m1_InvalidChain m2_InvalidChain m3_InvalidChain m5_InvalidChain : Option Value}
    {I_InvalidChain : Addr} {odi_InvalidChain ani_InvalidChain : Option Addr} {sli_InvalidChain : Array (Option Value)} {oci_InvalidChain kVi_InvalidChain dci_InvalidChain pmi_InvalidChain cdi_InvalidChain cti_InvalidChain : Value}
    {C_InvalidFraction N_InvalidFraction : Addr} {qn_InvalidFraction : Str} {bs_InvalidFraction sub_InvalidFraction : List Value} {sn_InvalidFraction : List Str} {ab_InvalidFraction : Bool} {col_InvalidFraction : Option Bool} {dd_InvalidFraction : Option Addr} {m0_InvalidFraction m1_InvalidFraction m2_InvalidFraction m3_InvalidFraction m5_InvalidFraction : Option Value}
    {I_InvalidFraction : Addr} {odi_InvalidFraction ani_InvalidFraction : Option Addr} {sli_InvalidFraction : Array (Option Value)} {oci_InvalidFraction kVi_InvalidFraction dci_InvalidFraction pmi_InvalidFraction cdi_InvalidFraction cti_InvalidFraction : Value}
    {C_InvalidNumber N_InvalidNumber : Addr} {qn_InvalidNumber : Str} {bs_InvalidNumber sub_InvalidNumber : List Value} {sn_InvalidNumber : List Str} {ab_InvalidNumber : Bool} {col_InvalidNumber : Option Bool} {dd_InvalidNumber : Option Addr} {m0_InvalidNumber m1_InvalidNumber m2_InvalidNumber m3_InvalidNumber m5_InvalidNumber : Option Value}
    {I_InvalidNumber : Addr} {odi_InvalidNumber ani_InvalidNumber : Option Addr} {sli_InvalidNumber : Array (Option Value)} {oci_InvalidNumber kVi_InvalidNumber dci_InvalidNumber pmi_InvalidNumber cdi_InvalidNumber cti_InvalidNumber : Value}
    {C_InvalidLine N_InvalidLine : Addr} {qn_InvalidLine : Str} {bs_InvalidLine sub_InvalidLine : List Value} {sn_InvalidLine : List Str} {ab_InvalidLine : Bool} {col_InvalidLine : Option Bool} {dd_InvalidLine : Option Addr} {m0_InvalidLine m1_InvalidLine m2_InvalidLine m3_InvalidLine m5_InvalidLine : Option Value}
    {I_InvalidLine : Addr} {odi_InvalidLine ani_InvalidLine : Option Addr} {sli_InvalidLine : Array (Option Value)} {oci_InvalidLine kVi_InvalidLine dci_InvalidLine pmi_InvalidLine cdi_InvalidLine cti_InvalidLine : Value}
    {C_NotADesk N_NotADesk : Addr} {qn_NotADesk : Str} {bs_NotADesk sub_NotADesk : List Value} {sn_NotADesk : List Str} {ab_NotADesk : Bool} {col_NotADesk : Option Bool} {dd_NotADesk : Option Addr} {m0_NotADesk m1_NotADesk m2_NotADesk m3_NotADesk m5_NotADesk : Option Value}
    {I_NotADesk : Addr} {odi_NotADesk ani_NotADesk : Option Addr} {sli_NotADesk : Array (Option Value)} {oci_NotADesk kVi_NotADesk dci_NotADesk pmi_NotADesk cdi_NotADesk cti_NotADesk : Value}
    {C_NotNow N_NotNow : Addr} {qn_NotNow : Str} {bs_NotNow sub_NotNow : List Value} {sn_NotNow : List Str} {ab_NotNow : Bool} {col_NotNow : Option Bool} {dd_NotNow : Option Addr} {m0_NotNow m1_NotNow m2_NotNow m3_NotNow m5_NotNow : Option Value}
    {I_NotNow : Addr} {odi_NotNow ani_NotNow : Option Addr} {sli_NotNow : Array (Option Value)} {oci_NotNow kVi_NotNow dci_NotNow pmi_NotNow cdi_NotNow cti_NotNow : Value}
    {C_InvalidText N_InvalidText : Addr} {qn_InvalidText : Str} {bs_InvalidText sub_InvalidText : List Value} {sn_InvalidText : List Str} {ab_InvalidText : Bool} {col_InvalidText : Option Bool} {dd_InvalidText : Option Addr} {m0_InvalidText m1_InvalidText m2_InvalidText m3_InvalidText m5_InvalidText : Option Value}
    {I_InvalidText : Addr} {odi_InvalidText ani_InvalidText : Option Addr} {sli_InvalidText : Array (Option Value)} {oci_InvalidText kVi_InvalidText dci_InvalidText pmi_InvalidText cdi_InvalidText cti_InvalidText : Value}
    {C_InvalidPlan N_InvalidPlan : Addr} {qn_InvalidPlan : Str} {bs_InvalidPlan sub_InvalidPlan : List Value} {sn_InvalidPlan : List Str} {ab_InvalidPlan : Bool} {col_InvalidPlan : Option Bool} {dd_InvalidPlan : Option Addr} {m0_InvalidPlan m1_InvalidPlan m2_InvalidPlan m3_InvalidPlan m5_InvalidPlan : Option Value}
    {I_InvalidPlan : Addr} {odi_InvalidPlan ani_InvalidPlan : Option Addr} {sli_InvalidPlan : Array (Option Value)} {oci_InvalidPlan kVi_InvalidPlan dci_InvalidPlan pmi_InvalidPlan cdi_InvalidPlan cti_InvalidPlan : Value}
    {C_Misfit N_Misfit : Addr} {qn_Misfit : Str} {bs_Misfit sub_Misfit : List Value} {sn_Misfit : List Str} {ab_Misfit : Bool} {col_Misfit : Option Bool} {dd_Misfit : Option Addr} {m0_Misfit m1_Misfit m2_Misfit m3_Misfit m5_Misfit : Option Value}
    {I_Misfit : Addr} {odi_Misfit ani_Misfit : Option Addr} {sli_Misfit : Array (Option Value)} {oci_Misfit kVi_Misfit dci_Misfit pmi_Misfit cdi_Misfit cti_Misfit : Value}
    {C_InvalidCode N_InvalidCode : Addr} {qn_InvalidCode : Str} {bs_InvalidCode sub_InvalidCode : List Value} {sn_InvalidCode : List Str} {ab_InvalidCode : Bool} {col_InvalidCode : Option Bool} {dd_InvalidCode : Option Addr} {m0_InvalidCode m1_InvalidCode m2_InvalidCode m3_InvalidCode m5_InvalidCode : Option Value}
    {I_InvalidCode : Addr} {odi_InvalidCode ani_InvalidCode : Option Addr} {sli_InvalidCode : Array (Option Value)} {oci_InvalidCode kVi_InvalidCode dci_InvalidCode pmi_InvalidCode cdi_InvalidCode cti_InvalidCode : Value}
    {C_InvalidTower N_InvalidTower : Addr} {qn_InvalidTower : Str} {bs_InvalidTower sub_InvalidTower : List Value} {sn_InvalidTower : List Str} {ab_InvalidTower : Bool} {col_InvalidTower : Option Bool} {dd_InvalidTower : Option Addr} {m0_InvalidTower m1_InvalidTower m2_InvalidTower m3_InvalidTower m5_InvalidTower : Option Value}
    {I_InvalidTower : Addr} {odi_InvalidTower ani_InvalidTower : Option Addr} {sli_InvalidTower : Array (Option Value)} {oci_InvalidTower kVi_InvalidTower dci_InvalidTower pmi_InvalidTower cdi_InvalidTower cti_InvalidTower : Value}
    {C_InvalidBook N_InvalidBook : Addr} {qn_InvalidBook : Str} {bs_InvalidBook sub_InvalidBook : List Value} {sn_InvalidBook : List Str} {ab_InvalidBook : Bool} {col_InvalidBook : Option Bool} {dd_InvalidBook : Option Addr} {m0_InvalidBook m1_InvalidBook m2_InvalidBook m3_InvalidBook m5_InvalidBook : Option Value}
    {I_InvalidBook : Addr} {odi_InvalidBook ani_InvalidBook : Option Addr} {sli_InvalidBook : Array (Option Value)} {oci_InvalidBook kVi_InvalidBook dci_InvalidBook pmi_InvalidBook cdi_InvalidBook cti_InvalidBook : Value}
    {C_Broken N_Broken : Addr} {qn_Broken : Str} {bs_Broken sub_Broken : List Value} {sn_Broken : List Str} {ab_Broken : Bool} {col_Broken : Option Bool} {dd_Broken : Option Addr} {m0_Broken m1_Broken m2_Broken m3_Broken m5_Broken : Option Value}
    {I_Broken : Addr} {odi_Broken ani_Broken : Option Addr} {sli_Broken : Array (Option Value)} {oci_Broken kVi_Broken dci_Broken pmi_Broken cdi_Broken cti_Broken : Value}
    {C_TooMany N_TooMany : Addr} {qn_TooMany : Str} {bs_TooMany sub_TooMany : List Value} {sn_TooMany : List Str} {ab_TooMany : Bool} {col_TooMany : Option Bool} {dd_TooMany : Option Addr} {m0_TooMany m1_TooMany m2_TooMany m3_TooMany m5_TooMany : Option Value}
    {C_NothingToUndo N_NothingToUndo : Addr} {qn_NothingToUndo : Str} {bs_NothingToUndo sub_NothingToUndo : List Value} {sn_NothingToUndo : List Str} {ab_NothingToUndo : Bool} {col_NothingToUndo : Option Bool} {dd_NothingToUndo : Option Addr} {m0_NothingToUndo m1_NothingToUndo m2_NothingToUndo m3_NothingToUndo m5_NothingToUndo : Option Value}
    (a0 : PySem.W.nsIn K mainGlobals "_law_pool" = some (some (.ref f0)))
    (l0 : K.lookup f0 = some ⟨oc0, od0, .func (PySem.W.fnOf "_law_pool" "_law_pool" (defArgs s__law_pool) (defBody s__law_pool) (defScope s__law_pool) .none kV0 dc0 pm0 an0 cd0 ct0), sl0⟩)
    (c0 : PySem.W.codeIn K cd0 "_law_pool" = true)
    (k0 : PySem.W.keepIn K (.ref f0) = true)
    (a1 : PySem.W.nsIn K mainGlobals "_law_draw" = some (some (.ref f1)))
    (l1 : K.lookup f1 = some ⟨oc1, od1, .func (PySem.W.fnOf "_law_draw" "_law_draw" (defArgs s__law_draw) (defBody s__law_draw) (defScope s__law_draw) .none kV1 dc1 pm1 an1 cd1 ct1), sl1⟩)
    (c1 : PySem.W.codeIn K cd1 "_law_draw" = true)
    (k1 : PySem.W.keepIn K (.ref f1) = true)
    (a2 : PySem.W.nsIn K mainGlobals "_law_pick" = some (some (.ref f2)))
    (l2 : K.lookup f2 = some ⟨oc2, od2, .func (PySem.W.fnOf "_law_pick" "_law_pick" (defArgs s__law_pick) (defBody s__law_pick) (defScope s__law_pick) .none kV2 dc2 pm2 an2 cd2 ct2), sl2⟩)
    (c2 : PySem.W.codeIn K cd2 "_law_pick" = true)
    (k2 : PySem.W.keepIn K (.ref f2) = true)
    (a3 : PySem.W.nsIn K mainGlobals "_law_words" = some (some (.ref f3)))
    (l3 : K.lookup f3 = some ⟨oc3, od3, .func (PySem.W.fnOf "_law_words" "_law_words" (defArgs s__law_words) (defBody s__law_words) (defScope s__law_words) .none kV3 dc3 pm3 an3 cd3 ct3), sl3⟩)
    (c3 : PySem.W.codeIn K cd3 "_law_words" = true)
    (k3 : PySem.W.keepIn K (.ref f3) = true)
    (a4 : PySem.W.nsIn K mainGlobals "_law_kept" = some (some (.ref f4)))
    (l4 : K.lookup f4 = some ⟨oc4, od4, .func (PySem.W.fnOf "_law_kept" "_law_kept" (defArgs s__law_kept) (defBody s__law_kept) (defScope s__law_kept) .none kV4 dc4 pm4 an4 cd4 ct4), sl4⟩)
    (c4 : PySem.W.codeIn K cd4 "_law_kept" = true)
    (k4 : PySem.W.keepIn K (.ref f4) = true)
    (a5 : PySem.W.nsIn K mainGlobals "_law_placed" = some (some (.ref f5)))
    (l5 : K.lookup f5 = some ⟨oc5, od5, .func (PySem.W.fnOf "_law_placed" "_law_placed" (defArgs s__law_placed) (defBody s__law_placed) (defScope s__law_placed) .none kV5 dc5 pm5 an5 cd5 ct5), sl5⟩)
    (c5 : PySem.W.codeIn K cd5 "_law_placed" = true)
    (k5 : PySem.W.keepIn K (.ref f5) = true)
    (a6 : PySem.W.nsIn K mainGlobals "_law_stands" = some (some (.ref f6)))
    (l6 : K.lookup f6 = some ⟨oc6, od6, .func (PySem.W.fnOf "_law_stands" "_law_stands" (defArgs s__law_stands) (defBody s__law_stands) (defScope s__law_stands) .none kV6 dc6 pm6 an6 cd6 ct6), sl6⟩)
    (c6 : PySem.W.codeIn K cd6 "_law_stands" = true)
    (k6 : PySem.W.keepIn K (.ref f6) = true)
    (a7 : PySem.W.nsIn K mainGlobals "_law_caught" = some (some (.ref f7)))
    (l7 : K.lookup f7 = some ⟨oc7, od7, .func (PySem.W.fnOf "_law_caught" "_law_caught" (defArgs s__law_caught) (defBody s__law_caught) (defScope s__law_caught) .none kV7 dc7 pm7 an7 cd7 ct7), sl7⟩)
    (c7 : PySem.W.codeIn K cd7 "_law_caught" = true)
    (k7 : PySem.W.keepIn K (.ref f7) = true)
    (a8 : PySem.W.nsIn K mainGlobals "_law_right" = some (some (.ref f8)))
    (l8 : K.lookup f8 = some ⟨oc8, od8, .func (PySem.W.fnOf "_law_right" "_law_right" (defArgs s__law_right) (defBody s__law_right) (defScope s__law_right) .none kV8 dc8 pm8 an8 cd8 ct8), sl8⟩)
    (c8 : PySem.W.codeIn K cd8 "_law_right" = true)
    (k8 : PySem.W.keepIn K (.ref f8) = true)
    (a9 : PySem.W.nsIn K mainGlobals "law" = some (some (.ref f9)))
    (l9 : K.lookup f9 = some ⟨oc9, od9, .func (PySem.W.fnOf "law" "law" (defArgs s_law) (defBody s_law) (defScope s_law) .none kV9 dc9 pm9 an9 cd9 ct9), sl9⟩)
    (c9 : PySem.W.codeIn K cd9 "law" = true)
    (k9 : PySem.W.keepIn K (.ref f9) = true)
    (z_ValueError : PySem.W.nsIn K mainGlobals "ValueError" = some none)
    (z_abs : PySem.W.nsIn K mainGlobals "abs" = some none)
    (z_divmod : PySem.W.nsIn K mainGlobals "divmod" = some none)
    (z_int : PySem.W.nsIn K mainGlobals "int" = some none)
    (z_isinstance : PySem.W.nsIn K mainGlobals "isinstance" = some none)
    (z_len : PySem.W.nsIn K mainGlobals "len" = some none)
    (z_max : PySem.W.nsIn K mainGlobals "max" = some none)
    (z_min : PySem.W.nsIn K mainGlobals "min" = some none)
    (z_range : PySem.W.nsIn K mainGlobals "range" = some none)
    (z_repr : PySem.W.nsIn K mainGlobals "repr" = some none)
    (aC_PlanError : PySem.W.nsIn K mainGlobals "PlanError" = some (some (.ref C_PlanError)))
    (xL_PlanError : K.lookup C_PlanError = some (excClassObj "PlanError" qn_PlanError C_PlanError N_PlanError bs_PlanError [.type "ValueError", .type "Exception", .type "BaseException", .type "object"] true sn_PlanError sub_PlanError ab_PlanError col_PlanError dd_PlanError m0_PlanError m1_PlanError m2_PlanError m3_PlanError m5_PlanError "ValueError.__new__"))
    (ga_PlanError : PySem.W.findIn K (.ref C_PlanError) "__getattribute__" = some (some (.builtin "BaseException.__getattribute__")))
    (gg_PlanError : PySem.W.findIn K (.ref C_PlanError) "__getattr__" = some none)
    (eC_PlanError : PySem.W.subIn K (.ref C_PlanError) (.type "BaseException") = some true)
    (hC_PlanError : PySem.W.hasDictIn K C_PlanError = true)
    (cc_PlanError : PySem.W.findIn K (.ref C_PlanError) "__class__" = some (some (.builtin "object.__class__")))
    (mo_PlanError : PySem.W.mroIn K C_PlanError (.type "object") = some true)
    (kC_PlanError : PySem.W.keepIn K (.ref C_PlanError) = true)
    (q_PlanError : PySem.W.excIn K C_PlanError veM "ValueError.__new__" = true)
    (aC_InvalidValue : PySem.W.nsIn K mainGlobals "InvalidValue" = some (some (.ref C_InvalidValue)))
    (xL_InvalidValue : K.lookup C_InvalidValue = some (excClassObj "InvalidValue" qn_InvalidValue C_InvalidValue N_InvalidValue bs_InvalidValue [.ref C_PlanError, .type "ValueError", .type "Exception", .type "BaseException", .type "object"] true sn_InvalidValue sub_InvalidValue ab_InvalidValue col_InvalidValue dd_InvalidValue m0_InvalidValue m1_InvalidValue m2_InvalidValue m3_InvalidValue m5_InvalidValue "ValueError.__new__"))
    (ga_InvalidValue : PySem.W.findIn K (.ref C_InvalidValue) "__getattribute__" = some (some (.builtin "BaseException.__getattribute__")))
    (gg_InvalidValue : PySem.W.findIn K (.ref C_InvalidValue) "__getattr__" = some none)
    (eC_InvalidValue : PySem.W.subIn K (.ref C_InvalidValue) (.type "BaseException") = some true)
    (hC_InvalidValue : PySem.W.hasDictIn K C_InvalidValue = true)
    (cc_InvalidValue : PySem.W.findIn K (.ref C_InvalidValue) "__class__" = some (some (.builtin "object.__class__")))
    (mo_InvalidValue : PySem.W.mroIn K C_InvalidValue (.type "object") = some true)
    (kC_InvalidValue : PySem.W.keepIn K (.ref C_InvalidValue) = true)
    (sa_InvalidValue : PySem.W.findIn K (.ref C_InvalidValue) "__setattr__" = some (some (.builtin "object.__setattr__")))
    (tC_InvalidValue : PySem.W.typeIn K (.ref C_InvalidValue) = some (.type "type"))
    (nf_InvalidValue : PySem.W.findIn K (.ref C_InvalidValue) "given" = some none)
    (ii_InvalidValue : PySem.W.findIn K (.ref C_InvalidValue) "__init__" = some (some (.ref I_InvalidValue)))
    (ti_InvalidValue : PySem.W.typeIn K (.ref I_InvalidValue) = some (.type "function"))
    (li_InvalidValue : K.lookup I_InvalidValue = some ⟨oci_InvalidValue, odi_InvalidValue, .func (PySem.W.fnOf "__init__" "InvalidValue.__init__" (defArgs i_InvalidValue) (defBody i_InvalidValue) (defScope i_InvalidValue) .none kVi_InvalidValue dci_InvalidValue pmi_InvalidValue ani_InvalidValue cdi_InvalidValue cti_InvalidValue), sli_InvalidValue⟩)
    (ci_InvalidValue : PySem.W.codeIn K cdi_InvalidValue "InvalidValue.__init__" = true)
    (ki_InvalidValue : PySem.W.keepIn K (.ref I_InvalidValue) = true)
    (aC_InvalidPoly : PySem.W.nsIn K mainGlobals "InvalidPoly" = some (some (.ref C_InvalidPoly)))
    (xL_InvalidPoly : K.lookup C_InvalidPoly = some (excClassObj "InvalidPoly" qn_InvalidPoly C_InvalidPoly N_InvalidPoly bs_InvalidPoly [.ref C_PlanError, .type "ValueError", .type "Exception", .type "BaseException", .type "object"] true sn_InvalidPoly sub_InvalidPoly ab_InvalidPoly col_InvalidPoly dd_InvalidPoly m0_InvalidPoly m1_InvalidPoly m2_InvalidPoly m3_InvalidPoly m5_InvalidPoly "ValueError.__new__"))
    (ga_InvalidPoly : PySem.W.findIn K (.ref C_InvalidPoly) "__getattribute__" = some (some (.builtin "BaseException.__getattribute__")))
    (gg_InvalidPoly : PySem.W.findIn K (.ref C_InvalidPoly) "__getattr__" = some none)
    (eC_InvalidPoly : PySem.W.subIn K (.ref C_InvalidPoly) (.type "BaseException") = some true)
    (hC_InvalidPoly : PySem.W.hasDictIn K C_InvalidPoly = true)
    (cc_InvalidPoly : PySem.W.findIn K (.ref C_InvalidPoly) "__class__" = some (some (.builtin "object.__class__")))
    (mo_InvalidPoly : PySem.W.mroIn K C_InvalidPoly (.type "object") = some true)
    (kC_InvalidPoly : PySem.W.keepIn K (.ref C_InvalidPoly) = true)
    (sa_InvalidPoly : PySem.W.findIn K (.ref C_InvalidPoly) "__setattr__" = some (some (.builtin "object.__setattr__")))
    (tC_InvalidPoly : PySem.W.typeIn K (.ref C_InvalidPoly) = some (.type "type"))
    (nf_InvalidPoly : PySem.W.findIn K (.ref C_InvalidPoly) "given" = some none)
    (ii_InvalidPoly : PySem.W.findIn K (.ref C_InvalidPoly) "__init__" = some (some (.ref I_InvalidPoly)))
    (ti_InvalidPoly : PySem.W.typeIn K (.ref I_InvalidPoly) = some (.type "function"))
    (li_InvalidPoly : K.lookup I_InvalidPoly = some ⟨oci_InvalidPoly, odi_InvalidPoly, .func (PySem.W.fnOf "__init__" "InvalidPoly.__init__" (defArgs i_InvalidPoly) (defBody i_InvalidPoly) (defScope i_InvalidPoly) .none kVi_InvalidPoly dci_InvalidPoly pmi_InvalidPoly ani_InvalidPoly cdi_InvalidPoly cti_InvalidPoly), sli_InvalidPoly⟩)
    (ci_InvalidPoly : PySem.W.codeIn K cdi_InvalidPoly "InvalidPoly.__init__" = true)
    (ki_InvalidPoly : PySem.W.keepIn K (.ref I_InvalidPoly) = true)
    (aC_InvalidChain : PySem.W.nsIn K mainGlobals "InvalidChain" = some (some (.ref C_InvalidChain)))
    (xL_InvalidChain : K.lookup C_InvalidChain = some (excClassObj "InvalidChain" qn_InvalidChain C_InvalidChain N_InvalidChain bs_InvalidChain [.ref C_PlanError, .type "ValueError", .type "Exception", .type "BaseException", .type "object"] true sn_InvalidChain sub_InvalidChain ab_InvalidChain col_InvalidChain dd_InvalidChain m0_InvalidChain m1_InvalidChain m2_InvalidChain m3_InvalidChain m5_InvalidChain "ValueError.__new__"))
    (ga_InvalidChain : PySem.W.findIn K (.ref C_InvalidChain) "__getattribute__" = some (some (.builtin "BaseException.__getattribute__")))
    (gg_InvalidChain : PySem.W.findIn K (.ref C_InvalidChain) "__getattr__" = some none)
    (eC_InvalidChain : PySem.W.subIn K (.ref C_InvalidChain) (.type "BaseException") = some true)
    (hC_InvalidChain : PySem.W.hasDictIn K C_InvalidChain = true)
    (cc_InvalidChain : PySem.W.findIn K (.ref C_InvalidChain) "__class__" = some (some (.builtin "object.__class__")))
    (mo_InvalidChain : PySem.W.mroIn K C_InvalidChain (.type "object") = some true)
    (kC_InvalidChain : PySem.W.keepIn K (.ref C_InvalidChain) = true)
    (sa_InvalidChain : PySem.W.findIn K (.ref C_InvalidChain) "__setattr__" = some (some (.builtin "object.__setattr__")))
    (tC_InvalidChain : PySem.W.typeIn K (.ref C_InvalidChain) = some (.type "type"))
    (nf_InvalidChain : PySem.W.findIn K (.ref C_InvalidChain) "given" = some none)
    (ii_InvalidChain : PySem.W.findIn K (.ref C_InvalidChain) "__init__" = some (some (.ref I_InvalidChain)))
    (ti_InvalidChain : PySem.W.typeIn K (.ref I_InvalidChain) = some (.type "function"))
    (li_InvalidChain : K.lookup I_InvalidChain = some ⟨oci_InvalidChain, odi_InvalidChain, .func (PySem.W.fnOf "__init__" "InvalidChain.__init__" (defArgs i_InvalidChain) (defBody i_InvalidChain) (defScope i_InvalidChain) .none kVi_InvalidChain dci_InvalidChain pmi_InvalidChain ani_InvalidChain cdi_InvalidChain cti_InvalidChain), sli_InvalidChain⟩)
    (ci_InvalidChain : PySem.W.codeIn K cdi_InvalidChain "InvalidChain.__init__" = true)
    (ki_InvalidChain : PySem.W.keepIn K (.ref I_InvalidChain) = true)
    (aC_InvalidFraction : PySem.W.nsIn K mainGlobals "InvalidFraction" = some (some (.ref C_InvalidFraction)))
    (xL_InvalidFraction : K.lookup C_InvalidFraction = some (excClassObj "InvalidFraction" qn_InvalidFraction C_InvalidFraction N_InvalidFraction bs_InvalidFraction [.ref C_PlanError, .type "ValueError", .type "Exception", .type "BaseException", .type "object"] true sn_InvalidFraction sub_InvalidFraction ab_InvalidFraction col_InvalidFraction dd_InvalidFraction m0_InvalidFraction m1_InvalidFraction m2_InvalidFraction m3_InvalidFraction m5_InvalidFraction "ValueError.__new__"))
    (ga_InvalidFraction : PySem.W.findIn K (.ref C_InvalidFraction) "__getattribute__" = some (some (.builtin "BaseException.__getattribute__")))
    (gg_InvalidFraction : PySem.W.findIn K (.ref C_InvalidFraction) "__getattr__" = some none)
    (eC_InvalidFraction : PySem.W.subIn K (.ref C_InvalidFraction) (.type "BaseException") = some true)
    (hC_InvalidFraction : PySem.W.hasDictIn K C_InvalidFraction = true)
    (cc_InvalidFraction : PySem.W.findIn K (.ref C_InvalidFraction) "__class__" = some (some (.builtin "object.__class__")))
    (mo_InvalidFraction : PySem.W.mroIn K C_InvalidFraction (.type "object") = some true)
    (kC_InvalidFraction : PySem.W.keepIn K (.ref C_InvalidFraction) = true)
    (sa_InvalidFraction : PySem.W.findIn K (.ref C_InvalidFraction) "__setattr__" = some (some (.builtin "object.__setattr__")))
    (tC_InvalidFraction : PySem.W.typeIn K (.ref C_InvalidFraction) = some (.type "type"))
    (nf_InvalidFraction : PySem.W.findIn K (.ref C_InvalidFraction) "given" = some none)
    (ii_InvalidFraction : PySem.W.findIn K (.ref C_InvalidFraction) "__init__" = some (some (.ref I_InvalidFraction)))
    (ti_InvalidFraction : PySem.W.typeIn K (.ref I_InvalidFraction) = some (.type "function"))
    (li_InvalidFraction : K.lookup I_InvalidFraction = some ⟨oci_InvalidFraction, odi_InvalidFraction, .func (PySem.W.fnOf "__init__" "InvalidFraction.__init__" (defArgs i_InvalidFraction) (defBody i_InvalidFraction) (defScope i_InvalidFraction) .none kVi_InvalidFraction dci_InvalidFraction pmi_InvalidFraction ani_InvalidFraction cdi_InvalidFraction cti_InvalidFraction), sli_InvalidFraction⟩)
    (ci_InvalidFraction : PySem.W.codeIn K cdi_InvalidFraction "InvalidFraction.__init__" = true)
    (ki_InvalidFraction : PySem.W.keepIn K (.ref I_InvalidFraction) = true)
    (aC_InvalidNumber : PySem.W.nsIn K mainGlobals "InvalidNumber" = some (some (.ref C_InvalidNumber)))
    (xL_InvalidNumber : K.lookup C_InvalidNumber = some (excClassObj "InvalidNumber" qn_InvalidNumber C_InvalidNumber N_InvalidNumber bs_InvalidNumber [.ref C_PlanError, .type "ValueError", .type "Exception", .type "BaseException", .type "object"] true sn_InvalidNumber sub_InvalidNumber ab_InvalidNumber col_InvalidNumber dd_InvalidNumber m0_InvalidNumber m1_InvalidNumber m2_InvalidNumber m3_InvalidNumber m5_InvalidNumber "ValueError.__new__"))
    (ga_InvalidNumber : PySem.W.findIn K (.ref C_InvalidNumber) "__getattribute__" = some (some (.builtin "BaseException.__getattribute__")))
    (gg_InvalidNumber : PySem.W.findIn K (.ref C_InvalidNumber) "__getattr__" = some none)
    (eC_InvalidNumber : PySem.W.subIn K (.ref C_InvalidNumber) (.type "BaseException") = some true)
    (hC_InvalidNumber : PySem.W.hasDictIn K C_InvalidNumber = true)
    (cc_InvalidNumber : PySem.W.findIn K (.ref C_InvalidNumber) "__class__" = some (some (.builtin "object.__class__")))
    (mo_InvalidNumber : PySem.W.mroIn K C_InvalidNumber (.type "object") = some true)
    (kC_InvalidNumber : PySem.W.keepIn K (.ref C_InvalidNumber) = true)
    (sa_InvalidNumber : PySem.W.findIn K (.ref C_InvalidNumber) "__setattr__" = some (some (.builtin "object.__setattr__")))
    (tC_InvalidNumber : PySem.W.typeIn K (.ref C_InvalidNumber) = some (.type "type"))
    (nf_InvalidNumber : PySem.W.findIn K (.ref C_InvalidNumber) "given" = some none)
    (ii_InvalidNumber : PySem.W.findIn K (.ref C_InvalidNumber) "__init__" = some (some (.ref I_InvalidNumber)))
    (ti_InvalidNumber : PySem.W.typeIn K (.ref I_InvalidNumber) = some (.type "function"))
    (li_InvalidNumber : K.lookup I_InvalidNumber = some ⟨oci_InvalidNumber, odi_InvalidNumber, .func (PySem.W.fnOf "__init__" "InvalidNumber.__init__" (defArgs i_InvalidNumber) (defBody i_InvalidNumber) (defScope i_InvalidNumber) .none kVi_InvalidNumber dci_InvalidNumber pmi_InvalidNumber ani_InvalidNumber cdi_InvalidNumber cti_InvalidNumber), sli_InvalidNumber⟩)
    (ci_InvalidNumber : PySem.W.codeIn K cdi_InvalidNumber "InvalidNumber.__init__" = true)
    (ki_InvalidNumber : PySem.W.keepIn K (.ref I_InvalidNumber) = true)
    (aC_InvalidLine : PySem.W.nsIn K mainGlobals "InvalidLine" = some (some (.ref C_InvalidLine)))
    (xL_InvalidLine : K.lookup C_InvalidLine = some (excClassObj "InvalidLine" qn_InvalidLine C_InvalidLine N_InvalidLine bs_InvalidLine [.ref C_PlanError, .type "ValueError", .type "Exception", .type "BaseException", .type "object"] true sn_InvalidLine sub_InvalidLine ab_InvalidLine col_InvalidLine dd_InvalidLine m0_InvalidLine m1_InvalidLine m2_InvalidLine m3_InvalidLine m5_InvalidLine "ValueError.__new__"))
    (ga_InvalidLine : PySem.W.findIn K (.ref C_InvalidLine) "__getattribute__" = some (some (.builtin "BaseException.__getattribute__")))
    (gg_InvalidLine : PySem.W.findIn K (.ref C_InvalidLine) "__getattr__" = some none)
    (eC_InvalidLine : PySem.W.subIn K (.ref C_InvalidLine) (.type "BaseException") = some true)
    (hC_InvalidLine : PySem.W.hasDictIn K C_InvalidLine = true)
    (cc_InvalidLine : PySem.W.findIn K (.ref C_InvalidLine) "__class__" = some (some (.builtin "object.__class__")))
    (mo_InvalidLine : PySem.W.mroIn K C_InvalidLine (.type "object") = some true)
    (kC_InvalidLine : PySem.W.keepIn K (.ref C_InvalidLine) = true)
    (sa_InvalidLine : PySem.W.findIn K (.ref C_InvalidLine) "__setattr__" = some (some (.builtin "object.__setattr__")))
    (tC_InvalidLine : PySem.W.typeIn K (.ref C_InvalidLine) = some (.type "type"))
    (nf_InvalidLine : PySem.W.findIn K (.ref C_InvalidLine) "given" = some none)
    (ii_InvalidLine : PySem.W.findIn K (.ref C_InvalidLine) "__init__" = some (some (.ref I_InvalidLine)))
    (ti_InvalidLine : PySem.W.typeIn K (.ref I_InvalidLine) = some (.type "function"))
    (li_InvalidLine : K.lookup I_InvalidLine = some ⟨oci_InvalidLine, odi_InvalidLine, .func (PySem.W.fnOf "__init__" "InvalidLine.__init__" (defArgs i_InvalidLine) (defBody i_InvalidLine) (defScope i_InvalidLine) .none kVi_InvalidLine dci_InvalidLine pmi_InvalidLine ani_InvalidLine cdi_InvalidLine cti_InvalidLine), sli_InvalidLine⟩)
    (ci_InvalidLine : PySem.W.codeIn K cdi_InvalidLine "InvalidLine.__init__" = true)
    (ki_InvalidLine : PySem.W.keepIn K (.ref I_InvalidLine) = true)
    (aC_NotADesk : PySem.W.nsIn K mainGlobals "NotADesk" = some (some (.ref C_NotADesk)))
    (xL_NotADesk : K.lookup C_NotADesk = some (excClassObj "NotADesk" qn_NotADesk C_NotADesk N_NotADesk bs_NotADesk [.ref C_PlanError, .type "ValueError", .type "Exception", .type "BaseException", .type "object"] true sn_NotADesk sub_NotADesk ab_NotADesk col_NotADesk dd_NotADesk m0_NotADesk m1_NotADesk m2_NotADesk m3_NotADesk m5_NotADesk "ValueError.__new__"))
    (ga_NotADesk : PySem.W.findIn K (.ref C_NotADesk) "__getattribute__" = some (some (.builtin "BaseException.__getattribute__")))
    (gg_NotADesk : PySem.W.findIn K (.ref C_NotADesk) "__getattr__" = some none)
    (eC_NotADesk : PySem.W.subIn K (.ref C_NotADesk) (.type "BaseException") = some true)
    (hC_NotADesk : PySem.W.hasDictIn K C_NotADesk = true)
    (cc_NotADesk : PySem.W.findIn K (.ref C_NotADesk) "__class__" = some (some (.builtin "object.__class__")))
    (mo_NotADesk : PySem.W.mroIn K C_NotADesk (.type "object") = some true)
    (kC_NotADesk : PySem.W.keepIn K (.ref C_NotADesk) = true)
    (sa_NotADesk : PySem.W.findIn K (.ref C_NotADesk) "__setattr__" = some (some (.builtin "object.__setattr__")))
    (tC_NotADesk : PySem.W.typeIn K (.ref C_NotADesk) = some (.type "type"))
    (nf_NotADesk : PySem.W.findIn K (.ref C_NotADesk) "given" = some none)
    (ii_NotADesk : PySem.W.findIn K (.ref C_NotADesk) "__init__" = some (some (.ref I_NotADesk)))
    (ti_NotADesk : PySem.W.typeIn K (.ref I_NotADesk) = some (.type "function"))
    (li_NotADesk : K.lookup I_NotADesk = some ⟨oci_NotADesk, odi_NotADesk, .func (PySem.W.fnOf "__init__" "NotADesk.__init__" (defArgs i_NotADesk) (defBody i_NotADesk) (defScope i_NotADesk) .none kVi_NotADesk dci_NotADesk pmi_NotADesk ani_NotADesk cdi_NotADesk cti_NotADesk), sli_NotADesk⟩)
    (ci_NotADesk : PySem.W.codeIn K cdi_NotADesk "NotADesk.__init__" = true)
    (ki_NotADesk : PySem.W.keepIn K (.ref I_NotADesk) = true)
    (aC_NotNow : PySem.W.nsIn K mainGlobals "NotNow" = some (some (.ref C_NotNow)))
    (xL_NotNow : K.lookup C_NotNow = some (excClassObj "NotNow" qn_NotNow C_NotNow N_NotNow bs_NotNow [.ref C_PlanError, .type "ValueError", .type "Exception", .type "BaseException", .type "object"] true sn_NotNow sub_NotNow ab_NotNow col_NotNow dd_NotNow m0_NotNow m1_NotNow m2_NotNow m3_NotNow m5_NotNow "ValueError.__new__"))
    (ga_NotNow : PySem.W.findIn K (.ref C_NotNow) "__getattribute__" = some (some (.builtin "BaseException.__getattribute__")))
    (gg_NotNow : PySem.W.findIn K (.ref C_NotNow) "__getattr__" = some none)
    (eC_NotNow : PySem.W.subIn K (.ref C_NotNow) (.type "BaseException") = some true)
    (hC_NotNow : PySem.W.hasDictIn K C_NotNow = true)
    (cc_NotNow : PySem.W.findIn K (.ref C_NotNow) "__class__" = some (some (.builtin "object.__class__")))
    (mo_NotNow : PySem.W.mroIn K C_NotNow (.type "object") = some true)
    (kC_NotNow : PySem.W.keepIn K (.ref C_NotNow) = true)
    (sa_NotNow : PySem.W.findIn K (.ref C_NotNow) "__setattr__" = some (some (.builtin "object.__setattr__")))
    (tC_NotNow : PySem.W.typeIn K (.ref C_NotNow) = some (.type "type"))
    (nf_NotNow : PySem.W.findIn K (.ref C_NotNow) "given" = some none)
    (ii_NotNow : PySem.W.findIn K (.ref C_NotNow) "__init__" = some (some (.ref I_NotNow)))
    (ti_NotNow : PySem.W.typeIn K (.ref I_NotNow) = some (.type "function"))
    (li_NotNow : K.lookup I_NotNow = some ⟨oci_NotNow, odi_NotNow, .func (PySem.W.fnOf "__init__" "NotNow.__init__" (defArgs i_NotNow) (defBody i_NotNow) (defScope i_NotNow) .none kVi_NotNow dci_NotNow pmi_NotNow ani_NotNow cdi_NotNow cti_NotNow), sli_NotNow⟩)
    (ci_NotNow : PySem.W.codeIn K cdi_NotNow "NotNow.__init__" = true)
    (ki_NotNow : PySem.W.keepIn K (.ref I_NotNow) = true)
    (aC_InvalidText : PySem.W.nsIn K mainGlobals "InvalidText" = some (some (.ref C_InvalidText)))
    (xL_InvalidText : K.lookup C_InvalidText = some (excClassObj "InvalidText" qn_InvalidText C_InvalidText N_InvalidText bs_InvalidText [.ref C_PlanError, .type "ValueError", .type "Exception", .type "BaseException", .type "object"] true sn_InvalidText sub_InvalidText ab_InvalidText col_InvalidText dd_InvalidText m0_InvalidText m1_InvalidText m2_InvalidText m3_InvalidText m5_InvalidText "ValueError.__new__"))
    (ga_InvalidText : PySem.W.findIn K (.ref C_InvalidText) "__getattribute__" = some (some (.builtin "BaseException.__getattribute__")))
    (gg_InvalidText : PySem.W.findIn K (.ref C_InvalidText) "__getattr__" = some none)
    (eC_InvalidText : PySem.W.subIn K (.ref C_InvalidText) (.type "BaseException") = some true)
    (hC_InvalidText : PySem.W.hasDictIn K C_InvalidText = true)
    (cc_InvalidText : PySem.W.findIn K (.ref C_InvalidText) "__class__" = some (some (.builtin "object.__class__")))
    (mo_InvalidText : PySem.W.mroIn K C_InvalidText (.type "object") = some true)
    (kC_InvalidText : PySem.W.keepIn K (.ref C_InvalidText) = true)
    (sa_InvalidText : PySem.W.findIn K (.ref C_InvalidText) "__setattr__" = some (some (.builtin "object.__setattr__")))
    (tC_InvalidText : PySem.W.typeIn K (.ref C_InvalidText) = some (.type "type"))
    (nf_InvalidText : PySem.W.findIn K (.ref C_InvalidText) "index" = some none)
    (ii_InvalidText : PySem.W.findIn K (.ref C_InvalidText) "__init__" = some (some (.ref I_InvalidText)))
    (ti_InvalidText : PySem.W.typeIn K (.ref I_InvalidText) = some (.type "function"))
    (li_InvalidText : K.lookup I_InvalidText = some ⟨oci_InvalidText, odi_InvalidText, .func (PySem.W.fnOf "__init__" "InvalidText.__init__" (defArgs i_InvalidText) (defBody i_InvalidText) (defScope i_InvalidText) .none kVi_InvalidText dci_InvalidText pmi_InvalidText ani_InvalidText cdi_InvalidText cti_InvalidText), sli_InvalidText⟩)
    (ci_InvalidText : PySem.W.codeIn K cdi_InvalidText "InvalidText.__init__" = true)
    (ki_InvalidText : PySem.W.keepIn K (.ref I_InvalidText) = true)
    (aC_InvalidPlan : PySem.W.nsIn K mainGlobals "InvalidPlan" = some (some (.ref C_InvalidPlan)))
    (xL_InvalidPlan : K.lookup C_InvalidPlan = some (excClassObj "InvalidPlan" qn_InvalidPlan C_InvalidPlan N_InvalidPlan bs_InvalidPlan [.ref C_PlanError, .type "ValueError", .type "Exception", .type "BaseException", .type "object"] true sn_InvalidPlan sub_InvalidPlan ab_InvalidPlan col_InvalidPlan dd_InvalidPlan m0_InvalidPlan m1_InvalidPlan m2_InvalidPlan m3_InvalidPlan m5_InvalidPlan "ValueError.__new__"))
    (ga_InvalidPlan : PySem.W.findIn K (.ref C_InvalidPlan) "__getattribute__" = some (some (.builtin "BaseException.__getattribute__")))
    (gg_InvalidPlan : PySem.W.findIn K (.ref C_InvalidPlan) "__getattr__" = some none)
    (eC_InvalidPlan : PySem.W.subIn K (.ref C_InvalidPlan) (.type "BaseException") = some true)
    (hC_InvalidPlan : PySem.W.hasDictIn K C_InvalidPlan = true)
    (cc_InvalidPlan : PySem.W.findIn K (.ref C_InvalidPlan) "__class__" = some (some (.builtin "object.__class__")))
    (mo_InvalidPlan : PySem.W.mroIn K C_InvalidPlan (.type "object") = some true)
    (kC_InvalidPlan : PySem.W.keepIn K (.ref C_InvalidPlan) = true)
    (sa_InvalidPlan : PySem.W.findIn K (.ref C_InvalidPlan) "__setattr__" = some (some (.builtin "object.__setattr__")))
    (tC_InvalidPlan : PySem.W.typeIn K (.ref C_InvalidPlan) = some (.type "type"))
    (nf_InvalidPlan : PySem.W.findIn K (.ref C_InvalidPlan) "index" = some none)
    (ii_InvalidPlan : PySem.W.findIn K (.ref C_InvalidPlan) "__init__" = some (some (.ref I_InvalidPlan)))
    (ti_InvalidPlan : PySem.W.typeIn K (.ref I_InvalidPlan) = some (.type "function"))
    (li_InvalidPlan : K.lookup I_InvalidPlan = some ⟨oci_InvalidPlan, odi_InvalidPlan, .func (PySem.W.fnOf "__init__" "InvalidPlan.__init__" (defArgs i_InvalidPlan) (defBody i_InvalidPlan) (defScope i_InvalidPlan) .none kVi_InvalidPlan dci_InvalidPlan pmi_InvalidPlan ani_InvalidPlan cdi_InvalidPlan cti_InvalidPlan), sli_InvalidPlan⟩)
    (ci_InvalidPlan : PySem.W.codeIn K cdi_InvalidPlan "InvalidPlan.__init__" = true)
    (ki_InvalidPlan : PySem.W.keepIn K (.ref I_InvalidPlan) = true)
    (aC_Misfit : PySem.W.nsIn K mainGlobals "Misfit" = some (some (.ref C_Misfit)))
    (xL_Misfit : K.lookup C_Misfit = some (excClassObj "Misfit" qn_Misfit C_Misfit N_Misfit bs_Misfit [.ref C_PlanError, .type "ValueError", .type "Exception", .type "BaseException", .type "object"] true sn_Misfit sub_Misfit ab_Misfit col_Misfit dd_Misfit m0_Misfit m1_Misfit m2_Misfit m3_Misfit m5_Misfit "ValueError.__new__"))
    (ga_Misfit : PySem.W.findIn K (.ref C_Misfit) "__getattribute__" = some (some (.builtin "BaseException.__getattribute__")))
    (gg_Misfit : PySem.W.findIn K (.ref C_Misfit) "__getattr__" = some none)
    (eC_Misfit : PySem.W.subIn K (.ref C_Misfit) (.type "BaseException") = some true)
    (hC_Misfit : PySem.W.hasDictIn K C_Misfit = true)
    (cc_Misfit : PySem.W.findIn K (.ref C_Misfit) "__class__" = some (some (.builtin "object.__class__")))
    (mo_Misfit : PySem.W.mroIn K C_Misfit (.type "object") = some true)
    (kC_Misfit : PySem.W.keepIn K (.ref C_Misfit) = true)
    (sa_Misfit : PySem.W.findIn K (.ref C_Misfit) "__setattr__" = some (some (.builtin "object.__setattr__")))
    (tC_Misfit : PySem.W.typeIn K (.ref C_Misfit) = some (.type "type"))
    (nf_Misfit : PySem.W.findIn K (.ref C_Misfit) "index" = some none)
    (ii_Misfit : PySem.W.findIn K (.ref C_Misfit) "__init__" = some (some (.ref I_Misfit)))
    (ti_Misfit : PySem.W.typeIn K (.ref I_Misfit) = some (.type "function"))
    (li_Misfit : K.lookup I_Misfit = some ⟨oci_Misfit, odi_Misfit, .func (PySem.W.fnOf "__init__" "Misfit.__init__" (defArgs i_Misfit) (defBody i_Misfit) (defScope i_Misfit) .none kVi_Misfit dci_Misfit pmi_Misfit ani_Misfit cdi_Misfit cti_Misfit), sli_Misfit⟩)
    (ci_Misfit : PySem.W.codeIn K cdi_Misfit "Misfit.__init__" = true)
    (ki_Misfit : PySem.W.keepIn K (.ref I_Misfit) = true)
    (aC_InvalidCode : PySem.W.nsIn K mainGlobals "InvalidCode" = some (some (.ref C_InvalidCode)))
    (xL_InvalidCode : K.lookup C_InvalidCode = some (excClassObj "InvalidCode" qn_InvalidCode C_InvalidCode N_InvalidCode bs_InvalidCode [.ref C_PlanError, .type "ValueError", .type "Exception", .type "BaseException", .type "object"] true sn_InvalidCode sub_InvalidCode ab_InvalidCode col_InvalidCode dd_InvalidCode m0_InvalidCode m1_InvalidCode m2_InvalidCode m3_InvalidCode m5_InvalidCode "ValueError.__new__"))
    (ga_InvalidCode : PySem.W.findIn K (.ref C_InvalidCode) "__getattribute__" = some (some (.builtin "BaseException.__getattribute__")))
    (gg_InvalidCode : PySem.W.findIn K (.ref C_InvalidCode) "__getattr__" = some none)
    (eC_InvalidCode : PySem.W.subIn K (.ref C_InvalidCode) (.type "BaseException") = some true)
    (hC_InvalidCode : PySem.W.hasDictIn K C_InvalidCode = true)
    (cc_InvalidCode : PySem.W.findIn K (.ref C_InvalidCode) "__class__" = some (some (.builtin "object.__class__")))
    (mo_InvalidCode : PySem.W.mroIn K C_InvalidCode (.type "object") = some true)
    (kC_InvalidCode : PySem.W.keepIn K (.ref C_InvalidCode) = true)
    (sa_InvalidCode : PySem.W.findIn K (.ref C_InvalidCode) "__setattr__" = some (some (.builtin "object.__setattr__")))
    (tC_InvalidCode : PySem.W.typeIn K (.ref C_InvalidCode) = some (.type "type"))
    (nf_InvalidCode : PySem.W.findIn K (.ref C_InvalidCode) "index" = some none)
    (ii_InvalidCode : PySem.W.findIn K (.ref C_InvalidCode) "__init__" = some (some (.ref I_InvalidCode)))
    (ti_InvalidCode : PySem.W.typeIn K (.ref I_InvalidCode) = some (.type "function"))
    (li_InvalidCode : K.lookup I_InvalidCode = some ⟨oci_InvalidCode, odi_InvalidCode, .func (PySem.W.fnOf "__init__" "InvalidCode.__init__" (defArgs i_InvalidCode) (defBody i_InvalidCode) (defScope i_InvalidCode) .none kVi_InvalidCode dci_InvalidCode pmi_InvalidCode ani_InvalidCode cdi_InvalidCode cti_InvalidCode), sli_InvalidCode⟩)
    (ci_InvalidCode : PySem.W.codeIn K cdi_InvalidCode "InvalidCode.__init__" = true)
    (ki_InvalidCode : PySem.W.keepIn K (.ref I_InvalidCode) = true)
    (aC_InvalidTower : PySem.W.nsIn K mainGlobals "InvalidTower" = some (some (.ref C_InvalidTower)))
    (xL_InvalidTower : K.lookup C_InvalidTower = some (excClassObj "InvalidTower" qn_InvalidTower C_InvalidTower N_InvalidTower bs_InvalidTower [.ref C_PlanError, .type "ValueError", .type "Exception", .type "BaseException", .type "object"] true sn_InvalidTower sub_InvalidTower ab_InvalidTower col_InvalidTower dd_InvalidTower m0_InvalidTower m1_InvalidTower m2_InvalidTower m3_InvalidTower m5_InvalidTower "ValueError.__new__"))
    (ga_InvalidTower : PySem.W.findIn K (.ref C_InvalidTower) "__getattribute__" = some (some (.builtin "BaseException.__getattribute__")))
    (gg_InvalidTower : PySem.W.findIn K (.ref C_InvalidTower) "__getattr__" = some none)
    (eC_InvalidTower : PySem.W.subIn K (.ref C_InvalidTower) (.type "BaseException") = some true)
    (hC_InvalidTower : PySem.W.hasDictIn K C_InvalidTower = true)
    (cc_InvalidTower : PySem.W.findIn K (.ref C_InvalidTower) "__class__" = some (some (.builtin "object.__class__")))
    (mo_InvalidTower : PySem.W.mroIn K C_InvalidTower (.type "object") = some true)
    (kC_InvalidTower : PySem.W.keepIn K (.ref C_InvalidTower) = true)
    (sa_InvalidTower : PySem.W.findIn K (.ref C_InvalidTower) "__setattr__" = some (some (.builtin "object.__setattr__")))
    (tC_InvalidTower : PySem.W.typeIn K (.ref C_InvalidTower) = some (.type "type"))
    (nf_InvalidTower : PySem.W.findIn K (.ref C_InvalidTower) "index" = some none)
    (ii_InvalidTower : PySem.W.findIn K (.ref C_InvalidTower) "__init__" = some (some (.ref I_InvalidTower)))
    (ti_InvalidTower : PySem.W.typeIn K (.ref I_InvalidTower) = some (.type "function"))
    (li_InvalidTower : K.lookup I_InvalidTower = some ⟨oci_InvalidTower, odi_InvalidTower, .func (PySem.W.fnOf "__init__" "InvalidTower.__init__" (defArgs i_InvalidTower) (defBody i_InvalidTower) (defScope i_InvalidTower) .none kVi_InvalidTower dci_InvalidTower pmi_InvalidTower ani_InvalidTower cdi_InvalidTower cti_InvalidTower), sli_InvalidTower⟩)
    (ci_InvalidTower : PySem.W.codeIn K cdi_InvalidTower "InvalidTower.__init__" = true)
    (ki_InvalidTower : PySem.W.keepIn K (.ref I_InvalidTower) = true)
    (aC_InvalidBook : PySem.W.nsIn K mainGlobals "InvalidBook" = some (some (.ref C_InvalidBook)))
    (xL_InvalidBook : K.lookup C_InvalidBook = some (excClassObj "InvalidBook" qn_InvalidBook C_InvalidBook N_InvalidBook bs_InvalidBook [.ref C_PlanError, .type "ValueError", .type "Exception", .type "BaseException", .type "object"] true sn_InvalidBook sub_InvalidBook ab_InvalidBook col_InvalidBook dd_InvalidBook m0_InvalidBook m1_InvalidBook m2_InvalidBook m3_InvalidBook m5_InvalidBook "ValueError.__new__"))
    (ga_InvalidBook : PySem.W.findIn K (.ref C_InvalidBook) "__getattribute__" = some (some (.builtin "BaseException.__getattribute__")))
    (gg_InvalidBook : PySem.W.findIn K (.ref C_InvalidBook) "__getattr__" = some none)
    (eC_InvalidBook : PySem.W.subIn K (.ref C_InvalidBook) (.type "BaseException") = some true)
    (hC_InvalidBook : PySem.W.hasDictIn K C_InvalidBook = true)
    (cc_InvalidBook : PySem.W.findIn K (.ref C_InvalidBook) "__class__" = some (some (.builtin "object.__class__")))
    (mo_InvalidBook : PySem.W.mroIn K C_InvalidBook (.type "object") = some true)
    (kC_InvalidBook : PySem.W.keepIn K (.ref C_InvalidBook) = true)
    (sa_InvalidBook : PySem.W.findIn K (.ref C_InvalidBook) "__setattr__" = some (some (.builtin "object.__setattr__")))
    (tC_InvalidBook : PySem.W.typeIn K (.ref C_InvalidBook) = some (.type "type"))
    (nf_InvalidBook : PySem.W.findIn K (.ref C_InvalidBook) "index" = some none)
    (ii_InvalidBook : PySem.W.findIn K (.ref C_InvalidBook) "__init__" = some (some (.ref I_InvalidBook)))
    (ti_InvalidBook : PySem.W.typeIn K (.ref I_InvalidBook) = some (.type "function"))
    (li_InvalidBook : K.lookup I_InvalidBook = some ⟨oci_InvalidBook, odi_InvalidBook, .func (PySem.W.fnOf "__init__" "InvalidBook.__init__" (defArgs i_InvalidBook) (defBody i_InvalidBook) (defScope i_InvalidBook) .none kVi_InvalidBook dci_InvalidBook pmi_InvalidBook ani_InvalidBook cdi_InvalidBook cti_InvalidBook), sli_InvalidBook⟩)
    (ci_InvalidBook : PySem.W.codeIn K cdi_InvalidBook "InvalidBook.__init__" = true)
    (ki_InvalidBook : PySem.W.keepIn K (.ref I_InvalidBook) = true)
    (aC_Broken : PySem.W.nsIn K mainGlobals "Broken" = some (some (.ref C_Broken)))
    (xL_Broken : K.lookup C_Broken = some (excClassObj "Broken" qn_Broken C_Broken N_Broken bs_Broken [.ref C_PlanError, .type "ValueError", .type "Exception", .type "BaseException", .type "object"] true sn_Broken sub_Broken ab_Broken col_Broken dd_Broken m0_Broken m1_Broken m2_Broken m3_Broken m5_Broken "ValueError.__new__"))
    (ga_Broken : PySem.W.findIn K (.ref C_Broken) "__getattribute__" = some (some (.builtin "BaseException.__getattribute__")))
    (gg_Broken : PySem.W.findIn K (.ref C_Broken) "__getattr__" = some none)
    (eC_Broken : PySem.W.subIn K (.ref C_Broken) (.type "BaseException") = some true)
    (hC_Broken : PySem.W.hasDictIn K C_Broken = true)
    (cc_Broken : PySem.W.findIn K (.ref C_Broken) "__class__" = some (some (.builtin "object.__class__")))
    (mo_Broken : PySem.W.mroIn K C_Broken (.type "object") = some true)
    (kC_Broken : PySem.W.keepIn K (.ref C_Broken) = true)
    (sa_Broken : PySem.W.findIn K (.ref C_Broken) "__setattr__" = some (some (.builtin "object.__setattr__")))
    (tC_Broken : PySem.W.typeIn K (.ref C_Broken) = some (.type "type"))
    (nf_Broken : PySem.W.findIn K (.ref C_Broken) "index" = some none)
    (ii_Broken : PySem.W.findIn K (.ref C_Broken) "__init__" = some (some (.ref I_Broken)))
    (ti_Broken : PySem.W.typeIn K (.ref I_Broken) = some (.type "function"))
    (li_Broken : K.lookup I_Broken = some ⟨oci_Broken, odi_Broken, .func (PySem.W.fnOf "__init__" "Broken.__init__" (defArgs i_Broken) (defBody i_Broken) (defScope i_Broken) .none kVi_Broken dci_Broken pmi_Broken ani_Broken cdi_Broken cti_Broken), sli_Broken⟩)
    (ci_Broken : PySem.W.codeIn K cdi_Broken "Broken.__init__" = true)
    (ki_Broken : PySem.W.keepIn K (.ref I_Broken) = true)
    (aC_TooMany : PySem.W.nsIn K mainGlobals "TooMany" = some (some (.ref C_TooMany)))
    (xL_TooMany : K.lookup C_TooMany = some (excClassObj "TooMany" qn_TooMany C_TooMany N_TooMany bs_TooMany [.ref C_PlanError, .type "ValueError", .type "Exception", .type "BaseException", .type "object"] true sn_TooMany sub_TooMany ab_TooMany col_TooMany dd_TooMany m0_TooMany m1_TooMany m2_TooMany m3_TooMany m5_TooMany "ValueError.__new__"))
    (ga_TooMany : PySem.W.findIn K (.ref C_TooMany) "__getattribute__" = some (some (.builtin "BaseException.__getattribute__")))
    (gg_TooMany : PySem.W.findIn K (.ref C_TooMany) "__getattr__" = some none)
    (eC_TooMany : PySem.W.subIn K (.ref C_TooMany) (.type "BaseException") = some true)
    (hC_TooMany : PySem.W.hasDictIn K C_TooMany = true)
    (cc_TooMany : PySem.W.findIn K (.ref C_TooMany) "__class__" = some (some (.builtin "object.__class__")))
    (mo_TooMany : PySem.W.mroIn K C_TooMany (.type "object") = some true)
    (kC_TooMany : PySem.W.keepIn K (.ref C_TooMany) = true)
    (q_TooMany : PySem.W.excIn K C_TooMany veM "ValueError.__new__" = true)
    (aC_NothingToUndo : PySem.W.nsIn K mainGlobals "NothingToUndo" = some (some (.ref C_NothingToUndo)))
    (xL_NothingToUndo : K.lookup C_NothingToUndo = some (excClassObj "NothingToUndo" qn_NothingToUndo C_NothingToUndo N_NothingToUndo bs_NothingToUndo [.ref C_PlanError, .type "ValueError", .type "Exception", .type "BaseException", .type "object"] true sn_NothingToUndo sub_NothingToUndo ab_NothingToUndo col_NothingToUndo dd_NothingToUndo m0_NothingToUndo m1_NothingToUndo m2_NothingToUndo m3_NothingToUndo m5_NothingToUndo "ValueError.__new__"))
    (ga_NothingToUndo : PySem.W.findIn K (.ref C_NothingToUndo) "__getattribute__" = some (some (.builtin "BaseException.__getattribute__")))
    (gg_NothingToUndo : PySem.W.findIn K (.ref C_NothingToUndo) "__getattr__" = some none)
    (eC_NothingToUndo : PySem.W.subIn K (.ref C_NothingToUndo) (.type "BaseException") = some true)
    (hC_NothingToUndo : PySem.W.hasDictIn K C_NothingToUndo = true)
    (cc_NothingToUndo : PySem.W.findIn K (.ref C_NothingToUndo) "__class__" = some (some (.builtin "object.__class__")))
    (mo_NothingToUndo : PySem.W.mroIn K C_NothingToUndo (.type "object") = some true)
    (kC_NothingToUndo : PySem.W.keepIn K (.ref C_NothingToUndo) = true)
    (q_NothingToUndo : PySem.W.excIn K C_NothingToUndo veM "ValueError.__new__" = true)
    (sg : PySem.W.specialIn K (.builtin "object.__class__") "__get__" = some (some (.builtin "getset_descriptor.__get__")))
    (tk : PySem.W.takesIn K (.builtin "object.__class__") = some true) :
    Txt K mg := by
  have fam : Fam K root names := (⟨by decide +kernel, C_PlanError, ⟨aC_PlanError, ⟨qn_PlanError, N_PlanError, bs_PlanError, sn_PlanError, sub_PlanError, ab_PlanError, col_PlanError, dd_PlanError, m0_PlanError, m1_PlanError, m2_PlanError, m3_PlanError, m5_PlanError, xL_PlanError⟩, ⟨ga_PlanError, gg_PlanError, eC_PlanError, hC_PlanError, cc_PlanError, sg, tk, mo_PlanError⟩⟩, allCl_cons ⟨aC_InvalidValue, ⟨qn_InvalidValue, N_InvalidValue, bs_InvalidValue, sn_InvalidValue, sub_InvalidValue, ab_InvalidValue, col_InvalidValue, dd_InvalidValue, m0_InvalidValue, m1_InvalidValue, m2_InvalidValue, m3_InvalidValue, m5_InvalidValue, xL_InvalidValue⟩, ⟨ga_InvalidValue, gg_InvalidValue, eC_InvalidValue, hC_InvalidValue, cc_InvalidValue, sg, tk, mo_InvalidValue⟩⟩ (allCl_cons ⟨aC_InvalidPoly, ⟨qn_InvalidPoly, N_InvalidPoly, bs_InvalidPoly, sn_InvalidPoly, sub_InvalidPoly, ab_InvalidPoly, col_InvalidPoly, dd_InvalidPoly, m0_InvalidPoly, m1_InvalidPoly, m2_InvalidPoly, m3_InvalidPoly, m5_InvalidPoly, xL_InvalidPoly⟩, ⟨ga_InvalidPoly, gg_InvalidPoly, eC_InvalidPoly, hC_InvalidPoly, cc_InvalidPoly, sg, tk, mo_InvalidPoly⟩⟩ (allCl_cons ⟨aC_InvalidChain, ⟨qn_InvalidChain, N_InvalidChain, bs_InvalidChain, sn_InvalidChain, sub_InvalidChain, ab_InvalidChain, col_InvalidChain, dd_InvalidChain, m0_InvalidChain, m1_InvalidChain, m2_InvalidChain, m3_InvalidChain, m5_InvalidChain, xL_InvalidChain⟩, ⟨ga_InvalidChain, gg_InvalidChain, eC_InvalidChain, hC_InvalidChain, cc_InvalidChain, sg, tk, mo_InvalidChain⟩⟩ (allCl_cons ⟨aC_InvalidFraction, ⟨qn_InvalidFraction, N_InvalidFraction, bs_InvalidFraction, sn_InvalidFraction, sub_InvalidFraction, ab_InvalidFraction, col_InvalidFraction, dd_InvalidFraction, m0_InvalidFraction, m1_InvalidFraction, m2_InvalidFraction, m3_InvalidFraction, m5_InvalidFraction, xL_InvalidFraction⟩, ⟨ga_InvalidFraction, gg_InvalidFraction, eC_InvalidFraction, hC_InvalidFraction, cc_InvalidFraction, sg, tk, mo_InvalidFraction⟩⟩ (allCl_cons ⟨aC_InvalidNumber, ⟨qn_InvalidNumber, N_InvalidNumber, bs_InvalidNumber, sn_InvalidNumber, sub_InvalidNumber, ab_InvalidNumber, col_InvalidNumber, dd_InvalidNumber, m0_InvalidNumber, m1_InvalidNumber, m2_InvalidNumber, m3_InvalidNumber, m5_InvalidNumber, xL_InvalidNumber⟩, ⟨ga_InvalidNumber, gg_InvalidNumber, eC_InvalidNumber, hC_InvalidNumber, cc_InvalidNumber, sg, tk, mo_InvalidNumber⟩⟩ (allCl_cons ⟨aC_InvalidLine, ⟨qn_InvalidLine, N_InvalidLine, bs_InvalidLine, sn_InvalidLine, sub_InvalidLine, ab_InvalidLine, col_InvalidLine, dd_InvalidLine, m0_InvalidLine, m1_InvalidLine, m2_InvalidLine, m3_InvalidLine, m5_InvalidLine, xL_InvalidLine⟩, ⟨ga_InvalidLine, gg_InvalidLine, eC_InvalidLine, hC_InvalidLine, cc_InvalidLine, sg, tk, mo_InvalidLine⟩⟩ (allCl_cons ⟨aC_NotADesk, ⟨qn_NotADesk, N_NotADesk, bs_NotADesk, sn_NotADesk, sub_NotADesk, ab_NotADesk, col_NotADesk, dd_NotADesk, m0_NotADesk, m1_NotADesk, m2_NotADesk, m3_NotADesk, m5_NotADesk, xL_NotADesk⟩, ⟨ga_NotADesk, gg_NotADesk, eC_NotADesk, hC_NotADesk, cc_NotADesk, sg, tk, mo_NotADesk⟩⟩ (allCl_cons ⟨aC_NotNow, ⟨qn_NotNow, N_NotNow, bs_NotNow, sn_NotNow, sub_NotNow, ab_NotNow, col_NotNow, dd_NotNow, m0_NotNow, m1_NotNow, m2_NotNow, m3_NotNow, m5_NotNow, xL_NotNow⟩, ⟨ga_NotNow, gg_NotNow, eC_NotNow, hC_NotNow, cc_NotNow, sg, tk, mo_NotNow⟩⟩ (allCl_cons ⟨aC_InvalidText, ⟨qn_InvalidText, N_InvalidText, bs_InvalidText, sn_InvalidText, sub_InvalidText, ab_InvalidText, col_InvalidText, dd_InvalidText, m0_InvalidText, m1_InvalidText, m2_InvalidText, m3_InvalidText, m5_InvalidText, xL_InvalidText⟩, ⟨ga_InvalidText, gg_InvalidText, eC_InvalidText, hC_InvalidText, cc_InvalidText, sg, tk, mo_InvalidText⟩⟩ (allCl_cons ⟨aC_InvalidPlan, ⟨qn_InvalidPlan, N_InvalidPlan, bs_InvalidPlan, sn_InvalidPlan, sub_InvalidPlan, ab_InvalidPlan, col_InvalidPlan, dd_InvalidPlan, m0_InvalidPlan, m1_InvalidPlan, m2_InvalidPlan, m3_InvalidPlan, m5_InvalidPlan, xL_InvalidPlan⟩, ⟨ga_InvalidPlan, gg_InvalidPlan, eC_InvalidPlan, hC_InvalidPlan, cc_InvalidPlan, sg, tk, mo_InvalidPlan⟩⟩ (allCl_cons ⟨aC_Misfit, ⟨qn_Misfit, N_Misfit, bs_Misfit, sn_Misfit, sub_Misfit, ab_Misfit, col_Misfit, dd_Misfit, m0_Misfit, m1_Misfit, m2_Misfit, m3_Misfit, m5_Misfit, xL_Misfit⟩, ⟨ga_Misfit, gg_Misfit, eC_Misfit, hC_Misfit, cc_Misfit, sg, tk, mo_Misfit⟩⟩ (allCl_cons ⟨aC_InvalidCode, ⟨qn_InvalidCode, N_InvalidCode, bs_InvalidCode, sn_InvalidCode, sub_InvalidCode, ab_InvalidCode, col_InvalidCode, dd_InvalidCode, m0_InvalidCode, m1_InvalidCode, m2_InvalidCode, m3_InvalidCode, m5_InvalidCode, xL_InvalidCode⟩, ⟨ga_InvalidCode, gg_InvalidCode, eC_InvalidCode, hC_InvalidCode, cc_InvalidCode, sg, tk, mo_InvalidCode⟩⟩ (allCl_cons ⟨aC_InvalidTower, ⟨qn_InvalidTower, N_InvalidTower, bs_InvalidTower, sn_InvalidTower, sub_InvalidTower, ab_InvalidTower, col_InvalidTower, dd_InvalidTower, m0_InvalidTower, m1_InvalidTower, m2_InvalidTower, m3_InvalidTower, m5_InvalidTower, xL_InvalidTower⟩, ⟨ga_InvalidTower, gg_InvalidTower, eC_InvalidTower, hC_InvalidTower, cc_InvalidTower, sg, tk, mo_InvalidTower⟩⟩ (allCl_cons ⟨aC_InvalidBook, ⟨qn_InvalidBook, N_InvalidBook, bs_InvalidBook, sn_InvalidBook, sub_InvalidBook, ab_InvalidBook, col_InvalidBook, dd_InvalidBook, m0_InvalidBook, m1_InvalidBook, m2_InvalidBook, m3_InvalidBook, m5_InvalidBook, xL_InvalidBook⟩, ⟨ga_InvalidBook, gg_InvalidBook, eC_InvalidBook, hC_InvalidBook, cc_InvalidBook, sg, tk, mo_InvalidBook⟩⟩ (allCl_cons ⟨aC_Broken, ⟨qn_Broken, N_Broken, bs_Broken, sn_Broken, sub_Broken, ab_Broken, col_Broken, dd_Broken, m0_Broken, m1_Broken, m2_Broken, m3_Broken, m5_Broken, xL_Broken⟩, ⟨ga_Broken, gg_Broken, eC_Broken, hC_Broken, cc_Broken, sg, tk, mo_Broken⟩⟩ (allCl_cons ⟨aC_TooMany, ⟨qn_TooMany, N_TooMany, bs_TooMany, sn_TooMany, sub_TooMany, ab_TooMany, col_TooMany, dd_TooMany, m0_TooMany, m1_TooMany, m2_TooMany, m3_TooMany, m5_TooMany, xL_TooMany⟩, ⟨ga_TooMany, gg_TooMany, eC_TooMany, hC_TooMany, cc_TooMany, sg, tk, mo_TooMany⟩⟩ (allCl_cons ⟨aC_NothingToUndo, ⟨qn_NothingToUndo, N_NothingToUndo, bs_NothingToUndo, sn_NothingToUndo, sub_NothingToUndo, ab_NothingToUndo, col_NothingToUndo, dd_NothingToUndo, m0_NothingToUndo, m1_NothingToUndo, m2_NothingToUndo, m3_NothingToUndo, m5_NothingToUndo, xL_NothingToUndo⟩, ⟨ga_NothingToUndo, gg_NothingToUndo, eC_NothingToUndo, hC_NothingToUndo, cc_NothingToUndo, sg, tk, mo_NothingToUndo⟩⟩ (allCl_nil)))))))))))))))))⟩ : Fam K root names)
  exact {
    d__law_pool := def_mk X G a0 l0 c0 k0 (fun _ _ _ _ _ _ us hl => match us, hl with | [_, _], _ => rfl) (fun _ _ _ _ _ _ us hl => match us, hl with | [_, _], _ => rfl),
    d__law_draw := def_mk X G a1 l1 c1 k1 (fun _ _ _ _ _ _ us hl => match us, hl with | [_, _], _ => rfl) (fun _ _ _ _ _ _ us hl => match us, hl with | [_, _], _ => rfl),
    d__law_pick := def_mk X G a2 l2 c2 k2 (fun _ _ _ _ _ _ us hl => match us, hl with | [_, _], _ => rfl) (fun _ _ _ _ _ _ us hl => match us, hl with | [_, _], _ => rfl),
    d__law_words := def_mk X G a3 l3 c3 k3 (fun _ _ _ _ _ _ us hl => match us, hl with | [_], _ => rfl) (fun _ _ _ _ _ _ us hl => match us, hl with | [_], _ => rfl),
    d__law_kept := def_mk X G a4 l4 c4 k4 (fun _ _ _ _ _ _ us hl => match us, hl with | [_, _, _], _ => rfl) (fun _ _ _ _ _ _ us hl => match us, hl with | [_, _, _], _ => rfl),
    d__law_placed := def_mk X G a5 l5 c5 k5 (fun _ _ _ _ _ _ us hl => match us, hl with | [_, _, _], _ => rfl) (fun _ _ _ _ _ _ us hl => match us, hl with | [_, _, _], _ => rfl),
    d__law_stands := def_mk X G a6 l6 c6 k6 (fun _ _ _ _ _ _ us hl => match us, hl with | [_, _], _ => rfl) (fun _ _ _ _ _ _ us hl => match us, hl with | [_, _], _ => rfl),
    d__law_caught := def_mk X G a7 l7 c7 k7 (fun _ _ _ _ _ _ us hl => match us, hl with | [_, _], _ => rfl) (fun _ _ _ _ _ _ us hl => match us, hl with | [_, _], _ => rfl),
    d__law_right := def_mk X G a8 l8 c8 k8 (fun _ _ _ _ _ _ us hl => match us, hl with | [_], _ => rfl) (fun _ _ _ _ _ _ us hl => match us, hl with | [_], _ => rfl),
    d_law := def_mk X G a9 l9 c9 k9 (fun _ _ _ _ _ _ us hl => match us, hl with | [_], _ => rfl) (fun _ _ _ _ _ _ us hl => match us, hl with | [_], _ => rfl),
    n_ValueError := PySem.W.mg_none_of X G z_ValueError,
    n_abs := PySem.W.mg_none_of X G z_abs,
    n_divmod := PySem.W.mg_none_of X G z_divmod,
    n_int := PySem.W.mg_none_of X G z_int,
    n_isinstance := PySem.W.mg_none_of X G z_isinstance,
    n_len := PySem.W.mg_none_of X G z_len,
    n_max := PySem.W.mg_none_of X G z_max,
    n_min := PySem.W.mg_none_of X G z_min,
    n_range := PySem.W.mg_none_of X G z_range,
    n_repr := PySem.W.mg_none_of X G z_repr,
    v_Broken := xv_mk (st := i_Broken) X G aC_Broken ⟨⟨"Broken", qn_Broken, N_Broken, bs_Broken, _, sn_Broken, sub_Broken, ab_Broken, col_Broken, dd_Broken, m0_Broken, m1_Broken, m2_Broken, m3_Broken, m5_Broken, xL_Broken, rfl⟩, sa_Broken, eC_Broken, tC_Broken, kC_Broken⟩ ii_Broken ti_Broken nf_Broken li_Broken ci_Broken ki_Broken ⟨rfl, rfl, rfl, by decide +kernel, rfl, by decide +kernel, by decide +kernel⟩ (fun _ _ _ _ _ _ us hl => match us, hl with | [_, _], _ => rfl) (fun _ _ _ _ _ _ _ _ => rfl) (fun _ _ _ _ _ _ _ _ _ => pss_one (ps_ost (pv 0) (pv 1))),
    v_InvalidBook := xv_mk (st := i_InvalidBook) X G aC_InvalidBook ⟨⟨"InvalidBook", qn_InvalidBook, N_InvalidBook, bs_InvalidBook, _, sn_InvalidBook, sub_InvalidBook, ab_InvalidBook, col_InvalidBook, dd_InvalidBook, m0_InvalidBook, m1_InvalidBook, m2_InvalidBook, m3_InvalidBook, m5_InvalidBook, xL_InvalidBook, rfl⟩, sa_InvalidBook, eC_InvalidBook, tC_InvalidBook, kC_InvalidBook⟩ ii_InvalidBook ti_InvalidBook nf_InvalidBook li_InvalidBook ci_InvalidBook ki_InvalidBook ⟨rfl, rfl, rfl, by decide +kernel, rfl, by decide +kernel, by decide +kernel⟩ (fun _ _ _ _ _ _ us hl => match us, hl with | [_, _], _ => rfl) (fun _ _ _ _ _ _ _ _ => rfl) (fun _ _ _ _ _ _ _ _ _ => pss_one (ps_ost (pv 0) (pv 1))),
    v_InvalidChain := xv_mk (st := i_InvalidChain) X G aC_InvalidChain ⟨⟨"InvalidChain", qn_InvalidChain, N_InvalidChain, bs_InvalidChain, _, sn_InvalidChain, sub_InvalidChain, ab_InvalidChain, col_InvalidChain, dd_InvalidChain, m0_InvalidChain, m1_InvalidChain, m2_InvalidChain, m3_InvalidChain, m5_InvalidChain, xL_InvalidChain, rfl⟩, sa_InvalidChain, eC_InvalidChain, tC_InvalidChain, kC_InvalidChain⟩ ii_InvalidChain ti_InvalidChain nf_InvalidChain li_InvalidChain ci_InvalidChain ki_InvalidChain ⟨rfl, rfl, rfl, by decide +kernel, rfl, by decide +kernel, by decide +kernel⟩ (fun _ _ _ _ _ _ us hl => match us, hl with | [_, _], _ => rfl) (fun _ _ _ _ _ _ _ _ => rfl) (fun _ _ _ _ _ _ _ _ _ => pss_one (ps_ost (pv 0) (pv 1))),
    v_InvalidCode := xv_mk (st := i_InvalidCode) X G aC_InvalidCode ⟨⟨"InvalidCode", qn_InvalidCode, N_InvalidCode, bs_InvalidCode, _, sn_InvalidCode, sub_InvalidCode, ab_InvalidCode, col_InvalidCode, dd_InvalidCode, m0_InvalidCode, m1_InvalidCode, m2_InvalidCode, m3_InvalidCode, m5_InvalidCode, xL_InvalidCode, rfl⟩, sa_InvalidCode, eC_InvalidCode, tC_InvalidCode, kC_InvalidCode⟩ ii_InvalidCode ti_InvalidCode nf_InvalidCode li_InvalidCode ci_InvalidCode ki_InvalidCode ⟨rfl, rfl, rfl, by decide +kernel, rfl, by decide +kernel, by decide +kernel⟩ (fun _ _ _ _ _ _ us hl => match us, hl with | [_, _], _ => rfl) (fun _ _ _ _ _ _ _ _ => rfl) (fun _ _ _ _ _ _ _ _ _ => pss_one (ps_ost (pv 0) (pv 1))),
    v_InvalidFraction := xv_mk (st := i_InvalidFraction) X G aC_InvalidFraction ⟨⟨"InvalidFraction", qn_InvalidFraction, N_InvalidFraction, bs_InvalidFraction, _, sn_InvalidFraction, sub_InvalidFraction, ab_InvalidFraction, col_InvalidFraction, dd_InvalidFraction, m0_InvalidFraction, m1_InvalidFraction, m2_InvalidFraction, m3_InvalidFraction, m5_InvalidFraction, xL_InvalidFraction, rfl⟩, sa_InvalidFraction, eC_InvalidFraction, tC_InvalidFraction, kC_InvalidFraction⟩ ii_InvalidFraction ti_InvalidFraction nf_InvalidFraction li_InvalidFraction ci_InvalidFraction ki_InvalidFraction ⟨rfl, rfl, rfl, by decide +kernel, rfl, by decide +kernel, by decide +kernel⟩ (fun _ _ _ _ _ _ us hl => match us, hl with | [_, _], _ => rfl) (fun _ _ _ _ _ _ _ _ => rfl) (fun _ _ _ _ _ _ _ _ _ => pss_one (ps_ost (pv 0) (pv 1))),
    v_InvalidLine := xv_mk (st := i_InvalidLine) X G aC_InvalidLine ⟨⟨"InvalidLine", qn_InvalidLine, N_InvalidLine, bs_InvalidLine, _, sn_InvalidLine, sub_InvalidLine, ab_InvalidLine, col_InvalidLine, dd_InvalidLine, m0_InvalidLine, m1_InvalidLine, m2_InvalidLine, m3_InvalidLine, m5_InvalidLine, xL_InvalidLine, rfl⟩, sa_InvalidLine, eC_InvalidLine, tC_InvalidLine, kC_InvalidLine⟩ ii_InvalidLine ti_InvalidLine nf_InvalidLine li_InvalidLine ci_InvalidLine ki_InvalidLine ⟨rfl, rfl, rfl, by decide +kernel, rfl, by decide +kernel, by decide +kernel⟩ (fun _ _ _ _ _ _ us hl => match us, hl with | [_, _], _ => rfl) (fun _ _ _ _ _ _ _ _ => rfl) (fun _ _ _ _ _ _ _ _ _ => pss_one (ps_ost (pv 0) (pv 1))),
    v_InvalidNumber := xv_mk (st := i_InvalidNumber) X G aC_InvalidNumber ⟨⟨"InvalidNumber", qn_InvalidNumber, N_InvalidNumber, bs_InvalidNumber, _, sn_InvalidNumber, sub_InvalidNumber, ab_InvalidNumber, col_InvalidNumber, dd_InvalidNumber, m0_InvalidNumber, m1_InvalidNumber, m2_InvalidNumber, m3_InvalidNumber, m5_InvalidNumber, xL_InvalidNumber, rfl⟩, sa_InvalidNumber, eC_InvalidNumber, tC_InvalidNumber, kC_InvalidNumber⟩ ii_InvalidNumber ti_InvalidNumber nf_InvalidNumber li_InvalidNumber ci_InvalidNumber ki_InvalidNumber ⟨rfl, rfl, rfl, by decide +kernel, rfl, by decide +kernel, by decide +kernel⟩ (fun _ _ _ _ _ _ us hl => match us, hl with | [_, _], _ => rfl) (fun _ _ _ _ _ _ _ _ => rfl) (fun _ _ _ _ _ _ _ _ _ => pss_one (ps_ost (pv 0) (pv 1))),
    v_InvalidPlan := xv_mk (st := i_InvalidPlan) X G aC_InvalidPlan ⟨⟨"InvalidPlan", qn_InvalidPlan, N_InvalidPlan, bs_InvalidPlan, _, sn_InvalidPlan, sub_InvalidPlan, ab_InvalidPlan, col_InvalidPlan, dd_InvalidPlan, m0_InvalidPlan, m1_InvalidPlan, m2_InvalidPlan, m3_InvalidPlan, m5_InvalidPlan, xL_InvalidPlan, rfl⟩, sa_InvalidPlan, eC_InvalidPlan, tC_InvalidPlan, kC_InvalidPlan⟩ ii_InvalidPlan ti_InvalidPlan nf_InvalidPlan li_InvalidPlan ci_InvalidPlan ki_InvalidPlan ⟨rfl, rfl, rfl, by decide +kernel, rfl, by decide +kernel, by decide +kernel⟩ (fun _ _ _ _ _ _ us hl => match us, hl with | [_, _], _ => rfl) (fun _ _ _ _ _ _ _ _ => rfl) (fun _ _ _ _ _ _ _ _ _ => pss_one (ps_ost (pv 0) (pv 1))),
    v_InvalidPoly := xv_mk (st := i_InvalidPoly) X G aC_InvalidPoly ⟨⟨"InvalidPoly", qn_InvalidPoly, N_InvalidPoly, bs_InvalidPoly, _, sn_InvalidPoly, sub_InvalidPoly, ab_InvalidPoly, col_InvalidPoly, dd_InvalidPoly, m0_InvalidPoly, m1_InvalidPoly, m2_InvalidPoly, m3_InvalidPoly, m5_InvalidPoly, xL_InvalidPoly, rfl⟩, sa_InvalidPoly, eC_InvalidPoly, tC_InvalidPoly, kC_InvalidPoly⟩ ii_InvalidPoly ti_InvalidPoly nf_InvalidPoly li_InvalidPoly ci_InvalidPoly ki_InvalidPoly ⟨rfl, rfl, rfl, by decide +kernel, rfl, by decide +kernel, by decide +kernel⟩ (fun _ _ _ _ _ _ us hl => match us, hl with | [_, _], _ => rfl) (fun _ _ _ _ _ _ _ _ => rfl) (fun _ _ _ _ _ _ _ _ _ => pss_one (ps_ost (pv 0) (pv 1))),
    v_InvalidText := xv_mk (st := i_InvalidText) X G aC_InvalidText ⟨⟨"InvalidText", qn_InvalidText, N_InvalidText, bs_InvalidText, _, sn_InvalidText, sub_InvalidText, ab_InvalidText, col_InvalidText, dd_InvalidText, m0_InvalidText, m1_InvalidText, m2_InvalidText, m3_InvalidText, m5_InvalidText, xL_InvalidText, rfl⟩, sa_InvalidText, eC_InvalidText, tC_InvalidText, kC_InvalidText⟩ ii_InvalidText ti_InvalidText nf_InvalidText li_InvalidText ci_InvalidText ki_InvalidText ⟨rfl, rfl, rfl, by decide +kernel, rfl, by decide +kernel, by decide +kernel⟩ (fun _ _ _ _ _ _ us hl => match us, hl with | [_, _], _ => rfl) (fun _ _ _ _ _ _ _ _ => rfl) (fun _ _ _ _ _ _ _ _ _ => pss_one (ps_ost (pv 0) (pv 1))),
    v_InvalidTower := xv_mk (st := i_InvalidTower) X G aC_InvalidTower ⟨⟨"InvalidTower", qn_InvalidTower, N_InvalidTower, bs_InvalidTower, _, sn_InvalidTower, sub_InvalidTower, ab_InvalidTower, col_InvalidTower, dd_InvalidTower, m0_InvalidTower, m1_InvalidTower, m2_InvalidTower, m3_InvalidTower, m5_InvalidTower, xL_InvalidTower, rfl⟩, sa_InvalidTower, eC_InvalidTower, tC_InvalidTower, kC_InvalidTower⟩ ii_InvalidTower ti_InvalidTower nf_InvalidTower li_InvalidTower ci_InvalidTower ki_InvalidTower ⟨rfl, rfl, rfl, by decide +kernel, rfl, by decide +kernel, by decide +kernel⟩ (fun _ _ _ _ _ _ us hl => match us, hl with | [_, _], _ => rfl) (fun _ _ _ _ _ _ _ _ => rfl) (fun _ _ _ _ _ _ _ _ _ => pss_one (ps_ost (pv 0) (pv 1))),
    v_InvalidValue := xv_mk (st := i_InvalidValue) X G aC_InvalidValue ⟨⟨"InvalidValue", qn_InvalidValue, N_InvalidValue, bs_InvalidValue, _, sn_InvalidValue, sub_InvalidValue, ab_InvalidValue, col_InvalidValue, dd_InvalidValue, m0_InvalidValue, m1_InvalidValue, m2_InvalidValue, m3_InvalidValue, m5_InvalidValue, xL_InvalidValue, rfl⟩, sa_InvalidValue, eC_InvalidValue, tC_InvalidValue, kC_InvalidValue⟩ ii_InvalidValue ti_InvalidValue nf_InvalidValue li_InvalidValue ci_InvalidValue ki_InvalidValue ⟨rfl, rfl, rfl, by decide +kernel, rfl, by decide +kernel, by decide +kernel⟩ (fun _ _ _ _ _ _ us hl => match us, hl with | [_, _], _ => rfl) (fun _ _ _ _ _ _ _ _ => rfl) (fun _ _ _ _ _ _ _ _ _ => pss_one (ps_ost (pv 0) (pv 1))),
    v_Misfit := xv_mk (st := i_Misfit) X G aC_Misfit ⟨⟨"Misfit", qn_Misfit, N_Misfit, bs_Misfit, _, sn_Misfit, sub_Misfit, ab_Misfit, col_Misfit, dd_Misfit, m0_Misfit, m1_Misfit, m2_Misfit, m3_Misfit, m5_Misfit, xL_Misfit, rfl⟩, sa_Misfit, eC_Misfit, tC_Misfit, kC_Misfit⟩ ii_Misfit ti_Misfit nf_Misfit li_Misfit ci_Misfit ki_Misfit ⟨rfl, rfl, rfl, by decide +kernel, rfl, by decide +kernel, by decide +kernel⟩ (fun _ _ _ _ _ _ us hl => match us, hl with | [_, _], _ => rfl) (fun _ _ _ _ _ _ _ _ => rfl) (fun _ _ _ _ _ _ _ _ _ => pss_one (ps_ost (pv 0) (pv 1))),
    v_NotADesk := xv_mk (st := i_NotADesk) X G aC_NotADesk ⟨⟨"NotADesk", qn_NotADesk, N_NotADesk, bs_NotADesk, _, sn_NotADesk, sub_NotADesk, ab_NotADesk, col_NotADesk, dd_NotADesk, m0_NotADesk, m1_NotADesk, m2_NotADesk, m3_NotADesk, m5_NotADesk, xL_NotADesk, rfl⟩, sa_NotADesk, eC_NotADesk, tC_NotADesk, kC_NotADesk⟩ ii_NotADesk ti_NotADesk nf_NotADesk li_NotADesk ci_NotADesk ki_NotADesk ⟨rfl, rfl, rfl, by decide +kernel, rfl, by decide +kernel, by decide +kernel⟩ (fun _ _ _ _ _ _ us hl => match us, hl with | [_, _], _ => rfl) (fun _ _ _ _ _ _ _ _ => rfl) (fun _ _ _ _ _ _ _ _ _ => pss_one (ps_ost (pv 0) (pv 1))),
    v_NotNow := xv_mk (st := i_NotNow) X G aC_NotNow ⟨⟨"NotNow", qn_NotNow, N_NotNow, bs_NotNow, _, sn_NotNow, sub_NotNow, ab_NotNow, col_NotNow, dd_NotNow, m0_NotNow, m1_NotNow, m2_NotNow, m3_NotNow, m5_NotNow, xL_NotNow, rfl⟩, sa_NotNow, eC_NotNow, tC_NotNow, kC_NotNow⟩ ii_NotNow ti_NotNow nf_NotNow li_NotNow ci_NotNow ki_NotNow ⟨rfl, rfl, rfl, by decide +kernel, rfl, by decide +kernel, by decide +kernel⟩ (fun _ _ _ _ _ _ us hl => match us, hl with | [_, _], _ => rfl) (fun _ _ _ _ _ _ _ _ => rfl) (fun _ _ _ _ _ _ _ _ _ => pss_one (ps_ost (pv 0) (pv 1))),
    z_NothingToUndo := ⟨C_NothingToUndo, aC_NothingToUndo, PySem.W.mg_of X G aC_NothingToUndo, kC_NothingToUndo, q_NothingToUndo⟩,
    z_PlanError := ⟨C_PlanError, aC_PlanError, PySem.W.mg_of X G aC_PlanError, kC_PlanError, q_PlanError⟩,
    z_TooMany := ⟨C_TooMany, aC_TooMany, PySem.W.mg_of X G aC_TooMany, kC_TooMany, q_TooMany⟩,
    i_Broken := ⟨C_Broken, PySem.W.mg_of X G aC_Broken, isF_own fam (by decide +kernel) aC_Broken⟩,
    i_InvalidBook := ⟨C_InvalidBook, PySem.W.mg_of X G aC_InvalidBook, isF_own fam (by decide +kernel) aC_InvalidBook⟩,
    i_InvalidChain := ⟨C_InvalidChain, PySem.W.mg_of X G aC_InvalidChain, isF_own fam (by decide +kernel) aC_InvalidChain⟩,
    i_InvalidCode := ⟨C_InvalidCode, PySem.W.mg_of X G aC_InvalidCode, isF_own fam (by decide +kernel) aC_InvalidCode⟩,
    i_InvalidFraction := ⟨C_InvalidFraction, PySem.W.mg_of X G aC_InvalidFraction, isF_own fam (by decide +kernel) aC_InvalidFraction⟩,
    i_InvalidLine := ⟨C_InvalidLine, PySem.W.mg_of X G aC_InvalidLine, isF_own fam (by decide +kernel) aC_InvalidLine⟩,
    i_InvalidNumber := ⟨C_InvalidNumber, PySem.W.mg_of X G aC_InvalidNumber, isF_own fam (by decide +kernel) aC_InvalidNumber⟩,
    i_InvalidPlan := ⟨C_InvalidPlan, PySem.W.mg_of X G aC_InvalidPlan, isF_own fam (by decide +kernel) aC_InvalidPlan⟩,
    i_InvalidPoly := ⟨C_InvalidPoly, PySem.W.mg_of X G aC_InvalidPoly, isF_own fam (by decide +kernel) aC_InvalidPoly⟩,
    i_InvalidText := ⟨C_InvalidText, PySem.W.mg_of X G aC_InvalidText, isF_own fam (by decide +kernel) aC_InvalidText⟩,
    i_InvalidTower := ⟨C_InvalidTower, PySem.W.mg_of X G aC_InvalidTower, isF_own fam (by decide +kernel) aC_InvalidTower⟩,
    i_InvalidValue := ⟨C_InvalidValue, PySem.W.mg_of X G aC_InvalidValue, isF_own fam (by decide +kernel) aC_InvalidValue⟩,
    i_Misfit := ⟨C_Misfit, PySem.W.mg_of X G aC_Misfit, isF_own fam (by decide +kernel) aC_Misfit⟩,
    i_NotADesk := ⟨C_NotADesk, PySem.W.mg_of X G aC_NotADesk, isF_own fam (by decide +kernel) aC_NotADesk⟩,
    i_NotNow := ⟨C_NotNow, PySem.W.mg_of X G aC_NotNow, isF_own fam (by decide +kernel) aC_NotNow⟩,
    i_NothingToUndo := ⟨C_NothingToUndo, PySem.W.mg_of X G aC_NothingToUndo, isF_own fam (by decide +kernel) aC_NothingToUndo⟩,
    i_PlanError := ⟨C_PlanError, PySem.W.mg_of X G aC_PlanError, isF_own fam (by decide +kernel) aC_PlanError⟩,
    i_TooMany := ⟨C_TooMany, PySem.W.mg_of X G aC_TooMany, isF_own fam (by decide +kernel) aC_TooMany⟩,
    f_given := fldF_cons aC_InvalidValue ⟨ga_InvalidValue, gg_InvalidValue, eC_InvalidValue, hC_InvalidValue⟩ nf_InvalidValue (fldF_cons aC_InvalidPoly ⟨ga_InvalidPoly, gg_InvalidPoly, eC_InvalidPoly, hC_InvalidPoly⟩ nf_InvalidPoly (fldF_cons aC_InvalidChain ⟨ga_InvalidChain, gg_InvalidChain, eC_InvalidChain, hC_InvalidChain⟩ nf_InvalidChain (fldF_cons aC_InvalidFraction ⟨ga_InvalidFraction, gg_InvalidFraction, eC_InvalidFraction, hC_InvalidFraction⟩ nf_InvalidFraction (fldF_cons aC_InvalidNumber ⟨ga_InvalidNumber, gg_InvalidNumber, eC_InvalidNumber, hC_InvalidNumber⟩ nf_InvalidNumber (fldF_cons aC_InvalidLine ⟨ga_InvalidLine, gg_InvalidLine, eC_InvalidLine, hC_InvalidLine⟩ nf_InvalidLine (fldF_cons aC_NotADesk ⟨ga_NotADesk, gg_NotADesk, eC_NotADesk, hC_NotADesk⟩ nf_NotADesk (fldF_cons aC_NotNow ⟨ga_NotNow, gg_NotNow, eC_NotNow, hC_NotNow⟩ nf_NotNow (fldF_nil)))))))),
    f_index := fldF_cons aC_InvalidText ⟨ga_InvalidText, gg_InvalidText, eC_InvalidText, hC_InvalidText⟩ nf_InvalidText (fldF_cons aC_InvalidPlan ⟨ga_InvalidPlan, gg_InvalidPlan, eC_InvalidPlan, hC_InvalidPlan⟩ nf_InvalidPlan (fldF_cons aC_Misfit ⟨ga_Misfit, gg_Misfit, eC_Misfit, hC_Misfit⟩ nf_Misfit (fldF_cons aC_InvalidCode ⟨ga_InvalidCode, gg_InvalidCode, eC_InvalidCode, hC_InvalidCode⟩ nf_InvalidCode (fldF_cons aC_InvalidTower ⟨ga_InvalidTower, gg_InvalidTower, eC_InvalidTower, hC_InvalidTower⟩ nf_InvalidTower (fldF_cons aC_InvalidBook ⟨ga_InvalidBook, gg_InvalidBook, eC_InvalidBook, hC_InvalidBook⟩ nf_InvalidBook (fldF_cons aC_Broken ⟨ga_Broken, gg_Broken, eC_Broken, hC_Broken⟩ nf_Broken (fldF_nil))))))),
    i_VE := isF_ve fam,
    cat := ⟨C_PlanError, PySem.W.mg_of X G aC_PlanError, catF_own X G fam (by decide +kernel) aC_PlanError⟩ }
end K00
end DL
set_option Elab.async false
set_option linter.all false
set_option maxRecDepth 100000
set_option maxHeartbeats 2000000
set_option autoImplicit false
/-! K00B: the draws, in plain Lean. -/
namespace DL
open PySem PySem.Spec PyProof.Rows L2
@[simp] theorem gAdd_i {a b : Int} : gAdd (.int a) (.int b) = some (.int (a + b)) := rfl
theorem gAdd_s {a b : Str} : gAdd (.str a) (.str b) = if a.length + b.length ≤ 16777216 then some (.str (a ++ b)) else none := rfl
@[simp] theorem gAdd_t {a b : List D} : gAdd (.tuple a) (.tuple b) = if a.length + b.length ≤ 100000 then some (.tuple (a ++ b)) else none := rfl
@[simp] theorem gSub_i {a b : Int} : gSub (.int a) (.int b) = some (.int (a - b)) := rfl
@[simp] theorem gMul_i {a b : Int} : gMulA (.int a) (.int b) = if (-(2 ^ 64) < a ∧ a < 2 ^ 64) ∨ (-(2 ^ 64) < b ∧ b < 2 ^ 64) then some (.int (a * b)) else none := rfl
@[simp] theorem gMul_s {a : Str} {b : Int} : gMulA (.str a) (.int b) = if a.length ≤ 16 ∧ 0 ≤ b ∧ b ≤ 1048576 then some (.str (Txt.mul a b)) else none := rfl
@[simp] theorem gDiv_i {a b : Int} : gDiv (.int a) (.int b) = if 0 < b ∧ b < 2 ^ 4000 then some (.int (a / b)) else none := rfl
@[simp] theorem gMod_i {a b : Int} : gMod (.int a) (.int b) = if 0 < b then some (.int (a % b)) else none := rfl
@[simp] theorem gPow_i {a b : Int} : gPow (.int a) (.int b) = if 0 ≤ b ∧ b ≤ 1000000 ∧ a.natAbs < 2 ^ 64 then some (.int (a ^ b.toNat)) else none := rfl
@[simp] theorem gLt_i {a b : Int} : gLt (.int a) (.int b) = some (.bool (decide (a < b))) := rfl
@[simp] theorem gLe_i {a b : Int} : gLe (.int a) (.int b) = some (.bool (decide (a ≤ b))) := rfl
@[simp] theorem gGt_i {a b : Int} : gGt (.int a) (.int b) = some (.bool (decide (b < a))) := rfl
@[simp] theorem gGe_i {a b : Int} : gGe (.int a) (.int b) = some (.bool (decide (b ≤ a))) := rfl
@[simp] theorem gEq_i {a b : Int} : gEq (.int a) (.int b) = some (.bool (decide (a = b))) := by
  show (eqB (.int a) (.int b)).map PyData.bool = _
  unfold eqB
  rw [if_pos (by rfl)]
  simp [vOf]
@[simp] theorem gEq_s {a b : Str} : gEq (.str a) (.str b) = some (.bool (decide (a = b))) := by
  show (eqB (.str a) (.str b)).map PyData.bool = _
  unfold eqB
  rw [if_pos (by rfl)]
  simp [vOf]
@[simp] theorem gNe_s {a b : Str} : gNe (.str a) (.str b) = some (.bool (!decide (a = b))) := by
  show (eqB (.str a) (.str b)).map (fun k => PyData.bool (!k)) = _
  unfold eqB
  rw [if_pos (by rfl)]
  simp [vOf]
@[simp] theorem gInt_i {a : Int} : gInt [.int a] = some (.int a) := rfl
@[simp] theorem gAbs_i {a : Int} : gAbs [.int a] = some (.int (if a < 0 then -a else a)) := rfl
@[simp] theorem gMax_i {a b : Int} : gMax [.int a, .int b] = some (.int (if b > a then b else a)) := rfl
@[simp] theorem gMin_i {a b : Int} : gMin [.int a, .int b] = some (.int (if b < a then b else a)) := rfl
@[simp] theorem gDivmod_i {a b : Int} : gDivmod [.int a, .int b] = if 0 < b ∧ b < 2 ^ 4000 then some (.tuple [.int (a / b), .int (a % b)]) else none := rfl
@[simp] theorem gLen_l {a : List D} : gLen [.list a] = some (.int (a.length : Nat)) := rfl
@[simp] theorem gLen_t {a : List D} : gLen [.tuple a] = some (.int (a.length : Nat)) := rfl
@[simp] theorem gLen_s {z : Str} : gLen [.str z] = if z.length ≤ 16777216 then some (.int (z.length : Nat)) else none := rfl
@[simp] theorem gTup_i {a : List D} : gTup a = if a.length ≤ 100000 then some (.tuple a) else none := rfl
@[simp] theorem gLst_i {a : List D} : gLst a = if a.length ≤ 100000 then some (.list a) else none := rfl
@[simp] theorem gIx_l {a : List D} {i : Int} : gIx (.list a) (.int i) = atI a i := rfl
@[simp] theorem gIx_t {a : List D} {i : Int} : gIx (.tuple a) (.int i) = atI a i := rfl
@[simp] theorem gTuple_l {a : List D} : gTuple [.list a] = some (.tuple a) := rfl
@[simp] theorem subT_0 {ρ : Rh} {ds : List D} {k : Int} {d : D} {P : Rh → Prop} : oP (subT 0 k d (some (.own ds) :: ρ)) P ↔ oP (ixN ds.length k) fun j => P (some (.own (ds.set j d)) :: ρ) := by
  show oP ((ixN ds.length k).map fun j => (some (.own ds) :: ρ).set 0 (some (.own (ds.set j d)))) P ↔ _
  rw [oP_map]
  rfl
@[simp] theorem nameT_i {i : Nat} {d : D} {ρ : Rh} : nameT i d ρ = some (ρ.set i (some (.dat d))) := rfl
@[simp] theorem tupT_i {n : Nat} {ds : List D} {f : List D → Rh → Option Rh} {ρ : Rh} {P : Rh → Prop} : oP (tupT n f (.tuple ds) ρ) P ↔ ds.length = n ∧ oP (f ds ρ) P := by
  show oP (if ds.length = n then f ds ρ else none) P ↔ _
  by_cases h : ds.length = n <;> simp [h]
@[simp] theorem consT_i {m : TGM} {d : D} {r : List D} {f : List D → Rh → Option Rh} {ρ : Rh} : consT m f (d :: r) ρ = (m d ρ).bind fun ρ1 => f r ρ1 := rfl
@[simp] theorem nilT_i {ρ : Rh} : nilT [] ρ = some ρ := rfl
namespace K00
/-- a pool of draws -/
def Good (ps : List D) : Prop := ∃ a b c : Int, ps = [.int a, .int b, .int c] ∧ 0 ≤ a ∧ 0 ≤ b
@[simp] theorem ixN_30 : ixN 3 0 = some 0 := rfl
@[simp] theorem ixN_31 : ixN 3 1 = some 1 := rfl
@[simp] theorem ixN_32 : ixN 3 2 = some 2 := rfl
@[simp] theorem at_30 {a b c : D} : atI [a, b, c] 0 = some a := rfl
@[simp] theorem at_31 {a b c : D} : atI [a, b, c] 1 = some b := rfl
@[simp] theorem at_32 {a b c : D} : atI [a, b, c] 2 = some c := rfl
theorem draw {ps : List D} {n : Int} {Φ : Val → List Slot → Prop} (G : Good ps) (h0 : 0 < n) (h1 : n < 2 ^ 4000) (k : ∀ (r : Int) (ps' : List D), 0 ≤ r → r < n → Good ps' → Φ (.d (.int r)) [.own ps', .dat (.int n)]) : pF f__law_draw [.own ps, .dat (.int n)] Φ := by
  obtain ⟨a, b, c, rfl, ha, hb⟩ := G
  refine pf_fn ?_
  unfold b__law_draw
  simp only [List.map_cons, List.map_nil, List.length_cons, List.length_nil, argsRh]
  rw [wS_seq]
  refine ws_if ?_
  simp
  by_cases hb0 : 0 < b
  · rw [if_pos hb0]
    refine ws_asg ?_
    simp [h0, h1]
    refine ws_ret ?_
    simp
    exact k _ _ (Int.emod_nonneg _ (by omega)) (Int.emod_lt_of_pos _ h0) ⟨_, _, _, rfl, ha, Int.ediv_nonneg hb (by omega)⟩
  · rw [if_neg hb0]
    refine ws_asg ?_
    simp
    refine ws_asg ?_
    simp
    refine ws_asg ?_
    simp
    refine ⟨?_, ?_⟩
    · have := Int.emod_nonneg a (b := 20011) (by omega)
      have := Int.emod_lt_of_pos a (b := 20011) (by omega)
      omega
    · refine ws_ret ?_
      simp [h0]
      exact ⟨by omega, k _ _ (Int.emod_nonneg _ (by omega)) (Int.emod_lt_of_pos _ h0) ⟨_, _, _, rfl, Int.emod_nonneg _ (by decide : (2147483489 : Int) ≠ 0), hb⟩⟩
theorem pick {ps xs : List D} {Φ : Val → List Slot → Prop} (G : Good ps) (h0 : 0 < xs.length) (h1 : xs.length < 2 ^ 100) (k : ∀ (d : D) (ps' : List D), d ∈ xs → Good ps' → Φ (.d d) [.own ps', .dat (.list xs)]) : pF f__law_pick [.own ps, .dat (.list xs)] Φ := by
  refine pf_fn ?_
  unfold b__law_pick
  refine ws_ret ?_
  simp
  refine draw G (by omega) (by omega) fun r ps' r0 r1 G' => ?_
  simp
  have hr : r.toNat < xs.length := by omega
  have e : r = ((r.toNat : Nat) : Int) := by omega
  rw [e, atI_nat (v := xs[r.toNat]) (List.getElem?_eq_getElem hr)]
  simp
  exact k _ _ (List.getElem_mem hr) G'
end K00
end DL
set_option Elab.async false
set_option linter.all false
set_option maxRecDepth 100000
set_option maxHeartbeats 4000000
set_option autoImplicit false
/-! K00P: errors stand (printed by gen00.py). -/
namespace DL
namespace K00
open PySem PySem.Spec PyProof.Rows L2
@[simp] theorem ofS_inj {a b : String} : Str.ofString a = Str.ofString b ↔ a = b := by
  constructor
  · intro h
    rw [Str.ofString_eq_toList, Str.ofString_eq_toList] at h
    have h1 : (a.toList.map Char.toNat) = b.toList.map Char.toNat := by simpa using congrArg (fun z : Str => z.cps.toList) h
    have h2 : a.toList = b.toList := (List.map_inj_right (fun x y e => Char.ext (UInt32.toNat_inj.mp e))).mp h1
    exact String.toList_inj.mp h2
  · intro h; rw [h]
theorem w_InvalidValue {r : List (D × D)} : f__law_words [.dat (.dict ((.bool true, .str "InvalidValue") :: r))] = .ok (.d (.list [.str "InvalidValue"])) [.dat (.dict ((.bool true, .str "InvalidValue") :: r))] := by
  simp [f__law_words, b__law_words, gAdd, fnM, seqM, asgM, bindS, op2, op1, bindE, iteM, ifM, nextM, andM, orM, notM, varM, opL, bindL, consL, nilL, conM, gIsX, tblC, tblV, root, names, liftD, gLst, nameT, retM, backS, argsRh, callD, datL, mkXM]
theorem w_InvalidPoly {r : List (D × D)} : f__law_words [.dat (.dict ((.bool true, .str "InvalidPoly") :: r))] = .ok (.d (.list [.str "InvalidPoly"])) [.dat (.dict ((.bool true, .str "InvalidPoly") :: r))] := by
  simp [f__law_words, b__law_words, gAdd, fnM, seqM, asgM, bindS, op2, op1, bindE, iteM, ifM, nextM, andM, orM, notM, varM, opL, bindL, consL, nilL, conM, gIsX, tblC, tblV, root, names, liftD, gLst, nameT, retM, backS, argsRh, callD, datL, mkXM]
theorem w_InvalidChain {r : List (D × D)} : f__law_words [.dat (.dict ((.bool true, .str "InvalidChain") :: r))] = .ok (.d (.list [.str "InvalidChain"])) [.dat (.dict ((.bool true, .str "InvalidChain") :: r))] := by
  simp [f__law_words, b__law_words, gAdd, fnM, seqM, asgM, bindS, op2, op1, bindE, iteM, ifM, nextM, andM, orM, notM, varM, opL, bindL, consL, nilL, conM, gIsX, tblC, tblV, root, names, liftD, gLst, nameT, retM, backS, argsRh, callD, datL, mkXM]
theorem w_InvalidFraction {r : List (D × D)} : f__law_words [.dat (.dict ((.bool true, .str "InvalidFraction") :: r))] = .ok (.d (.list [.str "InvalidFraction"])) [.dat (.dict ((.bool true, .str "InvalidFraction") :: r))] := by
  simp [f__law_words, b__law_words, gAdd, fnM, seqM, asgM, bindS, op2, op1, bindE, iteM, ifM, nextM, andM, orM, notM, varM, opL, bindL, consL, nilL, conM, gIsX, tblC, tblV, root, names, liftD, gLst, nameT, retM, backS, argsRh, callD, datL, mkXM]
theorem w_InvalidNumber {r : List (D × D)} : f__law_words [.dat (.dict ((.bool true, .str "InvalidNumber") :: r))] = .ok (.d (.list [.str "InvalidNumber"])) [.dat (.dict ((.bool true, .str "InvalidNumber") :: r))] := by
  simp [f__law_words, b__law_words, gAdd, fnM, seqM, asgM, bindS, op2, op1, bindE, iteM, ifM, nextM, andM, orM, notM, varM, opL, bindL, consL, nilL, conM, gIsX, tblC, tblV, root, names, liftD, gLst, nameT, retM, backS, argsRh, callD, datL, mkXM]
theorem w_InvalidLine {r : List (D × D)} : f__law_words [.dat (.dict ((.bool true, .str "InvalidLine") :: r))] = .ok (.d (.list [.str "InvalidLine"])) [.dat (.dict ((.bool true, .str "InvalidLine") :: r))] := by
  simp [f__law_words, b__law_words, gAdd, fnM, seqM, asgM, bindS, op2, op1, bindE, iteM, ifM, nextM, andM, orM, notM, varM, opL, bindL, consL, nilL, conM, gIsX, tblC, tblV, root, names, liftD, gLst, nameT, retM, backS, argsRh, callD, datL, mkXM]
theorem w_NotADesk {r : List (D × D)} : f__law_words [.dat (.dict ((.bool true, .str "NotADesk") :: r))] = .ok (.d (.list [.str "NotADesk"])) [.dat (.dict ((.bool true, .str "NotADesk") :: r))] := by
  simp [f__law_words, b__law_words, gAdd, fnM, seqM, asgM, bindS, op2, op1, bindE, iteM, ifM, nextM, andM, orM, notM, varM, opL, bindL, consL, nilL, conM, gIsX, tblC, tblV, root, names, liftD, gLst, nameT, retM, backS, argsRh, callD, datL, mkXM]
theorem w_NotNow {r : List (D × D)} : f__law_words [.dat (.dict ((.bool true, .str "NotNow") :: r))] = .ok (.d (.list [.str "NotNow"])) [.dat (.dict ((.bool true, .str "NotNow") :: r))] := by
  simp [f__law_words, b__law_words, gAdd, fnM, seqM, asgM, bindS, op2, op1, bindE, iteM, ifM, nextM, andM, orM, notM, varM, opL, bindL, consL, nilL, conM, gIsX, tblC, tblV, root, names, liftD, gLst, nameT, retM, backS, argsRh, callD, datL, mkXM]
theorem w_InvalidText {r : List (D × D)} : f__law_words [.dat (.dict ((.bool true, .str "InvalidText") :: r))] = .ok (.d (.list [.str "InvalidText"])) [.dat (.dict ((.bool true, .str "InvalidText") :: r))] := by
  simp [f__law_words, b__law_words, gAdd, fnM, seqM, asgM, bindS, op2, op1, bindE, iteM, ifM, nextM, andM, orM, notM, varM, opL, bindL, consL, nilL, conM, gIsX, tblC, tblV, root, names, liftD, gLst, nameT, retM, backS, argsRh, callD, datL, mkXM]
theorem w_InvalidPlan {r : List (D × D)} : f__law_words [.dat (.dict ((.bool true, .str "InvalidPlan") :: r))] = .ok (.d (.list [.str "InvalidPlan"])) [.dat (.dict ((.bool true, .str "InvalidPlan") :: r))] := by
  simp [f__law_words, b__law_words, gAdd, fnM, seqM, asgM, bindS, op2, op1, bindE, iteM, ifM, nextM, andM, orM, notM, varM, opL, bindL, consL, nilL, conM, gIsX, tblC, tblV, root, names, liftD, gLst, nameT, retM, backS, argsRh, callD, datL, mkXM]
theorem w_Misfit {r : List (D × D)} : f__law_words [.dat (.dict ((.bool true, .str "Misfit") :: r))] = .ok (.d (.list [.str "Misfit"])) [.dat (.dict ((.bool true, .str "Misfit") :: r))] := by
  simp [f__law_words, b__law_words, gAdd, fnM, seqM, asgM, bindS, op2, op1, bindE, iteM, ifM, nextM, andM, orM, notM, varM, opL, bindL, consL, nilL, conM, gIsX, tblC, tblV, root, names, liftD, gLst, nameT, retM, backS, argsRh, callD, datL, mkXM]
theorem w_InvalidCode {r : List (D × D)} : f__law_words [.dat (.dict ((.bool true, .str "InvalidCode") :: r))] = .ok (.d (.list [.str "InvalidCode"])) [.dat (.dict ((.bool true, .str "InvalidCode") :: r))] := by
  simp [f__law_words, b__law_words, gAdd, fnM, seqM, asgM, bindS, op2, op1, bindE, iteM, ifM, nextM, andM, orM, notM, varM, opL, bindL, consL, nilL, conM, gIsX, tblC, tblV, root, names, liftD, gLst, nameT, retM, backS, argsRh, callD, datL, mkXM]
theorem w_InvalidTower {r : List (D × D)} : f__law_words [.dat (.dict ((.bool true, .str "InvalidTower") :: r))] = .ok (.d (.list [.str "InvalidTower"])) [.dat (.dict ((.bool true, .str "InvalidTower") :: r))] := by
  simp [f__law_words, b__law_words, gAdd, fnM, seqM, asgM, bindS, op2, op1, bindE, iteM, ifM, nextM, andM, orM, notM, varM, opL, bindL, consL, nilL, conM, gIsX, tblC, tblV, root, names, liftD, gLst, nameT, retM, backS, argsRh, callD, datL, mkXM]
theorem w_InvalidBook {r : List (D × D)} : f__law_words [.dat (.dict ((.bool true, .str "InvalidBook") :: r))] = .ok (.d (.list [.str "InvalidBook"])) [.dat (.dict ((.bool true, .str "InvalidBook") :: r))] := by
  simp [f__law_words, b__law_words, gAdd, fnM, seqM, asgM, bindS, op2, op1, bindE, iteM, ifM, nextM, andM, orM, notM, varM, opL, bindL, consL, nilL, conM, gIsX, tblC, tblV, root, names, liftD, gLst, nameT, retM, backS, argsRh, callD, datL, mkXM]
theorem w_Broken {r : List (D × D)} : f__law_words [.dat (.dict ((.bool true, .str "Broken") :: r))] = .ok (.d (.list [.str "Broken"])) [.dat (.dict ((.bool true, .str "Broken") :: r))] := by
  simp [f__law_words, b__law_words, gAdd, fnM, seqM, asgM, bindS, op2, op1, bindE, iteM, ifM, nextM, andM, orM, notM, varM, opL, bindL, consL, nilL, conM, gIsX, tblC, tblV, root, names, liftD, gLst, nameT, retM, backS, argsRh, callD, datL, mkXM]
theorem w_TooMany {r : List (D × D)} : f__law_words [.dat (.dict ((.bool true, .str "TooMany") :: r))] = .ok (.d (.list [.str "TooMany"])) [.dat (.dict ((.bool true, .str "TooMany") :: r))] := by
  simp [f__law_words, b__law_words, gAdd, fnM, seqM, asgM, bindS, op2, op1, bindE, iteM, ifM, nextM, andM, orM, notM, varM, opL, bindL, consL, nilL, conM, gIsX, tblC, tblV, root, names, liftD, gLst, nameT, retM, backS, argsRh, callD, datL, mkXM]
theorem w_NothingToUndo {r : List (D × D)} : f__law_words [.dat (.dict ((.bool true, .str "NothingToUndo") :: r))] = .ok (.d (.list [.str "NothingToUndo"])) [.dat (.dict ((.bool true, .str "NothingToUndo") :: r))] := by
  simp [f__law_words, b__law_words, gAdd, fnM, seqM, asgM, bindS, op2, op1, bindE, iteM, ifM, nextM, andM, orM, notM, varM, opL, bindL, consL, nilL, conM, gIsX, tblC, tblV, root, names, liftD, gLst, nameT, retM, backS, argsRh, callD, datL, mkXM]
theorem w_PlanError {r : List (D × D)} : f__law_words [.dat (.dict ((.bool true, .str "PlanError") :: r))] = .ok (.d (.list [])) [.dat (.dict ((.bool true, .str "PlanError") :: r))] := by
  simp [f__law_words, b__law_words, gAdd, fnM, seqM, asgM, bindS, op2, op1, bindE, iteM, ifM, nextM, andM, orM, notM, varM, opL, bindL, consL, nilL, conM, gIsX, tblC, tblV, root, names, liftD, gLst, nameT, retM, backS, argsRh, callD, datL, mkXM]
theorem e_InvalidValue : gEq (.list [.str "InvalidValue"]) (.list [.str "InvalidValue"]) = some (.bool true) := by
  have : eqB (.list [.str "InvalidValue"]) (.list [.str "InvalidValue"]) = some true := by decide +kernel
  show (eqB _ _).map _ = _
  rw [this] <;> rfl
theorem s_InvalidValue {r : List (D × D)} : f__law_stands [.dat (.dict ((.bool true, .str "InvalidValue") :: r)), .dat (.str "InvalidValue")] = .ok (.d (.bool true)) [.dat (.dict ((.bool true, .str "InvalidValue") :: r)), .dat (.str "InvalidValue")] := by
  simp [f__law_stands, b__law_stands, w_InvalidValue, e_InvalidValue, fnM, seqM, asgM, bindS, op2, op1, bindE, iteM, ifM, nextM, andM, orM, notM, varM, opL, bindL, consL, nilL, conM, gIsX, tblC, tblV, root, names, liftD, gLst, nameT, retM, backS, argsRh, callD, datL, mkXM]
theorem e_InvalidPoly : gEq (.list [.str "InvalidPoly"]) (.list [.str "InvalidPoly"]) = some (.bool true) := by
  have : eqB (.list [.str "InvalidPoly"]) (.list [.str "InvalidPoly"]) = some true := by decide +kernel
  show (eqB _ _).map _ = _
  rw [this] <;> rfl
theorem s_InvalidPoly {r : List (D × D)} : f__law_stands [.dat (.dict ((.bool true, .str "InvalidPoly") :: r)), .dat (.str "InvalidPoly")] = .ok (.d (.bool true)) [.dat (.dict ((.bool true, .str "InvalidPoly") :: r)), .dat (.str "InvalidPoly")] := by
  simp [f__law_stands, b__law_stands, w_InvalidPoly, e_InvalidPoly, fnM, seqM, asgM, bindS, op2, op1, bindE, iteM, ifM, nextM, andM, orM, notM, varM, opL, bindL, consL, nilL, conM, gIsX, tblC, tblV, root, names, liftD, gLst, nameT, retM, backS, argsRh, callD, datL, mkXM]
theorem e_InvalidChain : gEq (.list [.str "InvalidChain"]) (.list [.str "InvalidChain"]) = some (.bool true) := by
  have : eqB (.list [.str "InvalidChain"]) (.list [.str "InvalidChain"]) = some true := by decide +kernel
  show (eqB _ _).map _ = _
  rw [this] <;> rfl
theorem s_InvalidChain {r : List (D × D)} : f__law_stands [.dat (.dict ((.bool true, .str "InvalidChain") :: r)), .dat (.str "InvalidChain")] = .ok (.d (.bool true)) [.dat (.dict ((.bool true, .str "InvalidChain") :: r)), .dat (.str "InvalidChain")] := by
  simp [f__law_stands, b__law_stands, w_InvalidChain, e_InvalidChain, fnM, seqM, asgM, bindS, op2, op1, bindE, iteM, ifM, nextM, andM, orM, notM, varM, opL, bindL, consL, nilL, conM, gIsX, tblC, tblV, root, names, liftD, gLst, nameT, retM, backS, argsRh, callD, datL, mkXM]
theorem e_InvalidFraction : gEq (.list [.str "InvalidFraction"]) (.list [.str "InvalidFraction"]) = some (.bool true) := by
  have : eqB (.list [.str "InvalidFraction"]) (.list [.str "InvalidFraction"]) = some true := by decide +kernel
  show (eqB _ _).map _ = _
  rw [this] <;> rfl
theorem s_InvalidFraction {r : List (D × D)} : f__law_stands [.dat (.dict ((.bool true, .str "InvalidFraction") :: r)), .dat (.str "InvalidFraction")] = .ok (.d (.bool true)) [.dat (.dict ((.bool true, .str "InvalidFraction") :: r)), .dat (.str "InvalidFraction")] := by
  simp [f__law_stands, b__law_stands, w_InvalidFraction, e_InvalidFraction, fnM, seqM, asgM, bindS, op2, op1, bindE, iteM, ifM, nextM, andM, orM, notM, varM, opL, bindL, consL, nilL, conM, gIsX, tblC, tblV, root, names, liftD, gLst, nameT, retM, backS, argsRh, callD, datL, mkXM]
theorem e_InvalidNumber : gEq (.list [.str "InvalidNumber"]) (.list [.str "InvalidNumber"]) = some (.bool true) := by
  have : eqB (.list [.str "InvalidNumber"]) (.list [.str "InvalidNumber"]) = some true := by decide +kernel
  show (eqB _ _).map _ = _
  rw [this] <;> rfl
theorem s_InvalidNumber {r : List (D × D)} : f__law_stands [.dat (.dict ((.bool true, .str "InvalidNumber") :: r)), .dat (.str "InvalidNumber")] = .ok (.d (.bool true)) [.dat (.dict ((.bool true, .str "InvalidNumber") :: r)), .dat (.str "InvalidNumber")] := by
  simp [f__law_stands, b__law_stands, w_InvalidNumber, e_InvalidNumber, fnM, seqM, asgM, bindS, op2, op1, bindE, iteM, ifM, nextM, andM, orM, notM, varM, opL, bindL, consL, nilL, conM, gIsX, tblC, tblV, root, names, liftD, gLst, nameT, retM, backS, argsRh, callD, datL, mkXM]
theorem e_InvalidLine : gEq (.list [.str "InvalidLine"]) (.list [.str "InvalidLine"]) = some (.bool true) := by
  have : eqB (.list [.str "InvalidLine"]) (.list [.str "InvalidLine"]) = some true := by decide +kernel
  show (eqB _ _).map _ = _
  rw [this] <;> rfl
theorem s_InvalidLine {r : List (D × D)} : f__law_stands [.dat (.dict ((.bool true, .str "InvalidLine") :: r)), .dat (.str "InvalidLine")] = .ok (.d (.bool true)) [.dat (.dict ((.bool true, .str "InvalidLine") :: r)), .dat (.str "InvalidLine")] := by
  simp [f__law_stands, b__law_stands, w_InvalidLine, e_InvalidLine, fnM, seqM, asgM, bindS, op2, op1, bindE, iteM, ifM, nextM, andM, orM, notM, varM, opL, bindL, consL, nilL, conM, gIsX, tblC, tblV, root, names, liftD, gLst, nameT, retM, backS, argsRh, callD, datL, mkXM]
theorem e_NotADesk : gEq (.list [.str "NotADesk"]) (.list [.str "NotADesk"]) = some (.bool true) := by
  have : eqB (.list [.str "NotADesk"]) (.list [.str "NotADesk"]) = some true := by decide +kernel
  show (eqB _ _).map _ = _
  rw [this] <;> rfl
theorem s_NotADesk {r : List (D × D)} : f__law_stands [.dat (.dict ((.bool true, .str "NotADesk") :: r)), .dat (.str "NotADesk")] = .ok (.d (.bool true)) [.dat (.dict ((.bool true, .str "NotADesk") :: r)), .dat (.str "NotADesk")] := by
  simp [f__law_stands, b__law_stands, w_NotADesk, e_NotADesk, fnM, seqM, asgM, bindS, op2, op1, bindE, iteM, ifM, nextM, andM, orM, notM, varM, opL, bindL, consL, nilL, conM, gIsX, tblC, tblV, root, names, liftD, gLst, nameT, retM, backS, argsRh, callD, datL, mkXM]
theorem e_NotNow : gEq (.list [.str "NotNow"]) (.list [.str "NotNow"]) = some (.bool true) := by
  have : eqB (.list [.str "NotNow"]) (.list [.str "NotNow"]) = some true := by decide +kernel
  show (eqB _ _).map _ = _
  rw [this] <;> rfl
theorem s_NotNow {r : List (D × D)} : f__law_stands [.dat (.dict ((.bool true, .str "NotNow") :: r)), .dat (.str "NotNow")] = .ok (.d (.bool true)) [.dat (.dict ((.bool true, .str "NotNow") :: r)), .dat (.str "NotNow")] := by
  simp [f__law_stands, b__law_stands, w_NotNow, e_NotNow, fnM, seqM, asgM, bindS, op2, op1, bindE, iteM, ifM, nextM, andM, orM, notM, varM, opL, bindL, consL, nilL, conM, gIsX, tblC, tblV, root, names, liftD, gLst, nameT, retM, backS, argsRh, callD, datL, mkXM]
theorem e_InvalidText : gEq (.list [.str "InvalidText"]) (.list [.str "InvalidText"]) = some (.bool true) := by
  have : eqB (.list [.str "InvalidText"]) (.list [.str "InvalidText"]) = some true := by decide +kernel
  show (eqB _ _).map _ = _
  rw [this] <;> rfl
theorem s_InvalidText {r : List (D × D)} : f__law_stands [.dat (.dict ((.bool true, .str "InvalidText") :: r)), .dat (.str "InvalidText")] = .ok (.d (.bool true)) [.dat (.dict ((.bool true, .str "InvalidText") :: r)), .dat (.str "InvalidText")] := by
  simp [f__law_stands, b__law_stands, w_InvalidText, e_InvalidText, fnM, seqM, asgM, bindS, op2, op1, bindE, iteM, ifM, nextM, andM, orM, notM, varM, opL, bindL, consL, nilL, conM, gIsX, tblC, tblV, root, names, liftD, gLst, nameT, retM, backS, argsRh, callD, datL, mkXM]
theorem e_InvalidPlan : gEq (.list [.str "InvalidPlan"]) (.list [.str "InvalidPlan"]) = some (.bool true) := by
  have : eqB (.list [.str "InvalidPlan"]) (.list [.str "InvalidPlan"]) = some true := by decide +kernel
  show (eqB _ _).map _ = _
  rw [this] <;> rfl
theorem s_InvalidPlan {r : List (D × D)} : f__law_stands [.dat (.dict ((.bool true, .str "InvalidPlan") :: r)), .dat (.str "InvalidPlan")] = .ok (.d (.bool true)) [.dat (.dict ((.bool true, .str "InvalidPlan") :: r)), .dat (.str "InvalidPlan")] := by
  simp [f__law_stands, b__law_stands, w_InvalidPlan, e_InvalidPlan, fnM, seqM, asgM, bindS, op2, op1, bindE, iteM, ifM, nextM, andM, orM, notM, varM, opL, bindL, consL, nilL, conM, gIsX, tblC, tblV, root, names, liftD, gLst, nameT, retM, backS, argsRh, callD, datL, mkXM]
theorem e_Misfit : gEq (.list [.str "Misfit"]) (.list [.str "Misfit"]) = some (.bool true) := by
  have : eqB (.list [.str "Misfit"]) (.list [.str "Misfit"]) = some true := by decide +kernel
  show (eqB _ _).map _ = _
  rw [this] <;> rfl
theorem s_Misfit {r : List (D × D)} : f__law_stands [.dat (.dict ((.bool true, .str "Misfit") :: r)), .dat (.str "Misfit")] = .ok (.d (.bool true)) [.dat (.dict ((.bool true, .str "Misfit") :: r)), .dat (.str "Misfit")] := by
  simp [f__law_stands, b__law_stands, w_Misfit, e_Misfit, fnM, seqM, asgM, bindS, op2, op1, bindE, iteM, ifM, nextM, andM, orM, notM, varM, opL, bindL, consL, nilL, conM, gIsX, tblC, tblV, root, names, liftD, gLst, nameT, retM, backS, argsRh, callD, datL, mkXM]
theorem e_InvalidCode : gEq (.list [.str "InvalidCode"]) (.list [.str "InvalidCode"]) = some (.bool true) := by
  have : eqB (.list [.str "InvalidCode"]) (.list [.str "InvalidCode"]) = some true := by decide +kernel
  show (eqB _ _).map _ = _
  rw [this] <;> rfl
theorem s_InvalidCode {r : List (D × D)} : f__law_stands [.dat (.dict ((.bool true, .str "InvalidCode") :: r)), .dat (.str "InvalidCode")] = .ok (.d (.bool true)) [.dat (.dict ((.bool true, .str "InvalidCode") :: r)), .dat (.str "InvalidCode")] := by
  simp [f__law_stands, b__law_stands, w_InvalidCode, e_InvalidCode, fnM, seqM, asgM, bindS, op2, op1, bindE, iteM, ifM, nextM, andM, orM, notM, varM, opL, bindL, consL, nilL, conM, gIsX, tblC, tblV, root, names, liftD, gLst, nameT, retM, backS, argsRh, callD, datL, mkXM]
theorem e_InvalidTower : gEq (.list [.str "InvalidTower"]) (.list [.str "InvalidTower"]) = some (.bool true) := by
  have : eqB (.list [.str "InvalidTower"]) (.list [.str "InvalidTower"]) = some true := by decide +kernel
  show (eqB _ _).map _ = _
  rw [this] <;> rfl
theorem s_InvalidTower {r : List (D × D)} : f__law_stands [.dat (.dict ((.bool true, .str "InvalidTower") :: r)), .dat (.str "InvalidTower")] = .ok (.d (.bool true)) [.dat (.dict ((.bool true, .str "InvalidTower") :: r)), .dat (.str "InvalidTower")] := by
  simp [f__law_stands, b__law_stands, w_InvalidTower, e_InvalidTower, fnM, seqM, asgM, bindS, op2, op1, bindE, iteM, ifM, nextM, andM, orM, notM, varM, opL, bindL, consL, nilL, conM, gIsX, tblC, tblV, root, names, liftD, gLst, nameT, retM, backS, argsRh, callD, datL, mkXM]
theorem e_InvalidBook : gEq (.list [.str "InvalidBook"]) (.list [.str "InvalidBook"]) = some (.bool true) := by
  have : eqB (.list [.str "InvalidBook"]) (.list [.str "InvalidBook"]) = some true := by decide +kernel
  show (eqB _ _).map _ = _
  rw [this] <;> rfl
theorem s_InvalidBook {r : List (D × D)} : f__law_stands [.dat (.dict ((.bool true, .str "InvalidBook") :: r)), .dat (.str "InvalidBook")] = .ok (.d (.bool true)) [.dat (.dict ((.bool true, .str "InvalidBook") :: r)), .dat (.str "InvalidBook")] := by
  simp [f__law_stands, b__law_stands, w_InvalidBook, e_InvalidBook, fnM, seqM, asgM, bindS, op2, op1, bindE, iteM, ifM, nextM, andM, orM, notM, varM, opL, bindL, consL, nilL, conM, gIsX, tblC, tblV, root, names, liftD, gLst, nameT, retM, backS, argsRh, callD, datL, mkXM]
theorem e_Broken : gEq (.list [.str "Broken"]) (.list [.str "Broken"]) = some (.bool true) := by
  have : eqB (.list [.str "Broken"]) (.list [.str "Broken"]) = some true := by decide +kernel
  show (eqB _ _).map _ = _
  rw [this] <;> rfl
theorem s_Broken {r : List (D × D)} : f__law_stands [.dat (.dict ((.bool true, .str "Broken") :: r)), .dat (.str "Broken")] = .ok (.d (.bool true)) [.dat (.dict ((.bool true, .str "Broken") :: r)), .dat (.str "Broken")] := by
  simp [f__law_stands, b__law_stands, w_Broken, e_Broken, fnM, seqM, asgM, bindS, op2, op1, bindE, iteM, ifM, nextM, andM, orM, notM, varM, opL, bindL, consL, nilL, conM, gIsX, tblC, tblV, root, names, liftD, gLst, nameT, retM, backS, argsRh, callD, datL, mkXM]
theorem e_TooMany : gEq (.list [.str "TooMany"]) (.list [.str "TooMany"]) = some (.bool true) := by
  have : eqB (.list [.str "TooMany"]) (.list [.str "TooMany"]) = some true := by decide +kernel
  show (eqB _ _).map _ = _
  rw [this] <;> rfl
theorem s_TooMany {r : List (D × D)} : f__law_stands [.dat (.dict ((.bool true, .str "TooMany") :: r)), .dat (.str "TooMany")] = .ok (.d (.bool true)) [.dat (.dict ((.bool true, .str "TooMany") :: r)), .dat (.str "TooMany")] := by
  simp [f__law_stands, b__law_stands, w_TooMany, e_TooMany, fnM, seqM, asgM, bindS, op2, op1, bindE, iteM, ifM, nextM, andM, orM, notM, varM, opL, bindL, consL, nilL, conM, gIsX, tblC, tblV, root, names, liftD, gLst, nameT, retM, backS, argsRh, callD, datL, mkXM]
theorem e_NothingToUndo : gEq (.list [.str "NothingToUndo"]) (.list [.str "NothingToUndo"]) = some (.bool true) := by
  have : eqB (.list [.str "NothingToUndo"]) (.list [.str "NothingToUndo"]) = some true := by decide +kernel
  show (eqB _ _).map _ = _
  rw [this] <;> rfl
theorem s_NothingToUndo {r : List (D × D)} : f__law_stands [.dat (.dict ((.bool true, .str "NothingToUndo") :: r)), .dat (.str "NothingToUndo")] = .ok (.d (.bool true)) [.dat (.dict ((.bool true, .str "NothingToUndo") :: r)), .dat (.str "NothingToUndo")] := by
  simp [f__law_stands, b__law_stands, w_NothingToUndo, e_NothingToUndo, fnM, seqM, asgM, bindS, op2, op1, bindE, iteM, ifM, nextM, andM, orM, notM, varM, opL, bindL, consL, nilL, conM, gIsX, tblC, tblV, root, names, liftD, gLst, nameT, retM, backS, argsRh, callD, datL, mkXM]
theorem kept_InvalidValue {d : D} {b : Bool} : f__law_kept [.dat (.str "InvalidValue"), .dat d, .dat (.bool b)] = .ok (.d (exD "InvalidValue" "given" d)) [.dat (.str "InvalidValue"), .dat d, .dat (.bool b)] := by
  cases b <;> simp [f__law_kept, b__law_kept, fnM, seqM, asgM, bindS, op2, op1, bindE, iteM, ifM, nextM, andM, orM, notM, varM, opL, bindL, consL, nilL, conM, gIsX, tblC, tblV, root, names, liftD, gLst, nameT, retM, backS, argsRh, callD, datL, mkXM]
theorem kept_InvalidPoly {d : D} {b : Bool} : f__law_kept [.dat (.str "InvalidPoly"), .dat d, .dat (.bool b)] = .ok (.d (exD "InvalidPoly" "given" d)) [.dat (.str "InvalidPoly"), .dat d, .dat (.bool b)] := by
  cases b <;> simp [f__law_kept, b__law_kept, fnM, seqM, asgM, bindS, op2, op1, bindE, iteM, ifM, nextM, andM, orM, notM, varM, opL, bindL, consL, nilL, conM, gIsX, tblC, tblV, root, names, liftD, gLst, nameT, retM, backS, argsRh, callD, datL, mkXM]
theorem kept_InvalidChain {d : D} {b : Bool} : f__law_kept [.dat (.str "InvalidChain"), .dat d, .dat (.bool b)] = .ok (.d (exD "InvalidChain" "given" d)) [.dat (.str "InvalidChain"), .dat d, .dat (.bool b)] := by
  cases b <;> simp [f__law_kept, b__law_kept, fnM, seqM, asgM, bindS, op2, op1, bindE, iteM, ifM, nextM, andM, orM, notM, varM, opL, bindL, consL, nilL, conM, gIsX, tblC, tblV, root, names, liftD, gLst, nameT, retM, backS, argsRh, callD, datL, mkXM]
theorem kept_InvalidFraction {d : D} {b : Bool} : f__law_kept [.dat (.str "InvalidFraction"), .dat d, .dat (.bool b)] = .ok (.d (exD "InvalidFraction" "given" d)) [.dat (.str "InvalidFraction"), .dat d, .dat (.bool b)] := by
  cases b <;> simp [f__law_kept, b__law_kept, fnM, seqM, asgM, bindS, op2, op1, bindE, iteM, ifM, nextM, andM, orM, notM, varM, opL, bindL, consL, nilL, conM, gIsX, tblC, tblV, root, names, liftD, gLst, nameT, retM, backS, argsRh, callD, datL, mkXM]
theorem kept_InvalidNumber {d : D} {b : Bool} : f__law_kept [.dat (.str "InvalidNumber"), .dat d, .dat (.bool b)] = .ok (.d (exD "InvalidNumber" "given" d)) [.dat (.str "InvalidNumber"), .dat d, .dat (.bool b)] := by
  cases b <;> simp [f__law_kept, b__law_kept, fnM, seqM, asgM, bindS, op2, op1, bindE, iteM, ifM, nextM, andM, orM, notM, varM, opL, bindL, consL, nilL, conM, gIsX, tblC, tblV, root, names, liftD, gLst, nameT, retM, backS, argsRh, callD, datL, mkXM]
theorem kept_InvalidLine {d : D} {b : Bool} : f__law_kept [.dat (.str "InvalidLine"), .dat d, .dat (.bool b)] = .ok (.d (exD "InvalidLine" "given" d)) [.dat (.str "InvalidLine"), .dat d, .dat (.bool b)] := by
  cases b <;> simp [f__law_kept, b__law_kept, fnM, seqM, asgM, bindS, op2, op1, bindE, iteM, ifM, nextM, andM, orM, notM, varM, opL, bindL, consL, nilL, conM, gIsX, tblC, tblV, root, names, liftD, gLst, nameT, retM, backS, argsRh, callD, datL, mkXM]
theorem kept_NotADesk {d : D} {b : Bool} : f__law_kept [.dat (.str "NotADesk"), .dat d, .dat (.bool b)] = .ok (.d (exD "NotADesk" "given" d)) [.dat (.str "NotADesk"), .dat d, .dat (.bool b)] := by
  cases b <;> simp [f__law_kept, b__law_kept, fnM, seqM, asgM, bindS, op2, op1, bindE, iteM, ifM, nextM, andM, orM, notM, varM, opL, bindL, consL, nilL, conM, gIsX, tblC, tblV, root, names, liftD, gLst, nameT, retM, backS, argsRh, callD, datL, mkXM]
theorem kept_NotNow {d : D} {b : Bool} : f__law_kept [.dat (.str "NotNow"), .dat d, .dat (.bool b)] = .ok (.d (exD "NotNow" "given" d)) [.dat (.str "NotNow"), .dat d, .dat (.bool b)] := by
  cases b <;> simp [f__law_kept, b__law_kept, fnM, seqM, asgM, bindS, op2, op1, bindE, iteM, ifM, nextM, andM, orM, notM, varM, opL, bindL, consL, nilL, conM, gIsX, tblC, tblV, root, names, liftD, gLst, nameT, retM, backS, argsRh, callD, datL, mkXM]
theorem placed_InvalidText {d : D} {b : Bool} : f__law_placed [.dat (.str "InvalidText"), .dat d, .dat (.bool b)] = .ok (.d (exD "InvalidText" "index" d)) [.dat (.str "InvalidText"), .dat d, .dat (.bool b)] := by
  cases b <;> simp [f__law_placed, b__law_placed, fnM, seqM, asgM, bindS, op2, op1, bindE, iteM, ifM, nextM, andM, orM, notM, varM, opL, bindL, consL, nilL, conM, gIsX, tblC, tblV, root, names, liftD, gLst, nameT, retM, backS, argsRh, callD, datL, mkXM]
theorem placed_InvalidPlan {d : D} {b : Bool} : f__law_placed [.dat (.str "InvalidPlan"), .dat d, .dat (.bool b)] = .ok (.d (exD "InvalidPlan" "index" d)) [.dat (.str "InvalidPlan"), .dat d, .dat (.bool b)] := by
  cases b <;> simp [f__law_placed, b__law_placed, fnM, seqM, asgM, bindS, op2, op1, bindE, iteM, ifM, nextM, andM, orM, notM, varM, opL, bindL, consL, nilL, conM, gIsX, tblC, tblV, root, names, liftD, gLst, nameT, retM, backS, argsRh, callD, datL, mkXM]
theorem placed_Misfit {d : D} {b : Bool} : f__law_placed [.dat (.str "Misfit"), .dat d, .dat (.bool b)] = .ok (.d (exD "Misfit" "index" d)) [.dat (.str "Misfit"), .dat d, .dat (.bool b)] := by
  cases b <;> simp [f__law_placed, b__law_placed, fnM, seqM, asgM, bindS, op2, op1, bindE, iteM, ifM, nextM, andM, orM, notM, varM, opL, bindL, consL, nilL, conM, gIsX, tblC, tblV, root, names, liftD, gLst, nameT, retM, backS, argsRh, callD, datL, mkXM]
theorem placed_InvalidCode {d : D} {b : Bool} : f__law_placed [.dat (.str "InvalidCode"), .dat d, .dat (.bool b)] = .ok (.d (exD "InvalidCode" "index" d)) [.dat (.str "InvalidCode"), .dat d, .dat (.bool b)] := by
  cases b <;> simp [f__law_placed, b__law_placed, fnM, seqM, asgM, bindS, op2, op1, bindE, iteM, ifM, nextM, andM, orM, notM, varM, opL, bindL, consL, nilL, conM, gIsX, tblC, tblV, root, names, liftD, gLst, nameT, retM, backS, argsRh, callD, datL, mkXM]
theorem placed_InvalidTower {d : D} {b : Bool} : f__law_placed [.dat (.str "InvalidTower"), .dat d, .dat (.bool b)] = .ok (.d (exD "InvalidTower" "index" d)) [.dat (.str "InvalidTower"), .dat d, .dat (.bool b)] := by
  cases b <;> simp [f__law_placed, b__law_placed, fnM, seqM, asgM, bindS, op2, op1, bindE, iteM, ifM, nextM, andM, orM, notM, varM, opL, bindL, consL, nilL, conM, gIsX, tblC, tblV, root, names, liftD, gLst, nameT, retM, backS, argsRh, callD, datL, mkXM]
theorem placed_InvalidBook {d : D} {b : Bool} : f__law_placed [.dat (.str "InvalidBook"), .dat d, .dat (.bool b)] = .ok (.d (exD "InvalidBook" "index" d)) [.dat (.str "InvalidBook"), .dat d, .dat (.bool b)] := by
  cases b <;> simp [f__law_placed, b__law_placed, fnM, seqM, asgM, bindS, op2, op1, bindE, iteM, ifM, nextM, andM, orM, notM, varM, opL, bindL, consL, nilL, conM, gIsX, tblC, tblV, root, names, liftD, gLst, nameT, retM, backS, argsRh, callD, datL, mkXM]
theorem placed_Broken {d : D} {b : Bool} : f__law_placed [.dat (.str "Broken"), .dat d, .dat (.bool b)] = .ok (.d (exD "Broken" "index" d)) [.dat (.str "Broken"), .dat d, .dat (.bool b)] := by
  cases b <;> simp [f__law_placed, b__law_placed, fnM, seqM, asgM, bindS, op2, op1, bindE, iteM, ifM, nextM, andM, orM, notM, varM, opL, bindL, consL, nilL, conM, gIsX, tblC, tblV, root, names, liftD, gLst, nameT, retM, backS, argsRh, callD, datL, mkXM]
theorem caught_Misfit {d : D} {z : Str} (h : gReprE [d] = some (.str z)) : f__law_caught [.dat (.str "Misfit"), .dat d] = .ok (.d (.bool true)) [.dat (.str "Misfit"), .dat d] := by
  simp [f__law_caught, b__law_caught, tryB, raiseM, catK, exD, s_Misfit, gFld, k_given, k_index, h, fnM, seqM, asgM, bindS, op2, op1, bindE, iteM, ifM, nextM, andM, orM, notM, varM, opL, bindL, consL, nilL, conM, gIsX, tblC, tblV, root, names, liftD, gLst, nameT, retM, backS, argsRh, callD, datL, mkXM]
theorem caught_InvalidValue {d : D} {z : Str} (h : gReprE [d] = some (.str z)) : f__law_caught [.dat (.str "InvalidValue"), .dat d] = .ok (.d (.bool true)) [.dat (.str "InvalidValue"), .dat d] := by
  simp [f__law_caught, b__law_caught, tryB, raiseM, catK, exD, s_InvalidValue, gFld, k_given, k_index, h, fnM, seqM, asgM, bindS, op2, op1, bindE, iteM, ifM, nextM, andM, orM, notM, varM, opL, bindL, consL, nilL, conM, gIsX, tblC, tblV, root, names, liftD, gLst, nameT, retM, backS, argsRh, callD, datL, mkXM]
end K00
end DL
set_option Elab.async false
set_option linter.all false
set_option maxRecDepth 100000
set_option maxHeartbeats 4000000
set_option autoImplicit false
/-! K00R: the things, the pool. -/
namespace DL
open PySem PySem.Spec PyProof.Rows L2
theorem pF_of {f : FM} {ss ss' : List Slot} {v : Val} {Φ : Val → List Slot → Prop} (h : f ss = .ok v ss') (q : Φ v ss') : pF f ss Φ := by
  unfold pF
  rw [h]
  exact q
theorem we_callL {ρ : Rh} {Φ : Val → Rh → Prop} {f : FM} {m : EM} (h : wE m ρ fun v ρ1 => lV v fun ds => pF f [.own ds] fun v _ => vD v fun d => Φ (.d d) ρ1) : wE (callL f m) ρ Φ := by
  unfold wE callL
  unfold wE at h
  cases e : m ρ with
  | exc x ρ1 => rw [e] at h; exact h.elim
  | stuck => rw [e] at h; exact h.elim
  | ok v ρ1 =>
    rw [e] at h
    cases v with
    | d d => exact h.elim
    | l ds =>
      dsimp only [lV_l] at h ⊢
      have h' : pF f [.own ds] fun v _ => vD v fun d => Φ (.d d) ρ1 := h
      unfold pF at h'
      cases e2 : f [.own ds] with
      | exc x s => rw [e2] at h'; exact h'.elim
      | stuck => rw [e2] at h'; exact h'.elim
      | ok v s =>
        rw [e2] at h'
        cases v with
        | l d => exact h'.elim
        | d d => exact h'
@[simp] theorem itemsD_l {ds : List D} : itemsD (.list ds) = some ds := rfl
theorem rangeD_length {lo : Int} {n : Nat} : (rangeD lo n).length = n := by simp [rangeD]
namespace K00
def things (r : Int) : List D := [.none, .int 0, .bool true, .int (-1), .str "", .str "a = 1", .tuple [], .tuple [.int 1, .int 2], .tuple [.int 0, .tuple [.int 1, .int 1]], .list [.int 1, .list [.int 2]], .dict [], .int 100000000000000000000000000000, .int r, .tuple [.str "number", .str "a", .tuple [.str "numeral", .int 1]], .tuple [.tuple [.tuple []]]]
theorem shows {d : D} (h : (d.canLay0 && d.showable && decide (d.depth ≤ 64) && decide (d.shown.length ≤ 16777216)) = true) : ∃ z, gReprE [d] = some (.str z) := by
  by_cases hd : d = .dict []
  · subst hd
    exact ⟨_, rfl⟩
  · refine ⟨d.shown, ?_⟩
    have e : gReprE [d] = gRepr [d] := by
      unfold gReprE
      split
      · rename_i z
        exact absurd (by simpa using z) hd
      · rfl
    rw [e]
    unfold gRepr
    dsimp only
    rw [if_pos h]
theorem log_small {i : Int} (h0 : -(10 ^ 20) < i) (h : i < 10 ^ 20) : i.natAbs.log2 < 1920 := by
  have q : i.natAbs < 2 ^ 1920 := by
    have : i.natAbs < 10 ^ 20 := by omega
    exact Nat.lt_of_lt_of_le this (by decide +kernel)
  by_cases z : i.natAbs = 0
  · rw [z]; decide +kernel
  · exact (Nat.log2_lt z).mpr q
theorem things_show {r : Int} (h0 : 0 ≤ r) (h1 : r < 1000) : ∀ d ∈ things r, ∃ z, gReprE [d] = some (.str z) := by
  intro d hd
  simp only [things, List.mem_cons, List.not_mem_nil, or_false] at hd
  have hr : ∃ z, gReprE [.int r] = some (.str z) := by
    refine shows ?_
    have e1 : (Str.ofString (toString r)).length ≤ 13 := toString_length_le h0 (by decide) (by omega)
    have e2 := log_small (i := r) (by omega) (by omega)
    show (true && decide (r.natAbs.log2 < 1920) && decide (0 ≤ 64) && decide ((Str.ofString (toString r)).length ≤ 16777216)) = true
    rw [decide_eq_true e2, decide_eq_true (by omega : (Str.ofString (toString r)).length ≤ 16777216)]
    rfl
  rcases hd with rfl | rfl | rfl | rfl | rfl | rfl | rfl | rfl | rfl | rfl | rfl | rfl | rfl | rfl | rfl
  all_goals first | exact hr | exact ⟨_, rfl⟩ | exact shows (by decide +kernel)
@[simp] theorem gLen_scr {ns : List Int} : gLen [scr ns] = some (.int (ns.length : Nat)) := by
  show some (PyData.int (((ns.map fun n => (PyData.int n, PyData.none)).length : Nat) : Int)) = _
  rw [List.length_map]
theorem roInts_scr {ns : List Int} : roInts (ns.map fun n => (PyData.int n, PyData.none)) = ns.map PyData.int := by simp [roInts]
theorem gIx_scr {ns : List Int} {i : Nat} (h : i < ns.length) : gIx (scr ns) (.int i) = some (.int ns[i]) := by
  show atI (roInts (ns.map fun n => (PyData.int n, PyData.none))) (i : Int) = _
  rw [roInts_scr]
  exact atI_nat (by rw [List.getElem?_map, List.getElem?_eq_getElem h] <;> rfl)
theorem gSl_scr {ns : List Int} {l h : Option Int} : gSl (scr ns) l h = some (.list (cutD (ns.map PyData.int) l h)) := by
  show some (PyData.list (cutD (roInts (ns.map fun n => (PyData.int n, PyData.none))) l h)) = _
  rw [roInts_scr]
theorem pool {ns : List Int} {t : Nat} {Φ : Val → List Slot → Prop} (ht : t ≤ 100) (q : ∀ ps, Good ps → Φ (.l ps) [.dat (scr ns), .dat (.int t)]) : pF f__law_pool [.dat (scr ns), .dat (.int t)] Φ := by
  refine pf_fn ?_
  unfold b__law_pool
  simp
  refine ws_par ?_
  have tail : ∀ (own : Int), wS (seqM (forM (seqI (slM (varM 0) (noPartM) (partM (conM (.int 63))))) (nameT 4) (asgM (nameT 3) (op2 gMod (opL gInt (consL (op2 gAdd (op2 gAdd (op2 gMulA (varM 3) (conM (.int 48271))) (op2 gMod (opL gInt (consL (varM 4) (nilL))) (conM (.int 2147483489)))) (conM (.int 549))) (nilL))) (conM (.int 2147483489))))) (retM (lstO (consL (op2 gMod (opL gInt (consL (op2 gAdd (varM 3) (op2 gMulA (varM 2) (conM (.int 1013)))) (nilL))) (conM (.int 2147483489))) (consL (iteM (orM (op2 gLt (varM 2) (conM (.int 0))) (op2 gGe (varM 2) (op2 gPow (conM (.int 10)) (conM (.int 18))))) (opL gAbs (consL (varM 2) (nilL))) (conM (.int 0))) (consL (conM (.int 0)) (nilL))))))) [some (.dat (scr ns)), some (.dat (.int t)), some (.dat (.int own)), some (.dat (.int (1030001 + 5087 * (t : Int)))), none]
      (retK [] [.dat (scr ns), .dat (.int t)] Φ) := by
    intro own
    simp
    refine ws_for ?_
    simp [gSl_scr]
    refine ws_forN (J := fun es ρ => (∀ d ∈ es, ∃ i : Int, d = .int i) ∧ ∃ (s : Int) (x : Option Slot), ρ = [some (.dat (scr ns)), some (.dat (.int t)), some (.dat (.int own)), some (.dat (.int s)), x])
      (fun d r ρ hJ => ?_) (fun ρ hJ => ?_) _ _ ⟨fun d hd => ?_, _, _, rfl⟩
    · obtain ⟨hd, s, x, rfl⟩ := hJ
      obtain ⟨i, rfl⟩ := hd d List.mem_cons_self
      simp
      refine ws_asg ?_
      simp
      exact fun d hd' => hd d (List.mem_cons_of_mem _ hd')
    · obtain ⟨_, s, x, rfl⟩ := hJ
      simp
      refine ws_ret ?_
      simp
      have h1 : (0 : Int) ≤ (s + own * 1013) % 2147483489 := Int.emod_nonneg _ (by decide)
      split
      · exact q _ ⟨_, _, _, rfl, h1, by first | omega | (split <;> omega)⟩
      · split
        · exact q _ ⟨_, _, _, rfl, h1, by first | omega | (split <;> omega)⟩
        · exact q _ ⟨_, _, _, rfl, h1, by omega⟩
    · have hd' : d ∈ ns.map PyData.int := List.mem_of_mem_drop (List.mem_of_mem_take hd)
      obtain ⟨i, _, rfl⟩ := List.mem_map.mp hd'
      exact ⟨i, rfl⟩
  simp
  by_cases c : t < ns.length
  · rw [if_pos c, gIx_scr (by omega)]
    simp
    simpa using tail _
  · rw [if_neg c]
    simpa using tail _
end K00
end DL
set_option Elab.async false
set_option linter.all false
set_option maxRecDepth 100000
set_option maxHeartbeats 300000
set_option autoImplicit false
/-! K00T: the law. -/
namespace DL
open PySem PySem.Spec PyProof.Rows L2
namespace K00
def KO (w : Str) : Prop := (∀ d b, f__law_kept [.dat (.str w), .dat d, .dat (.bool b)] = .ok (.d (exD w "given" d)) [.dat (.str w), .dat d, .dat (.bool b)]) ∧
  (∀ r : List (D × D), f__law_stands [.dat (.dict ((.bool true, .str w) :: r)), .dat (.str w)] = .ok (.d (.bool true)) [.dat (.dict ((.bool true, .str w) :: r)), .dat (.str w)]) ∧ w ∈ k_given
def PO (w : Str) : Prop := (∀ d b, f__law_placed [.dat (.str w), .dat d, .dat (.bool b)] = .ok (.d (exD w "index" d)) [.dat (.str w), .dat d, .dat (.bool b)]) ∧
  (∀ r : List (D × D), f__law_stands [.dat (.dict ((.bool true, .str w) :: r)), .dat (.str w)] = .ok (.d (.bool true)) [.dat (.dict ((.bool true, .str w) :: r)), .dat (.str w)]) ∧ w ∈ k_index
theorem all_ko : ∀ w ∈ (["InvalidValue", "InvalidPoly", "InvalidChain", "InvalidFraction", "InvalidNumber", "InvalidLine", "NotADesk", "NotNow"] : List Str), KO w := by
  intro w hw
  simp only [List.mem_cons, List.not_mem_nil, or_false] at hw
  rcases hw with rfl | rfl | rfl | rfl | rfl | rfl | rfl | rfl
  · exact ⟨fun _ _ => kept_InvalidValue, fun _ => s_InvalidValue, by simp [k_given]⟩
  · exact ⟨fun _ _ => kept_InvalidPoly, fun _ => s_InvalidPoly, by simp [k_given]⟩
  · exact ⟨fun _ _ => kept_InvalidChain, fun _ => s_InvalidChain, by simp [k_given]⟩
  · exact ⟨fun _ _ => kept_InvalidFraction, fun _ => s_InvalidFraction, by simp [k_given]⟩
  · exact ⟨fun _ _ => kept_InvalidNumber, fun _ => s_InvalidNumber, by simp [k_given]⟩
  · exact ⟨fun _ _ => kept_InvalidLine, fun _ => s_InvalidLine, by simp [k_given]⟩
  · exact ⟨fun _ _ => kept_NotADesk, fun _ => s_NotADesk, by simp [k_given]⟩
  · exact ⟨fun _ _ => kept_NotNow, fun _ => s_NotNow, by simp [k_given]⟩
theorem all_po : ∀ w ∈ (["InvalidText", "InvalidPlan", "Misfit", "InvalidCode", "InvalidTower", "InvalidBook", "Broken"] : List Str), PO w := by
  intro w hw
  simp only [List.mem_cons, List.not_mem_nil, or_false] at hw
  rcases hw with rfl | rfl | rfl | rfl | rfl | rfl | rfl
  · exact ⟨fun _ _ => placed_InvalidText, fun _ => s_InvalidText, by simp [k_index]⟩
  · exact ⟨fun _ _ => placed_InvalidPlan, fun _ => s_InvalidPlan, by simp [k_index]⟩
  · exact ⟨fun _ _ => placed_Misfit, fun _ => s_Misfit, by simp [k_index]⟩
  · exact ⟨fun _ _ => placed_InvalidCode, fun _ => s_InvalidCode, by simp [k_index]⟩
  · exact ⟨fun _ _ => placed_InvalidTower, fun _ => s_InvalidTower, by simp [k_index]⟩
  · exact ⟨fun _ _ => placed_InvalidBook, fun _ => s_InvalidBook, by simp [k_index]⟩
  · exact ⟨fun _ _ => placed_Broken, fun _ => s_Broken, by simp [k_index]⟩
theorem gFld_given {w : Str} {d : D} (h : w ∈ k_given) : gFld k_given "given" (exD w "given" d) = some d := by
  show (if _ ∧ _ then _ else _) = _
  rw [if_pos ⟨rfl, h⟩]
theorem gFld_index {w : Str} {d : D} (h : w ∈ k_index) : gFld k_index "index" (exD w "index" d) = some d := by
  show (if _ ∧ _ then _ else _) = _
  rw [if_pos ⟨rfl, h⟩]
abbrev kBody : SM := seqM (asgM (nameT 6) (callD 3 f__law_kept (consL (varM 5) (consL (varM 3) (consL (varM 4) (nilL)))))) (ifM (orM (notM (callD 2 f__law_stands (consL (varM 6) (consL (varM 5) (nilL))))) (op2 gNe (opL gReprE (consL (op1 (gFld k_given "given") (varM 6)) (nilL))) (opL gReprE (consL (varM 3) (nilL))))) (retM (conM (.bool false))) (nextM))
abbrev pBody : SM := seqM (asgM (nameT 6) (callD 3 f__law_placed (consL (varM 5) (consL (varM 3) (consL (varM 4) (nilL)))))) (ifM (orM (notM (callD 2 f__law_stands (consL (varM 6) (consL (varM 5) (nilL))))) (op2 gNe (opL gReprE (consL (op1 (gFld k_index "index") (varM 6)) (nilL))) (opL gReprE (consL (varM 3) (nilL))))) (retM (conM (.bool false))) (nextM))
theorem k_loop {o : List D} {t d : D} {x2 x7 : Option Slot} {b : Bool} {z : Str} {Ψ : Out → Prop} (hz : gReprE [d] = some (.str z)) : ∀ (ws : List Str) (x5 x6 : Option Slot), (∀ w ∈ ws, KO w) →
    (∀ y5 y6, Ψ (.nx [some (.own o), some (.dat t), x2, some (.dat d), some (.dat (.bool b)), y5, y6, x7])) →
    wS (forN (nameT 5) kBody (ws.map PyData.str)) [some (.own o), some (.dat t), x2, some (.dat d), some (.dat (.bool b)), x5, x6, x7] Ψ
  | [], x5, x6, _, q => q x5 x6
  | w :: ws, x5, x6, h, q => by
    obtain ⟨h1, h2, h3⟩ := h w List.mem_cons_self
    refine ws_forN_cons ?_
    simp
    refine ws_asg ?_
    simp
    refine pF_of (h1 d b) ?_
    simp
    refine ws_if ?_
    simp
    refine pF_of (h2 [(.str "given", d)]) ?_
    simp
    rw [gFld_given h3]
    simp [hz]
    exact k_loop hz ws _ _ (fun u hu => h u (List.mem_cons_of_mem _ hu)) q
theorem p_loop {o : List D} {t d : D} {x2 x7 : Option Slot} {b : Bool} {z : Str} {Ψ : Out → Prop} (hz : gReprE [d] = some (.str z)) : ∀ (ws : List Str) (x5 x6 : Option Slot), (∀ w ∈ ws, PO w) →
    (∀ y5 y6, Ψ (.nx [some (.own o), some (.dat t), x2, some (.dat d), some (.dat (.bool b)), y5, y6, x7])) →
    wS (forN (nameT 5) pBody (ws.map PyData.str)) [some (.own o), some (.dat t), x2, some (.dat d), some (.dat (.bool b)), x5, x6, x7] Ψ
  | [], x5, x6, _, q => q x5 x6
  | w :: ws, x5, x6, h, q => by
    obtain ⟨h1, h2, h3⟩ := h w List.mem_cons_self
    refine ws_forN_cons ?_
    simp
    refine ws_asg ?_
    simp
    refine pF_of (h1 d b) ?_
    simp
    refine ws_if ?_
    simp
    refine pF_of (h2 [(.str "index", d)]) ?_
    simp
    rw [gFld_index h3]
    simp [hz]
    exact p_loop hz ws _ _ (fun u hu => h u (List.mem_cons_of_mem _ hu)) q
abbrev cBody : SM := ifM (orM (notM (callD 2 f__law_caught (consL (conM (.str "Misfit")) (consL (varM 3) (nilL))))) (notM (callD 2 f__law_caught (consL (conM (.str "InvalidValue")) (consL (varM 3) (nilL)))))) (retM (conM (.bool false))) (nextM)
theorem c_step {o : List D} {t d : D} {x2 x4 x5 x6 x7 : Option Slot} {z : Str} {Ψ : Out → Prop} (hz : gReprE [d] = some (.str z)) (q : Ψ (.nx [some (.own o), some (.dat t), x2, some (.dat d), x4, x5, x6, x7])) : wS cBody [some (.own o), some (.dat t), x2, some (.dat d), x4, x5, x6, x7] Ψ := by
  refine ws_if ?_
  simp
  unfold pF
  rw [caught_Misfit hz]
  simp
  rw [caught_InvalidValue hz]
  simp
  exact q
abbrev tBody : SM := seqM (asgM (nameT 7) (mk0M "PlanError")) (seqM (ifM (orM (notM (callD 2 f__law_stands (consL (mk0M "TooMany") (consL (conM (.str "TooMany")) (nilL))))) (notM (callD 2 f__law_stands (consL (mk0M "NothingToUndo") (consL (conM (.str "NothingToUndo")) (nilL)))))) (retM (conM (.bool false))) (nextM)) (retM (andM (op1 (gIsX (tblV root names)) (varM 7)) (op2 gEq (callD 1 f__law_words (consL (varM 7) (nilL))) (opL gLst (nilL))))))
theorem t_step {x0 x1 x2 x3 x4 x5 x6 : Option Slot} {Ψ : Out → Prop} (q : Ψ (.ret (.d (.bool true)) [x0, x1, x2, x3, x4, x5, x6, some (.dat (exD0 "PlanError"))])) : wS tBody [x0, x1, x2, x3, x4, x5, x6, none] Ψ := by
  rw [wS_seq]
  refine ws_asg ?_
  simp [mk0M]
  refine ws_if ?_
  simp [mk0M]
  unfold pF exD0
  rw [s_TooMany]
  simp
  rw [s_NothingToUndo]
  simp
  refine ws_ret ?_
  simp
  refine oP_of (a := .bool true) (by simp [gIsX, exD0, tblV, root, names]) ?_
  simp
  unfold pF
  rw [w_PlanError]
  simp
  refine oP_of (a := .bool true) (by rfl) ?_
  exact q
abbrev turnB : SM := seqM (parM 3 4 (consL (callO 2 f__law_pick 0 (consL (varM 1) (nilL))) (consL (op2 gGt (varM 2) (conM (.int 1))) (nilL)))) (seqM (forM (seqI (opL gLst (consL (conM (.str "InvalidValue")) (consL (conM (.str "InvalidPoly")) (consL (conM (.str "InvalidChain")) (consL (conM (.str "InvalidFraction")) (consL (conM (.str "InvalidNumber")) (consL (conM (.str "InvalidLine")) (consL (conM (.str "NotADesk")) (consL (conM (.str "NotNow")) (nilL))))))))))) (nameT 5) kBody) (seqM (forM (seqI (opL gLst (consL (conM (.str "InvalidText")) (consL (conM (.str "InvalidPlan")) (consL (conM (.str "Misfit")) (consL (conM (.str "InvalidCode")) (consL (conM (.str "InvalidTower")) (consL (conM (.str "InvalidBook")) (consL (conM (.str "Broken")) (nilL)))))))))) (nameT 5) pBody) cBody))
theorem turn_step {ps : List D} {r i : Int} {x3 x4 x5 x6 x7 : Option Slot} {Ψ : Out → Prop} (r0 : 0 ≤ r) (r1 : r < 1000) (Gp : Good ps) (q : ∀ ps' y3 y4 y5 y6, Good ps' → Ψ (.nx [some (.own ps'), some (.dat (.list (things r))), some (.dat (.int i)), y3, y4, y5, y6, x7])) :
    wS turnB [some (.own ps), some (.dat (.list (things r))), some (.dat (.int i)), x3, x4, x5, x6, x7] Ψ := by
  rw [wS_seq]
  refine ws_par ?_
  simp
  refine pick Gp (by simp [things]) (by simp [things]) fun t ps2 ht G2 => ?_
  simp
  obtain ⟨z, hz⟩ := things_show r0 r1 t ht
  refine ws_for ?_
  simp
  refine k_loop (b := decide (1 < i)) hz ["InvalidValue", "InvalidPoly", "InvalidChain", "InvalidFraction", "InvalidNumber", "InvalidLine", "NotADesk", "NotNow"] x5 x6 all_ko fun y5 y6 => ?_
  simp
  refine ws_for ?_
  simp
  refine p_loop (b := decide (1 < i)) hz ["InvalidText", "InvalidPlan", "Misfit", "InvalidCode", "InvalidTower", "InvalidBook", "Broken"] y5 y6 all_po fun y5 y6 => ?_
  rw [seqK_nx]
  exact c_step hz (q _ _ _ _ _ G2)
theorem right {ps : List D} {Φ : Val → List Slot → Prop} (G : Good ps) (q : ∀ ps', Φ (.d (.bool true)) [.own ps']) : pF f__law_right [.own ps] Φ := by
  refine pf_fn ?_
  unfold b__law_right
  rw [wS_seq]
  refine ws_asg ?_
  simp [gNeg]
  refine draw G (by decide) (by omega) fun r ps1 r0 r1 G1 => ?_
  simp
  refine ws_for (wi_rng1 ?_)
  simp
  refine ws_forN (J := fun es ρ => (∀ d ∈ es, ∃ i : Int, d = .int i) ∧ ∃ (ps : List D) (x2 x3 x4 x5 x6 : Option Slot), Good ps ∧ ρ = [some (.own ps), some (.dat (.list (things r))), x2, x3, x4, x5, x6, none]) (fun d es ρ hJ => ?_) (fun ρ hJ => ?_) _ _ ⟨fun d hd => ?_, ps1, none, none, none, none, none, G1, rfl⟩
  · obtain ⟨hd, ps, x2, x3, x4, x5, x6, Gp, rfl⟩ := hJ
    obtain ⟨i, rfl⟩ := hd d List.mem_cons_self
    rw [nameT_i, oP_some]
    exact turn_step r0 r1 Gp fun ps' y3 y4 y5 y6 G2 => ⟨fun d hd' => hd d (List.mem_cons_of_mem _ hd'), ps', _, y3, y4, y5, y6, G2, rfl⟩
  · obtain ⟨_, ps, x2, x3, x4, x5, x6, Gp, rfl⟩ := hJ
    rw [seqK_nx]
    refine t_step ?_
    simp
    exact q _
  · unfold rangeD at hd
    obtain ⟨k, _, rfl⟩ := List.mem_map.mp hd
    exact ⟨_, rfl⟩
theorem truth : ∀ ns : List Int, ns.length ≤ 63 → ∃ ss, f_law [.dat (scr ns)] = .ok (.d (.bool true)) ss := by
  intro ns hns
  have main : pF f_law [.dat (scr ns)] fun v _ => v = .d (.bool true) := by
    refine pf_fn ?_
    unfold b_law
    simp
    refine ws_for (wi_rng1 ?_)
    simp
    refine ⟨?_, ?_⟩
    · split <;> split <;> omega
    · refine ws_forN (J := fun es ρ => (∀ d ∈ es, ∃ t : Nat, d = .int t ∧ t ≤ 100) ∧ ∃ x, ρ = [some (.dat (scr ns)), x]) (fun d r ρ hJ => ?_) (fun ρ hJ => ?_) _ _ ⟨fun d hd => ?_, none, rfl⟩
      · obtain ⟨hd, x, rfl⟩ := hJ
        obtain ⟨t, rfl, ht⟩ := hd d List.mem_cons_self
        simp
        refine ws_if ?_
        simp
        refine we_callL ?_
        simp
        refine pool ht fun ps Gp => ?_
        simp
        refine right Gp fun ps' => ?_
        simp
        exact fun d hd' => hd d (List.mem_cons_of_mem _ hd')
      · obtain ⟨_, x, rfl⟩ := hJ
        simp
        refine ws_ret ?_
        simp
      · unfold rangeD at hd
        obtain ⟨k, hk, rfl⟩ := List.mem_map.mp hd
        refine ⟨k, by simp, ?_⟩
        have hk' := List.mem_range.mp hk
        revert hk'
        split <;> split <;> intro hk' <;> omega
  unfold pF at main
  cases e : f_law [.dat (scr ns)] with
  | ok v ss =>
    rw [e] at main
    exact ⟨ss, by rw [main]⟩
  | exc x ss => rw [e] at main; exact main.elim
  | stuck => rw [e] at main; exact main.elim
end K00
end DL
set_option Elab.async false
set_option linter.all false
set_option maxRecDepth 100000
set_option maxHeartbeats 2000000
open PySem PySem.W PyProof.Rows
set_option maxRecDepth 100000 in
set_option maxHeartbeats 0 in
theorem PySem.Challenge.cw_rootplans_k00_errors_each_of_its_own_holds : PySem.Challenge.rw_rootplans_k00_errors_each_of_its_own.Holds := by
  w_on; o_law; k_head; (case hw => w_witness2)
  k_fill
  refine DL.walkD (l := PySem.Challenge.rw_rootplans_k00_errors_each_of_its_own) (n := 63) (k := 5) (x := "script") (m := DL.K00.f_law) rfl (by decide) rfl ⟨rfl, by decide, by decide⟩ (fun w h Y => PySem.W.kIn_of Y) DL.K00.truth ?F
  case F =>
    intro w mg h KX G base _ _
    refine DL.K00.at_law ?_
    refine' DL.K00.all_mk KX G ?a0 ?l0 ?c0 ?k0 ?a1 ?l1 ?c1 ?k1 ?a2 ?l2 ?c2 ?k2 ?a3 ?l3 ?c3 ?k3 ?a4 ?l4 ?c4 ?k4 ?a5 ?l5 ?c5 ?k5 ?a6 ?l6 ?c6 ?k6 ?a7 ?l7 ?c7 ?k7 ?a8 ?l8 ?c8 ?k8 ?a9 ?l9 ?c9 ?k9 ?z_ValueError ?z_abs ?z_divmod ?z_int ?z_isinstance ?z_len ?z_max ?z_min ?z_range ?z_repr ?aC_PlanError ?xL_PlanError ?ga_PlanError ?gg_PlanError ?eC_PlanError ?hC_PlanError ?cc_PlanError ?mo_PlanError ?kC_PlanError ?q_PlanError ?aC_InvalidValue ?xL_InvalidValue ?ga_InvalidValue ?gg_InvalidValue ?eC_InvalidValue ?hC_InvalidValue ?cc_InvalidValue ?mo_InvalidValue ?kC_InvalidValue ?sa_InvalidValue ?tC_InvalidValue ?nf_InvalidValue ?ii_InvalidValue ?ti_InvalidValue ?li_InvalidValue ?ci_InvalidValue ?ki_InvalidValue ?aC_InvalidPoly ?xL_InvalidPoly ?ga_InvalidPoly ?gg_InvalidPoly ?eC_InvalidPoly ?hC_InvalidPoly ?cc_InvalidPoly ?mo_InvalidPoly ?kC_InvalidPoly ?sa_InvalidPoly ?tC_InvalidPoly ?nf_InvalidPoly ?ii_InvalidPoly ?ti_InvalidPoly ?li_InvalidPoly ?ci_InvalidPoly ?ki_InvalidPoly ?aC_InvalidChain ?xL_InvalidChain ?ga_InvalidChain ?gg_InvalidChain ?eC_InvalidChain ?hC_InvalidChain ?cc_InvalidChain ?mo_InvalidChain ?kC_InvalidChain ?sa_InvalidChain ?tC_InvalidChain ?nf_InvalidChain ?ii_InvalidChain ?ti_InvalidChain ?li_InvalidChain ?ci_InvalidChain ?ki_InvalidChain ?aC_InvalidFraction ?xL_InvalidFraction ?ga_InvalidFraction ?gg_InvalidFraction ?eC_InvalidFraction ?hC_InvalidFraction ?cc_InvalidFraction ?mo_InvalidFraction ?kC_InvalidFraction ?sa_InvalidFraction ?tC_InvalidFraction ?nf_InvalidFraction ?ii_InvalidFraction ?ti_InvalidFraction ?li_InvalidFraction ?ci_InvalidFraction ?ki_InvalidFraction ?aC_InvalidNumber ?xL_InvalidNumber ?ga_InvalidNumber ?gg_InvalidNumber ?eC_InvalidNumber ?hC_InvalidNumber ?cc_InvalidNumber ?mo_InvalidNumber ?kC_InvalidNumber ?sa_InvalidNumber ?tC_InvalidNumber ?nf_InvalidNumber ?ii_InvalidNumber ?ti_InvalidNumber ?li_InvalidNumber ?ci_InvalidNumber ?ki_InvalidNumber ?aC_InvalidLine ?xL_InvalidLine ?ga_InvalidLine ?gg_InvalidLine ?eC_InvalidLine ?hC_InvalidLine ?cc_InvalidLine ?mo_InvalidLine ?kC_InvalidLine ?sa_InvalidLine ?tC_InvalidLine ?nf_InvalidLine ?ii_InvalidLine ?ti_InvalidLine ?li_InvalidLine ?ci_InvalidLine ?ki_InvalidLine ?aC_NotADesk ?xL_NotADesk ?ga_NotADesk ?gg_NotADesk ?eC_NotADesk ?hC_NotADesk ?cc_NotADesk ?mo_NotADesk ?kC_NotADesk ?sa_NotADesk ?tC_NotADesk ?nf_NotADesk ?ii_NotADesk ?ti_NotADesk ?li_NotADesk ?ci_NotADesk ?ki_NotADesk ?aC_NotNow ?xL_NotNow ?ga_NotNow ?gg_NotNow ?eC_NotNow ?hC_NotNow ?cc_NotNow ?mo_NotNow ?kC_NotNow ?sa_NotNow ?tC_NotNow ?nf_NotNow ?ii_NotNow ?ti_NotNow ?li_NotNow ?ci_NotNow ?ki_NotNow ?aC_InvalidText ?xL_InvalidText ?ga_InvalidText ?gg_InvalidText ?eC_InvalidText ?hC_InvalidText ?cc_InvalidText ?mo_InvalidText ?kC_InvalidText ?sa_InvalidText ?tC_InvalidText ?nf_InvalidText ?ii_InvalidText ?ti_InvalidText ?li_InvalidText ?ci_InvalidText ?ki_InvalidText ?aC_InvalidPlan ?xL_InvalidPlan ?ga_InvalidPlan ?gg_InvalidPlan ?eC_InvalidPlan ?hC_InvalidPlan ?cc_InvalidPlan ?mo_InvalidPlan ?kC_InvalidPlan ?sa_InvalidPlan ?tC_InvalidPlan ?nf_InvalidPlan ?ii_InvalidPlan ?ti_InvalidPlan ?li_InvalidPlan ?ci_InvalidPlan ?ki_InvalidPlan ?aC_Misfit ?xL_Misfit ?ga_Misfit ?gg_Misfit ?eC_Misfit ?hC_Misfit ?cc_Misfit ?mo_Misfit ?kC_Misfit ?sa_Misfit ?tC_Misfit ?nf_Misfit ?ii_Misfit ?ti_Misfit ?li_Misfit ?ci_Misfit ?ki_Misfit ?aC_InvalidCode ?xL_InvalidCode ?ga_InvalidCode ?gg_InvalidCode ?eC_InvalidCode ?hC_InvalidCode ?cc_InvalidCode ?mo_InvalidCode ?kC_InvalidCode ?sa_InvalidCode ?tC_InvalidCode ?nf_InvalidCode ?ii_InvalidCode ?ti_InvalidCode ?li_InvalidCode ?ci_InvalidCode ?ki_InvalidCode ?aC_InvalidTower ?xL_InvalidTower ?ga_InvalidTower ?gg_InvalidTower ?eC_InvalidTower ?hC_InvalidTower ?cc_InvalidTower ?mo_InvalidTower ?kC_InvalidTower ?sa_InvalidTower ?tC_InvalidTower ?nf_InvalidTower ?ii_InvalidTower ?ti_InvalidTower ?li_InvalidTower ?ci_InvalidTower ?ki_InvalidTower ?aC_InvalidBook ?xL_InvalidBook ?ga_InvalidBook ?gg_InvalidBook ?eC_InvalidBook ?hC_InvalidBook ?cc_InvalidBook ?mo_InvalidBook ?kC_InvalidBook ?sa_InvalidBook ?tC_InvalidBook ?nf_InvalidBook ?ii_InvalidBook ?ti_InvalidBook ?li_InvalidBook ?ci_InvalidBook ?ki_InvalidBook ?aC_Broken ?xL_Broken ?ga_Broken ?gg_Broken ?eC_Broken ?hC_Broken ?cc_Broken ?mo_Broken ?kC_Broken ?sa_Broken ?tC_Broken ?nf_Broken ?ii_Broken ?ti_Broken ?li_Broken ?ci_Broken ?ki_Broken ?aC_TooMany ?xL_TooMany ?ga_TooMany ?gg_TooMany ?eC_TooMany ?hC_TooMany ?cc_TooMany ?mo_TooMany ?kC_TooMany ?q_TooMany ?aC_NothingToUndo ?xL_NothingToUndo ?ga_NothingToUndo ?gg_NothingToUndo ?eC_NothingToUndo ?hC_NothingToUndo ?cc_NothingToUndo ?mo_NothingToUndo ?kC_NothingToUndo ?q_NothingToUndo ?sg ?tk
    (case a0 => k_is)
    (case l0 => k_is)
    (case c0 => k_is)
    (case k0 => k_is)
    (case a1 => k_is)
    (case l1 => k_is)
    (case c1 => k_is)
    (case k1 => k_is)
    (case a2 => k_is)
    (case l2 => k_is)
    (case c2 => k_is)
    (case k2 => k_is)
    (case a3 => k_is)
    (case l3 => k_is)
    (case c3 => k_is)
    (case k3 => k_is)
    (case a4 => k_is)
    (case l4 => k_is)
    (case c4 => k_is)
    (case k4 => k_is)
    (case a5 => k_is)
    (case l5 => k_is)
    (case c5 => k_is)
    (case k5 => k_is)
    (case a6 => k_is)
    (case l6 => k_is)
    (case c6 => k_is)
    (case k6 => k_is)
    (case a7 => k_is)
    (case l7 => k_is)
    (case c7 => k_is)
    (case k7 => k_is)
    (case a8 => k_is)
    (case l8 => k_is)
    (case c8 => k_is)
    (case k8 => k_is)
    (case a9 => k_is)
    (case l9 => k_is)
    (case c9 => k_is)
    (case k9 => k_is)
    (case z_ValueError => k_is)
    (case z_abs => k_is)
    (case z_divmod => k_is)
    (case z_int => k_is)
    (case z_isinstance => k_is)
    (case z_len => k_is)
    (case z_max => k_is)
    (case z_min => k_is)
    (case z_range => k_is)
    (case z_repr => k_is)
    (case aC_PlanError => k_is)
    (case xL_PlanError => k_is)
    (case ga_PlanError => k_is)
    (case gg_PlanError => k_is)
    (case eC_PlanError => k_is)
    (case hC_PlanError => k_is)
    (case cc_PlanError => k_is)
    (case mo_PlanError => k_is)
    (case kC_PlanError => k_is)
    (case q_PlanError => k_exc)
    (case aC_InvalidValue => k_is)
    (case xL_InvalidValue => k_is)
    (case ga_InvalidValue => k_is)
    (case gg_InvalidValue => k_is)
    (case eC_InvalidValue => k_is)
    (case hC_InvalidValue => k_is)
    (case cc_InvalidValue => k_is)
    (case mo_InvalidValue => k_is)
    (case kC_InvalidValue => k_is)
    (case sa_InvalidValue => k_is)
    (case tC_InvalidValue => k_is)
    (case nf_InvalidValue => k_is)
    (case ii_InvalidValue => k_is)
    (case ti_InvalidValue => k_is)
    (case li_InvalidValue => k_is)
    (case ci_InvalidValue => k_is)
    (case ki_InvalidValue => k_is)
    (case aC_InvalidPoly => k_is)
    (case xL_InvalidPoly => k_is)
    (case ga_InvalidPoly => k_is)
    (case gg_InvalidPoly => k_is)
    (case eC_InvalidPoly => k_is)
    (case hC_InvalidPoly => k_is)
    (case cc_InvalidPoly => k_is)
    (case mo_InvalidPoly => k_is)
    (case kC_InvalidPoly => k_is)
    (case sa_InvalidPoly => k_is)
    (case tC_InvalidPoly => k_is)
    (case nf_InvalidPoly => k_is)
    (case ii_InvalidPoly => k_is)
    (case ti_InvalidPoly => k_is)
    (case li_InvalidPoly => k_is)
    (case ci_InvalidPoly => k_is)
    (case ki_InvalidPoly => k_is)
    (case aC_InvalidChain => k_is)
    (case xL_InvalidChain => k_is)
    (case ga_InvalidChain => k_is)
    (case gg_InvalidChain => k_is)
    (case eC_InvalidChain => k_is)
    (case hC_InvalidChain => k_is)
    (case cc_InvalidChain => k_is)
    (case mo_InvalidChain => k_is)
    (case kC_InvalidChain => k_is)
    (case sa_InvalidChain => k_is)
    (case tC_InvalidChain => k_is)
    (case nf_InvalidChain => k_is)
    (case ii_InvalidChain => k_is)
    (case ti_InvalidChain => k_is)
    (case li_InvalidChain => k_is)
    (case ci_InvalidChain => k_is)
    (case ki_InvalidChain => k_is)
    (case aC_InvalidFraction => k_is)
    (case xL_InvalidFraction => k_is)
    (case ga_InvalidFraction => k_is)
    (case gg_InvalidFraction => k_is)
    (case eC_InvalidFraction => k_is)
    (case hC_InvalidFraction => k_is)
    (case cc_InvalidFraction => k_is)
    (case mo_InvalidFraction => k_is)
    (case kC_InvalidFraction => k_is)
    (case sa_InvalidFraction => k_is)
    (case tC_InvalidFraction => k_is)
    (case nf_InvalidFraction => k_is)
    (case ii_InvalidFraction => k_is)
    (case ti_InvalidFraction => k_is)
    (case li_InvalidFraction => k_is)
    (case ci_InvalidFraction => k_is)
    (case ki_InvalidFraction => k_is)
    (case aC_InvalidNumber => k_is)
    (case xL_InvalidNumber => k_is)
    (case ga_InvalidNumber => k_is)
    (case gg_InvalidNumber => k_is)
    (case eC_InvalidNumber => k_is)
    (case hC_InvalidNumber => k_is)
    (case cc_InvalidNumber => k_is)
    (case mo_InvalidNumber => k_is)
    (case kC_InvalidNumber => k_is)
    (case sa_InvalidNumber => k_is)
    (case tC_InvalidNumber => k_is)
    (case nf_InvalidNumber => k_is)
    (case ii_InvalidNumber => k_is)
    (case ti_InvalidNumber => k_is)
    (case li_InvalidNumber => k_is)
    (case ci_InvalidNumber => k_is)
    (case ki_InvalidNumber => k_is)
    (case aC_InvalidLine => k_is)
    (case xL_InvalidLine => k_is)
    (case ga_InvalidLine => k_is)
    (case gg_InvalidLine => k_is)
    (case eC_InvalidLine => k_is)
    (case hC_InvalidLine => k_is)
    (case cc_InvalidLine => k_is)
    (case mo_InvalidLine => k_is)
    (case kC_InvalidLine => k_is)
    (case sa_InvalidLine => k_is)
    (case tC_InvalidLine => k_is)
    (case nf_InvalidLine => k_is)
    (case ii_InvalidLine => k_is)
    (case ti_InvalidLine => k_is)
    (case li_InvalidLine => k_is)
    (case ci_InvalidLine => k_is)
    (case ki_InvalidLine => k_is)
    (case aC_NotADesk => k_is)
    (case xL_NotADesk => k_is)
    (case ga_NotADesk => k_is)
    (case gg_NotADesk => k_is)
    (case eC_NotADesk => k_is)
    (case hC_NotADesk => k_is)
    (case cc_NotADesk => k_is)
    (case mo_NotADesk => k_is)
    (case kC_NotADesk => k_is)
    (case sa_NotADesk => k_is)
    (case tC_NotADesk => k_is)
    (case nf_NotADesk => k_is)
    (case ii_NotADesk => k_is)
    (case ti_NotADesk => k_is)
    (case li_NotADesk => k_is)
    (case ci_NotADesk => k_is)
    (case ki_NotADesk => k_is)
    (case aC_NotNow => k_is)
    (case xL_NotNow => k_is)
    (case ga_NotNow => k_is)
    (case gg_NotNow => k_is)
    (case eC_NotNow => k_is)
    (case hC_NotNow => k_is)
    (case cc_NotNow => k_is)
    (case mo_NotNow => k_is)
    (case kC_NotNow => k_is)
    (case sa_NotNow => k_is)
    (case tC_NotNow => k_is)
    (case nf_NotNow => k_is)
    (case ii_NotNow => k_is)
    (case ti_NotNow => k_is)
    (case li_NotNow => k_is)
    (case ci_NotNow => k_is)
    (case ki_NotNow => k_is)
    (case aC_InvalidText => k_is)
    (case xL_InvalidText => k_is)
    (case ga_InvalidText => k_is)
    (case gg_InvalidText => k_is)
    (case eC_InvalidText => k_is)
    (case hC_InvalidText => k_is)
    (case cc_InvalidText => k_is)
    (case mo_InvalidText => k_is)
    (case kC_InvalidText => k_is)
    (case sa_InvalidText => k_is)
    (case tC_InvalidText => k_is)
    (case nf_InvalidText => k_is)
    (case ii_InvalidText => k_is)
    (case ti_InvalidText => k_is)
    (case li_InvalidText => k_is)
    (case ci_InvalidText => k_is)
    (case ki_InvalidText => k_is)
    (case aC_InvalidPlan => k_is)
    (case xL_InvalidPlan => k_is)
    (case ga_InvalidPlan => k_is)
    (case gg_InvalidPlan => k_is)
    (case eC_InvalidPlan => k_is)
    (case hC_InvalidPlan => k_is)
    (case cc_InvalidPlan => k_is)
    (case mo_InvalidPlan => k_is)
    (case kC_InvalidPlan => k_is)
    (case sa_InvalidPlan => k_is)
    (case tC_InvalidPlan => k_is)
    (case nf_InvalidPlan => k_is)
    (case ii_InvalidPlan => k_is)
    (case ti_InvalidPlan => k_is)
    (case li_InvalidPlan => k_is)
    (case ci_InvalidPlan => k_is)
    (case ki_InvalidPlan => k_is)
    (case aC_Misfit => k_is)
    (case xL_Misfit => k_is)
    (case ga_Misfit => k_is)
    (case gg_Misfit => k_is)
    (case eC_Misfit => k_is)
    (case hC_Misfit => k_is)
    (case cc_Misfit => k_is)
    (case mo_Misfit => k_is)
    (case kC_Misfit => k_is)
    (case sa_Misfit => k_is)
    (case tC_Misfit => k_is)
    (case nf_Misfit => k_is)
    (case ii_Misfit => k_is)
    (case ti_Misfit => k_is)
    (case li_Misfit => k_is)
    (case ci_Misfit => k_is)
    (case ki_Misfit => k_is)
    (case aC_InvalidCode => k_is)
    (case xL_InvalidCode => k_is)
    (case ga_InvalidCode => k_is)
    (case gg_InvalidCode => k_is)
    (case eC_InvalidCode => k_is)
    (case hC_InvalidCode => k_is)
    (case cc_InvalidCode => k_is)
    (case mo_InvalidCode => k_is)
    (case kC_InvalidCode => k_is)
    (case sa_InvalidCode => k_is)
    (case tC_InvalidCode => k_is)
    (case nf_InvalidCode => k_is)
    (case ii_InvalidCode => k_is)
    (case ti_InvalidCode => k_is)
    (case li_InvalidCode => k_is)
    (case ci_InvalidCode => k_is)
    (case ki_InvalidCode => k_is)
    (case aC_InvalidTower => k_is)
    (case xL_InvalidTower => k_is)
    (case ga_InvalidTower => k_is)
    (case gg_InvalidTower => k_is)
    (case eC_InvalidTower => k_is)
    (case hC_InvalidTower => k_is)
    (case cc_InvalidTower => k_is)
    (case mo_InvalidTower => k_is)
    (case kC_InvalidTower => k_is)
    (case sa_InvalidTower => k_is)
    (case tC_InvalidTower => k_is)
    (case nf_InvalidTower => k_is)
    (case ii_InvalidTower => k_is)
    (case ti_InvalidTower => k_is)
    (case li_InvalidTower => k_is)
    (case ci_InvalidTower => k_is)
    (case ki_InvalidTower => k_is)
    (case aC_InvalidBook => k_is)
    (case xL_InvalidBook => k_is)
    (case ga_InvalidBook => k_is)
    (case gg_InvalidBook => k_is)
    (case eC_InvalidBook => k_is)
    (case hC_InvalidBook => k_is)
    (case cc_InvalidBook => k_is)
    (case mo_InvalidBook => k_is)
    (case kC_InvalidBook => k_is)
    (case sa_InvalidBook => k_is)
    (case tC_InvalidBook => k_is)
    (case nf_InvalidBook => k_is)
    (case ii_InvalidBook => k_is)
    (case ti_InvalidBook => k_is)
    (case li_InvalidBook => k_is)
    (case ci_InvalidBook => k_is)
    (case ki_InvalidBook => k_is)
    (case aC_Broken => k_is)
    (case xL_Broken => k_is)
    (case ga_Broken => k_is)
    (case gg_Broken => k_is)
    (case eC_Broken => k_is)
    (case hC_Broken => k_is)
    (case cc_Broken => k_is)
    (case mo_Broken => k_is)
    (case kC_Broken => k_is)
    (case sa_Broken => k_is)
    (case tC_Broken => k_is)
    (case nf_Broken => k_is)
    (case ii_Broken => k_is)
    (case ti_Broken => k_is)
    (case li_Broken => k_is)
    (case ci_Broken => k_is)
    (case ki_Broken => k_is)
    (case aC_TooMany => k_is)
    (case xL_TooMany => k_is)
    (case ga_TooMany => k_is)
    (case gg_TooMany => k_is)
    (case eC_TooMany => k_is)
    (case hC_TooMany => k_is)
    (case cc_TooMany => k_is)
    (case mo_TooMany => k_is)
    (case kC_TooMany => k_is)
    (case q_TooMany => k_exc)
    (case aC_NothingToUndo => k_is)
    (case xL_NothingToUndo => k_is)
    (case ga_NothingToUndo => k_is)
    (case gg_NothingToUndo => k_is)
    (case eC_NothingToUndo => k_is)
    (case hC_NothingToUndo => k_is)
    (case cc_NothingToUndo => k_is)
    (case mo_NothingToUndo => k_is)
    (case kC_NothingToUndo => k_is)
    (case q_NothingToUndo => k_exc)
    (case sg => k_is)
    (case tk => k_is)
#print axioms PySem.Challenge.cw_rootplans_k00_errors_each_of_its_own_holds
