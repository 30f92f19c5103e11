import PyProof.Rows.All
import Wide.All
import OpenK.AllK
import Wide.FinOn
import HandS.ForMost
import HandS.ForExc
import HandS.Wide
import HandS.WideBits
import HandS.TupAny
import HandS.FStr
import HandS.CallSlots
import HandS.RaiseMore
import HandS.IsInst
import PyProof.ReprRoads
import KE.DatumIndex
import HandS.Style
import HandS.ExcInit
import HandS.ExcField
import HandS.ExcIs
import KE.KExcIs
import KE.KxIndex
import PySem.Challenge.RW_rootplans_k01_whole_tokens
set_option Elab.async false
set_option linter.all false
set_option maxRecDepth 100000
set_option maxHeartbeats 2000000
set_option autoImplicit false
/-! DL1: a layer of data over the hand layer: states, steps, what a mirror promises. -/
namespace DL
open PySem PySem.Spec PyProof.Rows L2

abbrev D := PyData
abbrev St := L2.St
/-- what a slot holds: data that never changes, or a list of the def's own -/
inductive Slot where
  | dat (d : D)
  | own (ds : List D)
abbrev Rh := List (Option Slot)

/-! ### data -/
theorem same_rd {H H' : Hp} {a : Addr} {u : HO} (e : Same H H') (h : Rd H a u) : Rd H' a u := by
  rcases h with h | ⟨o, h⟩
  · exact .inl (e _ _ h)
  · exact .inr ⟨o, e _ _ h⟩
theorem same_l {K : PySem.W.Frag} {H H' : Hp} {a : Addr} {xs : List V} (e : Same H H') (h : SqL K H a xs) : SqL K H' a xs := by
  rcases h with h | h
  · exact .inl (same_rd e h)
  · exact .inr h
theorem same_t {K : PySem.W.Frag} {H H' : Hp} {a : Addr} {xs : List V} (e : Same H H') (h : SqT K H a xs) : SqT K H' a xs := by
  rcases h with h | h
  · exact .inl (same_rd e h)
  · exact .inr h
mutual
/-- data: a list stands as one of the def's making, or is the read-only one of the law's caller (told as a dict, which no data is) -/
inductive Dv (K : PySem.W.Frag) (H : Hp) : V → PyData → Prop
  | non : Dv K H .non .none
  | bl (b : Bool) : Dv K H (.bl b) (.bool b)
  | int (i : Int) : Dv K H (.int i) (.int i)
  | str (x : Str) : Dv K H (.str x) (.str x)
  | lst {a : Addr} {xs : List V} {ds : List PyData} : H a = some (.lst xs) → DvAll K H xs ds → Dv K H (.ref a) (.list ds)
  | tup {a : Addr} {xs : List V} {ds : List PyData} : SqT K H a xs → DvAll K H xs ds → Dv K H (.ref a) (.tuple ds)
  | rdl {a : Addr} {ns : List Int} : SqL K H a (ns.map V.int) → Dv K H (.ref a) (.dict ((.none, .none) :: ns.map fun n => (.int n, .none)))
  | emp {a : Addr} : H a = some (.dK []) → Dv K H (.ref a) (.dict [])
inductive DvAll (K : PySem.W.Frag) (H : Hp) : List V → List PyData → Prop
  | nil : DvAll K H [] []
  | cons {v : V} {vs : List V} {d : PyData} {ds : List PyData} : Dv K H v d → DvAll K H vs ds → DvAll K H (v :: vs) (d :: ds)
end
mutual
theorem dv_mono {K : PySem.W.Frag} {H H' : Hp} (e : Same H H') : ∀ (d : D) (v : V), Dv K H v d → Dv K H' v d
  | .none, _, h => by cases h; exact .non
  | .bool b, _, h => by cases h; exact .bl b
  | .int i, _, h => by cases h; exact .int i
  | .str x, _, h => by cases h; exact .str x
  | .list ds, _, h => by
    cases h with
    | lst hs ha => exact .lst (e _ _ hs) (dvAll_mono e ds _ ha)
  | .tuple ds, _, h => by
    cases h with
    | tup hs ha => exact .tup (same_t e hs) (dvAll_mono e ds _ ha)
  | .dict _, _, h => by
    cases h with
    | rdl hs => exact .rdl (same_l e hs)
    | emp hs => exact .emp (e _ _ hs)
theorem dvAll_mono {K : PySem.W.Frag} {H H' : Hp} (e : Same H H') : ∀ (ds : List D) (vs : List V), DvAll K H vs ds → DvAll K H' vs ds
  | [], _, h => by cases h; exact .nil
  | d :: ds, _, h => by
    cases h with
    | cons h1 h2 => exact .cons (dv_mono e d _ h1) (dvAll_mono e ds _ h2)
end
mutual
theorem Dv.dp {K : PySem.W.Frag} {H : Hp} : ∀ (d : D) (v : V), Dv K H v d → d.canLay0 = true → Dp K H v d
  | .none, _, h, _ => by cases h; exact .non
  | .bool b, _, h, _ => by cases h; exact .bl b
  | .int i, _, h, _ => by cases h; exact .int i
  | .str x, _, h, _ => by cases h; exact .str x
  | .list ds, _, h, c => by
    cases h with
    | lst hs ha => exact .lst (SqL.of hs) (DvAll.dp ds _ ha (by simpa [PyData.canLay0] using c))
  | .tuple ds, _, h, c => by
    cases h with
    | tup hs ha => exact .tup hs (DvAll.dp ds _ ha (by simpa [PyData.canLay0] using c))
  | .dict _, _, _, c => by simp [PyData.canLay0] at c
theorem DvAll.dp {K : PySem.W.Frag} {H : Hp} : ∀ (ds : List D) (vs : List V), DvAll K H vs ds → PyData.canLayAll0 ds = true → DpAll K H vs ds
  | [], _, h, _ => by cases h; exact .nil
  | d :: ds, _, h, c => by
    cases h with
    | cons h1 h2 =>
      simp only [PyData.canLayAll0, Bool.and_eq_true] at c
      exact .cons (Dv.dp d _ h1 c.1) (DvAll.dp ds _ h2 c.2)
end
theorem DvAll.length {K : PySem.W.Frag} {H : Hp} : ∀ {vs : List V} {ds : List D}, DvAll K H vs ds → vs.length = ds.length
  | _, _, .nil => rfl
  | _, _, .cons _ h => congrArg (· + 1) (DvAll.length h)
theorem DvAll.get {K : PySem.W.Frag} {H : Hp} : ∀ {vs : List V} {ds : List D} {i : Nat} {d : D}, DvAll K H vs ds → ds[i]? = some d → ∃ v, vs[i]? = some v ∧ Dv K H v d
  | _, _, _, _, .nil, e => by simp at e
  | _, _, 0, _, .cons h _, e => by simp at e; subst e; exact ⟨_, rfl, h⟩
  | _, _, i + 1, d, .cons _ h, e => by
    obtain ⟨v, q, r⟩ := DvAll.get (i := i) (d := d) h (by simpa using e)
    exact ⟨v, by simpa using q, r⟩
theorem DvAll.getV {K : PySem.W.Frag} {H : Hp} : ∀ {vs : List V} {ds : List D} {i : Nat} {v : V}, DvAll K H vs ds → vs[i]? = some v → ∃ d, ds[i]? = some d ∧ Dv K H v d
  | _, _, _, _, .nil, e => by simp at e
  | _, _, 0, _, .cons h _, e => by simp at e; subst e; exact ⟨_, rfl, h⟩
  | _, _, i + 1, v, .cons _ h, e => by
    obtain ⟨d, q, r⟩ := DvAll.getV (i := i) (v := v) h (by simpa using e)
    exact ⟨d, by simpa using q, r⟩
theorem DvAll.append {K : PySem.W.Frag} {H : Hp} : ∀ {vs : List V} {ds : List D} {us : List V} {es : List D}, DvAll K H vs ds → DvAll K H us es → DvAll K H (vs ++ us) (ds ++ es)
  | _, _, _, _, .nil, h => h
  | _, _, _, _, .cons a b, h => .cons a (DvAll.append b h)
theorem DvAll.drop {K : PySem.W.Frag} {H : Hp} : ∀ (n : Nat) {vs : List V} {ds : List D}, DvAll K H vs ds → DvAll K H (vs.drop n) (ds.drop n)
  | 0, _, _, h => h
  | _ + 1, _, _, .nil => .nil
  | n + 1, _, _, .cons _ h => by simpa using DvAll.drop n h
theorem DvAll.take {K : PySem.W.Frag} {H : Hp} : ∀ (n : Nat) {vs : List V} {ds : List D}, DvAll K H vs ds → DvAll K H (vs.take n) (ds.take n)
  | 0, _, _, _ => by simpa using DvAll.nil
  | _ + 1, _, _, .nil => by simpa using DvAll.nil
  | n + 1, _, _, .cons a h => by simpa using DvAll.cons a (DvAll.take n h)
theorem DvAll.set {K : PySem.W.Frag} {H : Hp} {v : V} {d : D} (q : Dv K H v d) : ∀ (i : Nat) {vs : List V} {ds : List D}, DvAll K H vs ds → DvAll K H (vs.set i v) (ds.set i d)
  | _, _, _, .nil => by simpa using DvAll.nil
  | 0, _, _, .cons _ h => by simpa using DvAll.cons q h
  | i + 1, _, _, .cons a h => by simpa using DvAll.cons a (DvAll.set q i h)

/-! ### states: slots, what they hold, what stands for good (F), the heap -/
def Owned (σ : St) (ρ : Rh) (b : Addr) : Prop := ∃ (i : Nat) (ds : List D), ρ[i]? = some (some (.own ds)) ∧ σ[i]? = some (some (.ref b))
structure Con (K : PySem.W.Frag) (σ : St) (ρ : Rh) (F H : Hp) : Prop where
  ext : Same F H
  len : σ.length = ρ.length
  dat : ∀ (i : Nat) (d : D), ρ[i]? = some (some (.dat d)) → ∃ v, σ[i]? = some (some v) ∧ Dv K F v d
  own : ∀ (i : Nat) (ds : List D), ρ[i]? = some (some (.own ds)) → ∃ p vs, σ[i]? = some (some (.ref p)) ∧ F p = none ∧ H p = some (.lst vs) ∧ DvAll K F vs ds
  sep : ∀ (i j : Nat) (a b : List D) (p : Addr), i ≠ j → ρ[i]? = some (some (.own a)) → ρ[j]? = some (some (.own b)) → σ[i]? = some (some (.ref p)) → σ[j]? = some (some (.ref p)) → False
structure Stp (P : List Nat) (σ : St) (ρ : Rh) (F H : Hp) (σ' : St) (ρ' : Rh) (F' H' : Hp) : Prop where
  fr : Same F F'
  keep : ∀ b o, H b = some o → ¬ Owned σ ρ b → H' b = some o
  free : ∀ b o, H b = some o → F b = none → ¬ Owned σ ρ b → F' b = none
  own : ∀ b, Owned σ' ρ' b → Owned σ ρ b ∨ H b = none
  dom : ∀ b o, H b = some o → ∃ o', H' b = some o'
  pin : ∀ i ∈ P, σ'[i]? = σ[i]?
theorem Stp.refl {P : List Nat} {σ : St} {ρ : Rh} {F H : Hp} : Stp P σ ρ F H σ ρ F H :=
  ⟨fun _ _ h => h, fun _ _ h _ => h, fun _ _ _ h _ => h, fun _ h => .inl h, fun _ o h => ⟨o, h⟩, fun _ _ => rfl⟩
theorem Stp.not {P : List Nat} {σ σ1 : St} {ρ ρ1 : Rh} {F H F1 H1 : Hp} (a : Stp P σ ρ F H σ1 ρ1 F1 H1) {b : Addr} {o : HO} (h : H b = some o) (n : ¬ Owned σ ρ b) : ¬ Owned σ1 ρ1 b := fun q => by
  rcases a.own b q with r | r
  · exact n r
  · rw [r] at h; cases h
theorem Stp.trans {P : List Nat} {σ σ1 σ2 : St} {ρ ρ1 ρ2 : Rh} {F H F1 H1 F2 H2 : Hp} (a : Stp P σ ρ F H σ1 ρ1 F1 H1) (b : Stp P σ1 ρ1 F1 H1 σ2 ρ2 F2 H2) : Stp P σ ρ F H σ2 ρ2 F2 H2 where
  fr := fun x o h => b.fr x o (a.fr x o h)
  keep := fun x o h n => b.keep x o (a.keep x o h n) (a.not h n)
  free := fun x o h f n => b.free x o (a.keep x o h n) (a.free x o h f n) (a.not h n)
  own := fun x q => by
    rcases b.own x q with r | r
    · exact a.own x r
    · refine .inr ?_
      cases e : H x with
      | none => rfl
      | some o =>
        obtain ⟨o', e'⟩ := a.dom x o e
        rw [r] at e'; cases e'
  dom := fun x o h => by
    obtain ⟨o', e⟩ := a.dom x o h
    exact b.dom x o' e
  pin := fun i hi => (b.pin i hi).trans (a.pin i hi)
theorem Stp.back {P : List Nat} {σ σ1 : St} {ρ ρ1 : Rh} {F H F1 H1 : Hp} (a : Stp P σ ρ F H σ1 ρ1 F1 H1) {b : Addr} (h : H1 b = none) : H b = none := by
  cases e : H b with
  | none => rfl
  | some o =>
    obtain ⟨o', e'⟩ := a.dom b o e
    rw [h] at e'; cases e'

/-- only new things: what stood stands, what was free for the def is so -/
structure News (F H F' H' : Hp) : Prop where
  fr : Same F F'
  ht : Same H H'
  ex : Same F' H'
  free : ∀ b o, H b = some o → F b = none → F' b = none
theorem News.refl {F H : Hp} (e : Same F H) : News F H F H := ⟨fun _ _ h => h, fun _ _ h => h, e, fun _ _ _ h => h⟩
theorem News.trans {F H F1 H1 F2 H2 : Hp} (a : News F H F1 H1) (b : News F1 H1 F2 H2) : News F H F2 H2 :=
  ⟨fun x o h => b.fr x o (a.fr x o h), fun x o h => b.ht x o (a.ht x o h), b.ex, fun x o h f => b.free x o (a.ht x o h) (a.free x o h f)⟩
/-- a new object for good -/
theorem News.new {F H : Hp} {p : Addr} {u : HO} (e : Same F H) (n : H p = none) : News F H (upd F p u) (upd H p u) where
  fr := fun x o h => by
    rw [upd_ne (ne_of_none (e x o h) n)]; exact h
  ht := fun x o h => by
    rw [upd_ne (ne_of_none h n)]; exact h
  ex := fun x o h => by
    by_cases q : x = p
    · subst q; rw [upd_same] at h ⊢; exact h
    · rw [upd_ne q] at h ⊢; exact e x o h
  free := fun x o h f => by
    rw [upd_ne (ne_of_none h n)]; exact f
/-- a new object that is nobody's yet -/
theorem News.loose {F H : Hp} {p : Addr} {u : HO} (e : Same F H) (n : H p = none) : News F H F (upd H p u) where
  fr := fun _ _ h => h
  ht := fun x o h => by
    rw [upd_ne (ne_of_none h n)]; exact h
  ex := fun x o h => by
    rw [upd_ne (ne_of_none (e x o h) n)]; exact e x o h
  free := fun _ _ _ f => f
theorem Con.news {K : PySem.W.Frag} {σ : St} {ρ : Rh} {F H F' H' : Hp} (c : Con K σ ρ F H) (n : News F H F' H') : Con K σ ρ F' H' where
  ext := n.ex
  len := c.len
  dat := fun i d e => by
    obtain ⟨v, q, r⟩ := c.dat i d e
    exact ⟨v, q, dv_mono n.fr d v r⟩
  own := fun i ds e => by
    obtain ⟨p, vs, q, f, h, r⟩ := c.own i ds e
    exact ⟨p, vs, q, n.free p _ h f, n.ht p _ h, dvAll_mono n.fr ds vs r⟩
  sep := c.sep
theorem Stp.news {P : List Nat} {K : PySem.W.Frag} {σ : St} {ρ : Rh} {F H F' H' : Hp} (n : News F H F' H') : Stp P σ ρ F H σ ρ F' H' where
  fr := n.fr
  keep := fun b o h _ => n.ht b o h
  free := fun b o h f _ => n.free b o h f
  own := fun b h => .inl h
  dom := fun b o h => ⟨o, n.ht b o h⟩
  pin := fun _ _ => rfl

/-! ### values, exceptions, results -/
inductive Val where
  | d (d : D)
  /-- a new list that nobody knows as yet -/
  | l (ds : List D)
def ValIs (K : PySem.W.Frag) (σ0 : St) (ρ0 : Rh) (H0 : Hp) (σ : St) (ρ : Rh) (F H : Hp) (v : V) : Val → Prop
  | .d d => Dv K F v d
  | .l ds => ∃ p vs, v = .ref p ∧ F p = none ∧ H p = some (.lst vs) ∧ DvAll K F vs ds ∧ ¬ Owned σ ρ p ∧ (Owned σ0 ρ0 p ∨ H0 p = none)
structure Xn where
  cls : Str
  fld : Option (Str × D)
def XnIs (K : PySem.W.Frag) (mg : Str → Option Value) (F H : Hp) (x : Xn) (cls : Value) (dd : Option Addr) : Prop :=
  ∃ C, mg x.cls = some (.ref C) ∧ cls = .ref C ∧ match x.fld with
    | none => True
    | some (f, d) => ∃ a v, dd = some a ∧ H a = some (.xd [(f, v)]) ∧ Dv K F v d
inductive R (S : Type) where
  | ok (v : Val) (s : S)
  | exc (x : Xn) (s : S)
  | stuck
abbrev EM := Rh → R Rh
/-- what a derivation stands in: the written part, the module's names, the wish of exceptions, the slots that stay -/
structure G where
  K : PySem.W.Frag
  mg : Str → Option Value
  W : WX
  P : List Nat
def EPost (g : G) (σ : St) (ρ : Rh) (F H : Hp) (Q : VK) : R Rh → Prop
  | .ok v ρ' => ∀ x F' H', Con g.K σ ρ' F' H' → Stp g.P σ ρ F H σ ρ' F' H' → ValIs g.K σ ρ H σ ρ' F' H' x v → Q x H'
  | .exc e ρ' => ∀ cls dd F' H', Con g.K σ ρ' F' H' → Stp g.P σ ρ F H σ ρ' F' H' → XnIs g.K g.mg F' H' e cls dd → g.W cls dd σ H'
  | .stuck => False
def SndE (g : G) (te : TE) (m : EM) : Prop := ∀ σ ρ F H Q, Con g.K σ ρ F H → EPost g σ ρ F H Q (m ρ) → te σ H Q
def bindE (m : EM) (f : Val → EM) : EM := fun ρ => match m ρ with
  | .ok v ρ' => f v ρ'
  | .exc e ρ' => .exc e ρ'
  | .stuck => .stuck

theorem ValIs.shift {P : List Nat} {K : PySem.W.Frag} {σ0 : St} {ρ0 : Rh} {H0 : Hp} {σ σ1 : St} {ρ ρ1 : Rh} {F H F1 H1 : Hp} {x : V} {v : Val} (h : ValIs K σ0 ρ0 H0 σ ρ F H x v) (s : Stp P σ ρ F H σ1 ρ1 F1 H1) : ValIs K σ0 ρ0 H0 σ1 ρ1 F1 H1 x v := by
  cases v with
  | d d => exact dv_mono s.fr d x h
  | l ds =>
    obtain ⟨p, vs, e, f, q, a, n, o⟩ := h
    exact ⟨p, vs, e, s.free p _ q f n, s.keep p _ q n, dvAll_mono s.fr ds vs a, s.not q n, o⟩
theorem ValIs.from {P : List Nat} {K : PySem.W.Frag} {σ0 σ' : St} {ρ0 ρ' : Rh} {F0 H0 F' H' : Hp} {σ : St} {ρ : Rh} {F H : Hp} {x : V} {v : Val} (h : ValIs K σ' ρ' H' σ ρ F H x v) (s : Stp P σ0 ρ0 F0 H0 σ' ρ' F' H') : ValIs K σ0 ρ0 H0 σ ρ F H x v := by
  cases v with
  | d d => exact h
  | l ds =>
    obtain ⟨p, vs, e, f, q, a, n, o⟩ := h
    refine ⟨p, vs, e, f, q, a, n, ?_⟩
    rcases o with o | o
    · exact s.own p o
    · exact .inr (s.back o)
theorem EPost.shift {g : G} {σ : St} {ρ ρ1 : Rh} {F H F1 H1 : Hp} {Q : VK} {r : R Rh} (h : EPost g σ ρ F H Q r) (s : Stp g.P σ ρ F H σ ρ1 F1 H1) : EPost g σ ρ1 F1 H1 Q r := by
  cases r with
  | ok v ρ' => exact fun x F' H' c t iv => h x F' H' c (s.trans t) (iv.from s)
  | exc e ρ' => exact fun cls dd F' H' c t ix => h cls dd F' H' c (s.trans t) ix
  | stuck => exact h
theorem SndE.bind {g : G} {te : TE} {m : EM} {f : Val → EM} (h : SndE g te m) {σ : St} {ρ : Rh} {F H : Hp} {Q Q1 : VK} (c : Con g.K σ ρ F H) (hp : EPost g σ ρ F H Q (bindE m f ρ))
    (k : ∀ x v ρ' F' H', Con g.K σ ρ' F' H' → Stp g.P σ ρ F H σ ρ' F' H' → ValIs g.K σ ρ H σ ρ' F' H' x v → EPost g σ ρ' F' H' Q (f v ρ') → Q1 x H') : te σ H Q1 := by
  refine h σ ρ F H Q1 c ?_
  unfold bindE at hp
  cases e : m ρ with
  | ok v ρ' =>
    rw [e] at hp
    exact fun x F' H' c' s iv => k x v ρ' F' H' c' s iv (hp.shift s)
  | exc x ρ' =>
    rw [e] at hp
    exact hp
  | stuck =>
    rw [e] at hp
    exact hp
end DL
set_option Elab.async false
set_option linter.all false
set_option maxRecDepth 100000
set_option maxHeartbeats 2000000
set_option autoImplicit false
/-! DL2: expressions. -/
namespace DL
open PySem PySem.Spec PyProof.Rows L2

/-! ### the data of the operators -/
def OpD (K : PySem.W.Frag) (r : R2) (g2 : D → D → Option D) : Prop := ∀ (F H : Hp) (x y : V) (dx dy dz : D) (Q : VK), Same F H → Dv K F x dx → Dv K F y dy → g2 dx dy = some dz →
  (∀ v F' H', News F H F' H' → Dv K F' v dz → Q v H') → r x y H Q
def UnD (K : PySem.W.Frag) (r : V → Hp → VK → Prop) (g1 : D → Option D) : Prop := ∀ (F H : Hp) (x : V) (dx dz : D) (Q : VK), Same F H → Dv K F x dx → g1 dx = some dz →
  (∀ v F' H', News F H F' H' → Dv K F' v dz → Q v H') → r x H Q
def CaD (K : PySem.W.Frag) (r : List V → Hp → VK → Prop) (gl : List D → Option D) : Prop := ∀ (F H : Hp) (xs : List V) (ds : List D) (dz : D) (Q : VK), Same F H → DvAll K F xs ds → gl ds = some dz →
  (∀ v F' H', News F H F' H' → Dv K F' v dz → Q v H') → r xs H Q
def liftD (o : Option D) : EM := fun ρ => match o with
  | some d => .ok (.d d) ρ
  | none => .stuck
def op2 (g2 : D → D → Option D) (ma mb : EM) : EM := bindE ma fun a => bindE mb fun b => match a, b with
  | .d x, .d y => liftD (g2 x y)
  | _, _ => fun _ => .stuck
def op1 (g1 : D → Option D) (ma : EM) : EM := bindE ma fun a => match a with
  | .d x => liftD (g1 x)
  | _ => fun _ => .stuck

section
variable {g : G} {ta tb tc te : TE} {ma mb mc m : EM} {r : R2}
/-- the end of an operation that lays only new things -/
theorem EPost.lift {σ : St} {ρ : Rh} {F H : Hp} {Q : VK} {o : Option D} (c : Con g.K σ ρ F H) (h : EPost g σ ρ F H Q (liftD o ρ)) : ∃ dz, o = some dz ∧ ∀ v F' H', News F H F' H' → Dv g.K F' v dz → Q v H' := by
  cases o with
  | none => exact h.elim
  | some dz => exact ⟨dz, rfl, fun v F' H' n q => h v F' H' (c.news n) (Stp.news (K := g.K) n) q⟩
theorem snd_op {g2 : D → D → Option D} (hd : OpD g.K r g2) (ha : SndE g ta ma) (hb : SndE g tb mb) : SndE g (tOp r ta tb) (op2 g2 ma mb) := by
  intro σ ρ F H Q c hp
  refine ha.bind c hp fun x v ρ1 F1 H1 c1 s1 i1 hp1 => ?_
  refine hb.bind c1 hp1 fun y u ρ2 F2 H2 c2 s2 i2 hp2 => ?_
  cases v with
  | l ds => cases u <;> exact hp2.elim
  | d dx =>
    cases u with
    | l ds => exact hp2.elim
    | d dy =>
      obtain ⟨dz, e, k⟩ := hp2.lift c2
      exact hd F2 H2 x y dx dy dz Q c2.ext (dv_mono s2.fr dx x i1) i2 e k
theorem snd_un {r1 : V → Hp → VK → Prop} {g1 : D → Option D} (hd : UnD g.K r1 g1) (ha : SndE g ta ma) : SndE g (tUn r1 ta) (op1 g1 ma) := by
  intro σ ρ F H Q c hp
  refine ha.bind c hp fun x v ρ1 F1 H1 c1 s1 i1 hp1 => ?_
  cases v with
  | l ds => exact hp1.elim
  | d dx =>
    obtain ⟨dz, e, k⟩ := hp1.lift c1
    exact hd F1 H1 x dx dz Q c1.ext i1 e k
end

/-! ### variables, constants -/
def varM (i : Nat) : EM := fun ρ => match ρ[i]? with
  | some (some (.dat d)) => .ok (.d d) ρ
  | _ => .stuck
def conM (d : D) : EM := fun ρ => .ok (.d d) ρ
theorem snd_var {g : G} {i : Nat} : SndE g (tVar i) (varM i) := by
  intro σ ρ F H Q c hp
  unfold varM at hp
  split at hp
  · rename_i d e
    obtain ⟨v, q, r⟩ := c.dat i d e
    exact ⟨v, q, hp v F H c Stp.refl r⟩
  · exact hp.elim
theorem snd_con {g : G} {v : V} {d : D} (h : ∀ F, Dv g.K F v d) : SndE g (tC v) (conM d) := fun σ ρ F H Q c hp => hp v F H c Stp.refl (h F)

/-! ### and, or, not, if -/
def andM (ma mb : EM) : EM := bindE ma fun a => match a with
  | .d (.bool true) => mb
  | .d (.bool false) => conM (.bool false)
  | _ => fun _ => .stuck
def orM (ma mb : EM) : EM := bindE ma fun a => match a with
  | .d (.bool true) => conM (.bool true)
  | .d (.bool false) => mb
  | _ => fun _ => .stuck
def notM (ma : EM) : EM := bindE ma fun a => match a with
  | .d (.bool b) => conM (.bool (!b))
  | _ => fun _ => .stuck
def iteM (mc ma mb : EM) : EM := bindE mc fun a => match a with
  | .d (.bool true) => ma
  | .d (.bool false) => mb
  | _ => fun _ => .stuck
/-- a test -/
def SndT (g : G) (tt : TT) (m : EM) : Prop := ∀ σ ρ F H (Q : Bool → Hp → Prop), Con g.K σ ρ F H → EPost g σ ρ F H (fun x H' => ∃ b, x = .bl b ∧ Q b H') (m ρ) → tt σ H Q
theorem dv_bool {K : PySem.W.Frag} {H : Hp} {x : V} {b : Bool} (h : Dv K H x (.bool b)) : x = .bl b := by cases h; rfl
theorem dv_int {K : PySem.W.Frag} {H : Hp} {x : V} {b : Int} (h : Dv K H x (.int b)) : x = .int b := by cases h; rfl
theorem dv_str {K : PySem.W.Frag} {H : Hp} {x : V} {b : Str} (h : Dv K H x (.str b)) : x = .str b := by cases h; rfl
theorem dv_none {K : PySem.W.Frag} {H : Hp} {x : V} (h : Dv K H x .none) : x = .non := by cases h; rfl
theorem dv_tup {K : PySem.W.Frag} {H : Hp} {x : V} {ds : List D} (h : Dv K H x (.tuple ds)) : ∃ a xs, x = .ref a ∧ SqT K H a xs ∧ DvAll K H xs ds := by
  cases h with
  | tup a b => exact ⟨_, _, rfl, a, b⟩
theorem dv_lst {K : PySem.W.Frag} {H : Hp} {x : V} {ds : List D} (h : Dv K H x (.list ds)) : ∃ a xs, x = .ref a ∧ H a = some (.lst xs) ∧ DvAll K H xs ds := by
  cases h with
  | lst a b => exact ⟨_, _, rfl, a, b⟩
section
variable {g : G} {ta tb tc te : TE} {ma mb mc m : EM} {t u : TT}
theorem epost_con {σ : St} {ρ : Rh} {F H : Hp} {Q : VK} {d : D} (c : Con g.K σ ρ F H) (h : EPost g σ ρ F H Q (conM d ρ)) {v : V} (q : Dv g.K F v d) : Q v H := h v F H c Stp.refl q
theorem snd_and (ha : SndE g ta ma) (hb : SndE g tb mb) : SndE g (tAndV ta tb) (andM ma mb) := by
  intro σ ρ F H Q c hp
  refine ha.bind c hp fun x v ρ1 F1 H1 c1 s1 i1 hp1 => ?_
  split at hp1
  · exact ⟨true, dv_bool i1, by rw [if_pos rfl]; exact hb σ ρ1 F1 H1 Q c1 hp1⟩
  · exact ⟨false, dv_bool i1, by rw [if_neg Bool.false_ne_true]; exact epost_con c1 hp1 (.bl false)⟩
  · exact hp1.elim
theorem snd_or (ha : SndE g ta ma) (hb : SndE g tb mb) : SndE g (tOrV ta tb) (orM ma mb) := by
  intro σ ρ F H Q c hp
  refine ha.bind c hp fun x v ρ1 F1 H1 c1 s1 i1 hp1 => ?_
  split at hp1
  · exact ⟨true, dv_bool i1, by rw [if_pos rfl]; exact epost_con c1 hp1 (.bl true)⟩
  · exact ⟨false, dv_bool i1, by rw [if_neg Bool.false_ne_true]; exact hb σ ρ1 F1 H1 Q c1 hp1⟩
  · exact hp1.elim
theorem snd_not (ha : SndE g ta ma) : SndE g (tNotV ta) (notM ma) := by
  intro σ ρ F H Q c hp
  refine ha.bind c hp fun x v ρ1 F1 H1 c1 s1 i1 hp1 => ?_
  split at hp1
  · exact ⟨_, dv_bool i1, epost_con c1 hp1 (.bl _)⟩
  · exact hp1.elim
theorem snt_B (ha : SndE g ta ma) : SndT g (tB ta) ma := fun σ ρ F H Q c hp => ha σ ρ F H _ c hp
theorem snt_test (ha : SndE g ta ma) : SndT g (tTest ta) ma := fun σ ρ F H Q c hp => ha σ ρ F H _ c hp
/-- a test's answer, then more -/
theorem SndT.bind {f : Val → EM} (h : SndT g t m) {σ : St} {ρ : Rh} {F H : Hp} {Q : VK} {Q1 : Bool → Hp → Prop} (c : Con g.K σ ρ F H) (hp : EPost g σ ρ F H Q (bindE m f ρ))
    (hf : ∀ v, (∀ b, v ≠ .d (.bool b)) → ∀ ρ, f v ρ = .stuck)
    (k : ∀ b ρ' F' H', Con g.K σ ρ' F' H' → Stp g.P σ ρ F H σ ρ' F' H' → EPost g σ ρ' F' H' Q (f (.d (.bool b)) ρ') → Q1 b H') : t σ H Q1 := by
  refine h σ ρ F H Q1 c ?_
  unfold bindE at hp
  cases e : m ρ with
  | exc x ρ' => rw [e] at hp; exact hp
  | stuck => rw [e] at hp; exact hp
  | ok v ρ' =>
    rw [e] at hp
    intro x F' H' c' s iv
    have hp' : EPost g σ ρ' F' H' Q (f v ρ') := EPost.shift hp s
    by_cases hb : ∃ b, v = .d (.bool b)
    · obtain ⟨b, rfl⟩ := hb
      exact ⟨b, dv_bool iv, k b ρ' F' H' c' s hp'⟩
    · rw [hf v (fun b z => hb ⟨b, z⟩)] at hp'
      exact hp'.elim
theorem snt_and (ha : SndT g t ma) (hb : SndT g u mb) : SndT g (tAnd t u) (andM ma mb) := by
  intro σ ρ F H Q c hp
  refine ha.bind c hp (fun v hv ρ => ?_) fun b ρ1 F1 H1 c1 s1 hp1 => ?_
  · cases v with
    | l ds => rfl
    | d d => cases d <;> first | rfl | (exact absurd rfl (hv _))
  · cases b with
    | true =>
      rw [if_pos rfl]
      exact hb σ ρ1 F1 H1 Q c1 hp1
    | false =>
      rw [if_neg Bool.false_ne_true]
      obtain ⟨b, e, q⟩ := epost_con c1 hp1 (.bl false)
      cases e
      exact q
theorem snt_or (ha : SndT g t ma) (hb : SndT g u mb) : SndT g (tOr t u) (orM ma mb) := by
  intro σ ρ F H Q c hp
  refine ha.bind c hp (fun v hv ρ => ?_) fun b ρ1 F1 H1 c1 s1 hp1 => ?_
  · cases v with
    | l ds => rfl
    | d d => cases d <;> first | rfl | (exact absurd rfl (hv _))
  · cases b with
    | true =>
      rw [if_pos rfl]
      obtain ⟨b, e, q⟩ := epost_con c1 hp1 (.bl true)
      cases e
      exact q
    | false =>
      rw [if_neg Bool.false_ne_true]
      exact hb σ ρ1 F1 H1 Q c1 hp1
theorem snt_not (ha : SndT g t ma) : SndT g (tNot t) (notM ma) := by
  intro σ ρ F H Q c hp
  refine ha.bind c hp (fun v hv ρ => ?_) fun b ρ1 F1 H1 c1 s1 hp1 => ?_
  · cases v with
    | l ds => rfl
    | d d => cases d <;> first | rfl | (exact absurd rfl (hv _))
  · obtain ⟨b', e, q⟩ := epost_con c1 hp1 (.bl (!b))
    cases e
    exact q
theorem snd_ite (hc : SndT g t mc) (ha : SndE g ta ma) (hb : SndE g tb mb) : SndE g (tIf t ta tb) (iteM mc ma mb) := by
  intro σ ρ F H Q c hp
  refine hc.bind c hp (fun v hv ρ => ?_) fun b ρ1 F1 H1 c1 s1 hp1 => ?_
  · cases v with
    | l ds => rfl
    | d d => cases d <;> first | rfl | (exact absurd rfl (hv _))
  · cases b with
    | true =>
      rw [if_pos rfl]
      exact ha σ ρ1 F1 H1 Q c1 hp1
    | false =>
      rw [if_neg Bool.false_ne_true]
      exact hb σ ρ1 F1 H1 Q c1 hp1
end

/-! ### lists of expressions -/
inductive RL where
  | ok (vs : List Val) (s : Rh)
  | exc (x : Xn) (s : Rh)
  | stuck
abbrev LM := Rh → RL
def AllIs (K : PySem.W.Frag) (σ0 : St) (ρ0 : Rh) (H0 : Hp) (σ : St) (ρ : Rh) (F H : Hp) : List V → List Val → Prop
  | [], [] => True
  | x :: xs, v :: vs => ValIs K σ0 ρ0 H0 σ ρ F H x v ∧ AllIs K σ0 ρ0 H0 σ ρ F H xs vs
  | _, _ => False
def LPost (g : G) (σ : St) (ρ : Rh) (F H : Hp) (Q : List V → Hp → Prop) : RL → Prop
  | .ok vs ρ' => ∀ xs F' H', Con g.K σ ρ' F' H' → Stp g.P σ ρ F H σ ρ' F' H' → AllIs g.K σ ρ H σ ρ' F' H' xs vs → Q xs H'
  | .exc e ρ' => ∀ cls dd F' H', Con g.K σ ρ' F' H' → Stp g.P σ ρ F H σ ρ' F' H' → XnIs g.K g.mg F' H' e cls dd → g.W cls dd σ H'
  | .stuck => False
def SndA (g : G) (ta : TA) (m : LM) : Prop := ∀ σ ρ F H Q, Con g.K σ ρ F H → LPost g σ ρ F H Q (m ρ) → ta σ H Q
def nilL : LM := fun ρ => .ok [] ρ
def consL (m : EM) (ms : LM) : LM := fun ρ => match m ρ with
  | .ok v ρ1 => match ms ρ1 with
    | .ok vs ρ2 => .ok (v :: vs) ρ2
    | .exc x ρ2 => .exc x ρ2
    | .stuck => .stuck
  | .exc x ρ1 => .exc x ρ1
  | .stuck => .stuck
theorem AllIs.shift {P : List Nat} {K : PySem.W.Frag} {σ0 : St} {ρ0 : Rh} {H0 : Hp} {σ σ1 : St} {ρ ρ1 : Rh} {F H F1 H1 : Hp} (s : Stp P σ ρ F H σ1 ρ1 F1 H1) : ∀ {xs : List V} {vs : List Val}, AllIs K σ0 ρ0 H0 σ ρ F H xs vs → AllIs K σ0 ρ0 H0 σ1 ρ1 F1 H1 xs vs
  | [], [], _ => trivial
  | _ :: _, _ :: _, h => ⟨h.1.shift s, AllIs.shift s h.2⟩
  | [], _ :: _, h => h.elim
  | _ :: _, [], h => h.elim
theorem AllIs.from {P : List Nat} {K : PySem.W.Frag} {σ0 σ' : St} {ρ0 ρ' : Rh} {F0 H0 F' H' : Hp} {σ : St} {ρ : Rh} {F H : Hp} (s : Stp P σ0 ρ0 F0 H0 σ' ρ' F' H') : ∀ {xs : List V} {vs : List Val}, AllIs K σ' ρ' H' σ ρ F H xs vs → AllIs K σ0 ρ0 H0 σ ρ F H xs vs
  | [], [], _ => trivial
  | _ :: _, _ :: _, h => ⟨h.1.from s, AllIs.from s h.2⟩
  | [], _ :: _, h => h.elim
  | _ :: _, [], h => h.elim
section
variable {g : G} {te : TE} {ta : TA} {m : EM} {ms : LM}
theorem snd_nil : SndA g tNil nilL := fun σ ρ F H Q c hp => hp [] F H c Stp.refl trivial
theorem snd_cons (hm : SndE g te m) (hs : SndA g ta ms) : SndA g (tCons te ta) (consL m ms) := by
  intro σ ρ F H Q c hp
  refine hm σ ρ F H _ c ?_
  unfold consL at hp
  cases e : m ρ with
  | exc x ρ' => rw [e] at hp; exact hp
  | stuck => rw [e] at hp; exact hp
  | ok v ρ1 =>
    rw [e] at hp
    intro x F1 H1 c1 s1 i1
    refine hs σ ρ1 F1 H1 _ c1 ?_
    dsimp only at hp
    cases e2 : ms ρ1 with
    | exc x ρ' =>
      rw [e2] at hp
      exact fun cls dd F' H' c' s' ix => hp cls dd F' H' c' (s1.trans s') ix
    | stuck => rw [e2] at hp; exact hp
    | ok vs ρ2 =>
      rw [e2] at hp
      exact fun xs F2 H2 c2 s2 i2 => hp (x :: xs) F2 H2 c2 (s1.trans s2) ⟨i1.shift s2, i2.from s1⟩
end
/-- all of them data -/
def datL : List Val → Option (List D)
  | [] => some []
  | .d d :: r => (datL r).map (d :: ·)
  | .l _ :: _ => none
theorem AllIs.dat {K : PySem.W.Frag} {σ0 : St} {ρ0 : Rh} {H0 : Hp} {σ : St} {ρ : Rh} {F H : Hp} : ∀ {xs : List V} {vs : List Val} {ds : List D}, AllIs K σ0 ρ0 H0 σ ρ F H xs vs → datL vs = some ds → DvAll K F xs ds
  | [], [], _, _, e => by cases e; exact .nil
  | x :: xs, .d d :: vs, ds, h, e => by
    simp only [datL, Option.map_eq_some_iff] at e
    obtain ⟨es, e1, rfl⟩ := e
    exact .cons h.1 (AllIs.dat h.2 e1)
  | _ :: _, .l _ :: _, _, _, e => by cases e
  | [], _ :: _, _, h, _ => h.elim
  | _ :: _, [], _, h, _ => h.elim
def bindL (m : LM) (f : List Val → EM) : EM := fun ρ => match m ρ with
  | .ok v ρ' => f v ρ'
  | .exc e ρ' => .exc e ρ'
  | .stuck => .stuck
theorem SndA.bind {g : G} {ta : TA} {m : LM} {f : List Val → EM} (h : SndA g ta m) {σ : St} {ρ : Rh} {F H : Hp} {Q : VK} {Q1 : List V → Hp → Prop} (c : Con g.K σ ρ F H) (hp : EPost g σ ρ F H Q (bindL m f ρ))
    (k : ∀ xs vs ρ' F' H', Con g.K σ ρ' F' H' → Stp g.P σ ρ F H σ ρ' F' H' → AllIs g.K σ ρ H σ ρ' F' H' xs vs → EPost g σ ρ' F' H' Q (f vs ρ') → Q1 xs H') : ta σ H Q1 := by
  refine h σ ρ F H Q1 c ?_
  unfold bindL at hp
  cases e : m ρ with
  | ok v ρ' =>
    rw [e] at hp
    exact fun x F' H' c' s iv => k x v ρ' F' H' c' s iv (hp.shift s)
  | exc x ρ' => rw [e] at hp; exact hp
  | stuck => rw [e] at hp; exact hp
/-- an operation on a list of data -/
def opL (gl : List D → Option D) (ms : LM) : EM := bindL ms fun vs => liftD ((datL vs).bind gl)
theorem snd_call {g : G} {ta : TA} {ms : LM} {r : List V → Hp → VK → Prop} {gl : List D → Option D} (hd : CaD g.K r gl) (hs : SndA g ta ms) : SndE g (tCB r ta) (opL gl ms) := by
  intro σ ρ F H Q c hp
  refine hs.bind c hp fun xs vs ρ1 F1 H1 c1 s1 i1 hp1 => ?_
  obtain ⟨dz, e, k⟩ := hp1.lift c1
  cases e2 : datL vs with
  | none => rw [e2] at e; cases e
  | some ds =>
    rw [e2] at e
    exact hd F1 H1 xs ds dz Q c1.ext (i1.dat e2) e k
theorem News.tup {K : PySem.W.Frag} {F H : Hp} {p : Addr} {xs : List V} {ds : List D} (e : Same F H) (n : H p = none) (h : DvAll K F xs ds) : Dv K (upd F p (.tup xs)) (.ref p) (.tuple ds) :=
  .tup (SqT.of upd_same) (dvAll_mono (News.new e n).fr ds xs h)
theorem News.lst {K : PySem.W.Frag} {F H : Hp} {p : Addr} {xs : List V} {ds : List D} (e : Same F H) (n : H p = none) (h : DvAll K F xs ds) : Dv K (upd F p (.lst xs)) (.ref p) (.list ds) :=
  .lst upd_same (dvAll_mono (News.new e n).fr ds xs h)
def gTup (ds : List D) : Option D := if ds.length ≤ 100000 then some (.tuple ds) else none
def gLst (ds : List D) : Option D := if ds.length ≤ 100000 then some (.list ds) else none
theorem line_of {n : Nat} (h : n ≤ 100000) : n ≤ sizeLine := Nat.le_trans h (by decide)
theorem snd_tup {g : G} {ta : TA} {ms : LM} (hs : SndA g ta ms) : SndE g (tTup ta) (opL gTup ms) := by
  refine snd_call (r := fun xs H1 Q => xs.length ≤ sizeLine ∧ ∀ p, H1 p = none → Q (.ref p) (upd H1 p (.tup xs))) (fun F H xs ds dz Q e h hg k => ?_) hs
  unfold gTup at hg
  split at hg
  · rename_i hl
    cases hg
    refine ⟨by rw [DvAll.length h]; exact line_of hl, fun p hp => k _ _ _ (News.new e hp) (News.tup e hp h)⟩
  · cases hg
theorem snd_lst {g : G} {ta : TA} {ms : LM} (hs : SndA g ta ms) : SndE g (tLst ta) (opL gLst ms) := by
  refine snd_call (r := fun xs H1 Q => xs.length ≤ sizeLine ∧ ∀ p, H1 p = none → Q (.ref p) (upd H1 p (.lst xs))) (fun F H xs ds dz Q e h hg k => ?_) hs
  unfold gLst at hg
  split at hg
  · rename_i hl
    cases hg
    refine ⟨by rw [DvAll.length h]; exact line_of hl, fun p hp => k _ _ _ (News.new e hp) (News.lst e hp h)⟩
  · cases hg
/-- a new list that stays one's own -/
def lstO (ms : LM) : EM := bindL ms fun vs => match datL vs with
  | some ds => fun ρ => if ds.length ≤ 100000 then .ok (.l ds) ρ else .stuck
  | none => fun _ => .stuck
theorem not_owned {K : PySem.W.Frag} {σ : St} {ρ : Rh} {F H : Hp} (c : Con K σ ρ F H) {p : Addr} (n : H p = none) : ¬ Owned σ ρ p := fun ⟨i, ds, e, q⟩ => by
  obtain ⟨p', vs, q', _, h, _⟩ := c.own i ds e
  rw [q] at q'
  cases q'
  rw [n] at h
  cases h
theorem snd_lstO {g : G} {ta : TA} {ms : LM} (hs : SndA g ta ms) : SndE g (tLst ta) (lstO ms) := by
  intro σ ρ F H Q c hp
  refine hs.bind c hp fun xs vs ρ1 F1 H1 c1 s1 i1 hp1 => ?_
  cases e2 : datL vs with
  | none => rw [e2] at hp1; exact hp1.elim
  | some ds =>
    rw [e2] at hp1
    dsimp only at hp1
    split at hp1
    · rename_i hl
      have h := i1.dat e2
      refine ⟨by rw [DvAll.length h]; exact line_of hl, fun p hn => ?_⟩
      have n := News.loose (u := .lst xs) c1.ext hn
      refine hp1 _ F1 _ (c1.news n) (Stp.news (K := g.K) n) ⟨p, xs, rfl, ?_, upd_same, h, not_owned c1 hn, .inr hn⟩
      cases e : F1 p with
      | none => rfl
      | some o => rw [c1.ext p o e] at hn; cases hn
    · exact hp1.elim
/-- a new list becomes data -/
def frzE (m : EM) : EM := fun ρ => match m ρ with
  | .ok (.l ds) ρ' => .ok (.d (.list ds)) ρ'
  | r => r
theorem Con.freeze {P : List Nat} {K : PySem.W.Frag} {σ : St} {ρ : Rh} {F H : Hp} {p : Addr} {vs : List V} {ds : List D} (c : Con K σ ρ F H) (f : F p = none) (h : H p = some (.lst vs)) (a : DvAll K F vs ds) (n : ¬ Owned σ ρ p) :
    Same F (upd F p (.lst vs)) ∧ Con K σ ρ (upd F p (.lst vs)) H ∧ Dv K (upd F p (.lst vs)) (.ref p) (.list ds) := by
  have s : Same F (upd F p (.lst vs)) := fun b o e => by
    rw [upd_ne (ne_of_none e f)]; exact e
  refine ⟨s, ⟨fun b o e => ?_, c.len, fun i d e => ?_, fun i es e => ?_, c.sep⟩, .lst upd_same (dvAll_mono s ds vs a)⟩
  · by_cases q : b = p
    · subst q; rw [upd_same] at e; cases e; exact h
    · rw [upd_ne q] at e; exact c.ext b o e
  · obtain ⟨v, q, r⟩ := c.dat i d e
    exact ⟨v, q, dv_mono s d v r⟩
  · obtain ⟨p', us, q, f', h', r⟩ := c.own i es e
    refine ⟨p', us, q, ?_, h', dvAll_mono s es us r⟩
    rw [upd_ne (fun z => n ⟨i, es, e, by rw [z] at q; exact q⟩)]
    exact f'
theorem snd_frz {g : G} {te : TE} {m : EM} (h : SndE g te m) : SndE g te (frzE m) := by
  intro σ ρ F H Q c hp
  refine h σ ρ F H Q c ?_
  unfold frzE at hp
  cases e : m ρ with
  | exc x ρ' => rw [e] at hp; exact hp
  | stuck => rw [e] at hp; exact hp
  | ok v ρ1 =>
    rw [e] at hp
    cases v with
    | d d => exact hp
    | l ds =>
      intro x F1 H1 c1 s1 i1
      obtain ⟨p, vs, rfl, f, q, a, n, o⟩ := i1
      obtain ⟨s, c2, dp⟩ := Con.freeze (P := g.P) c1 f q a n
      refine hp _ (upd F1 p (.lst vs)) H1 c2 ⟨fun b ob e1 => s b ob (s1.fr b ob e1), s1.keep, fun b ob e1 e2 e3 => ?_, s1.own, s1.dom, s1.pin⟩ dp
      rw [upd_ne (fun z => ?_)]
      · exact s1.free b ob e1 e2 e3
      · subst z
        rcases o with o | o
        · exact e3 o
        · rw [o] at e1; cases e1
end DL
set_option Elab.async false
set_option linter.all false
set_option maxRecDepth 100000
set_option maxHeartbeats 2000000
set_option autoImplicit false
/-! DL3: the operators and built-ins on data; the rules of expressions. -/
namespace DL
open PySem PySem.Spec PyProof.Rows L2

def vOf : D → V
  | .none => .non
  | .bool b => .bl b
  | .int i => .int i
  | .str s => .str s
  | _ => .non
def flatD : D → Bool
  | .none => true
  | .bool _ => true
  | .int _ => true
  | .str _ => true
  | _ => false
section
variable {K : PySem.W.Frag} {H : Hp}
theorem dv_flat {d : D} {v : V} (h : Dv K H v d) (f : flatD d = true) : v = vOf d := by
  cases d <;> first | (cases h; rfl) | exact absurd f Bool.false_ne_true
theorem dv_vOf {d : D} (f : flatD d = true) : Dv K H (vOf d) d := by
  cases d with
  | none => exact .non
  | bool b => exact .bl b
  | int i => exact .int i
  | str s => exact .str s
  | _ => exact absurd f Bool.false_ne_true
theorem flat_vOf {d : D} (f : flatD d = true) : flatV (vOf d) = true := by
  cases d <;> first | rfl | exact absurd f Bool.false_ne_true
theorem dvs_flat : ∀ {ds : List D} {vs : List V}, DvAll K H vs ds → ds.all flatD = true → vs = ds.map vOf
  | [], _, h, _ => by cases h; rfl
  | d :: ds, _, h, f => by
    cases h with
    | cons a b =>
      rw [List.all_cons, Bool.and_eq_true] at f
      rw [dv_flat a f.1, dvs_flat b f.2]
      rfl
theorem flats_vOf : ∀ {ds : List D}, ds.all flatD = true → (ds.map vOf).all flatV = true
  | [], _ => rfl
  | d :: ds, f => by
    rw [List.all_cons, Bool.and_eq_true] at f
    rw [List.map_cons, List.all_cons, flat_vOf f.1, flats_vOf f.2]
    rfl
end

/-! ### + - * // % ** -/
def gAdd : D → D → Option D
  | .int a, .int b => some (.int (a + b))
  | .str a, .str b => if a.length + b.length ≤ 16777216 then some (.str (a ++ b)) else none
  | .list a, .list b => if a.length + b.length ≤ 100000 then some (.list (a ++ b)) else none
  | .tuple a, .tuple b => if a.length + b.length ≤ 100000 then some (.tuple (a ++ b)) else none
  | _, _ => none
def gSub : D → D → Option D
  | .int a, .int b => some (.int (a - b))
  | _, _ => none
def gMul : D → D → Option D
  | .int a, .int b => if (-(2 ^ 64) < a ∧ a < 2 ^ 64) ∨ (-(2 ^ 64) < b ∧ b < 2 ^ 64) then some (.int (a * b)) else none
  | _, _ => none
def gDiv : D → D → Option D
  | .int a, .int b => if 0 < b ∧ b < 2 ^ 4000 then some (.int (a / b)) else none
  | _, _ => none
def gMod : D → D → Option D
  | .int a, .int b => if 0 < b then some (.int (a % b)) else none
  | _, _ => none
def gPow : D → D → Option D
  | .int a, .int b => if 0 ≤ b ∧ b ≤ 1000000 ∧ a.natAbs < 2 ^ 64 then some (.int (a ^ b.toNat)) else none
  | _, _ => none
def rStrCat : R2 := fun x y H Q => ∃ i j, x = .str i ∧ y = .str j ∧ i.length + j.length ≤ sizeLine ∧ Q (.str (i ++ j)) H
def rAddA (K : PySem.W.Frag) : R2 := fun x y H Q => rI0 (fun i j => .int (i + j)) x y H Q ∨ (rStrCat x y H Q ∨ (rCat x y H Q ∨ rCatA K x y H Q))
theorem op_addA {X : Cx} : OpR X (binaryOp .Add) (rAddA X.K) := op_add.or (OpR.or (r := rStrCat) op_add_str (op_cat.or op_catA))
theorem line16 {n : Nat} (h : n ≤ 16777216) : n ≤ sizeLine := by rw [sizeLine_eq]; exact h
theorem add_D {K : PySem.W.Frag} : OpD K (rAddA K) gAdd := by
  intro F H x y dx dy dz Q e hx hy hg k
  unfold gAdd at hg
  split at hg
  · cases hg
    have hx := dv_int hx
    have hy := dv_int hy
    exact .inl ⟨_, _, hx, hy, k _ _ _ (News.refl e) (.int _)⟩
  · split at hg
    · rename_i hl
      cases hg
      have hx := dv_str hx
      have hy := dv_str hy
      exact .inr (.inl ⟨_, _, hx, hy, line16 hl, k _ _ _ (News.refl e) (.str _)⟩)
    · cases hg
  · split at hg
    · rename_i hl
      cases hg
      obtain ⟨a, xs, rfl, ha, da⟩ := dv_lst hx
      obtain ⟨b, ys, rfl, hb, db⟩ := dv_lst hy
      refine .inr (.inr (.inl ⟨a, b, xs, ys, rfl, rfl, e _ _ ha, e _ _ hb, by rw [DvAll.length da, DvAll.length db]; exact line_of hl, fun p hp => ?_⟩))
      exact k _ _ _ (News.new e hp) (News.lst e hp (da.append db))
    · cases hg
  · split at hg
    · rename_i hl
      cases hg
      obtain ⟨a, xs, rfl, ha, da⟩ := dv_tup hx
      obtain ⟨b, ys, rfl, hb, db⟩ := dv_tup hy
      refine .inr (.inr (.inr ⟨a, b, xs, ys, rfl, rfl, same_t e ha, same_t e hb, by rw [DvAll.length da, DvAll.length db]; exact line_of hl, fun z => ?_, fun z z2 => ?_, fun z z2 p hp => ?_⟩))
      · subst z
        cases da
        exact k _ _ _ (News.refl e) (.tup hb db)
      · subst z2
        cases db
        rw [List.append_nil] at k
        exact k _ _ _ (News.refl e) (.tup ha da)
      · exact k _ _ _ (News.new e hp) (News.tup e hp (da.append db))
    · cases hg
  · cases hg
theorem int_D {K : PySem.W.Frag} {C : Int → Int → Prop} {gf : Int → Int → Int} {g2 : D → D → Option D} (h : ∀ dx dy dz, g2 dx dy = some dz → ∃ a b, dx = .int a ∧ dy = .int b ∧ C a b ∧ dz = .int (gf a b)) : OpD K (rI C fun i j => .int (gf i j)) g2 := by
  intro F H x y dx dy dz Q e hx hy hg k
  obtain ⟨a, b, rfl, rfl, c, rfl⟩ := h dx dy dz hg
  exact ⟨a, b, dv_int hx, dv_int hy, c, k _ _ _ (News.refl e) (.int _)⟩
theorem int0_D {K : PySem.W.Frag} {gf : Int → Int → D} {gv : Int → Int → V} {g2 : D → D → Option D} (hv : ∀ a b F, Dv K F (gv a b) (gf a b)) (h : ∀ dx dy dz, g2 dx dy = some dz → ∃ a b, dx = .int a ∧ dy = .int b ∧ dz = gf a b) : OpD K (rI0 gv) g2 := by
  intro F H x y dx dy dz Q e hx hy hg k
  obtain ⟨a, b, rfl, rfl, rfl⟩ := h dx dy dz hg
  exact ⟨a, b, dv_int hx, dv_int hy, k _ _ _ (News.refl e) (hv a b F)⟩
theorem sub_D {K : PySem.W.Frag} : OpD K (rI0 fun i j => .int (i - j)) gSub := int0_D (gf := fun i j => .int (i - j)) (fun _ _ _ => .int _) fun dx dy dz h => by
  unfold gSub at h
  split at h
  · cases h; exact ⟨_, _, rfl, rfl, rfl⟩
  · cases h
theorem mul_D {K : PySem.W.Frag} : OpD K (rI CMul fun i j => .int (i * j)) gMul := int_D fun dx dy dz h => by
  unfold gMul at h
  split at h
  · split at h
    · rename_i c
      cases h; exact ⟨_, _, rfl, rfl, c, rfl⟩
    · cases h
  · cases h
theorem div_D {K : PySem.W.Frag} : OpD K (rI CDivW fun i j => .int (i / j)) gDiv := int_D fun dx dy dz h => by
  unfold gDiv at h
  split at h
  · split at h
    · rename_i a b c
      cases h; exact ⟨_, _, rfl, rfl, wide_div (b := 4000) c.1 (by have h2 : b < 2 ^ 4000 := c.2; omega) (by decide) (by decide), rfl⟩
    · cases h
  · cases h
theorem mod_D {K : PySem.W.Frag} : OpD K (rI (fun _ j => 0 < j) fun i j => .int (i % j)) gMod := int_D fun dx dy dz h => by
  unfold gMod at h
  split at h
  · split at h
    · rename_i c
      cases h; exact ⟨_, _, rfl, rfl, c, rfl⟩
    · cases h
  · cases h
theorem pow_D {K : PySem.W.Frag} : OpD K (rI CPow fun i j => .int (i ^ j.toNat)) gPow := int_D fun dx dy dz h => by
  unfold gPow at h
  split at h
  · split at h
    · rename_i c
      cases h; exact ⟨_, _, rfl, rfl, c, rfl⟩
    · cases h
  · cases h

/-! ### comparisons -/
def gLt : D → D → Option D
  | .int a, .int b => some (.bool (decide (a < b)))
  | _, _ => none
def gLe : D → D → Option D
  | .int a, .int b => some (.bool (decide (a ≤ b)))
  | _, _ => none
def gGt : D → D → Option D
  | .int a, .int b => some (.bool (decide (b < a)))
  | _, _ => none
def gGe : D → D → Option D
  | .int a, .int b => some (.bool (decide (b ≤ a)))
  | _, _ => none
theorem lt_D {K : PySem.W.Frag} : OpD K (rI0 fun i j => .bl (decide (i < j))) gLt := int0_D (gf := fun i j => .bool (decide (i < j))) (fun _ _ _ => .bl _) fun dx dy dz h => by
  unfold gLt at h
  split at h
  · cases h; exact ⟨_, _, rfl, rfl, rfl⟩
  · cases h
theorem le_D {K : PySem.W.Frag} : OpD K (rI0 fun i j => .bl (decide (i ≤ j))) gLe := int0_D (gf := fun i j => .bool (decide (i ≤ j))) (fun _ _ _ => .bl _) fun dx dy dz h => by
  unfold gLe at h
  split at h
  · cases h; exact ⟨_, _, rfl, rfl, rfl⟩
  · cases h
theorem gt_D {K : PySem.W.Frag} : OpD K (rI0 fun i j => .bl (decide (j < i))) gGt := int0_D (gf := fun i j => .bool (decide (j < i))) (fun _ _ _ => .bl _) fun dx dy dz h => by
  unfold gGt at h
  split at h
  · cases h; exact ⟨_, _, rfl, rfl, rfl⟩
  · cases h
theorem ge_D {K : PySem.W.Frag} : OpD K (rI0 fun i j => .bl (decide (j ≤ i))) gGe := int0_D (gf := fun i j => .bool (decide (j ≤ i))) (fun _ _ _ => .bl _) fun dx dy dz h => by
  unfold gGe at h
  split at h
  · cases h; exact ⟨_, _, rfl, rfl, rfl⟩
  · cases h
/-- == of data: scalars, or nested -/
def eqB (a b : D) : Option Bool :=
  if flatD a && flatD b && scal (vOf a) (vOf b) then some (decide (vOf a = vOf b))
  else if SeqAt.shaped a && SeqAt.shaped b then some (PyData.eqv a b) else none
def gEq (a b : D) : Option D := (eqB a b).map .bool
def gNe (a b : D) : Option D := (eqB a b).map fun k => .bool (!k)
theorem shaped_lay {d : D} (h : SeqAt.shaped d = true) : d.canLay0 = true := by
  unfold SeqAt.shaped at h
  rw [Bool.and_eq_true] at h
  exact h.1
theorem eq_D {K : PySem.W.Frag} : OpD K (fun x y H Q => rEq x y H Q ∨ rEqD K x y H Q) gEq := by
  intro F H x y dx dy dz Q e hx hy hg k
  unfold gEq eqB at hg
  split at hg
  · rename_i c
    cases hg
    simp only [Bool.and_eq_true] at c
    have ex := dv_flat hx c.1.1
    have ey := dv_flat hy c.1.2
    subst ex
    subst ey
    exact .inl ⟨c.2, k _ _ _ (News.refl e) (.bl _)⟩
  · split at hg
    · rename_i c
      cases hg
      rw [Bool.and_eq_true] at c
      exact .inr ⟨dx, dy, Dv.dp dx x (dv_mono e dx x hx) (shaped_lay c.1), Dv.dp dy y (dv_mono e dy y hy) (shaped_lay c.2), c.1, c.2, k _ _ _ (News.refl e) (.bl _)⟩
    · cases hg
theorem ne_D {K : PySem.W.Frag} : OpD K (fun x y H Q => rNe x y H Q ∨ rNeD K x y H Q) gNe := by
  intro F H x y dx dy dz Q e hx hy hg k
  unfold gNe eqB at hg
  split at hg
  · rename_i c
    cases hg
    simp only [Bool.and_eq_true] at c
    have ex := dv_flat hx c.1.1
    have ey := dv_flat hy c.1.2
    subst ex
    subst ey
    exact .inl ⟨c.2, k _ _ _ (News.refl e) (.bl _)⟩
  · split at hg
    · rename_i c
      cases hg
      rw [Bool.and_eq_true] at c
      exact .inr ⟨dx, dy, Dv.dp dx x (dv_mono e dx x hx) (shaped_lay c.1), Dv.dp dy y (dv_mono e dy y hy) (shaped_lay c.2), c.1, c.2, k _ _ _ (News.refl e) (.bl _)⟩
    · cases hg
/-- in: a sign in a text, a flat thing in a list or a tuple of such -/
def inB (x y : D) : Option Bool :=
  match y with
  | .str z => match x with
    | .str c => match c.cps.toList with
      | [k] => some (decide (k ∈ z.cps.toList))
      | _ => none
    | _ => none
  | .list ds => if flatD x && ds.all flatD then some (inV (vOf x) (ds.map vOf)) else none
  | .tuple ds => if flatD x && ds.all flatD then some (inV (vOf x) (ds.map vOf)) else none
  | _ => none
def gIn (a b : D) : Option D := (inB a b).map fun k => .bool k
def gNotIn (a b : D) : Option D := (inB a b).map fun k => .bool (!k)
def rInS1 (neg : Bool) : R2 := fun x y H Q => ∃ (c : Nat) (z : Str), x = .str ⟨#[c]⟩ ∧ y = .str z ∧ Q (.bl (if neg then !decide (c ∈ z.cps.toList) else decide (c ∈ z.cps.toList))) H
theorem op_inA {X : Cx} : OpR X (compareOp .In) (fun x y H Q => rInS1 false x y H Q ∨ rIn X.K false x y H Q) := OpR.or (r := rInS1 false) op_in_sign op_in_seq
theorem op_notInA {X : Cx} : OpR X (compareOp .NotIn) (fun x y H Q => rInS1 true x y H Q ∨ rIn X.K true x y H Q) := OpR.or (r := rInS1 true) op_notIn_sign op_notIn_seq
theorem inB_D {K : PySem.W.Frag} (neg : Bool) : OpD K (fun x y H Q => rInS1 neg x y H Q ∨ rIn K neg x y H Q) fun a b => (inB a b).map fun k => .bool (if neg then !k else k) := by
  intro F H x y dx dy dz Q e hx hy hg k
  obtain ⟨b, eb, rfl⟩ := Option.map_eq_some_iff.mp hg
  clear hg
  unfold inB at eb
  split at eb
  · split at eb
    · rename_i z _ c
      split at eb
      · rename_i kk ek
        cases eb
        have hx := dv_str hx
        have hy := dv_str hy
        have ec : c = ⟨#[kk]⟩ := by
          cases c with
          | mk arr => exact congrArg Str.mk (Array.toList_inj.mp ek)
        subst ec
        refine .inl ⟨kk, z, hx, hy, ?_⟩
        cases neg <;> exact k _ _ _ (News.refl e) (.bl _)
      · cases eb
    · cases eb
  · split at eb
    · rename_i ds c
      cases eb
      rw [Bool.and_eq_true] at c
      obtain ⟨a, xs, rfl, ha, da⟩ := dv_lst hy
      have ex := dv_flat hx c.1
      have exs := dvs_flat da c.2
      subst ex
      subst exs
      refine .inr ⟨a, _, rfl, .inl (SqL.of (e _ _ ha)), flat_vOf c.1, flats_vOf c.2, ?_⟩
      cases neg <;> exact k _ _ _ (News.refl e) (.bl _)
    · cases eb
  · split at eb
    · rename_i ds c
      cases eb
      rw [Bool.and_eq_true] at c
      obtain ⟨a, xs, rfl, ha, da⟩ := dv_tup hy
      have ex := dv_flat hx c.1
      have exs := dvs_flat da c.2
      subst ex
      subst exs
      refine .inr ⟨a, _, rfl, .inr (same_t e ha), flat_vOf c.1, flats_vOf c.2, ?_⟩
      cases neg <;> exact k _ _ _ (News.refl e) (.bl _)
    · cases eb
  · cases eb
theorem in_D {K : PySem.W.Frag} : OpD K (fun x y H Q => rInS1 false x y H Q ∨ rIn K false x y H Q) gIn := inB_D false
theorem notIn_D {K : PySem.W.Frag} : OpD K (fun x y H Q => rInS1 true x y H Q ∨ rIn K true x y H Q) gNotIn := inB_D true
def isNoneD : D → Bool
  | .none => true
  | _ => false
def gIsN : D → D → Option D
  | a, .none => some (.bool (isNoneD a))
  | _, _ => none
def gNotN : D → D → Option D
  | a, .none => some (.bool (!isNoneD a))
  | _, _ => none
theorem dv_isNone {K : PySem.W.Frag} {H : Hp} {v : V} {d : D} (h : Dv K H v d) : decide (v = .non) = isNoneD d := by
  cases h <;> rfl
theorem isN_D {K : PySem.W.Frag} : OpD K (fun x y H Q => y = .non ∧ Q (.bl (decide (x = .non))) H) gIsN := by
  intro F H x y dx dy dz Q e hx hy hg k
  unfold gIsN at hg
  split at hg
  · cases hg
    exact ⟨dv_none hy, by rw [dv_isNone hx]; exact k _ _ _ (News.refl e) (.bl _)⟩
  · cases hg
theorem notN_D {K : PySem.W.Frag} : OpD K (fun x y H Q => y = .non ∧ Q (.bl (!decide (x = .non))) H) gNotN := by
  intro F H x y dx dy dz Q e hx hy hg k
  unfold gNotN at hg
  split at hg
  · cases hg
    exact ⟨dv_none hy, by rw [dv_isNone hx]; exact k _ _ _ (News.refl e) (.bl _)⟩
  · cases hg

/-! ### indexes, slices -/
def roInts : List (D × D) → List D := fun kvs => kvs.map (·.1)
def gIx : D → D → Option D
  | .str z, .int i => if z.length ≤ 16777216 then (atI z.cps.toList i).map fun c => .str ⟨#[c]⟩ else none
  | .tuple ds, .int i => atI ds i
  | .list ds, .int i => atI ds i
  | .dict (_ :: kvs), .int i => atI (roInts kvs) i
  | _, _ => none
theorem DvAll.atI {K : PySem.W.Frag} {H : Hp} {vs : List V} {ds : List D} {i : Int} {d : D} (h : DvAll K H vs ds) (e : L2.atI ds i = some d) : ∃ v, L2.atI vs i = some v ∧ Dv K H v d := by
  unfold L2.atI at e ⊢
  rw [DvAll.length h]
  cases q : ixN ds.length i with
  | none => rw [q] at e; cases e
  | some j =>
    rw [q] at e
    exact DvAll.get h e
theorem dv_ro {K : PySem.W.Frag} {H : Hp} {x : V} {p : D × D} {kvs : List (D × D)} (h : Dv K H x (.dict (p :: kvs))) : ∃ (a : Addr) (ns : List Int), x = .ref a ∧ SqL K H a (ns.map V.int) ∧ kvs = ns.map fun n => (.int n, .none) := by
  cases h with
  | rdl hs => exact ⟨_, _, rfl, hs, rfl⟩
theorem dvs_ints {K : PySem.W.Frag} {H : Hp} : ∀ ns : List Int, DvAll K H (ns.map V.int) (ns.map PyData.int)
  | [] => .nil
  | n :: ns => .cons (.int n) (dvs_ints ns)
theorem roInts_map (ns : List Int) : roInts (ns.map fun n => (PyData.int n, PyData.none)) = ns.map PyData.int := by
  unfold roInts
  rw [List.map_map]
  rfl
def rIxA (K : PySem.W.Frag) : R2 := fun x y H Q => rIxS x y H Q ∨ (rIxT K x y H Q ∨ rIxL K x y H Q)
theorem ix_A {X : Cx} : IxR X (rIxA X.K) := ix_str.or (ix_tup.or ix_list)
theorem ix_D {K : PySem.W.Frag} : OpD K (rIxA K) gIx := by
  intro F H x y dx dy dz Q e hx hy hg k
  unfold gIx at hg
  split at hg
  · split at hg
    · rename_i z i hl
      have hx := dv_str hx
      have hy := dv_int hy
      cases q : atI z.cps.toList i with
      | none => rw [q] at hg; cases hg
      | some c =>
        rw [q] at hg
        cases hg
        exact .inl ⟨z, i, c, hx, hy, line16 hl, q, k _ _ _ (News.refl e) (.str _)⟩
    · cases hg
  · rename_i ds i
    obtain ⟨a, xs, rfl, ha, da⟩ := dv_tup hx
    obtain ⟨v, q, dv⟩ := DvAll.atI da hg
    exact .inr (.inl ⟨a, xs, i, v, rfl, dv_int hy, same_t e ha, q, k _ _ _ (News.refl e) dv⟩)
  · rename_i ds i
    obtain ⟨a, xs, rfl, ha, da⟩ := dv_lst hx
    obtain ⟨v, q, dv⟩ := DvAll.atI da hg
    exact .inr (.inr ⟨a, xs, i, v, rfl, dv_int hy, SqL.of (e _ _ ha), q, k _ _ _ (News.refl e) dv⟩)
  · rename_i p kvs i
    obtain ⟨a, ns, rfl, hs, rfl⟩ := dv_ro hx
    rw [roInts_map] at hg
    obtain ⟨v, q, dv⟩ := DvAll.atI (dvs_ints (K := K) (H := F) ns) hg
    exact .inr (.inr ⟨a, _, i, v, rfl, dv_int hy, same_l e hs, q, k _ _ _ (News.refl e) dv⟩)
  · cases hg
/-- the items of xs[lo:hi] -/
def cutD (xs : List D) (lo hi : Option Int) : List D := (xs.drop (HT.sIx xs.length 0 lo)).take (HT.sIx xs.length xs.length hi - HT.sIx xs.length 0 lo)
theorem DvAll.cut {K : PySem.W.Frag} {H : Hp} {vs : List V} {ds : List D} (h : DvAll K H vs ds) (lo hi : Option Int) : DvAll K H (cutV vs lo hi) (cutD ds lo hi) := by
  unfold cutV cutD
  rw [DvAll.length h]
  exact DvAll.take _ (DvAll.drop _ h)
def gSl (x : D) (lo hi : Option Int) : Option D := match x with
  | .str z => if z.length ≤ 16777216 then some (.str (cutS z lo hi)) else none
  | .tuple ds => some (.tuple (cutD ds lo hi))
  | .list ds => some (.list (cutD ds lo hi))
  | .dict (_ :: kvs) => some (.list (cutD (roInts kvs) lo hi))
  | _ => none
def rSlX (K : PySem.W.Frag) : V → Option Int → Option Int → Hp → VK → Prop := fun x lo hi H Q => rSlS x lo hi H Q ∨ (rSlA K x lo hi H Q ∨ rSlL K x lo hi H Q)
theorem sl_X {X : Cx} : SlR X (rSlX X.K) := sl_str.or (sl_tupA.or sl_list)
theorem cut_all {ds : List D} {lo hi : Option Int} (h : HT.sIx ds.length 0 lo = 0 ∧ HT.sIx ds.length ds.length hi = ds.length) : cutD ds lo hi = ds := by
  unfold cutD
  rw [h.1, h.2, List.drop_zero, Nat.sub_zero, List.take_length]
theorem sl_D {K : PySem.W.Frag} {F H : Hp} {x : V} {dx dz : D} {lo hi : Option Int} {Q : VK} (e : Same F H) (hx : Dv K F x dx) (hg : gSl dx lo hi = some dz) (k : ∀ v F' H', News F H F' H' → Dv K F' v dz → Q v H') : rSlX K x lo hi H Q := by
  unfold gSl at hg
  split at hg
  · split at hg
    · rename_i z hl
      cases hg
      exact .inl ⟨z, dv_str hx, line16 hl, k _ _ _ (News.refl e) (.str _)⟩
    · cases hg
  · rename_i ds
    cases hg
    obtain ⟨a, xs, rfl, ha, da⟩ := dv_tup hx
    refine .inr (.inl ⟨a, xs, rfl, same_t e ha, fun z => ?_, fun z p hp => ?_⟩)
    · rw [DvAll.length da] at z
      rw [cut_all z] at k
      exact k _ _ _ (News.refl e) (.tup ha da)
    · exact k _ _ _ (News.new e hp) (News.tup e hp (da.cut lo hi))
  · rename_i ds
    cases hg
    obtain ⟨a, xs, rfl, ha, da⟩ := dv_lst hx
    exact .inr (.inr ⟨a, xs, rfl, SqL.of (e _ _ ha), fun p hp => k _ _ _ (News.new e hp) (News.lst e hp (da.cut lo hi))⟩)
  · rename_i kvs
    cases hg
    obtain ⟨a, ns, rfl, hs, rfl⟩ := dv_ro hx
    rw [roInts_map] at k
    exact .inr (.inr ⟨a, _, rfl, same_l e hs, fun p hp => k _ _ _ (News.new e hp) (News.lst e hp ((dvs_ints ns).cut lo hi))⟩)
  · cases hg
end DL
set_option Elab.async false
set_option linter.all false
set_option maxRecDepth 100000
set_option maxHeartbeats 2000000
set_option autoImplicit false
/-! DL4: built-ins, methods, f-strings on data. -/
namespace DL
open PySem PySem.Spec PyProof.Rows L2

/-! ### calls of built-ins -/
def gLen : List D → Option D
  | [.str z] => if z.length ≤ 16777216 then some (.int (z.length : Nat)) else none
  | [.tuple ds] => some (.int (ds.length : Nat))
  | [.list ds] => some (.int (ds.length : Nat))
  | [.dict (_ :: kvs)] => some (.int (kvs.length : Nat))
  | _ => none
section
variable {K : PySem.W.Frag}
theorem dvs_one {H : Hp} {xs : List V} {d : D} (h : DvAll K H xs [d]) : ∃ x, xs = [x] ∧ Dv K H x d := by
  cases h with
  | cons a b => cases b; exact ⟨_, rfl, a⟩
theorem dvs_two {H : Hp} {xs : List V} {d e : D} (h : DvAll K H xs [d, e]) : ∃ x y, xs = [x, y] ∧ Dv K H x d ∧ Dv K H y e := by
  cases h with
  | cons a b =>
    obtain ⟨y, rfl, q⟩ := dvs_one b
    exact ⟨_, y, rfl, a, q⟩
theorem len_D : CaD K (fun xs H Q => ∃ x n, xs = [x] ∧ LenV K x H n ∧ Q (.int n) H) gLen := by
  intro F H xs ds dz Q e h hg k
  unfold gLen at hg
  split at hg
  · split at hg
    · rename_i z hl
      cases hg
      obtain ⟨x, rfl, hx⟩ := dvs_one h
      have hx := dv_str hx
      subst hx
      exact ⟨_, _, rfl, ⟨line16 hl, rfl⟩, k _ _ _ (News.refl e) (.int _)⟩
    · cases hg
  · cases hg
    obtain ⟨x, rfl, hx⟩ := dvs_one h
    obtain ⟨a, vs, rfl, ha, da⟩ := dv_tup hx
    exact ⟨_, _, rfl, .inr ⟨vs, same_t e ha, rfl⟩, by rw [DvAll.length da]; exact k _ _ _ (News.refl e) (.int _)⟩
  · cases hg
    obtain ⟨x, rfl, hx⟩ := dvs_one h
    obtain ⟨a, vs, rfl, ha, da⟩ := dv_lst hx
    exact ⟨_, _, rfl, .inl ⟨vs, SqL.of (e _ _ ha), rfl⟩, by rw [DvAll.length da]; exact k _ _ _ (News.refl e) (.int _)⟩
  · cases hg
    obtain ⟨x, rfl, hx⟩ := dvs_one h
    obtain ⟨a, ns, rfl, hs, rfl⟩ := dv_ro hx
    refine ⟨_, _, rfl, .inl ⟨_, same_l e hs, rfl⟩, ?_⟩
    rw [List.length_map] at k ⊢
    exact k _ _ _ (News.refl e) (.int _)
  · cases hg
def gInt : List D → Option D
  | [.int i] => some (.int i)
  | [.bool b] => some (.int (if b then 1 else 0))
  | [.str z] => if z.length ≤ 640 then (PySem.intText? z).map .int else none
  | _ => none
def rIntA : List V → Hp → VK → Prop := fun xs H Q => ((∃ i, xs = [.int i] ∧ Q (.int i) H) ∨ ∃ k, xs = [.bl k] ∧ Q (.int (if k then 1 else 0)) H) ∨ ∃ a n, xs = [.str a] ∧ PySem.intText? a = some n ∧ a.length ≤ 640 ∧ Q (.int n) H
theorem call_or {X : Cx} {f : Value} {r r' : List V → Hp → VK → Prop} (h : CallR X f r) (h' : CallR X f r') : CallR X f (fun xs H Q => r xs H Q ∨ r' xs H Q) := by
  intro pins s σ H xs us Q I rv q
  rcases q with q | q
  · exact h pins s σ H xs us Q I rv q
  · exact h' pins s σ H xs us Q I rv q
theorem call_intA {X : Cx} : CallR X (.type "int") rIntA := call_or call_int1 call_int_str
theorem int_CD : CaD K rIntA gInt := by
  intro F H xs ds dz Q e h hg k
  unfold gInt at hg
  split at hg
  · cases hg
    obtain ⟨x, rfl, hx⟩ := dvs_one h
    have hx := dv_int hx
    subst hx
    exact .inl (.inl ⟨_, rfl, k _ _ _ (News.refl e) (.int _)⟩)
  · cases hg
    obtain ⟨x, rfl, hx⟩ := dvs_one h
    have hx := dv_bool hx
    subst hx
    exact .inl (.inr ⟨_, rfl, k _ _ _ (News.refl e) (.int _)⟩)
  · split at hg
    · rename_i z hl
      obtain ⟨n, en, rfl⟩ := Option.map_eq_some_iff.mp hg
      obtain ⟨x, rfl, hx⟩ := dvs_one h
      have hx := dv_str hx
      subst hx
      exact .inr ⟨_, n, rfl, en, hl, k _ _ _ (News.refl e) (.int _)⟩
    · cases hg
  · cases hg
def gStr : List D → Option D
  | [.int i] => if i.natAbs.log2 < 1920 then some (.str (toString i)) else none
  | [.str z] => some (.str z)
  | _ => none
def rStrA : List V → Hp → VK → Prop := fun xs H Q => (∃ i, xs = [.int i] ∧ i.natAbs.log2 < 1920 ∧ Q (.str (toString i)) H) ∨ ∃ a, xs = [.str a] ∧ Q (.str a) H
theorem call_strA {X : Cx} : CallR X (.type "str") rStrA := call_or call_str_int SkE.call_str_str
theorem str_CD : CaD K rStrA gStr := by
  intro F H xs ds dz Q e h hg k
  unfold gStr at hg
  split at hg
  · split at hg
    · rename_i hl
      cases hg
      obtain ⟨x, rfl, hx⟩ := dvs_one h
      have hx := dv_int hx
      subst hx
      exact .inl ⟨_, rfl, hl, k _ _ _ (News.refl e) (.str _)⟩
    · cases hg
  · cases hg
    obtain ⟨x, rfl, hx⟩ := dvs_one h
    have hx := dv_str hx
    subst hx
    exact .inr ⟨_, rfl, k _ _ _ (News.refl e) (.str _)⟩
  · cases hg
def gAbs : List D → Option D
  | [.int i] => some (.int (if i < 0 then -i else i))
  | _ => none
theorem abs_D : CaD K (fun xs H Q => ∃ i, xs = [.int i] ∧ Q (.int (if i < 0 then -i else i)) H) gAbs := by
  intro F H xs ds dz Q e h hg k
  unfold gAbs at hg
  split at hg
  · cases hg
    obtain ⟨x, rfl, hx⟩ := dvs_one h
    have hx := dv_int hx
    subst hx
    exact ⟨_, rfl, k _ _ _ (News.refl e) (.int _)⟩
  · cases hg
def gMax : List D → Option D
  | [.int i, .int j] => some (.int (if j > i then j else i))
  | _ => none
def gMin : List D → Option D
  | [.int i, .int j] => some (.int (if j < i then j else i))
  | _ => none
theorem max_D : CaD K (fun xs H Q => ∃ i j, xs = [.int i, .int j] ∧ Q (.int (if j > i then j else i)) H) gMax := by
  intro F H xs ds dz Q e h hg k
  unfold gMax at hg
  split at hg
  · cases hg
    obtain ⟨x, y, rfl, hx, hy⟩ := dvs_two h
    have hx := dv_int hx
    have hy := dv_int hy
    subst hx hy
    exact ⟨_, _, rfl, k _ _ _ (News.refl e) (.int _)⟩
  · cases hg
theorem min_D : CaD K (fun xs H Q => ∃ i j, xs = [.int i, .int j] ∧ Q (.int (if j < i then j else i)) H) gMin := by
  intro F H xs ds dz Q e h hg k
  unfold gMin at hg
  split at hg
  · cases hg
    obtain ⟨x, y, rfl, hx, hy⟩ := dvs_two h
    have hx := dv_int hx
    have hy := dv_int hy
    subst hx hy
    exact ⟨_, _, rfl, k _ _ _ (News.refl e) (.int _)⟩
  · cases hg
def gDivmod : List D → Option D
  | [.int i, .int j] => if 0 < j ∧ j < 2 ^ 4000 then some (.tuple [.int (i / j), .int (i % j)]) else none
  | _ => none
theorem divmod_D : CaD K (fun xs H Q => ∃ i j, xs = [.int i, .int j] ∧ CDivP i j ∧ ∀ p, H p = none → Q (.ref p) (upd H p (.tup [.int (i / j), .int (i % j)]))) gDivmod := by
  intro F H xs ds dz Q e h hg k
  unfold gDivmod at hg
  split at hg
  · split at hg
    · rename_i i j hl
      cases hg
      obtain ⟨x, y, rfl, hx, hy⟩ := dvs_two h
      have hx := dv_int hx
      have hy := dv_int hy
      subst hx hy
      refine ⟨_, _, rfl, ⟨hl.1, PyProof.noPylong_of_log2 (wide_div (i := i) (b := 4000) hl.1 (by have h2 : j < 2 ^ 4000 := hl.2; omega) (by decide) (by decide)).2⟩, fun p hp => ?_⟩
      exact k _ _ _ (News.new e hp) (News.tup e hp (.cons (.int _) (.cons (.int _) .nil)))
    · cases hg
  · cases hg
def gTuple : List D → Option D
  | [.list ds] => some (.tuple ds)
  | [.tuple ds] => some (.tuple ds)
  | _ => none
def gList : List D → Option D
  | [.list ds] => some (.list ds)
  | [.tuple ds] => some (.list ds)
  | _ => none
theorem tuple_D : CaD K (fun xs H Q => ∃ p ys, xs = [.ref p] ∧ ((SqL K H p ys ∧ ∀ l, H l = none → Q (.ref l) (upd H l (.tup ys))) ∨ (SqT K H p ys ∧ Q (.ref p) H))) gTuple := by
  intro F H xs ds dz Q e h hg k
  unfold gTuple at hg
  split at hg
  · cases hg
    obtain ⟨x, rfl, hx⟩ := dvs_one h
    obtain ⟨a, vs, rfl, ha, da⟩ := dv_lst hx
    exact ⟨a, vs, rfl, .inl ⟨SqL.of (e _ _ ha), fun p hp => k _ _ _ (News.new e hp) (News.tup e hp da)⟩⟩
  · cases hg
    obtain ⟨x, rfl, hx⟩ := dvs_one h
    obtain ⟨a, vs, rfl, ha, da⟩ := dv_tup hx
    exact ⟨a, vs, rfl, .inr ⟨same_t e ha, k _ _ _ (News.refl e) (.tup ha da)⟩⟩
  · cases hg
theorem list_D : CaD K (fun xs H Q => ∃ p ys, xs = [.ref p] ∧ (SqL K H p ys ∨ SqT K H p ys) ∧ ∀ l, H l = none → Q (.ref l) (upd H l (.lst ys))) gList := by
  intro F H xs ds dz Q e h hg k
  unfold gList at hg
  split at hg
  · cases hg
    obtain ⟨x, rfl, hx⟩ := dvs_one h
    obtain ⟨a, vs, rfl, ha, da⟩ := dv_lst hx
    exact ⟨a, vs, rfl, .inl (SqL.of (e _ _ ha)), fun p hp => k _ _ _ (News.new e hp) (News.lst e hp da)⟩
  · cases hg
    obtain ⟨x, rfl, hx⟩ := dvs_one h
    obtain ⟨a, vs, rfl, ha, da⟩ := dv_tup hx
    exact ⟨a, vs, rfl, .inr (same_t e ha), fun p hp => k _ _ _ (News.new e hp) (News.lst e hp da)⟩
  · cases hg
/-- the truths of a list of truths -/
def boolsD : List D → Option (List Bool)
  | [] => some []
  | .bool b :: r => (boolsD r).map (b :: ·)
  | _ :: _ => none
theorem dvs_bools {H : Hp} : ∀ {ds : List D} {vs : List V} {bs : List Bool}, DvAll K H vs ds → boolsD ds = some bs → vs = bs.map V.bl
  | [], _, bs, h, e => by cases h; cases e; rfl
  | .bool b :: r, _, bs, h, e => by
    cases h with
    | cons a c =>
      simp only [boolsD, Option.map_eq_some_iff] at e
      obtain ⟨bs', e1, rfl⟩ := e
      rw [dv_bool a, dvs_bools c e1]
      rfl
  | .none :: _, _, _, _, e => by cases e
  | .int _ :: _, _, _, _, e => by cases e
  | .str _ :: _, _, _, _, e => by cases e
  | .list _ :: _, _, _, _, e => by cases e
  | .tuple _ :: _, _, _, _, e => by cases e
  | .dict _ :: _, _, _, _, e => by cases e
def gAll : List D → Option D
  | [.list ds] => (boolsD ds).map fun bs => .bool (bs.all id)
  | _ => none
def gAny : List D → Option D
  | [.list ds] => (boolsD ds).map fun bs => .bool (bs.any id)
  | _ => none
theorem all_D : CaD K (rAll K) gAll := by
  intro F H xs ds dz Q e h hg k
  unfold gAll at hg
  split at hg
  · obtain ⟨bs, eb, rfl⟩ := Option.map_eq_some_iff.mp hg
    obtain ⟨x, rfl, hx⟩ := dvs_one h
    obtain ⟨a, vs, rfl, ha, da⟩ := dv_lst hx
    have ev := dvs_bools da eb
    subst ev
    exact ⟨a, bs, rfl, SqL.of (e _ _ ha), k _ _ _ (News.refl e) (.bl _)⟩
  · cases hg
theorem any_D : CaD K (rAny K) gAny := by
  intro F H xs ds dz Q e h hg k
  unfold gAny at hg
  split at hg
  · obtain ⟨bs, eb, rfl⟩ := Option.map_eq_some_iff.mp hg
    obtain ⟨x, rfl, hx⟩ := dvs_one h
    obtain ⟨a, vs, rfl, ha, da⟩ := dv_lst hx
    have ev := dvs_bools da eb
    subst ev
    exact ⟨a, bs, rfl, SqL.of (e _ _ ha), k _ _ _ (News.refl e) (.bl _)⟩
  · cases hg

/-! ### isinstance(e, T), T a built-in class -/
def tyD : D → String
  | .none => "NoneType"
  | .bool _ => "bool"
  | .int _ => "int"
  | .str _ => "str"
  | .list _ => "list"
  | .tuple _ => "tuple"
  | .dict _ => "dict"
/-- what isinstance answers of each kind of data -/
def isiB (T : String) : D → Bool
  | .none => false
  | .bool _ => T == "bool" || T == "int"
  | .int _ => T == "int"
  | .str _ => T == "str"
  | .list _ => T == "list"
  | .tuple _ => T == "tuple"
  | .dict _ => T == "dict"
def gIsi (T : String) : D → Option D := fun d => match d with
  | .dict (_ :: _) => none
  | d => some (.bool (isiB T d))
theorem tyx_tup {H : Hp} {a : Addr} {xs : List V} (h : SqT K H a xs) : TyX K H (.ref a) (.type "tuple") := by
  rcases h with (h | ⟨o, h⟩) | ⟨o, its, n, hk, hc, _⟩
  · exact .base (.tup h)
  · exact .fTuple h
  · exact .kTuple hk hc
/-- the classes asked -/
def kitsOf (T : String) : Bool := (["NoneType", "bool", "int", "str", "list", "tuple", "dict"] : List String).all fun a => decide (kitB a T = some (a == T || (a == "bool" && T == "int")))
theorem isi_ans {T : String} (hT : kitsOf T = true) (hN : T ≠ "NoneType") {F H : Hp} {x : V} {d dz : D} (e : Same F H) (h : Dv K F x d) (hg : gIsi T d = some dz) : ∃ t b, TyX K H x t ∧ PySem.W.kitOne K t (.type T) = some b ∧ dz = .bool b := by
  have q : ∀ a ∈ (["NoneType", "bool", "int", "str", "list", "tuple", "dict"] : List String), kitB a T = some (a == T || (a == "bool" && T == "int")) := by
    unfold kitsOf at hT
    rw [List.all_eq_true] at hT
    exact fun a ha => of_decide_eq_true (hT a ha)
  have sy : ∀ a : String, (a == T) = (T == a) := fun a => by
    by_cases z : a = T
    · subst z; rfl
    · rw [beq_eq_false_iff_ne.mpr z, beq_eq_false_iff_ne.mpr (Ne.symm z)]
  cases d with
  | dict kvs =>
    cases kvs with
    | cons p kvs => cases hg
    | nil =>
      cases h with
      | emp ha =>
        refine ⟨_, _, .base (.dK (e _ _ ha)), kit_ty (q "dict" (by simp)), ?_⟩
        cases hg
        rw [sy "dict"]
        simp [isiB]
  | none =>
    cases h
    refine ⟨_, _, .base .non, kit_ty (q "NoneType" (by simp)), ?_⟩
    cases hg
    rw [sy "NoneType", beq_eq_false_iff_ne.mpr hN]
    rfl
  | bool b =>
    cases h
    refine ⟨_, _, .base (.bl b), kit_ty (q "bool" (by simp)), ?_⟩
    cases hg
    rw [sy "bool"]
    rfl
  | int i =>
    cases h
    refine ⟨_, _, .base (.int i), kit_ty (q "int" (by simp)), ?_⟩
    cases hg
    rw [sy "int"]
    simp [isiB]
  | str z =>
    cases h
    refine ⟨_, _, .base (.str z), kit_ty (q "str" (by simp)), ?_⟩
    cases hg
    rw [sy "str"]
    simp [isiB]
  | list ds =>
    cases h with
    | lst ha hd =>
      refine ⟨_, _, .base (.lst (e _ _ ha)), kit_ty (q "list" (by simp)), ?_⟩
      cases hg
      rw [sy "list"]
      simp [isiB]
  | tuple ds =>
    cases h with
    | tup ha hd =>
      refine ⟨_, _, tyx_tup (same_t e ha), kit_ty (q "tuple" (by simp)), ?_⟩
      cases hg
      rw [sy "tuple"]
      simp [isiB]
end

/-! ### repr(e) -/
def gRepr : List D → Option D
  | [d] => if d.canLay0 && d.showable && decide (d.depth ≤ 64) && decide (d.shown.length ≤ 16777216) then some (.str d.shown) else none
  | _ => none
def rReprD (K : PySem.W.Frag) : List V → Hp → VK → Prop := fun xs H Q => ∃ x d, xs = [x] ∧ Dp K H x d ∧ d.canLay0 = true ∧ d.showable = true ∧ d.depth ≤ 64 ∧ d.shown.length ≤ sizeLine ∧ Q (.str d.shown) H
theorem call_reprD {X : Cx} (hg : X.A.guards = some []) (hu : X.A.units + 66 < cLine) : CallR X (.builtin "repr") (rReprD X.K) := by
  intro pins s σ H xs us Q I r h
  obtain ⟨x, d, rfl, dp, cl, sh, hd, hz, q⟩ := h
  obtain ⟨u, rfl, ru⟩ := vals1 r
  obtain ⟨as, rd⟩ := Dp.reads I d x u dp ru
  have fin : ∀ h' u' tk, (∀ b o, s.heap.get? b = some o → h'.get? b = some o) → EP X pins σ Q (.str d.shown u') { s with heap := h', toks := tk } :=
    fun h' u' tk hk => ⟨.str d.shown, H, I.kept (t' := tk) hk, ⟨_, rfl⟩, q⟩
  cases dp with
  | non =>
    cases ru
    exact PySem.P.repr_of_none (fin _ _ _ fun _ _ e => e)
  | bl b =>
    cases ru
    exact PySem.P.repr_of_bool (fin _ _ _ fun _ _ e => e)
  | int i =>
    obtain ⟨t, rfl⟩ := ru
    exact PySem.P.repr_of_int (by simpa [PyData.showable] using sh) (fin _ _ _ fun _ _ e => e)
  | str z =>
    obtain ⟨t, rfl⟩ := ru
    exact PySem.P.repr_of_str (fin _ _ _ fun _ _ e => e) hz
  | lst a b =>
    cases ru
    exact repr_of_reads' rd sh (fun z => by rw [PyData.hasDict_of_canLay _ cl] at z; cases z) hg (by omega) (fun _ _ e => e) fin hz
  | tup a b =>
    cases ru
    exact repr_of_reads' rd sh (fun z => by rw [PyData.hasDict_of_canLay _ cl] at z; cases z) hg (by omega) (fun _ _ e => e) fin hz
theorem repr_D {K : PySem.W.Frag} : CaD K (rReprD K) gRepr := by
  intro F H xs ds dz Q e h hg k
  unfold gRepr at hg
  split at hg
  · split at hg
    · rename_i d c
      cases hg
      simp only [Bool.and_eq_true, decide_eq_true_eq] at c
      obtain ⟨x, rfl, hx⟩ := dvs_one h
      exact ⟨x, d, rfl, Dv.dp d x (dv_mono e d x hx) c.1.1.1, c.1.1.1, c.1.1.2, c.1.2, line16 c.2, k _ _ _ (News.refl e) (.str _)⟩
    · cases hg
  · cases hg

/-! ### join -/
def strsD : List D → Option (List Str)
  | [] => some []
  | .str b :: r => (strsD r).map (b :: ·)
  | _ :: _ => none
theorem dvs_strs {K : PySem.W.Frag} {H : Hp} : ∀ {ds : List D} {vs : List V} {bs : List Str}, DvAll K H vs ds → strsD ds = some bs → vs = bs.map V.str
  | [], _, bs, h, e => by cases h; cases e; rfl
  | .str b :: r, _, bs, h, e => by
    cases h with
    | cons a c =>
      simp only [strsD, Option.map_eq_some_iff] at e
      obtain ⟨bs', e1, rfl⟩ := e
      rw [dv_str a, dvs_strs c e1]
      rfl
  | .none :: _, _, _, _, e => by cases e
  | .int _ :: _, _, _, _, e => by cases e
  | .bool _ :: _, _, _, _, e => by cases e
  | .list _ :: _, _, _, _, e => by cases e
  | .tuple _ :: _, _, _, _, e => by cases e
  | .dict _ :: _, _, _, _, e => by cases e
def seqD : D → Option (List D)
  | .list ds => some ds
  | .tuple ds => some ds
  | _ => none
def gJoin : D → D → Option D
  | .str a, y => (seqD y).bind fun ds => (strsD ds).bind fun ys => if (ys.map (·.length)).sum + ys.length * a.length ≤ 16777216 then some (.str (Txt.join a ys)) else none
  | _, _ => none
def rJoin (K : PySem.W.Frag) : V → List V → Hp → VK → Prop := fun x xs H Q => ∃ a p, ∃ ys : List Str, x = .str a ∧ xs = [.ref p] ∧ (SqL K H p (ys.map V.str) ∨ SqT K H p (ys.map V.str)) ∧
  (ys.map (·.length)).sum + ys.length * a.length ≤ 16777216 ∧ Q (.str (Txt.join a ys)) H
/-- a text's method with one argument -/
def strM (g2 : D → D → Option D) (mo m : EM) : EM := bindE mo fun a => match a with
  | .d (.str z) => bindE m fun b => match b with
    | .d y => liftD (g2 (.str z) y)
    | _ => fun _ => .stuck
  | _ => fun _ => .stuck
theorem snd_join {g : G} {to te : TE} {mo m : EM} (ho : SndE g to mo) (he : SndE g te m) : SndE g (tM1 (rJoin g.K) to te) (strM gJoin mo m) := by
  intro σ ρ F H Q c hp
  refine ho.bind c hp fun x v ρ1 F1 H1 c1 s1 i1 hp1 => ?_
  split at hp1
  · rename_i z
    have ex := dv_str i1
    subst ex
    refine ⟨⟨z, rfl⟩, ?_⟩
    refine he.bind c1 hp1 fun y u ρ2 F2 H2 c2 s2 i2 hp2 => ?_
    cases u with
    | l ds => exact hp2.elim
    | d dy =>
      obtain ⟨dz, e, k⟩ := hp2.lift c2
      have e : ((seqD dy).bind fun ds => (strsD ds).bind fun ys => if (ys.map (·.length)).sum + ys.length * z.length ≤ 16777216 then some (PyData.str (Txt.join z ys)) else none) = some dz := e
      cases e1 : seqD dy with
      | none => rw [e1] at e; cases e
      | some ds =>
        rw [e1] at e
        have e : ((strsD ds).bind fun ys => if (ys.map (·.length)).sum + ys.length * z.length ≤ 16777216 then some (PyData.str (Txt.join z ys)) else none) = some dz := e
        cases e2 : strsD ds with
        | none => rw [e2] at e; cases e
        | some ys =>
          rw [e2] at e
          have e : (if (ys.map (·.length)).sum + ys.length * z.length ≤ 16777216 then some (PyData.str (Txt.join z ys)) else none) = some dz := e
          split at e
          · rename_i hl
            cases e
            cases dy with
            | list es =>
              cases e1
              obtain ⟨a, vs, rfl, ha, da⟩ := dv_lst i2
              have ev := dvs_strs da e2
              subst ev
              exact ⟨z, a, ys, rfl, rfl, .inl (SqL.of (c2.ext _ _ ha)), hl, k _ _ _ (News.refl c2.ext) (.str _)⟩
            | tuple es =>
              cases e1
              obtain ⟨a, vs, rfl, ha, da⟩ := dv_tup i2
              have ev := dvs_strs da e2
              subst ev
              exact ⟨z, a, ys, rfl, rfl, .inr (same_t c2.ext ha), hl, k _ _ _ (News.refl c2.ext) (.str _)⟩
            | _ => cases e1
          · cases e
  · exact hp1.elim

/-! ### slices -/
/-- a part of a slice: none, or a whole number -/
inductive RO where
  | ok (o : Option Int) (s : Rh)
  | exc (x : Xn) (s : Rh)
  | stuck
def partM (m : EM) : Rh → RO := fun ρ => match m ρ with
  | .ok (.d (.int i)) ρ' => .ok (some i) ρ'
  | .ok _ _ => .stuck
  | .exc x ρ' => .exc x ρ'
  | .stuck => .stuck
def noPartM : Rh → RO := fun ρ => .ok none ρ
def OPost (g : G) (σ : St) (ρ : Rh) (F H : Hp) (Q : Option Int → Hp → Prop) : RO → Prop
  | .ok o ρ' => ∀ F' H', Con g.K σ ρ' F' H' → Stp g.P σ ρ F H σ ρ' F' H' → Q o H'
  | .exc e ρ' => ∀ cls dd F' H', Con g.K σ ρ' F' H' → Stp g.P σ ρ F H σ ρ' F' H' → XnIs g.K g.mg F' H' e cls dd → g.W cls dd σ H'
  | .stuck => False
def SndO (g : G) (t : TO) (m : Rh → RO) : Prop := ∀ σ ρ F H Q, Con g.K σ ρ F H → OPost g σ ρ F H Q (m ρ) → t σ H Q
theorem sno_no {g : G} : SndO g tNoPart noPartM := fun σ ρ F H Q c hp => hp F H c Stp.refl
theorem sno_part {g : G} {te : TE} {m : EM} (h : SndE g te m) : SndO g (tPart te) (partM m) := by
  intro σ ρ F H Q c hp
  refine h σ ρ F H _ c ?_
  unfold partM at hp
  cases e : m ρ with
  | exc x ρ' => rw [e] at hp; exact hp
  | stuck => rw [e] at hp; exact hp
  | ok v ρ1 =>
    rw [e] at hp
    cases v with
    | l ds => exact hp.elim
    | d d =>
      cases d with
      | int i => exact fun x F' H' c' s' iv => ⟨i, dv_int iv, hp F' H' c' s'⟩
      | _ => exact hp.elim
def bindO (m : Rh → RO) (f : Option Int → EM) : EM := fun ρ => match m ρ with
  | .ok v ρ' => f v ρ'
  | .exc e ρ' => .exc e ρ'
  | .stuck => .stuck
theorem SndO.bind {g : G} {t : TO} {m : Rh → RO} {f : Option Int → EM} (h : SndO g t m) {σ : St} {ρ : Rh} {F H : Hp} {Q : VK} {Q1 : Option Int → Hp → Prop} (c : Con g.K σ ρ F H) (hp : EPost g σ ρ F H Q (bindO m f ρ))
    (k : ∀ o ρ' F' H', Con g.K σ ρ' F' H' → Stp g.P σ ρ F H σ ρ' F' H' → EPost g σ ρ' F' H' Q (f o ρ') → Q1 o H') : t σ H Q1 := by
  refine h σ ρ F H Q1 c ?_
  unfold bindO at hp
  cases e : m ρ with
  | ok v ρ' =>
    rw [e] at hp
    exact fun F' H' c' s => k v ρ' F' H' c' s (EPost.shift hp s)
  | exc x ρ' => rw [e] at hp; exact hp
  | stuck => rw [e] at hp; exact hp
def slM (m : EM) (lo hi : Rh → RO) : EM := bindE m fun a => match a with
  | .d x => bindO lo fun l => bindO hi fun h => liftD (gSl x l h)
  | _ => fun _ => .stuck
theorem snd_sl {g : G} {te : TE} {tl th : TO} {m : EM} {lo hi : Rh → RO} (hm : SndE g te m) (hl : SndO g tl lo) (hh : SndO g th hi) : SndE g (tSl (rSlX g.K) te tl th) (slM m lo hi) := by
  intro σ ρ F H Q c hp
  refine hm.bind c hp fun x v ρ1 F1 H1 c1 s1 i1 hp1 => ?_
  cases v with
  | l ds => exact hp1.elim
  | d dx =>
    refine hl.bind c1 hp1 fun l ρ2 F2 H2 c2 s2 hp2 => ?_
    refine hh.bind c2 hp2 fun h ρ3 F3 H3 c3 s3 hp3 => ?_
    obtain ⟨dz, e, k⟩ := hp3.lift c3
    exact sl_D c3.ext (dv_mono (s2.trans s3).fr dx x i1) e k

/-! ### chains of comparisons: a < b < c -/
def chM (g1 g2 : D → D → Option D) (ma mb mc : EM) : EM := bindE ma fun a => bindE mb fun b => match a, b with
  | .d x, .d y => match g1 x y with
    | some (.bool true) => bindE mc fun c => match c with
      | .d z => liftD (g2 y z)
      | _ => fun _ => .stuck
    | some (.bool false) => conM (.bool false)
    | _ => fun _ => .stuck
  | _, _ => fun _ => .stuck
theorem snd_ch {g : G} {ta tb tc : TE} {ma mb mc : EM} {r r' : R2} {g1 g2 : D → D → Option D} (hd : OpD g.K r g1) (hd' : OpD g.K r' g2) (ha : SndE g ta ma) (hb : SndE g tb mb) (hc : SndE g tc mc) : SndE g (tChain r r' ta tb tc) (chM g1 g2 ma mb mc) := by
  intro σ ρ F H Q c hp
  refine ha.bind c hp fun x v ρ1 F1 H1 c1 s1 i1 hp1 => ?_
  refine hb.bind c1 hp1 fun y u ρ2 F2 H2 c2 s2 i2 hp2 => ?_
  cases v with
  | l ds => cases u <;> exact hp2.elim
  | d dx =>
    cases u with
    | l ds => exact hp2.elim
    | d dy =>
      dsimp only at hp2
      cases e : g1 dx dy with
      | none => rw [e] at hp2; exact hp2.elim
      | some d =>
        rw [e] at hp2
        cases d with
        | bool b =>
          refine hd F2 H2 x y dx dy _ _ c2.ext (dv_mono s2.fr dx x i1) i2 e fun v F' H' n q => ?_
          refine ⟨b, dv_bool q, ?_⟩
          cases b with
          | true =>
            rw [if_pos rfl]
            have c3 := c2.news n
            refine hc.bind c3 (EPost.shift hp2 (Stp.news (K := g.K) n)) fun z w ρ4 F4 H4 c4 s4 i4 hp4 => ?_
            cases w with
            | l ds => exact hp4.elim
            | d dz =>
              obtain ⟨d, e', k⟩ := hp4.lift c4
              exact hd' F4 H4 y z dy dz d Q c4.ext (dv_mono s4.fr dy y (dv_mono n.fr dy y i2)) i4 e' k
          | false =>
            rw [if_neg Bool.false_ne_true]
            exact epost_con (c2.news n) (EPost.shift hp2 (Stp.news (K := g.K) n)) (.bl false)
        | _ => exact hp2.elim

/-! ### f-strings -/
def gFmt : D → Option D
  | .int i => if i.natAbs.log2 < 1920 then some (.str (toString i)) else none
  | .str z => if z.length ≤ 16777216 then some (.str z) else none
  | _ => none
theorem snd_fmt {g : G} {te : TE} {m : EM} (h : SndE g te m) : SndE g (tFmt te) (op1 gFmt m) := by
  refine snd_un (r1 := fun x H1 Q => (∃ y : Str, x = .str y ∧ y.length ≤ sizeLine ∧ Q (.str y) H1) ∨ ∃ i : Int, x = .int i ∧ i.natAbs.log2 < 1920 ∧ Q (.str (toString i)) H1) (fun F H x dx dz Q e hx hg k => ?_) h
  unfold gFmt at hg
  split at hg
  · split at hg
    · rename_i hl
      cases hg
      exact .inr ⟨_, dv_int hx, hl, k _ _ _ (News.refl e) (.str _)⟩
    · cases hg
  · split at hg
    · rename_i hl
      cases hg
      exact .inl ⟨_, dv_str hx, line16 hl, k _ _ _ (News.refl e) (.str _)⟩
    · cases hg
  · cases hg
/-- the parts one behind the other -/
def joinsM : List EM → Str → EM
  | [], acc => conM (.str acc)
  | m :: ms, acc => bindE m fun v => match v with
    | .d (.str y) => if (acc ++ y).length ≤ 16777216 then joinsM ms (acc ++ y) else fun _ => .stuck
    | _ => fun _ => .stuck
inductive SndJ (g : G) : List TE → List EM → Prop where
  | nil : SndJ g [] []
  | cons {t : TE} {m : EM} {ts : List TE} {ms : List EM} (h : SndE g t m) (r : SndJ g ts ms) : SndJ g (t :: ts) (m :: ms)
theorem snd_js {g : G} {ts : List TE} {ms : List EM} (h : SndJ g ts ms) : ∀ (acc : Str), SndE g (fun σ H Q => tJs ts acc σ H fun out H1 => Q (.str out) H1) (joinsM ms acc) := by
  induction h with
  | nil => exact fun acc σ ρ F H Q c hp => epost_con c hp (.str acc)
  | cons h r ih =>
    intro acc σ ρ F H Q c hp
    refine h.bind c hp fun x v ρ1 F1 H1 c1 s1 i1 hp1 => ?_
    split at hp1
    · rename_i y
      split at hp1
      · rename_i hl
        exact ⟨y, dv_str i1, line16 hl, ih (acc ++ y) σ ρ1 F1 H1 Q c1 hp1⟩
      · exact hp1.elim
    · exact hp1.elim
end DL
set_option Elab.async false
set_option linter.all false
set_option maxRecDepth 100000
set_option maxHeartbeats 2000000
set_option autoImplicit false
/-! DL5: statements, loops. -/
namespace DL
open PySem PySem.Spec PyProof.Rows L2

/-! ### the def's own lists -/
theorem get_set_self {α : Type} {l : List α} {i : Nat} {x y : α} (h : l[i]? = some y) : (l.set i x)[i]? = some x := by
  have hi : i < l.length := (List.getElem?_eq_some_iff.mp h).1
  exact List.getElem?_set_self hi
theorem get_set_ne {α : Type} {l : List α} {i j : Nat} {x : α} (h : i ≠ j) : (l.set i x)[j]? = l[j]? := List.getElem?_set_ne h
section
variable {K : PySem.W.Frag} {σ : St} {ρ : Rh} {F H : Hp} {P : List Nat}
theorem Owned.of {i : Nat} {ds : List D} {p : Addr} (e : ρ[i]? = some (some (.own ds))) (q : σ[i]? = some (some (.ref p))) : Owned σ ρ p := ⟨i, ds, e, q⟩
/-- a list of the def's own is written -/
theorem Con.put (c : Con K σ ρ F H) {i : Nat} {ds ds' : List D} {p : Addr} {vs' : List V} (e : ρ[i]? = some (some (.own ds))) (q : σ[i]? = some (some (.ref p))) (a : DvAll K F vs' ds') :
    Con K σ (ρ.set i (some (.own ds'))) F (upd H p (.lst vs')) ∧ Stp P σ ρ F H σ (ρ.set i (some (.own ds'))) F (upd H p (.lst vs')) := by
  obtain ⟨p', vs, q', f, h, _⟩ := c.own i ds e
  rw [q] at q'
  cases q'
  have back : ∀ (j : Nat) (es : List D), (ρ.set i (some (.own ds')))[j]? = some (some (.own es)) → ∃ es', ρ[j]? = some (some (.own es')) := fun j es z => by
    by_cases hj : i = j
    · subst hj; exact ⟨ds, e⟩
    · rw [get_set_ne hj] at z; exact ⟨es, z⟩
  refine ⟨⟨fun b o z => ?_, by rw [List.length_set]; exact c.len, fun j d z => ?_, fun j es z => ?_, fun j k x y b hn z1 z2 => ?_⟩, ⟨fun _ _ z => z, fun b o z n => ?_, fun _ _ _ z _ => z, fun b ⟨j, es, z1, z2⟩ => ?_, fun b o z => ?_, fun _ _ => rfl⟩⟩
  · rw [upd_ne (ne_of_none z f)]; exact c.ext b o z
  · by_cases hj : i = j
    · subst hj; rw [get_set_self e] at z; cases z
    · rw [get_set_ne hj] at z; exact c.dat j d z
  · by_cases hj : i = j
    · subst hj; rw [get_set_self e] at z; cases z
      exact ⟨p, vs', q, f, upd_same, a⟩
    · rw [get_set_ne hj] at z
      obtain ⟨b, us, q1, f1, h1, a1⟩ := c.own j es z
      refine ⟨b, us, q1, f1, ?_, a1⟩
      rw [upd_ne (fun w => by rw [w] at q1; exact c.sep i j ds es p hj e z q q1)]
      exact h1
  · obtain ⟨x', z1⟩ := back j x z1
    obtain ⟨y', z2⟩ := back k y z2
    exact c.sep j k x' y' b hn z1 z2
  · rw [upd_ne (fun w => n (by rw [w]; exact Owned.of e q))]; exact z
  · obtain ⟨es', z1⟩ := back j es z1
    exact .inl (Owned.of z1 z2)
  · by_cases hb : b = p
    · rw [hb]; exact ⟨_, upd_same⟩
    · exact ⟨o, by rw [upd_ne hb]; exact z⟩
/-- data goes to a slot -/
theorem Con.setD (c : Con K σ ρ F H) {i : Nat} {v : V} {d : D} (h : Dv K F v d) (hi : i ∉ P) :
    Con K (σ.set i (some v)) (ρ.set i (some (.dat d))) F H ∧ Stp P σ ρ F H (σ.set i (some v)) (ρ.set i (some (.dat d))) F H := by
  have back : ∀ (j : Nat) (es : List D), (ρ.set i (some (Slot.dat d)))[j]? = some (some (.own es)) → i ≠ j ∧ ρ[j]? = some (some (.own es)) := fun j es z => by
    by_cases hj : i = j
    · subst hj
      by_cases hl : i < ρ.length
      · rw [List.getElem?_set_self hl] at z; cases z
      · rw [List.getElem?_eq_none (by rw [List.length_set]; omega)] at z; cases z
    · rw [get_set_ne hj] at z; exact ⟨hj, z⟩
  refine ⟨⟨c.ext, by rw [List.length_set, List.length_set]; exact c.len, fun j e z => ?_, fun j es z => ?_, fun j k x y b hn z1 z2 z3 z4 => ?_⟩, ⟨fun _ _ z => z, fun b o z _ => z, fun _ _ _ z _ => z, fun b ⟨j, es, z1, z2⟩ => ?_, fun b o z => ⟨o, z⟩, fun j hj => ?_⟩⟩
  · by_cases hj : i = j
    · subst hj
      have hl : i < ρ.length := by
        have := (List.getElem?_eq_some_iff.mp z).1
        rw [List.length_set] at this
        exact this
      rw [List.getElem?_set_self hl] at z
      cases z
      exact ⟨v, List.getElem?_set_self (by rw [c.len]; exact hl), h⟩
    · rw [get_set_ne hj] at z
      rw [get_set_ne hj]
      exact c.dat j e z
  · obtain ⟨hj, z⟩ := back j es z
    rw [get_set_ne hj]
    exact c.own j es z
  · obtain ⟨hj, z1⟩ := back j x z1
    obtain ⟨hk, z2⟩ := back k y z2
    rw [get_set_ne hj] at z3
    rw [get_set_ne hk] at z4
    exact c.sep j k x y b hn z1 z2 z3 z4
  · obtain ⟨hj, z1⟩ := back j es z1
    rw [get_set_ne hj] at z2
    exact .inl (Owned.of z1 z2)
  · exact get_set_ne (fun w => hi (by rw [w]; exact hj))
/-- a slot is emptied of the def's own list -/
theorem Con.setL (c : Con K σ ρ F H) {i : Nat} {p : Addr} {vs : List V} {ds : List D} (f : F p = none) (h : H p = some (.lst vs)) (a : DvAll K F vs ds) (n : ¬ Owned σ ρ p) :
    Con K (σ.set i (some (.ref p))) (ρ.set i (some (.own ds))) F H ∧ ∀ b, Owned (σ.set i (some (.ref p))) (ρ.set i (some (.own ds))) b → Owned σ ρ b ∨ b = p := by
  have at_i : ∀ {es : List D}, (ρ.set i (some (Slot.own ds)))[i]? = some (some (.own es)) → i < ρ.length ∧ es = ds := fun {es} z => by
    have hl : i < ρ.length := by
      have := (List.getElem?_eq_some_iff.mp z).1
      rw [List.length_set] at this
      exact this
    rw [List.getElem?_set_self hl] at z
    cases z
    exact ⟨hl, rfl⟩
  refine ⟨⟨c.ext, by rw [List.length_set, List.length_set]; exact c.len, fun j e z => ?_, fun j es z => ?_, fun j k x y b hn z1 z2 z3 z4 => ?_⟩, fun b ⟨j, es, z1, z2⟩ => ?_⟩
  · by_cases hj : i = j
    · subst hj
      have hl : i < ρ.length := by
        have := (List.getElem?_eq_some_iff.mp z).1
        rw [List.length_set] at this
        exact this
      rw [List.getElem?_set_self hl] at z
      cases z
    · rw [get_set_ne hj] at z
      rw [get_set_ne hj]
      exact c.dat j e z
  · by_cases hj : i = j
    · subst hj
      obtain ⟨hl, rfl⟩ := at_i z
      exact ⟨p, vs, List.getElem?_set_self (by rw [c.len]; exact hl), f, h, a⟩
    · rw [get_set_ne hj] at z
      rw [get_set_ne hj]
      exact c.own j es z
  · by_cases hj : i = j
    · subst hj
      have hk : i ≠ k := hn
      obtain ⟨hl, rfl⟩ := at_i z1
      rw [List.getElem?_set_self (by rw [c.len]; exact hl)] at z3
      cases z3
      rw [get_set_ne hk] at z2 z4
      exact n (Owned.of z2 z4)
    · rw [get_set_ne hj] at z1 z3
      by_cases hk : i = k
      · subst hk
        obtain ⟨hl, rfl⟩ := at_i z2
        rw [List.getElem?_set_self (by rw [c.len]; exact hl)] at z4
        cases z4
        exact n (Owned.of z1 z3)
      · rw [get_set_ne hk] at z2 z4
        exact c.sep j k x y b hn z1 z2 z3 z4
  · by_cases hj : i = j
    · subst hj
      obtain ⟨hl, rfl⟩ := at_i z1
      rw [List.getElem?_set_self (by rw [c.len]; exact hl)] at z2
      cases z2
      exact .inr rfl
    · rw [get_set_ne hj] at z1 z2
      exact .inl (Owned.of z1 z2)
/-- a list of the def's own becomes data, in its slot -/
theorem Con.frz (c : Con K σ ρ F H) {i : Nat} {ds : List D} (e : ρ[i]? = some (some (.own ds))) : ∃ F', Con K σ (ρ.set i (some (.dat (.list ds)))) F' H ∧ Stp P σ ρ F H σ (ρ.set i (some (.dat (.list ds)))) F' H := by
  obtain ⟨p, vs, q, f, h, a⟩ := c.own i ds e
  have s : Same F (upd F p (.lst vs)) := fun b o z => by rw [upd_ne (ne_of_none z f)]; exact z
  have back : ∀ (j : Nat) (es : List D), (ρ.set i (some (Slot.dat (.list ds))))[j]? = some (some (.own es)) → i ≠ j ∧ ρ[j]? = some (some (.own es)) := fun j es z => by
    by_cases hj : i = j
    · subst hj; rw [get_set_self e] at z; cases z
    · rw [get_set_ne hj] at z; exact ⟨hj, z⟩
  refine ⟨upd F p (.lst vs), ⟨fun b o z => ?_, by rw [List.length_set]; exact c.len, fun j d z => ?_, fun j es z => ?_, fun j k x y b hn z1 z2 => ?_⟩, ⟨s, fun b o z _ => z, fun b o z1 z2 z3 => ?_, fun b ⟨j, es, z1, z2⟩ => ?_, fun b o z => ⟨o, z⟩, fun _ _ => rfl⟩⟩
  · by_cases hb : b = p
    · subst hb; rw [upd_same] at z; cases z; exact h
    · rw [upd_ne hb] at z; exact c.ext b o z
  · by_cases hj : i = j
    · subst hj
      rw [get_set_self e] at z
      cases z
      exact ⟨_, q, .lst upd_same (dvAll_mono s ds vs a)⟩
    · rw [get_set_ne hj] at z
      obtain ⟨v, q1, r1⟩ := c.dat j d z
      exact ⟨v, q1, dv_mono s d v r1⟩
  · obtain ⟨hj, z⟩ := back j es z
    obtain ⟨b, us, q1, f1, h1, a1⟩ := c.own j es z
    refine ⟨b, us, q1, ?_, h1, dvAll_mono s es us a1⟩
    rw [upd_ne (fun w => by rw [w] at q1; exact c.sep i j ds es p hj e z q q1)]
    exact f1
  · exact c.sep j k x y b hn (back j x z1).2 (back k y z2).2
  · rw [upd_ne (fun w => z3 (by rw [w]; exact Owned.of e q))]; exact z2
  · exact .inl (Owned.of (back j es z1).2 z2)
end

/-! ### what a statement comes to -/
inductive Out where
  | nx (s : Rh)
  | ret (v : Val) (s : Rh)
  | brk (s : Rh)
  | ct (s : Rh)
  | exc (x : Xn) (s : Rh)
  | stuck
abbrev SM := Rh → Out
def SPost (g : G) (σ : St) (ρ : Rh) (F H : Hp) (Dn : Ends) : Out → Prop
  | .nx ρ' => ∀ σ' F' H', Con g.K σ' ρ' F' H' → Stp g.P σ ρ F H σ' ρ' F' H' → Dn.nx σ' H'
  | .brk ρ' => ∀ σ' F' H', Con g.K σ' ρ' F' H' → Stp g.P σ ρ F H σ' ρ' F' H' → Dn.bk σ' H'
  | .ct ρ' => ∀ σ' F' H', Con g.K σ' ρ' F' H' → Stp g.P σ ρ F H σ' ρ' F' H' → Dn.ct σ' H'
  | .ret v ρ' => ∀ x σ' F' H', Con g.K σ' ρ' F' H' → Stp g.P σ ρ F H σ' ρ' F' H' → ValIs g.K σ ρ H σ' ρ' F' H' x v → Dn.rt x H'
  | .exc e ρ' => ∀ cls dd σ' F' H', Con g.K σ' ρ' F' H' → Stp g.P σ ρ F H σ' ρ' F' H' → XnIs g.K g.mg F' H' e cls dd → g.W cls dd σ' H'
  | .stuck => False
def SndS (g : G) (t : TS) (m : SM) : Prop := ∀ Dn σ ρ F H, Con g.K σ ρ F H → SPost g σ ρ F H Dn (m ρ) → t Dn σ H
theorem SPost.shift {g : G} {σ σ1 : St} {ρ ρ1 : Rh} {F H F1 H1 : Hp} {Dn : Ends} {r : Out} (h : SPost g σ ρ F H Dn r) (s : Stp g.P σ ρ F H σ1 ρ1 F1 H1) : SPost g σ1 ρ1 F1 H1 Dn r := by
  cases r with
  | nx ρ' => exact fun σ' F' H' c t => h σ' F' H' c (s.trans t)
  | brk ρ' => exact fun σ' F' H' c t => h σ' F' H' c (s.trans t)
  | ct ρ' => exact fun σ' F' H' c t => h σ' F' H' c (s.trans t)
  | ret v ρ' => exact fun x σ' F' H' c t iv => h x σ' F' H' c (s.trans t) (iv.from s)
  | exc e ρ' => exact fun cls dd σ' F' H' c t ix => h cls dd σ' F' H' c (s.trans t) ix
  | stuck => exact h
/-- an expression's value, then more -/
def bindS (m : EM) (f : Val → SM) : SM := fun ρ => match m ρ with
  | .ok v ρ' => f v ρ'
  | .exc e ρ' => .exc e ρ'
  | .stuck => .stuck
theorem SndE.bindS {g : G} {te : TE} {m : EM} {f : Val → SM} (h : SndE g te m) {σ : St} {ρ : Rh} {F H : Hp} {Dn : Ends} {Q1 : VK} (c : Con g.K σ ρ F H) (hp : SPost g σ ρ F H Dn (DL.bindS m f ρ))
    (k : ∀ x v ρ' F' H', Con g.K σ ρ' F' H' → Stp g.P σ ρ F H σ ρ' F' H' → ValIs g.K σ ρ H σ ρ' F' H' x v → SPost g σ ρ F H Dn (f v ρ') → Q1 x H') : te σ H Q1 := by
  refine h σ ρ F H Q1 c ?_
  unfold DL.bindS at hp
  cases e : m ρ with
  | ok v ρ' =>
    rw [e] at hp
    exact fun x F' H' c' s iv => k x v ρ' F' H' c' s iv hp
  | exc x ρ' =>
    rw [e] at hp
    exact fun cls dd F' H' c' s ix => hp cls dd σ F' H' c' s ix
  | stuck => rw [e] at hp; exact hp
theorem SndT.bindS {g : G} {t : TT} {m : EM} {f : Val → SM} (h : SndT g t m) {σ : St} {ρ : Rh} {F H : Hp} {Dn : Ends} {Q1 : Bool → Hp → Prop} (c : Con g.K σ ρ F H) (hp : SPost g σ ρ F H Dn (DL.bindS m f ρ))
    (hf : ∀ v, (∀ b, v ≠ .d (.bool b)) → ∀ ρ, f v ρ = .stuck)
    (k : ∀ b ρ' F' H', Con g.K σ ρ' F' H' → Stp g.P σ ρ F H σ ρ' F' H' → SPost g σ ρ F H Dn (f (.d (.bool b)) ρ') → Q1 b H') : t σ H Q1 := by
  refine h σ ρ F H Q1 c ?_
  unfold DL.bindS at hp
  cases e : m ρ with
  | exc x ρ' =>
    rw [e] at hp
    exact fun cls dd F' H' c' s ix => hp cls dd σ F' H' c' s ix
  | stuck => rw [e] at hp; exact hp
  | ok v ρ' =>
    rw [e] at hp
    intro x F' H' c' s iv
    by_cases hb : ∃ b, v = .d (.bool b)
    · obtain ⟨b, rfl⟩ := hb
      exact ⟨b, dv_bool iv, k b ρ' F' H' c' s hp⟩
    · have hp : SPost g σ ρ F H Dn (f v ρ') := hp
      rw [hf v (fun b z => hb ⟨b, z⟩)] at hp
      exact hp.elim

/-! ### targets -/
abbrev TGM := D → Rh → Option Rh
def SndG (g : G) (tg : TG) (mt : TGM) : Prop := ∀ σ ρ F H v d ρ' (Q : St → Hp → Prop), Con g.K σ ρ F H → Dv g.K F v d → mt d ρ = some ρ' → (∀ σ' F' H', Con g.K σ' ρ' F' H' → Stp g.P σ ρ F H σ' ρ' F' H' → Q σ' H') → tg v σ H Q
def SndGs (g : G) (tg : TGs) (mt : List D → Rh → Option Rh) : Prop := ∀ σ ρ F H vs ds ρ' (Q : St → Hp → Prop), Con g.K σ ρ F H → DvAll g.K F vs ds → mt ds ρ = some ρ' → (∀ σ' F' H', Con g.K σ' ρ' F' H' → Stp g.P σ ρ F H σ' ρ' F' H' → Q σ' H') → tg vs σ H Q
def nameT (i : Nat) : TGM := fun d ρ => some (ρ.set i (some (.dat d)))
def nilT : List D → Rh → Option Rh := fun ds ρ => match ds with
  | [] => some ρ
  | _ => none
def consT (m : TGM) (ms : List D → Rh → Option Rh) : List D → Rh → Option Rh := fun ds ρ => match ds with
  | d :: r => (m d ρ).bind fun ρ1 => ms r ρ1
  | [] => none
def tupT (n : Nat) (ms : List D → Rh → Option Rh) : TGM := fun d ρ => match d with
  | .tuple ds => if ds.length = n then ms ds ρ else none
  | _ => none
/-- own[k] = .. -/
def subT (i : Nat) (k : Int) : TGM := fun d ρ => match ρ[i]? with
  | some (some (.own ds)) => (ixN ds.length k).map fun j => ρ.set i (some (.own (ds.set j d)))
  | _ => none
section
variable {g : G}
theorem sng_name {i : Nat} (hi : i ∉ g.P) : SndG g (gName i) (nameT i) := by
  intro σ ρ F H v d ρ' Q c h e k
  cases e
  obtain ⟨c', s⟩ := c.setD (P := g.P) h hi
  exact k _ F H c' s
theorem sng_nil : SndGs g gNil nilT := by
  intro σ ρ F H vs ds ρ' Q c h e k
  cases ds with
  | nil =>
    cases e
    cases h
    exact ⟨rfl, k σ F H c Stp.refl⟩
  | cons d r => cases e
theorem sng_cons {tg : TG} {tgs : TGs} {m : TGM} {ms : List D → Rh → Option Rh} (h1 : SndG g tg m) (h2 : SndGs g tgs ms) : SndGs g (gCons tg tgs) (consT m ms) := by
  intro σ ρ F H vs ds ρ' Q c h e k
  cases ds with
  | nil => cases e
  | cons d r =>
    cases h with
    | cons a b =>
      obtain ⟨ρ1, e1, e2⟩ := Option.bind_eq_some_iff.mp e
      refine ⟨_, _, rfl, h1 σ ρ F H _ d ρ1 _ c a e1 fun σ1 F1 H1 c1 s1 => ?_⟩
      exact h2 σ1 ρ1 F1 H1 _ r ρ' Q c1 (dvAll_mono s1.fr r _ b) e2 fun σ2 F2 H2 c2 s2 => k σ2 F2 H2 c2 (s1.trans s2)
theorem sng_tup {tgs : TGs} {ms : List D → Rh → Option Rh} {n : Nat} (h : SndGs g tgs ms) : SndG g (L2.gTup g.K n tgs) (tupT n ms) := by
  intro σ ρ F H v d ρ' Q c hd e k
  unfold tupT at e
  split at e
  · split at e
    · rename_i ds hl
      obtain ⟨a, xs, rfl, ha, da⟩ := dv_tup hd
      exact ⟨a, xs, rfl, same_t c.ext ha, by rw [DvAll.length da]; exact hl, h σ ρ F H xs ds ρ' Q c da e k⟩
    · cases e
  · cases e
theorem ixN_lt {n : Nat} {k : Int} {j : Nat} (h : ixN n k = some j) : j < n := (ixN_seq h).2.1
theorem sng_sub {i : Nat} {k : Int} : SndG g (L2.gSub (tVar i) (tC (.int k)) rSetL) (subT i k) := by
  intro σ ρ F H v d ρ' Q c hd e kk
  unfold subT at e
  split at e
  · rename_i ds eo
    obtain ⟨j, hj, rfl⟩ := Option.map_eq_some_iff.mp e
    obtain ⟨p, vs, q, f, h, a⟩ := c.own i ds eo
    refine ⟨_, q, p, vs, k, j, rfl, rfl, h, by rw [DvAll.length a]; exact hj, ?_⟩
    obtain ⟨c', s⟩ := c.put (P := g.P) eo q (DvAll.set hd j a)
    exact kk σ F _ c' s
  · cases e
end

/-! ### statements -/
def nextM : SM := fun ρ => .nx ρ
def seqM (a b : SM) : SM := fun ρ => match a ρ with
  | .nx ρ' => b ρ'
  | o => o
def asgM (mt : TGM) (m : EM) : SM := bindS m fun v => match v with
  | .d d => fun ρ => match mt d ρ with
    | some ρ' => .nx ρ'
    | none => .stuck
  | _ => fun _ => .stuck
/-- a new list goes to a slot and stays the def's own -/
def asgO (i : Nat) (m : EM) : SM := bindS m fun v => match v with
  | .l ds => fun ρ => .nx (ρ.set i (some (.own ds)))
  | _ => fun _ => .stuck
def exprM (m : EM) : SM := bindS m fun _ ρ => .nx ρ
def retM (m : EM) : SM := bindS m fun v ρ => .ret v ρ
def retNM : SM := fun ρ => .ret (.d .none) ρ
def ifM (mc : EM) (a b : SM) : SM := bindS mc fun v => match v with
  | .d (.bool true) => a
  | .d (.bool false) => b
  | _ => fun _ => .stuck
def brkM : SM := fun ρ => .brk ρ
def ctM : SM := fun ρ => .ct ρ
/-- own.append(e) -/
def appM (i : Nat) (m : EM) : SM := fun ρ => match ρ[i]? with
  | some (some (.own _)) => bindS m (fun v => match v with
    | .d d => fun ρ' => match ρ'[i]? with
      | some (some (.own ds)) => if ds.length < 100000 then .nx (ρ'.set i (some (.own (ds ++ [d])))) else .stuck
      | _ => .stuck
    | _ => fun _ => .stuck) ρ
  | _ => .stuck
/-- a list of the def's own becomes data ahead of a statement -/
def frzS (i : Nat) (m : SM) : SM := fun ρ => match ρ[i]? with
  | some (some (.own ds)) => m (ρ.set i (some (.dat (.list ds))))
  | _ => m ρ
section
variable {g : G} {t u : TS} {a b : SM} {te : TE} {m mc : EM} {tt : TT}
theorem sns_next : SndS g tNext nextM := fun Dn σ ρ F H c hp => hp σ F H c Stp.refl
theorem sns_seq (ha : SndS g t a) (hb : SndS g u b) : SndS g (tSeq t u) (seqM a b) := by
  intro Dn σ ρ F H c hp
  refine ha _ σ ρ F H c ?_
  unfold seqM at hp
  cases e : a ρ with
  | nx ρ1 =>
    rw [e] at hp
    exact fun σ1 F1 H1 c1 s1 => hb Dn σ1 ρ1 F1 H1 c1 (SPost.shift hp s1)
  | brk ρ1 => rw [e] at hp; exact hp
  | ct ρ1 => rw [e] at hp; exact hp
  | ret v ρ1 => rw [e] at hp; exact hp
  | exc x ρ1 => rw [e] at hp; exact hp
  | stuck => rw [e] at hp; exact hp
theorem sns_asg {tg : TG} {mt : TGM} (hm : SndE g te m) (ht : SndG g tg mt) : SndS g (tAsg te tg) (asgM mt m) := by
  intro Dn σ ρ F H c hp
  refine hm.bindS c hp fun x v ρ1 F1 H1 c1 s1 i1 hp1 => ?_
  cases v with
  | l ds => exact hp1.elim
  | d d =>
    dsimp only at hp1
    cases e : mt d ρ1 with
    | none => rw [e] at hp1; exact hp1.elim
    | some ρ2 =>
      rw [e] at hp1
      exact ht σ ρ1 F1 H1 x d ρ2 _ c1 i1 e fun σ2 F2 H2 c2 s2 => hp1 σ2 F2 H2 c2 (s1.trans s2)
theorem sns_asgO {i : Nat} (hi : i ∉ g.P) (hm : SndE g te m) : SndS g (tAsg te (gName i)) (asgO i m) := by
  intro Dn σ ρ F H c hp
  refine hm.bindS c hp fun x v ρ1 F1 H1 c1 s1 i1 hp1 => ?_
  cases v with
  | d d => exact hp1.elim
  | l ds =>
    obtain ⟨p, vs, rfl, f, q, al, n, o⟩ := i1
    obtain ⟨c2, ow⟩ := c1.setL (i := i) f q al n
    refine hp1 _ F1 H1 c2 ⟨s1.fr, s1.keep, s1.free, fun b hb => ?_, s1.dom, fun j hj => ?_⟩
    · rcases ow b hb with z | z
      · exact s1.own b z
      · subst z; exact o
    · rw [get_set_ne (fun w => hi (by rw [w]; exact hj))]
theorem sns_expr (hm : SndE g te m) : SndS g (tDrop te) (exprM m) := by
  intro Dn σ ρ F H c hp
  exact hm.bindS c hp fun x v ρ1 F1 H1 c1 s1 i1 hp1 => hp1 σ F1 H1 c1 s1
theorem sns_ret (hm : SndE g te m) : SndS g (tRet te) (retM m) := by
  intro Dn σ ρ F H c hp
  exact hm.bindS c hp fun x v ρ1 F1 H1 c1 s1 i1 hp1 => hp1 x σ F1 H1 c1 s1 i1
theorem sns_retN : SndS g tRetN retNM := fun Dn σ ρ F H c hp => hp .non σ F H c Stp.refl .non
theorem sns_if (hc : SndT g tt mc) (ha : SndS g t a) (hb : SndS g u b) : SndS g (tIfS tt t u) (ifM mc a b) := by
  intro Dn σ ρ F H c hp
  refine hc.bindS c hp (fun v hv ρ => ?_) fun k ρ1 F1 H1 c1 s1 hp1 => ?_
  · cases v with
    | l ds => rfl
    | d d => cases d <;> first | rfl | (exact absurd rfl (hv _))
  · cases k with
    | true =>
      rw [if_pos rfl]
      exact ha Dn σ ρ1 F1 H1 c1 (SPost.shift hp1 s1)
    | false =>
      rw [if_neg Bool.false_ne_true]
      exact hb Dn σ ρ1 F1 H1 c1 (SPost.shift hp1 s1)
theorem sns_brk : SndS g tBreak brkM := fun Dn σ ρ F H c hp => hp σ F H c Stp.refl
theorem sns_ct : SndS g tCont ctM := fun Dn σ ρ F H c hp => hp σ F H c Stp.refl
theorem sns_frz {i : Nat} (h : SndS g t a) : SndS g t (frzS i a) := by
  intro Dn σ ρ F H c hp
  unfold frzS at hp
  split at hp
  · rename_i ds e
    obtain ⟨F', c', s⟩ := c.frz (P := g.P) e
    exact h Dn σ _ F' H c' (SPost.shift hp s)
  · exact h Dn σ ρ F H c hp
theorem sns_app {i : Nat} (hm : SndE g te m) : SndS g (tDrop (tBM g.K "list" rAppend (tVar i) (tCons te tNil))) (appM i m) := by
  intro Dn σ ρ F H c hp
  unfold appM at hp
  split at hp
  · rename_i ds0 e0
    obtain ⟨p, vs, q, f, h, al⟩ := c.own i ds0 e0
    refine ⟨_, q, .inl ⟨rfl, vs, SqL.of h⟩, ?_⟩
    refine hm.bindS c hp fun x v ρ1 F1 H1 c1 s1 i1 hp1 => ?_
    cases v with
    | l ds => exact hp1.elim
    | d d =>
      dsimp only at hp1
      split at hp1
      · rename_i ds e1
        split at hp1
        · rename_i hl
          obtain ⟨p', us, q', f', h', al'⟩ := c1.own i ds e1
          rw [q] at q'
          cases q'
          refine ⟨p, us, x, rfl, rfl, h', by rw [DvAll.length al']; exact Nat.lt_of_lt_of_le hl (line_of (Nat.le_refl _)), ?_⟩
          obtain ⟨c2, s2⟩ := c1.put (P := g.P) e1 q (al'.append (.cons i1 .nil))
          exact hp1 σ F1 _ c2 (s1.trans s2)
        · exact hp1.elim
      · exact hp1.elim
  · exact hp.elim
end

/-! ### while -/
def whileN (mc : EM) (body : SM) : Nat → Rh → Out
  | 0, _ => .stuck
  | n + 1, ρ => match mc ρ with
    | .ok (.d (.bool true)) ρ1 => match body ρ1 with
      | .nx ρ2 => whileN mc body n ρ2
      | .ct ρ2 => whileN mc body n ρ2
      | .brk ρ2 => .nx ρ2
      | o => o
    | .ok (.d (.bool false)) ρ1 => .nx ρ1
    | .ok _ _ => .stuck
    | .exc x ρ1 => .exc x ρ1
    | .stuck => .stuck
def whileM (fuel : Rh → Nat) (mc : EM) (body : SM) : SM := fun ρ => whileN mc body (fuel ρ) ρ
theorem sns_while {g : G} {tt : TT} {tb : TS} {mc : EM} {body : SM} (fuel : Rh → Nat) (hc : SndT g tt mc) (hb : SndS g tb body) : SndS g (tWhile tt tb) (whileM fuel mc body) := by
  intro Dn σ ρ F H c hp
  refine ⟨fun n σ' H' => ∃ ρ' F', Con g.K σ' ρ' F' H' ∧ Stp g.P σ ρ F H σ' ρ' F' H' ∧ SPost g σ ρ F H Dn (whileN mc body n ρ'), ⟨fuel ρ, ρ, F, c, Stp.refl, hp⟩, ?_⟩
  rintro n σ1 H1 ⟨ρ1, F1, c1, s1, hp1⟩
  cases n with
  | zero => exact hp1.elim
  | succ n =>
    refine hc σ1 ρ1 F1 H1 _ c1 ?_
    unfold whileN at hp1
    cases e : mc ρ1 with
    | exc x ρ2 =>
      rw [e] at hp1
      exact fun cls dd F' H' c' s ix => hp1 cls dd σ1 F' H' c' (s1.trans s) ix
    | stuck => rw [e] at hp1; exact hp1
    | ok v ρ2 =>
      rw [e] at hp1
      intro x F2 H2 c2 s2 iv
      have s12 := s1.trans s2
      cases v with
      | l ds => exact hp1.elim
      | d d =>
        cases d with
        | bool k =>
          refine ⟨k, dv_bool iv, ?_⟩
          cases k with
          | false =>
            rw [if_neg Bool.false_ne_true]
            exact hp1 σ1 F2 H2 c2 s12
          | true =>
            rw [if_pos rfl]
            refine ⟨fun σ' H' => ∃ ρ' F', Con g.K σ' ρ' F' H' ∧ Stp g.P σ ρ F H σ' ρ' F' H' ∧ SPost g σ ρ F H Dn (whileN mc body n ρ'), fun σ' H' h => ⟨n, Nat.lt_succ_self n, h⟩, ?_⟩
            refine hb _ σ1 ρ2 F2 H2 c2 ?_
            dsimp only at hp1
            cases e2 : body ρ2 with
            | nx ρ3 => rw [e2] at hp1; exact fun σ' F' H' c' s' => ⟨ρ3, F', c', s12.trans s', hp1⟩
            | ct ρ3 => rw [e2] at hp1; exact fun σ' F' H' c' s' => ⟨ρ3, F', c', s12.trans s', hp1⟩
            | brk ρ3 => rw [e2] at hp1; exact fun σ' F' H' c' s' => hp1 σ' F' H' c' (s12.trans s')
            | ret v ρ3 => rw [e2] at hp1; exact SPost.shift (r := .ret v ρ3) hp1 s12
            | exc x ρ3 => rw [e2] at hp1; exact SPost.shift (r := .exc x ρ3) hp1 s12
            | stuck => rw [e2] at hp1; exact hp1
        | _ => exact hp1.elim

/-! ### for -/
def ItD (K : PySem.W.Frag) (J : It) (items : List D) (F : Hp) : Prop := ∀ F' H', Same F F' → Same F' H' → (∀ i, items.length ≤ i → J.stop i H') ∧
  ∀ i d, items[i]? = some d → J.go i H' ∧ ∀ x H'', J.yld i H' x H'' → ∃ F'', News F' H' F'' H'' ∧ Dv K F'' x d
inductive RI where
  | ok (ds : List D) (s : Rh)
  | exc (x : Xn) (s : Rh)
  | stuck
def IPost (g : G) (σ : St) (ρ : Rh) (F H : Hp) (R : It → Hp → Prop) : RI → Prop
  | .ok ds ρ' => ∀ J F' H', Con g.K σ ρ' F' H' → Stp g.P σ ρ F H σ ρ' F' H' → ItD g.K J ds F' → R J H'
  | .exc e ρ' => ∀ cls dd F' H', Con g.K σ ρ' F' H' → Stp g.P σ ρ F H σ ρ' F' H' → XnIs g.K g.mg F' H' e cls dd → g.W cls dd σ H'
  | .stuck => False
def SndI (g : G) (wi : TI) (mi : Rh → RI) : Prop := ∀ σ ρ F H R, Con g.K σ ρ F H → IPost g σ ρ F H R (mi ρ) → wi σ H R
def forN (mt : TGM) (body : SM) : List D → Rh → Out
  | [], ρ => .nx ρ
  | d :: ds, ρ => match mt d ρ with
    | none => .stuck
    | some ρ1 => match body ρ1 with
      | .nx ρ2 => forN mt body ds ρ2
      | .ct ρ2 => forN mt body ds ρ2
      | .brk ρ2 => .nx ρ2
      | o => o
def forM (mi : Rh → RI) (mt : TGM) (body : SM) : SM := fun ρ => match mi ρ with
  | .ok ds ρ' => forN mt body ds ρ'
  | .exc x ρ' => .exc x ρ'
  | .stuck => .stuck
theorem sns_for {g : G} {wi : TI} {mi : Rh → RI} {tg : TG} {mt : TGM} {tb : TS} {body : SM} (hi : SndI g wi mi) (ht : SndG g tg mt) (hb : SndS g tb body) : SndS g (tFor wi tg tb) (forM mi mt body) := by
  intro Dn σ ρ F H c hp
  refine hi σ ρ F H _ c ?_
  unfold forM at hp
  cases e : mi ρ with
  | exc x ρ2 =>
    rw [e] at hp
    exact fun cls dd F' H' c' s ix => hp cls dd σ F' H' c' s ix
  | stuck => rw [e] at hp; exact hp
  | ok ds ρ0 =>
    rw [e] at hp
    intro J F0 H0 c0 s0 it
    refine ⟨fun i n σ' H' => ∃ ρ' F', n = ds.length - i ∧ i ≤ ds.length ∧ Con g.K σ' ρ' F' H' ∧ Same F0 F' ∧ Stp g.P σ ρ F H σ' ρ' F' H' ∧ SPost g σ ρ F H Dn (forN mt body (ds.drop i) ρ'),
      ⟨ds.length, ρ0, F0, rfl, Nat.zero_le _, c0, fun _ _ z => z, s0, hp⟩, ?_⟩
    rintro i n σ1 H1 ⟨ρ1, F1, rfl, hi, c1, f1, s1, hp1⟩
    obtain ⟨st, go⟩ := it F1 H1 f1 c1.ext
    by_cases hlt : i < ds.length
    · right
      obtain ⟨d, hd⟩ : ∃ d, ds[i]? = some d := ⟨ds[i], List.getElem?_eq_getElem hlt⟩
      obtain ⟨g1, y1⟩ := go i d hd
      have ed : ds.drop i = d :: ds.drop (i + 1) := by
        rw [List.drop_eq_getElem_cons hlt]
        rw [List.getElem?_eq_getElem hlt] at hd
        cases hd
        rfl
      rw [ed] at hp1
      unfold forN at hp1
      refine ⟨g1, fun σ' H' => ∃ ρ' F', Con g.K σ' ρ' F' H' ∧ Same F0 F' ∧ Stp g.P σ ρ F H σ' ρ' F' H' ∧ SPost g σ ρ F H Dn (forN mt body (ds.drop (i + 1)) ρ'), fun σ' H' h => ?_, fun x H2 hy => ?_⟩
      · obtain ⟨ρ', F', a1, a2, a3, a4⟩ := h
        exact ⟨ds.length - (i + 1), by omega, ρ', F', rfl, hlt, a1, a2, a3, a4⟩
      · obtain ⟨F2, n2, dv⟩ := y1 x H2 hy
        have c2 := c1.news n2
        have s2 := s1.trans (Stp.news (K := g.K) (P := g.P) n2)
        cases e2 : mt d ρ1 with
        | none => rw [e2] at hp1; exact hp1.elim
        | some ρ2 =>
          rw [e2] at hp1
          refine ht σ1 ρ1 F2 H2 x d ρ2 _ c2 dv e2 fun σ3 F3 H3 c3 s3 => ?_
          have s13 := s2.trans s3
          have f3 : Same F0 F3 := fun b o z => s3.fr b o (n2.fr b o (f1 b o z))
          refine hb _ σ3 ρ2 F3 H3 c3 ?_
          dsimp only at hp1
          cases e3 : body ρ2 with
          | nx ρ3 => rw [e3] at hp1; exact fun σ' F' H' c' s' => ⟨ρ3, F', c', fun b o z => s'.fr b o (f3 b o z), s13.trans s', hp1⟩
          | ct ρ3 => rw [e3] at hp1; exact fun σ' F' H' c' s' => ⟨ρ3, F', c', fun b o z => s'.fr b o (f3 b o z), s13.trans s', hp1⟩
          | brk ρ3 => rw [e3] at hp1; exact fun σ' F' H' c' s' => hp1 σ' F' H' c' (s13.trans s')
          | ret v ρ3 => rw [e3] at hp1; exact SPost.shift (r := .ret v ρ3) hp1 s13
          | exc x ρ3 => rw [e3] at hp1; exact SPost.shift (r := .exc x ρ3) hp1 s13
          | stuck => rw [e3] at hp1; exact hp1
    · left
      have ei : i = ds.length := by omega
      subst ei
      rw [List.drop_length] at hp1
      exact ⟨st _ (Nat.le_refl _), hp1 σ1 F1 H1 c1 s1⟩
end DL
set_option Elab.async false
set_option linter.all false
set_option maxRecDepth 100000
set_option maxHeartbeats 2000000
set_option autoImplicit false
/-! DL6: what is walked; comprehensions; the def's own lists read. -/
namespace DL
open PySem PySem.Spec PyProof.Rows L2

/-! ### what is walked -/
def iSeq (K : PySem.W.Frag) (tl : TE) : TI := fun σ H R => tl σ H fun x H1 => (∃ a, x = .ref a ∧ (∃ xs, SqL K H1 a xs) ∧ R (Itl K a) H1) ∨ ((∃ a, x = .ref a ∧ (∃ xs, SqT K H1 a xs) ∧ R (Itt K a) H1) ∨ ∃ z, x = .str z ∧ R (Its z) H1)
theorem pi_seq {X : Cx} {tg l : Expr} {tl : TE} (hl : PE X l tl) : PI X tg l (iSeq X.K tl) := by
  refine ⟨fun pins s σ H R I h => ?_⟩
  refine thn (hl.run pins s σ H _ I h) fun v s1 ⟨x, H1, I1, r1, q1⟩ => ?_
  rcases q1 with ⟨a, e, ⟨xs, hq⟩, q⟩ | ⟨a, e, ⟨xs, hq⟩, q⟩ | ⟨z, e, q⟩
  · subst e
    cases r1
    obtain ⟨its, rv, pl, hz⟩ := I1.list hq
    exact wpAny_pyIter_list pl.isList (pi_one (tk := s1.toks) I1 _ (turn_list a _) ⟨_, Heap.get?_push_size _ rfl, rfl, rfl⟩ q)
  · subst e
    cases r1
    obtain ⟨its, rv, pl, hz⟩ := I1.tuple hq
    exact wpAny_pyIter_tuple (show s1.heap.IsTuple a its.toArray from pl) (pi_one (tk := s1.toks) I1 _ (turn_tuple a _) ⟨_, Heap.get?_push_size _ rfl, rfl, rfl⟩ q)
  · subst e
    obtain ⟨t, rfl⟩ := r1
    cases ha : z.cps.all (· < 128)
    · exact wpAny_pyIter_wide ha (pi_one (tk := s1.toks) I1 _ (turn_str _ z t "str_iterator" (Or.inr rfl)) ⟨_, Heap.get?_push_size _ rfl, rfl, rfl⟩ q)
    · exact wpAny_pyIter_ascii ha (pi_one (tk := s1.toks) I1 _ (turn_str _ z t "str_ascii_iterator" (Or.inl rfl)) ⟨_, Heap.get?_push_size _ rfl, rfl, rfl⟩ q)
theorem itd_list {K : PySem.W.Frag} {F : Hp} {a : Addr} {xs : List V} {ds : List D} (h : SqL K F a xs) (d : DvAll K F xs ds) : ItD K (Itl K a) ds F := by
  intro F' H' s e
  have hq : SqL K H' a xs := same_l e (same_l s h)
  refine ⟨fun i hi => ⟨xs, hq, by rw [DvAll.length d]; exact hi⟩, fun i d0 hd => ?_⟩
  obtain ⟨v, hv, dv⟩ := DvAll.get d hd
  refine ⟨⟨xs, v, hq, hv⟩, fun x H'' hy => ?_⟩
  obtain ⟨rfl, hx⟩ := hy
  have q := hx xs hq
  rw [hv] at q
  cases q
  exact ⟨F', News.refl e, dv_mono s d0 v dv⟩
theorem itd_tup {K : PySem.W.Frag} {F : Hp} {a : Addr} {xs : List V} {ds : List D} (h : SqT K F a xs) (d : DvAll K F xs ds) : ItD K (Itt K a) ds F := by
  intro F' H' s e
  have hq : SqT K H' a xs := same_t e (same_t s h)
  refine ⟨fun i hi => ⟨xs, hq, by rw [DvAll.length d]; exact hi⟩, fun i d0 hd => ?_⟩
  obtain ⟨v, hv, dv⟩ := DvAll.get d hd
  refine ⟨⟨xs, v, hq, hv⟩, fun x H'' hy => ?_⟩
  obtain ⟨rfl, hx⟩ := hy
  have q := hx xs hq
  rw [hv] at q
  cases q
  exact ⟨F', News.refl e, dv_mono s d0 v dv⟩
/-- the signs of a text, a text each -/
def signsD (z : Str) : List D := z.cps.toList.map fun c => .str ⟨#[c]⟩
theorem itd_str {K : PySem.W.Frag} {F : Hp} {z : Str} : ItD K (Its z) (signsD z) F := by
  intro F' H' s e
  refine ⟨fun i hi => ?_, fun i d hd => ?_⟩
  · have hi : (signsD z).length ≤ i := hi
    unfold signsD at hi
    rw [List.length_map, Array.length_toList] at hi
    exact hi
  · unfold signsD at hd
    rw [List.getElem?_map] at hd
    obtain ⟨c, hc, rfl⟩ := Option.map_eq_some_iff.mp hd
    rw [Array.getElem?_toList] at hc
    refine ⟨(Array.getElem?_eq_some_iff.mp hc).1, fun x H'' hy => ?_⟩
    obtain ⟨rfl, c', hc', rfl⟩ := hy
    rw [hc] at hc'
    cases hc'
    exact ⟨F', News.refl e, .str _⟩
def itemsD : D → Option (List D)
  | .list ds => some ds
  | .tuple ds => some ds
  | .str z => some (signsD z)
  | .dict (_ :: kvs) => some (roInts kvs)
  | _ => none
def seqI (m : EM) : Rh → RI := fun ρ => match m ρ with
  | .ok (.d d) ρ' => match itemsD d with
    | some ds => .ok ds ρ'
    | none => .stuck
  | .ok _ _ => .stuck
  | .exc x ρ' => .exc x ρ'
  | .stuck => .stuck
section
variable {g : G} {te : TE} {m : EM}
theorem sni_seq (h : SndE g te m) : SndI g (iSeq g.K te) (seqI m) := by
  intro σ ρ F H R c hp
  refine h σ ρ F H _ c ?_
  unfold seqI at hp
  cases e : m ρ with
  | exc x ρ' => rw [e] at hp; exact hp
  | stuck => rw [e] at hp; exact hp
  | ok v ρ1 =>
    rw [e] at hp
    cases v with
    | l ds => exact hp.elim
    | d d =>
      intro x F1 H1 c1 s1 i1
      cases d with
      | list ds =>
        obtain ⟨a, xs, rfl, ha, da⟩ := dv_lst i1
        exact .inl ⟨a, rfl, ⟨xs, SqL.of (c1.ext _ _ ha)⟩, hp _ F1 H1 c1 s1 (itd_list (SqL.of ha) da)⟩
      | dict kvs =>
        cases kvs with
        | nil => exact hp.elim
        | cons p kvs =>
          obtain ⟨a, ns, rfl, hs, rfl⟩ := dv_ro i1
          refine .inl ⟨a, rfl, ⟨_, same_l c1.ext hs⟩, hp _ F1 H1 c1 s1 ?_⟩
          rw [roInts_map]
          exact itd_list hs (dvs_ints ns)
      | tuple ds =>
        obtain ⟨a, xs, rfl, ha, da⟩ := dv_tup i1
        exact .inr (.inl ⟨a, rfl, ⟨xs, same_t c1.ext ha⟩, hp _ F1 H1 c1 s1 (itd_tup ha da)⟩)
      | str z => exact .inr (.inr ⟨z, dv_str i1, hp _ F1 H1 c1 s1 itd_str⟩)
      | _ => exact hp.elim
/-- lo, lo + 1, .. -/
def rangeD (lo : Int) (n : Nat) : List D := (List.range n).map fun (k : Nat) => PyData.int (lo + (k : Int))
theorem itd_range {K : PySem.W.Frag} {F : Hp} {lo : Int} {n : Nat} : ItD K (Itr lo n) (rangeD lo n) F := by
  intro F' H' s e
  have hl : (rangeD lo n).length = n := by unfold rangeD; rw [List.length_map, List.length_range]
  refine ⟨fun i hi => by rw [hl] at hi; exact hi, fun i d hd => ?_⟩
  have hi : i < n := by
    have := (List.getElem?_eq_some_iff.mp hd).1
    rw [hl] at this
    exact this
  refine ⟨hi, fun x H'' hy => ?_⟩
  obtain ⟨rfl, rfl⟩ := hy
  unfold rangeD at hd
  rw [List.getElem?_map, List.getElem?_range hi] at hd
  cases hd
  exact ⟨F', News.refl e, .int _⟩
def rng1I (ms : LM) : Rh → RI := fun ρ => match ms ρ with
  | .ok [.d (.int j)] ρ' => if -(2 ^ 62) ≤ j ∧ j < 2 ^ 62 then .ok (rangeD 0 j.toNat) ρ' else .stuck
  | .ok _ _ => .stuck
  | .exc x ρ' => .exc x ρ'
  | .stuck => .stuck
def rng2I (ms : LM) : Rh → RI := fun ρ => match ms ρ with
  | .ok [.d (.int i), .d (.int j)] ρ' => if -(2 ^ 62) ≤ i ∧ i < 2 ^ 62 ∧ -(2 ^ 62) ≤ j ∧ j < 2 ^ 62 then .ok (rangeD i (j - i).toNat) ρ' else .stuck
  | .ok _ _ => .stuck
  | .exc x ρ' => .exc x ρ'
  | .stuck => .stuck
theorem sni_rng1 {ta : TA} {ms : LM} (h : SndA g ta ms) : SndI g (iRng1 ta) (rng1I ms) := by
  intro σ ρ F H R c hp
  refine h σ ρ F H _ c ?_
  unfold rng1I at hp
  cases e : ms ρ with
  | exc x ρ' => rw [e] at hp; exact hp
  | stuck => rw [e] at hp; exact hp
  | ok vs ρ1 =>
    rw [e] at hp
    intro xs F1 H1 c1 s1 i1
    split at hp
    · rename_i j ρ' e2
      cases e2
      split at hp
      · rename_i hl
        have ex := i1.dat (ds := [.int j]) rfl
        obtain ⟨x, rfl, hx⟩ := dvs_one ex
        have hx := dv_int hx
        subst hx
        exact ⟨j, rfl, hl.1, hl.2, hp _ F1 H1 c1 s1 itd_range⟩
      · exact hp.elim
    · exact hp.elim
    · rename_i e2
      cases e2
    · rename_i e2
      cases e2
theorem sni_rng2 {ta : TA} {ms : LM} (h : SndA g ta ms) : SndI g (iRng2 ta) (rng2I ms) := by
  intro σ ρ F H R c hp
  refine h σ ρ F H _ c ?_
  unfold rng2I at hp
  cases e : ms ρ with
  | exc x ρ' => rw [e] at hp; exact hp
  | stuck => rw [e] at hp; exact hp
  | ok vs ρ1 =>
    rw [e] at hp
    intro xs F1 H1 c1 s1 i1
    split at hp
    · rename_i i j ρ' e2
      cases e2
      split at hp
      · rename_i hl
        have ex := i1.dat (ds := [.int i, .int j]) rfl
        obtain ⟨x, y, rfl, hx, hy⟩ := dvs_two ex
        have hx := dv_int hx
        have hy := dv_int hy
        subst hx hy
        exact ⟨i, j, rfl, hl, hp _ F1 H1 c1 s1 itd_range⟩
      · exact hp.elim
    · exact hp.elim
    · rename_i e2
      cases e2
    · rename_i e2
      cases e2
end

/-! ### slots that a comprehension's own names take -/
theorem wipe_in {σ : St} : ∀ {vs : List Nat} {i : Nat} {x : Option V}, i ∈ vs → wipe (σ.set i x) vs = wipe σ vs := by
  have comm : ∀ {vs : List Nat} {i : Nat} {x : Option V}, wipe (σ.set i x) vs = if i ∈ vs then wipe σ vs else (wipe σ vs).set i x := by
    intro vs
    induction vs with
    | nil => intro i x; simp [wipe]
    | cons v vs ih =>
      intro i x
      unfold wipe
      rw [ih]
      by_cases h : i ∈ vs
      · rw [if_pos h, if_pos (List.mem_cons_of_mem _ h)]
      · rw [if_neg h]
        by_cases hv : i = v
        · subst hv
          rw [if_pos (List.mem_cons_self ..), List.set_set]
        · rw [if_neg (by simp only [List.mem_cons, not_or]; exact ⟨hv, h⟩), List.set_comm _ _ hv]
  intro vs i x h
  rw [comm, if_pos h]
theorem wipe_out {σ : St} {i : Nat} {x : Option V} : ∀ {vs : List Nat}, i ∉ vs → wipe (σ.set i x) vs = (wipe σ vs).set i x
  | [], _ => rfl
  | v :: vs, h => by
    simp only [List.mem_cons, not_or] at h
    show (wipe (σ.set i x) vs).set v none = ((wipe σ vs).set v none).set i x
    rw [wipe_out h.2, List.set_comm _ _ h.1]
theorem wipe_idem (σ : St) : ∀ vs : List Nat, wipe (wipe σ vs) vs = wipe σ vs
  | [] => rfl
  | v :: vs => by
    show (wipe ((wipe σ vs).set v none) vs).set v none = (wipe σ vs).set v none
    by_cases h : v ∈ vs
    · rw [wipe_in h, wipe_idem σ vs]
    · rw [wipe_out h, wipe_idem σ vs, List.set_set]
def wipeR (ρ : Rh) : List Nat → Rh
  | [] => ρ
  | v :: vs => (wipeR ρ vs).set v none
theorem wipeR_length (ρ : Rh) : ∀ vs, (wipeR ρ vs).length = ρ.length
  | [] => rfl
  | v :: vs => by unfold wipeR; rw [List.length_set, wipeR_length ρ vs]
theorem wipeR_some {ρ : Rh} {i : Nat} {x : Slot} : ∀ {vs : List Nat}, (wipeR ρ vs)[i]? = some (some x) → ρ[i]? = some (some x) ∧ i ∉ vs
  | [], h => ⟨h, by simp⟩
  | v :: vs, h => by
    unfold wipeR at h
    by_cases hi : v = i
    · subst hi
      by_cases hv : v < (wipeR ρ vs).length
      · rw [List.getElem?_set_self hv] at h; cases h
      · rw [List.getElem?_eq_none (by simpa using hv)] at h; cases h
    · rw [List.getElem?_set_ne hi] at h
      obtain ⟨h1, h2⟩ := wipeR_some h
      exact ⟨h1, by simp only [List.mem_cons, not_or]; exact ⟨fun e => hi e.symm, h2⟩⟩
theorem wipe_get {σ : St} {i : Nat} : ∀ {vs : List Nat}, i ∉ vs → (wipe σ vs)[i]? = σ[i]?
  | [], _ => rfl
  | v :: vs, h => by
    simp only [List.mem_cons, not_or] at h
    unfold wipe
    rw [List.getElem?_set_ne (fun e => h.1 e.symm), wipe_get h.2]
/-- the same state told with other slots where nothing is told -/
theorem Con.agree {K : PySem.W.Frag} {σ σ' : St} {ρ : Rh} {F H : Hp} (c : Con K σ ρ F H) (hl : σ'.length = σ.length) (h : ∀ (i : Nat) (x : Slot), ρ[i]? = some (some x) → σ'[i]? = σ[i]?) : Con K σ' ρ F H where
  ext := c.ext
  len := hl.trans c.len
  dat := fun i d e => by rw [h i _ e]; exact c.dat i d e
  own := fun i ds e => by rw [h i _ e]; exact c.own i ds e
  sep := fun i j a b p n e1 e2 q1 q2 => by
    rw [h i _ e1] at q1
    rw [h j _ e2] at q2
    exact c.sep i j a b p n e1 e2 q1 q2
theorem owned_agree {σ σ' : St} {ρ : Rh} (h : ∀ (i : Nat) (x : Slot), ρ[i]? = some (some x) → σ'[i]? = σ[i]?) {b : Addr} (o : Owned σ' ρ b) : Owned σ ρ b := by
  obtain ⟨i, ds, e, q⟩ := o
  rw [h i _ e] at q
  exact ⟨i, ds, e, q⟩
theorem Con.less {K : PySem.W.Frag} {σ : St} {ρ : Rh} {F H : Hp} (c : Con K σ ρ F H) (vs : List Nat) : Con K σ (wipeR ρ vs) F H where
  ext := c.ext
  len := by rw [wipeR_length]; exact c.len
  dat := fun i d e => c.dat i d (wipeR_some e).1
  own := fun i ds e => c.own i ds (wipeR_some e).1
  sep := fun i j a b p n e1 e2 => c.sep i j a b p n (wipeR_some e1).1 (wipeR_some e2).1
theorem owned_less {σ : St} {ρ : Rh} {vs : List Nat} {b : Addr} (o : Owned σ (wipeR ρ vs) b) : Owned σ ρ b := by
  obtain ⟨i, ds, e, q⟩ := o
  exact ⟨i, ds, (wipeR_some e).1, q⟩
def vsNone (vs : List Nat) (ρ : Rh) : Bool := vs.all fun i => match ρ[i]? with
  | some none => true
  | _ => false
theorem vsNone_at {vs : List Nat} {ρ : Rh} (h : vsNone vs ρ = true) {i : Nat} {x : Slot} (e : ρ[i]? = some (some x)) : i ∉ vs := fun hi => by
  unfold vsNone at h
  rw [List.all_eq_true] at h
  have q := h i hi
  rw [e] at q
  cases q
theorem wipeR_none {ρ : Rh} {i : Nat} : ∀ {vs : List Nat}, i ∈ vs → i < ρ.length → (wipeR ρ vs)[i]? = some none
  | [], h, _ => by cases h
  | v :: vs, h, hl => by
    unfold wipeR
    by_cases e : v = i
    · subst e
      exact List.getElem?_set_self (by rw [wipeR_length]; exact hl)
    · rw [List.getElem?_set_ne e]
      rcases List.mem_cons.mp h with h | h
      · exact absurd h.symm e
      · exact wipeR_none h hl
theorem vsNone_lt {vs : List Nat} {ρ : Rh} (h : vsNone vs ρ = true) {i : Nat} (hi : i ∈ vs) : i < ρ.length := by
  unfold vsNone at h
  rw [List.all_eq_true] at h
  have q := h i hi
  by_cases hl : i < ρ.length
  · exact hl
  · rw [List.getElem?_eq_none (by omega)] at q; cases q
theorem vsNone_wipe {vs : List Nat} {ρ : Rh} (h : ∀ i ∈ vs, i < ρ.length) : vsNone vs (wipeR ρ vs) = true := by
  unfold vsNone
  rw [List.all_eq_true]
  intro i hi
  rw [wipeR_none hi (h i hi)]
/-- a loose list is written -/
theorem Con.looseW {K : PySem.W.Frag} {σ : St} {ρ : Rh} {F H : Hp} (c : Con K σ ρ F H) {p : Addr} {o : HO} (f : F p = none) (n : ¬ Owned σ ρ p) : Con K σ ρ F (upd H p o) where
  ext := fun b u e => by rw [upd_ne (ne_of_none e f)]; exact c.ext b u e
  len := c.len
  dat := c.dat
  own := fun i ds e => by
    obtain ⟨q, vs, e1, e2, e3, e4⟩ := c.own i ds e
    refine ⟨q, vs, e1, e2, ?_, e4⟩
    rw [upd_ne (fun w => n (by rw [w] at e1; exact Owned.of e e1))]
    exact e3
  sep := c.sep

/-! ### comprehensions -/
/-- a target that stores only a comprehension's own names -/
def SndGv (g : G) (vs : List Nat) (tg : TG) (mt : TGM) : Prop := ∀ σ ρ F H v d ρ' (Q : St → Hp → Prop), Con g.K σ ρ F H → Dv g.K F v d → mt d ρ = some ρ' → (∀ σ', wipe σ' vs = wipe σ vs → Con g.K σ' ρ' F H → Stp g.P σ ρ F H σ' ρ' F H → Q σ' H) → tg v σ H Q
def SndGvs (g : G) (vs : List Nat) (tg : TGs) (mt : List D → Rh → Option Rh) : Prop := ∀ σ ρ F H us ds ρ' (Q : St → Hp → Prop), Con g.K σ ρ F H → DvAll g.K F us ds → mt ds ρ = some ρ' → (∀ σ', wipe σ' vs = wipe σ vs → Con g.K σ' ρ' F H → Stp g.P σ ρ F H σ' ρ' F H → Q σ' H) → tg us σ H Q
section
variable {g : G} {vs : List Nat}
theorem sgv_name {i : Nat} (hi : i ∉ g.P) (hv : i ∈ vs) : SndGv g vs (gName i) (nameT i) := by
  intro σ ρ F H v d ρ' Q c h e k
  cases e
  obtain ⟨c', s⟩ := c.setD (P := g.P) h hi
  exact k _ (wipe_in hv) c' s
theorem sgv_nil : SndGvs g vs gNil nilT := by
  intro σ ρ F H us ds ρ' Q c h e k
  cases ds with
  | nil =>
    cases e
    cases h
    exact ⟨rfl, k σ rfl c Stp.refl⟩
  | cons d r => cases e
theorem sgv_cons {tg : TG} {tgs : TGs} {m : TGM} {ms : List D → Rh → Option Rh} (h1 : SndGv g vs tg m) (h2 : SndGvs g vs tgs ms) : SndGvs g vs (gCons tg tgs) (consT m ms) := by
  intro σ ρ F H us ds ρ' Q c h e k
  cases ds with
  | nil => cases e
  | cons d r =>
    cases h with
    | cons a b =>
      obtain ⟨ρ1, e1, e2⟩ := Option.bind_eq_some_iff.mp e
      refine ⟨_, _, rfl, h1 σ ρ F H _ d ρ1 _ c a e1 fun σ1 w1 c1 s1 => ?_⟩
      exact h2 σ1 ρ1 F H _ r ρ' Q c1 b e2 fun σ2 w2 c2 s2 => k σ2 (w2.trans w1) c2 (s1.trans s2)
theorem sgv_tup {tgs : TGs} {ms : List D → Rh → Option Rh} {n : Nat} (h : SndGvs g vs tgs ms) : SndGv g vs (L2.gTup g.K n tgs) (tupT n ms) := by
  intro σ ρ F H v d ρ' Q c hd e k
  unfold tupT at e
  split at e
  · split at e
    · rename_i ds hl
      obtain ⟨a, xs, rfl, ha, da⟩ := dv_tup hd
      exact ⟨a, xs, rfl, same_t c.ext ha, by rw [DvAll.length da]; exact hl, h σ ρ F H xs ds ρ' Q c da e k⟩
    · cases e
  · cases e
end
def lcN (mt : TGM) (mtest melt : EM) (vs : List Nat) : List D → Rh → List D → RI
  | [], ρ, acc => .ok acc ρ
  | d :: ds, ρ, acc => match mt d ρ with
    | none => .stuck
    | some ρ1 => match mtest ρ1 with
      | .ok (.d (.bool true)) ρ2 => match melt ρ2 with
        | .ok (.d y) ρ3 => if acc.length < 100000 then lcN mt mtest melt vs ds (wipeR ρ3 vs) (acc ++ [y]) else .stuck
        | _ => .stuck
      | .ok (.d (.bool false)) ρ2 => lcN mt mtest melt vs ds (wipeR ρ2 vs) acc
      | _ => .stuck
def lcM (mi : Rh → RI) (mt : TGM) (mtest melt : EM) (vs : List Nat) : EM := fun ρ => match mi ρ with
  | .ok ds ρ0 => if vsNone vs ρ0 then match lcN mt mtest melt vs ds ρ0 [] with
      | .ok ys ρ' => .ok (.l ys) ρ'
      | _ => .stuck
    else .stuck
  | .exc x ρ' => .exc x ρ'
  | .stuck => .stuck
abbrev G.inner (g : G) : G := { g with W := fun _ _ _ _ => False }
theorem snd_lc {g : G} {wi : TI} {tg : TG} {tt : TT} {te : TE} {mi : Rh → RI} {mt : TGM} {mtest melt : EM} {vs : List Nat} (hi : SndI g wi mi) (hg : SndGv g.inner vs tg mt) (htt : SndT g.inner tt mtest) (hte : SndE g.inner te melt) :
    SndE g (tLc wi tg tt te vs) (lcM mi mt mtest melt vs) := by
  intro σ ρ F H Q c hp
  refine hi σ ρ F H _ c ?_
  unfold lcM at hp
  cases e : mi ρ with
  | exc x ρ' => rw [e] at hp; exact hp
  | stuck => rw [e] at hp; exact hp
  | ok ds ρ0 =>
    rw [e] at hp
    intro J F0 H0 c0 s0 it Dp hD
    dsimp only at hp
    split at hp
    · rename_i hn
      have fD : F0 Dp = none := by
        cases q : F0 Dp with
        | none => rfl
        | some o => rw [c0.ext _ _ q] at hD; cases hD
      have nD := not_owned c0 hD
      have hHD : H Dp = none := s0.back hD
      -- the invariant, over the slots as they stand around
      refine ⟨fun i n H' => ∃ ρ' F' acc us, n = ds.length - i ∧ i ≤ ds.length ∧ Con g.K σ ρ' F' H' ∧ Same F0 F' ∧ Stp g.P σ ρ F H σ ρ' F' H' ∧ vsNone vs ρ' = true ∧ H' Dp = some (.lst us) ∧ F' Dp = none ∧ ¬ Owned σ ρ' Dp ∧ DvAll g.K F' us acc ∧
        EPost g σ ρ F H Q (match lcN mt mtest melt vs (ds.drop i) ρ' acc with | .ok ys ρ' => .ok (.l ys) ρ' | _ => .stuck), ⟨ds.length, ρ0, F0, [], [], rfl, Nat.zero_le _, c0.looseW fD nD, fun _ _ z => z, ?_, hn, upd_same, fD, nD, .nil, hp⟩, ?_⟩
      · refine s0.trans ⟨fun _ _ z => z, fun b o z _ => ?_, fun _ _ _ z _ => z, fun _ z => .inl z, fun b o z => ?_, fun _ _ => rfl⟩
        · rw [upd_ne (ne_of_none z hD)]; exact z
        · exact ⟨o, by rw [upd_ne (ne_of_none z hD)]; exact z⟩
      · rintro i n H1 ⟨ρ1, F1, acc, us, rfl, hil, c1, f1, s1, hn1, hD1, fD1, nD1, dac, hp1⟩
        obtain ⟨st, go⟩ := it F1 H1 f1 c1.ext
        by_cases hlt : i < ds.length
        · right
          obtain ⟨d, hd⟩ : ∃ d, ds[i]? = some d := ⟨ds[i], List.getElem?_eq_getElem hlt⟩
          obtain ⟨g1, y1⟩ := go i d hd
          have ed : ds.drop i = d :: ds.drop (i + 1) := by
            rw [List.drop_eq_getElem_cons hlt]
            rw [List.getElem?_eq_getElem hlt] at hd
            cases hd
            rfl
          rw [ed] at hp1
          unfold lcN at hp1
          refine ⟨g1, _, fun H' h => ⟨ds.length - (i + 1), by omega, h⟩, fun x H2 hy => ?_⟩
          obtain ⟨F2, n2, dv⟩ := y1 x H2 hy
          have c2 := c1.news n2
          have s2 := s1.trans (Stp.news (K := g.K) (P := g.P) n2)
          have hD2 := n2.ht _ _ hD1
          have fD2 := n2.free _ _ hD1 fD1
          -- within the block
          have ag : ∀ j x, ρ1[j]? = some (some x) → (wipe σ vs)[j]? = σ[j]? := fun j x z => wipe_get (vsNone_at hn1 z)
          have ag' : ∀ j x, ρ1[j]? = some (some x) → σ[j]? = (wipe σ vs)[j]? := fun j x z => (ag j x z).symm
          have cb : Con g.K (wipe σ vs) ρ1 F2 H2 := c2.agree (wipe_length σ vs) ag
          have nDb : ¬ Owned (wipe σ vs) ρ1 Dp := fun z => nD1 (owned_agree ag z)
          cases e2 : mt d ρ1 with
          | none => rw [e2] at hp1; exact hp1.elim
          | some ρ2 =>
            rw [e2] at hp1
            refine hg (wipe σ vs) ρ1 F2 H2 x d ρ2 _ cb dv e2 fun σ3 w3 c3 s3 => ?_
            have w3' : wipe σ3 vs = wipe σ vs := w3.trans (wipe_idem σ vs)
            have l3 : σ3.length = σ.length := by
              have q := congrArg List.length w3'
              rw [wipe_length, wipe_length] at q
              exact q
            refine ⟨w3', ?_⟩
            dsimp only at hp1
            have nD3 : ¬ Owned σ3 ρ2 Dp := s3.not hD2 nDb
            refine htt σ3 ρ2 F2 H2 _ c3 ?_
            -- back from the block
            have out : ∀ {ρ4 : Rh} {F4 H4 : Hp}, Con g.K σ3 ρ4 F4 H4 → Stp g.P σ3 ρ2 F2 H2 σ3 ρ4 F4 H4 → Con g.K σ (wipeR ρ4 vs) F4 H4 ∧ Stp g.P σ ρ F H σ (wipeR ρ4 vs) F4 H4 ∧ vsNone vs (wipeR ρ4 vs) = true ∧ H4 Dp = some (.lst us) ∧ F4 Dp = none ∧ ¬ Owned σ (wipeR ρ4 vs) Dp ∧ Same F0 F4 ∧ Same F1 F4 := by
              intro ρ4 F4 H4 c4 s4
              have ag4 : ∀ j x, (wipeR ρ4 vs)[j]? = some (some x) → σ[j]? = σ3[j]? := fun j x z => by
                have hj := (wipeR_some z).2
                rw [← wipe_get (σ := σ) hj, ← w3', wipe_get hj]
              have s34 := s3.trans s4
              have own4 : ∀ b, Owned σ (wipeR ρ4 vs) b → Owned (wipe σ vs) ρ1 b ∨ H2 b = none := fun b z => s34.own b (owned_less (owned_agree ag4 z))
              refine ⟨(c4.less vs).agree l3.symm ag4, ?_, ?_, s34.keep _ _ hD2 nDb, s34.free _ _ hD2 fD2 nDb, fun z => ?_, fun b o z => s34.fr b o (n2.fr b o (f1 b o z)), fun b o z => s34.fr b o (n2.fr b o z)⟩
              · refine s2.trans ⟨s34.fr, fun b o z n => s34.keep b o z fun q => n (owned_agree ag q), fun b o z1 z2 n => s34.free b o z1 z2 fun q => n (owned_agree ag q), fun b z => ?_, s34.dom, fun _ _ => rfl⟩
                rcases own4 b z with q | q
                · exact .inl (owned_agree ag q)
                · exact .inr q
              · exact vsNone_wipe fun j hj => by rw [← c4.len, l3, c1.len]; exact vsNone_lt hn1 hj
              · rcases own4 _ z with q | q
                · exact nDb q
                · rw [hD2] at q; cases q
            cases e3 : mtest ρ2 with
            | exc x ρ3 => rw [e3] at hp1; exact hp1.elim
            | stuck => rw [e3] at hp1; exact hp1.elim
            | ok v ρ3 =>
              rw [e3] at hp1
              cases v with
              | l l => exact hp1.elim
              | d dd =>
                cases dd with
                | bool k =>
                  intro y F3 H3 c3' s3' iv
                  refine ⟨k, dv_bool iv, ?_⟩
                  cases k with
                  | false =>
                    rw [if_neg Bool.false_ne_true]
                    obtain ⟨a1, a2, a3, a4, a5, a6, a7, a8⟩ := out c3' s3'
                    exact ⟨_, F3, acc, us, rfl, hlt, a1, a7, a2, a3, a4, a5, a6, dvAll_mono a8 acc us dac, hp1⟩
                  | true =>
                    rw [if_pos rfl]
                    refine hte σ3 ρ3 F3 H3 _ c3' ?_
                    dsimp only at hp1
                    cases e4 : melt ρ3 with
                    | exc x ρ4 => rw [e4] at hp1; exact hp1.elim
                    | stuck => rw [e4] at hp1; exact hp1.elim
                    | ok v ρ4 =>
                      rw [e4] at hp1
                      cases v with
                      | l l => exact hp1.elim
                      | d y' =>
                        intro z F4 H4 c4 s4 iz
                        dsimp only at hp1
                        by_cases hsz : acc.length < 100000
                        · rw [if_pos hsz] at hp1
                          obtain ⟨a1, a2, a3, a4, a5, a6, a7, a8⟩ := out c4 (s3'.trans s4)
                          have dac' := dvAll_mono a8 acc us dac
                          refine ⟨us, a4, by rw [DvAll.length dac]; exact Nat.lt_of_lt_of_le hsz (line_of (Nat.le_refl _)), _, F4, acc ++ [y'], us ++ [z], rfl, hlt, a1.looseW a5 a6, a7, ?_, a3, upd_same, a5, a6, dac'.append (.cons iz .nil), hp1⟩
                          refine ⟨a2.fr, fun b o z1 z2 => ?_, a2.free, a2.own, fun b o z1 => ?_, a2.pin⟩
                          · rw [upd_ne (ne_of_none z1 hHD)]; exact a2.keep b o z1 z2
                          · rw [upd_ne (ne_of_none z1 hHD)]; exact a2.dom b o z1
                        · rw [if_neg hsz] at hp1
                          exact hp1.elim
                | _ => exact hp1.elim
        · left
          have ei : i = ds.length := by omega
          subst ei
          rw [List.drop_length] at hp1
          exact ⟨st _ (Nat.le_refl _), hp1 _ F1 H1 c1 s1 ⟨Dp, us, rfl, fD1, hD1, dac, nD1, .inr hHD⟩⟩
    · exact hp.elim
end DL
set_option Elab.async false
set_option linter.all false
set_option maxRecDepth 100000
set_option maxHeartbeats 2000000
set_option autoImplicit false
/-! DL7: defs and their calls. -/
namespace DL
open PySem PySem.Spec PyProof.Rows L2

/-! ### a def's promise, where nothing is being shown by repr around -/
structure FnG (P : Program) (w : World) (K : PySem.W.Frag) (mg : Str → Option Value) (base : Heap) (k : Nat) (f : Addr) (fd : FuncData) (ps : List Str) (sp : Sp) : Prop where
  len : ∀ vs H Q E, sp vs H Q E → vs.length = ps.length
  run : ∀ (A : Around) (outer : List Env) (s : Shared) (H : Hp) (args : Args) (us : List Value) (vs : List V) (Q : VK) (E : XK), Room k A → A.guards = some [] → Env0 P w K mg base A outer s H → BindsTo s fd args (ps.zip us) → Vals vs us → sp vs H Q E →
    codeAny (model P w) A (.call (.ref f) args) (CR (L2.CX P w) outer P w H s Q E) s
theorem FnG.mono {P : Program} {w : World} {K : PySem.W.Frag} {mg : Str → Option Value} {base : Heap} {j k : Nat} {f : Addr} {fd : FuncData} {ps : List Str} {sp : Sp} (F : FnG P w K mg base j f fd ps sp) (h : j ≤ k) : FnG P w K mg base k f fd ps sp :=
  ⟨F.len, fun A outer s H args us vs Q E hr => F.run A outer s H args us vs Q E (hr.mono h)⟩
theorem fng_of {P : Program} {w : World} {K : PySem.W.Frag} {mg : Str → Option Value} {base : Heap} {k : Nat} {name qual : Str} {st : Stmt} {f : Addr} {fd : FuncData} {N ps : List Str} {sp : Sp} (Fn : Fun K name qual st f fd) (S : FnScope N ps (defScope st))
    (len : ∀ vs H Q E, sp vs H Q E → vs.length = ps.length)
    (body : ∀ (cdv : Value) (A : Around) (outer : List Env) (s : Shared) (H : Hp) (vs : List V) (Q : VK) (E : XK), Room k (A.deeper (envOfC qual (defScope st) s.heap.objs.size f cdv)) → A.guards = some [] → sp vs H Q E →
      ∃ t, PSs (cxOf (L2.CX P w) P w K mg base N qual (defScope st) f cdv A outer s H E) (defBody st) t ∧ t { nx := fun _ H' => Q .non H', rt := Q } (L2.start N vs) H) : FnG P w K mg base (k + 1) f fd ps sp := by
  obtain ⟨oc, od, kV, doc, pm, an, cdv, ct, osl, rfl, lk, hcd⟩ := Fn.ex
  refine ⟨len, fun A outer s H args us vs Q E room gd e0 bd rv asked => ?_⟩
  have vl := len _ _ _ _ asked
  have here : ∀ b o, base.get? b = some o → s.heap.get? b = some o := fun b o e => (e0.bs b o e).1
  have params : ∀ y ∈ ps.zip us, (defScope st).names.lookup y.1 = some .local ∨ ((defScope st).names.lookup y.1 = some .cell ∧ ((cellsFrom (s.heap.objs.size + 1) (defScope st).names []).lookup y.1).isSome = true) := by
    rintro ⟨n, v⟩ hy
    rcases S.par n (List.of_mem_zip hy).1 with q | q
    · exact Or.inl q
    · exact Or.inr ⟨q, PySem.W.cellsFrom_some _ _ _ (Or.inl q)⟩
  refine codeAny_call_function room.depth (e0.mod.kin.keeps here _ _ lk) rfl S.co S.gen rfl (PySem.W.codeRec_of (e0.mod.kin.keeps here) hcd) (bd _ _ _ _ ?_)
  refine wpAny_newFunctionEnv_cells S.kind params fun env he s1 x => ?_
  subst he
  refine ⟨(e0.mod.nolimit.keeps here).keeps x.toInCall.keep, codeAny_func ?_⟩
  obtain ⟨t, pss, tq⟩ := body cdv A outer s H vs Q E (room.deeper _) gd asked
  refine wpAny_mono (pss.run [] s1 (L2.start N vs) H _ (inv_start S room.hd e0 vl rv x) tq) (fun fl s' z => ?_) fun e s' z => z
  have done : ∀ {σ' : St} {H' : Hp} {v : V} {u : Value}, Inv (cxOf (L2.CX P w) P w K mg base N qual (defScope st) f cdv A outer s H E) [] σ' H' s' → RelV v u → Q v H' → CE outer P w H s Q u s' :=
    fun {σ' H' v u} J r q => ⟨v, H', J.os, J.bare, J.base, J.hok, r, q⟩
  match fl, z with
  | .ret u, ⟨v, σ', H', J, r, q⟩ => exact done J r q
  | .next, ⟨σ', H', J, q⟩ => exact done (v := V.non) (u := Value.none) J rfl q
  | .brk, ⟨_, _, _, q⟩ => exact q.elim
  | .cont, ⟨_, _, _, q⟩ => exact q.elim
section
variable {X : Cx} {k : Nat} {f : Addr} {fd : FuncData} {ps : List Str} {sp : Sp} {W : WX} {x : Str} {p pos : Pos} {e : Expr} {es : List Expr} {t : TA}
theorem run_g {pins : List (Addr × Obj)} {σ : St} {H : Hp} {s : Shared} {Q : VK} {us : List Value} {vs : List V} (F : FnG X.prog X.w X.K X.mg X.base k f fd ps sp) (room : Room k X.A) (gd : X.A.guards = some []) (bd : Binds X.K fd ps []) (tk : Takes X W)
    (I : Inv X pins σ H s) (r : Vals vs us) (h : sp vs H Q (WE W σ)) : wpAny (model X.prog X.w) X.A (call (.ref f) us) (EP X pins σ Q) X.xe s := by
  have ul : us.length = ps.length := r.length.symm.trans (F.len _ _ _ _ h)
  have b := bd s us I.kIn (by rw [List.append_nil]; exact ul)
  rw [List.append_nil] at b
  refine wpAny_call (codeAny_mono (F.run X.A X.stack s H ⟨us, []⟩ us vs Q (WE W σ) room gd I.env0 b r h) fun r s' z => ?_)
  match r, z with
  | .error e, z => exact passAt tk σ pins H s e s' I z
  | .ok (.ret u), z => exact I.after z
  | .ok .next, z => exact z.elim
  | .ok .brk, z => exact z.elim
  | .ok .cont, z => exact z.elim
theorem pe_callG (F : FnG X.prog X.w X.K X.mg X.base k f fd ps sp) (room : Room k X.A) (gd : X.A.guards = some []) (hg : Gl X x) (hm : X.mg x = some (.ref f)) (hk : PySem.W.keepIn X.K (.ref f) = true) (bd : Binds X.K fd ps []) (tk : Takes X W)
    (ha : PA X (e :: es) t) (hdb : (x == ("__debug__" : Str)) = false := by decide) (he : starEach (e :: es) X.env = (false, eval e X.env) :: starEach es X.env := by rfl) (hpl : (backTo pos (starEach es X.env)).any (·.1) = false := by rfl) :
    PE X (.Call (.Name x p) (e :: es) [] pos) (tCallS sp (WE W) t) := by
  refine ⟨fun pins s σ H Q I h => wpAny_Call_Name_kw (ld_glob I hg hm ?_ hdb)⟩
  refine PySem.W.callWith_K (h₀ := X.base) I.ok.mod.kin hk (thn (ha.run pos pins s σ H _ I h) fun us s1 ⟨vs, H1, I1, r, q⟩ => ⟨I1.kIn, run_g F room gd bd tk I1 r q⟩) he hpl
end

/-! ### promises on data -/
abbrev FM := List Slot → R (List Slot)
abbrev argsSt (vs : List V) : St := vs.map some
abbrev argsRh (ss : List Slot) : Rh := ss.map some
def FPost (K : PySem.W.Frag) (mg : Str → Option Value) (vs : List V) (ss : List Slot) (F H : Hp) (Q : VK) (E : XK) : R (List Slot) → Prop
  | .ok v ss' => ∀ x F' H', Con K (argsSt vs) (argsRh ss') F' H' → Stp [] (argsSt vs) (argsRh ss) F H (argsSt vs) (argsRh ss') F' H' → ValIs K (argsSt vs) (argsRh ss) H (argsSt vs) (argsRh ss') F' H' x v → Q x H'
  | .exc e ss' => ∀ cls dd F' H', Con K (argsSt vs) (argsRh ss') F' H' → Stp [] (argsSt vs) (argsRh ss) F H (argsSt vs) (argsRh ss') F' H' → XnIs K mg F' H' e cls dd → E cls dd H'
  | .stuck => False
def spD (K : PySem.W.Frag) (mg : Str → Option Value) (n : Nat) (m : FM) : Sp := fun vs H Q E => ∃ (ss : List Slot) (F : Hp), ss.length = n ∧ Con K (argsSt vs) (argsRh ss) F H ∧ FPost K mg vs ss F H Q E (m ss)
/-- what is left of the arguments -/
def backS (P : List Nat) : Nat → List Slot → Rh → Option (List Slot)
  | _, [], _ => some []
  | i, .dat d :: r, ρ => (backS P (i + 1) r ρ).map (.dat d :: ·)
  | i, .own _ :: r, ρ => if i ∈ P then match ρ[i]? with
      | some (some (.own ds)) => (backS P (i + 1) r ρ).map (.own ds :: ·)
      | _ => none
    else none
def fnM (P : List Nat) (N : Nat) (body : SM) : FM := fun ss => match body (argsRh ss ++ List.replicate (N - ss.length) none) with
  | .ret v ρ' => match backS P 0 ss ρ' with
    | some ss' => .ok v ss'
    | none => .stuck
  | .nx ρ' => match backS P 0 ss ρ' with
    | some ss' => .ok (.d .none) ss'
    | none => .stuck
  | .exc x ρ' => match backS P 0 ss ρ' with
    | some ss' => .exc x ss'
    | none => .stuck
  | _ => .stuck
theorem backS_get {P : List Nat} {ρ : Rh} : ∀ {ss : List Slot} {i : Nat} {ss' : List Slot}, backS P i ss ρ = some ss' → ss'.length = ss.length ∧
    ∀ j, (∀ d, ss'[j]? = some (.dat d) → ss[j]? = some (.dat d)) ∧ ∀ ds, ss'[j]? = some (.own ds) → i + j ∈ P ∧ ρ[i + j]? = some (some (.own ds)) ∧ ∃ es, ss[j]? = some (.own es)
  | [], i, ss', h => by
    cases h
    exact ⟨rfl, fun j => ⟨fun d z => by simp at z, fun ds z => by simp at z⟩⟩
  | .dat d :: r, i, ss', h => by
    simp only [backS, Option.map_eq_some_iff] at h
    obtain ⟨r', h, rfl⟩ := h
    obtain ⟨l, q⟩ := backS_get h
    refine ⟨by simp [l], fun j => ?_⟩
    cases j with
    | zero => exact ⟨fun d' z => z, fun ds z => by simp at z⟩
    | succ j =>
      obtain ⟨q1, q2⟩ := q j
      refine ⟨fun d' z => by simpa using q1 d' (by simpa using z), fun ds z => ?_⟩
      obtain ⟨a, b, c⟩ := q2 ds (by simpa using z)
      rw [show i + (j + 1) = i + 1 + j by omega]
      exact ⟨a, b, by simpa using c⟩
  | .own es :: r, i, ss', h => by
    simp only [backS] at h
    split at h
    · rename_i hp
      split at h
      · rename_i ds0 e0
        simp only [Option.map_eq_some_iff] at h
        obtain ⟨r', h, rfl⟩ := h
        obtain ⟨l, q⟩ := backS_get h
        refine ⟨by simp [l], fun j => ?_⟩
        cases j with
        | zero =>
          refine ⟨fun d' z => by simp at z, fun ds z => ?_⟩
          simp at z
          subst z
          exact ⟨hp, e0, es, rfl⟩
        | succ j =>
          obtain ⟨q1, q2⟩ := q j
          refine ⟨fun d' z => by simpa using q1 d' (by simpa using z), fun ds z => ?_⟩
          obtain ⟨a, b, c⟩ := q2 ds (by simpa using z)
          rw [show i + (j + 1) = i + 1 + j by omega]
          exact ⟨a, b, by simpa using c⟩
      · cases h
    · cases h
theorem getmap {α : Type} {l : List α} {i : Nat} {x : α} : (l.map some)[i]? = some (some x) ↔ l[i]? = some x := by
  rw [List.getElem?_map]
  cases l[i]? <;> simp
theorem getapp {α : Type} {l : List α} {n i : Nat} {x : α} : (l.map some ++ List.replicate n (none : Option α))[i]? = some (some x) ↔ l[i]? = some x := by
  by_cases h : i < l.length
  · rw [List.getElem?_append_left (by simpa using h)]
    exact getmap
  · rw [List.getElem?_append_right (by simpa using h), List.getElem?_replicate, List.getElem?_eq_none (by omega)]
    split <;> simp
/-- the state at a def's entry -/
theorem con_start {K : PySem.W.Frag} {vs : List V} {ss : List Slot} {F H : Hp} {N : List Str} (c : Con K (argsSt vs) (argsRh ss) F H) : Con K (L2.start N vs) (argsRh ss ++ List.replicate (N.length - ss.length) none) F H where
  ext := c.ext
  len := by
    have q := c.len
    unfold L2.start
    simp only [List.length_map] at q
    simp only [List.length_append, List.length_map, List.length_replicate]
    omega
  dat := fun i d e => by
    obtain ⟨v, q, r⟩ := c.dat i d (getmap.mpr (getapp.mp e))
    exact ⟨v, getapp.mpr (getmap.mp q), r⟩
  own := fun i ds e => by
    obtain ⟨p, us, q, r⟩ := c.own i ds (getmap.mpr (getapp.mp e))
    exact ⟨p, us, getapp.mpr (getmap.mp q), r⟩
  sep := fun i j a b p n e1 e2 q1 q2 => c.sep i j a b p n (getmap.mpr (getapp.mp e1)) (getmap.mpr (getapp.mp e2)) (getmap.mpr (getapp.mp q1)) (getmap.mpr (getapp.mp q2))
theorem owned_start {vs : List V} {ss : List Slot} {N : List Str} {b : Addr} : Owned (L2.start N vs) (argsRh ss ++ List.replicate (N.length - ss.length) none) b ↔ Owned (argsSt vs) (argsRh ss) b := by
  constructor
  · rintro ⟨i, ds, e, q⟩
    exact ⟨i, ds, getmap.mpr (getapp.mp e), getmap.mpr (getapp.mp q)⟩
  · rintro ⟨i, ds, e, q⟩
    exact ⟨i, ds, getapp.mpr (getmap.mp e), getapp.mpr (getmap.mp q)⟩
section
variable {K : PySem.W.Frag} {mg : Str → Option Value} {vs : List V} {ss ss' : List Slot} {F H F' H' : Hp} {N : List Str} {P : List Nat} {σ' : St} {ρ' : Rh}
theorem owned_back (c0 : Con K (argsSt vs) (argsRh ss) F H) (s : Stp P (L2.start N vs) (argsRh ss ++ List.replicate (N.length - ss.length) none) F H σ' ρ' F' H') (hb : backS P 0 ss ρ' = some ss') {b : Addr} (o : Owned (argsSt vs) (argsRh ss') b) :
    Owned σ' ρ' b ∧ Owned (argsSt vs) (argsRh ss) b := by
  obtain ⟨i, ds, e, q⟩ := o
  obtain ⟨l, g⟩ := backS_get hb
  obtain ⟨hp, er, es, e'⟩ := (g i).2 ds (getmap.mp e)
  rw [Nat.zero_add] at hp er
  refine ⟨⟨i, ds, er, ?_⟩, ⟨i, es, getmap.mpr e', q⟩⟩
  rw [s.pin i hp]
  exact getapp.mpr (getmap.mp q)
theorem con_back (c0 : Con K (argsSt vs) (argsRh ss) F H) (c : Con K σ' ρ' F' H') (s : Stp P (L2.start N vs) (argsRh ss ++ List.replicate (N.length - ss.length) none) F H σ' ρ' F' H') (hb : backS P 0 ss ρ' = some ss') :
    Con K (argsSt vs) (argsRh ss') F' H' ∧ Stp [] (argsSt vs) (argsRh ss) F H (argsSt vs) (argsRh ss') F' H' := by
  obtain ⟨l, g⟩ := backS_get hb
  have pinned : ∀ i, i ∈ P → ∀ p, (argsSt vs)[i]? = some (some (.ref p)) → σ'[i]? = some (some (.ref p)) := fun i hi p q => by
    rw [s.pin i hi]
    exact getapp.mpr (getmap.mp q)
  refine ⟨⟨c.ext, ?_, fun i d e => ?_, fun i ds e => ?_, fun i j a b p n e1 e2 q1 q2 => ?_⟩, ⟨s.fr, fun b o e n => s.keep b o e fun z => n (owned_start.mp z), fun b o e1 e2 n => s.free b o e1 e2 fun z => n (owned_start.mp z), fun b z => .inl (owned_back c0 s hb z).2, s.dom, fun _ z => by cases z⟩⟩
  · have q := c0.len
    simp only [List.length_map] at q ⊢
    omega
  · obtain ⟨v, q, r⟩ := c0.dat i d (getmap.mpr ((g i).1 d (getmap.mp e)))
    exact ⟨v, q, dv_mono s.fr d v r⟩
  · obtain ⟨hp, er, es, e'⟩ := (g i).2 ds (getmap.mp e)
    rw [Nat.zero_add] at hp er
    obtain ⟨p, us, q, _⟩ := c0.own i es (getmap.mpr e')
    obtain ⟨p', us', q', f', h', a'⟩ := c.own i ds er
    rw [pinned i hp p q] at q'
    cases q'
    exact ⟨p, us', q, f', h', a'⟩
  · obtain ⟨hp, er, es, e'⟩ := (g i).2 a (getmap.mp e1)
    obtain ⟨hp2, er2, es2, e2'⟩ := (g j).2 b (getmap.mp e2)
    exact c0.sep i j es es2 p n (getmap.mpr e') (getmap.mpr e2') q1 q2
theorem val_back (c0 : Con K (argsSt vs) (argsRh ss) F H) (s : Stp P (L2.start N vs) (argsRh ss ++ List.replicate (N.length - ss.length) none) F H σ' ρ' F' H') (hb : backS P 0 ss ρ' = some ss') {x : V} {v : Val}
    (h : ValIs K (L2.start N vs) (argsRh ss ++ List.replicate (N.length - ss.length) none) H σ' ρ' F' H' x v) : ValIs K (argsSt vs) (argsRh ss) H (argsSt vs) (argsRh ss') F' H' x v := by
  cases v with
  | d d => exact h
  | l ds =>
    obtain ⟨p, us, e, f, q, a, n, o⟩ := h
    refine ⟨p, us, e, f, q, a, fun z => n (owned_back c0 s hb z).1, ?_⟩
    rcases o with o | o
    · exact .inl (owned_start.mp o)
    · exact .inr o
end
/-- a block on data -/
def PSsD (X : Cx) (W : WX) (P : List Nat) (sts : List Stmt) (m : SM) : Prop := ∃ t, PSs X sts t ∧ SndS ⟨X.K, X.mg, W, P⟩ t m
/-- THE RULE of a def: its body on data -/
theorem fnd_body {P : Program} {w : World} {K : PySem.W.Frag} {mg : Str → Option Value} {base : Heap} {k : Nat} {name qual : Str} {st : Stmt} {f : Addr} {fd : FuncData} {N ps : List Str} {pin : List Nat} {m : SM} (Fn : Fun K name qual st f fd) (S : FnScope N ps (defScope st))
    (body : ∀ (cdv : Value) (A : Around) (outer : List Env) (s : Shared) (H : Hp) (E : XK), Room k (A.deeper (envOfC qual (defScope st) s.heap.objs.size f cdv)) → A.guards = some [] →
      PSsD (cxOf (L2.CX P w) P w K mg base N qual (defScope st) f cdv A outer s H E) (fun cls d _ H => E cls d H) pin (defBody st) m) : FnG P w K mg base (k + 1) f fd ps (spD K mg ps.length (fnM pin N.length m)) := by
  refine fng_of Fn S (fun vs H Q E h => ?_) fun cdv A outer s H vs Q E room gd asked => ?_
  · obtain ⟨ss, F, hl, c, _⟩ := h
    have q := c.len
    simp only [List.length_map] at q
    omega
  · obtain ⟨ss, F, hl, c, hp⟩ := asked
    obtain ⟨t, pss, snd⟩ := body cdv A outer s H E room gd
    refine ⟨t, pss, snd _ (L2.start N vs) (argsRh ss ++ List.replicate (N.length - ss.length) none) F H (con_start c) ?_⟩
    unfold fnM at hp
    cases e : m (argsRh ss ++ List.replicate (N.length - ss.length) none) with
    | ret v ρ' =>
      rw [e] at hp
      cases eb : backS pin 0 ss ρ' with
      | none => simp only [eb] at hp; exact hp.elim
      | some ss' =>
        simp only [eb] at hp
        exact fun x σ' F' H' c' s' iv => hp x F' H' (con_back c c' s' eb).1 (con_back c c' s' eb).2 (val_back c s' eb iv)
    | nx ρ' =>
      rw [e] at hp
      cases eb : backS pin 0 ss ρ' with
      | none => simp only [eb] at hp; exact hp.elim
      | some ss' =>
        simp only [eb] at hp
        exact fun σ' F' H' c' s' => hp .non F' H' (con_back c c' s' eb).1 (con_back c c' s' eb).2 .non
    | exc x ρ' =>
      rw [e] at hp
      cases eb : backS pin 0 ss ρ' with
      | none => simp only [eb] at hp; exact hp.elim
      | some ss' =>
        simp only [eb] at hp
        exact fun cls dd σ' F' H' c' s' ix => hp cls dd F' H' (con_back c c' s' eb).1 (con_back c c' s' eb).2 ix
    | brk ρ' => rw [e] at hp; exact hp.elim
    | ct ρ' => rw [e] at hp; exact hp.elim
    | stuck => rw [e] at hp; exact hp.elim

/-! ### calls on data -/
/-- all arguments data -/
def callD (n : Nat) (f : FM) (ms : LM) : EM := fun ρ => match ms ρ with
  | .ok vs ρ1 => match datL vs with
    | some ds => if ds.length = n then match f (ds.map .dat) with
      | .ok v _ => .ok v ρ1
      | .exc x _ => .exc x ρ1
      | .stuck => .stuck
      else .stuck
    | none => .stuck
  | .exc x ρ1 => .exc x ρ1
  | .stuck => .stuck
def allDat (ss : List Slot) : Bool := ss.all fun s => match s with
  | .dat _ => true
  | .own _ => false
/-- what a callee has made of the list in slot i -/
def backO (i : Nat) (ρ1 : Rh) : R (List Slot) → R Rh
  | .ok v (.own os' :: ss) => if allDat ss then .ok v (ρ1.set i (some (.own os'))) else .stuck
  | .exc x (.own os' :: ss) => if allDat ss then .exc x (ρ1.set i (some (.own os'))) else .stuck
  | _ => .stuck
/-- the first argument a list of the def's own that the callee may change, the others data -/
def callO (n : Nat) (f : FM) (i : Nat) (ms : LM) : EM := fun ρ => match ρ[i]? with
  | some (some (.own _)) => match ms ρ with
    | .ok vs ρ1 => match datL vs with
      | some ds => match ρ1[i]? with
        | some (some (.own os)) => if ds.length + 1 = n then backO i ρ1 (f (.own os :: ds.map .dat)) else .stuck
        | _ => .stuck
      | none => .stuck
    | .exc x ρ1 => .exc x ρ1
    | .stuck => .stuck
  | _ => .stuck
/-- one argument, a new list -/
def callL (f : FM) (m : EM) : EM := fun ρ => match m ρ with
  | .ok (.l ds) ρ1 => match f [.own ds] with
    | .ok (.d d) _ => .ok (.d d) ρ1
    | .exc x _ => .exc x ρ1
    | _ => .stuck
  | .ok _ _ => .stuck
  | .exc x ρ1 => .exc x ρ1
  | .stuck => .stuck
/-- the first argument as in callO, the second one a list of the def's own that is read as data: a flat answer -/
def flatBack (i : Nat) (ρ : Rh) : R (List Slot) → R Rh
  | .ok (.d d) (.own os' :: ss) => if flatD d && os'.all flatD && allDat ss then .ok (.d d) (ρ.set i (some (.own os'))) else .stuck
  | _ => .stuck
def callOV (f : FM) (i j : Nat) : EM := fun ρ => match ρ[i]? with
  | some (some (.own os)) => match ρ[j]? with
    | some (some (.own es)) => if i = j then .stuck else flatBack i ρ (f [.own os, .dat (.list es)])
    | _ => .stuck
  | _ => .stuck
section
variable {K : PySem.W.Frag} {mg : Str → Option Value}
theorem dvs_at {F : Hp} : ∀ {ds : List D} {vs : List V} {i : Nat} {d : D}, DvAll K F vs ds → (ds.map Slot.dat)[i]? = some (.dat d) → ∃ v, vs[i]? = some v ∧ Dv K F v d := by
  intro ds vs i d h e
  rw [List.getElem?_map] at e
  obtain ⟨d', h', e'⟩ := Option.map_eq_some_iff.mp e
  cases e'
  exact DvAll.get h h'
theorem dvs_vOf {F : Hp} : ∀ {ds : List D}, ds.all flatD = true → DvAll K F (ds.map vOf) ds
  | [], _ => .nil
  | d :: ds, h => by
    rw [List.all_cons, Bool.and_eq_true] at h
    exact .cons (dv_vOf h.1) (dvs_vOf h.2)
theorem dat_no_own {ds : List D} {i : Nat} {es : List D} : (ds.map Slot.dat)[i]? ≠ some (.own es) := fun e => by
  rw [List.getElem?_map] at e
  obtain ⟨d', _, e'⟩ := Option.map_eq_some_iff.mp e
  cases e'
theorem con_args {F H : Hp} {vs : List V} {ds : List D} (e : Same F H) (h : DvAll K F vs ds) : Con K (argsSt vs) (argsRh (ds.map .dat)) F H where
  ext := e
  len := by simp only [List.length_map]; exact DvAll.length h
  dat := fun i d q => by
    obtain ⟨v, q1, r⟩ := dvs_at h (getmap.mp q)
    exact ⟨v, getmap.mpr q1, r⟩
  own := fun i es q => absurd (getmap.mp q) dat_no_own
  sep := fun i j a b p n q => absurd (getmap.mp q) dat_no_own
theorem con_args1 {F H : Hp} {vs us : List V} {ds os : List D} {p : Addr} (e : Same F H) (h : DvAll K F vs ds) (f : F p = none) (hp : H p = some (.lst us)) (a : DvAll K F us os) : Con K (argsSt (.ref p :: vs)) (argsRh (.own os :: ds.map .dat)) F H where
  ext := e
  len := by simp only [List.length_map, List.length_cons, DvAll.length h]
  dat := fun i d q => by
    cases i with
    | zero => simp at q
    | succ i =>
      obtain ⟨v, q1, r⟩ := dvs_at h (i := i) (d := d) (by simpa using getmap.mp q)
      exact ⟨v, getmap.mpr (by simpa using q1), r⟩
  own := fun i es q => by
    cases i with
    | zero =>
      simp at q
      subst q
      exact ⟨p, us, rfl, f, hp, a⟩
    | succ i => exact absurd (show (ds.map Slot.dat)[i]? = some (.own es) by simpa using getmap.mp q) dat_no_own
  sep := fun i j x y b n q1 q2 => by
    cases i with
    | zero =>
      cases j with
      | zero => exact absurd rfl n
      | succ j => exact absurd (show (ds.map Slot.dat)[j]? = some (.own y) by simpa using getmap.mp q2) dat_no_own
    | succ i => exact absurd (show (ds.map Slot.dat)[i]? = some (.own x) by simpa using getmap.mp q1) dat_no_own
theorem owned_args {vs : List V} {ds : List D} {b : Addr} : ¬ Owned (argsSt vs) (argsRh (ds.map .dat)) b := fun ⟨i, es, q, _⟩ => dat_no_own (getmap.mp q)
theorem owned_args1 {vs : List V} {ss : List Slot} {os : List D} {p b : Addr} (hs : ∀ (i : Nat) es, ss[i]? ≠ some (.own es)) : Owned (argsSt (.ref p :: vs)) (argsRh (.own os :: ss)) b ↔ b = p := by
  constructor
  · rintro ⟨i, es, q, r⟩
    cases i with
    | zero =>
      simp at r
      exact r.symm
    | succ i => exact absurd (show ss[i]? = some (.own es) by simpa using getmap.mp q) (hs i es)
  · rintro rfl
    exact ⟨0, os, rfl, rfl⟩
end
section
variable {g : G} {f : FM} {n : Nat} {te : TE} {ta : TA} {m : EM} {ms : LM}
theorem snd_callD (ha : SndA g ta ms) : SndE g (tCallS (spD g.K g.mg n f) (WE g.W) ta) (callD n f ms) := by
  intro σ ρ F H Q c hp
  refine ha σ ρ F H _ c ?_
  unfold callD at hp
  cases e : ms ρ with
  | exc x ρ1 => rw [e] at hp; exact hp
  | stuck => rw [e] at hp; exact hp
  | ok vals ρ1 =>
    rw [e] at hp
    intro vs F1 H1 c1 s1 i1
    cases e2 : datL vals with
    | none => simp only [e2] at hp; exact hp.elim
    | some ds =>
      simp only [e2] at hp
      have h := i1.dat e2
      by_cases hl : ds.length = n
      · rw [if_pos hl] at hp
        refine ⟨ds.map .dat, F1, by rw [List.length_map]; exact hl, con_args c1.ext h, ?_⟩
        -- nothing of what stands is the callee's
        have out : ∀ {ss' : List Slot} {F' H' : Hp}, Con g.K (argsSt vs) (argsRh ss') F' H' → Stp [] (argsSt vs) (argsRh (ds.map .dat)) F1 H1 (argsSt vs) (argsRh ss') F' H' → Con g.K σ ρ1 F' H' ∧ Stp g.P σ ρ F H σ ρ1 F' H' := by
          intro ss' F' H' c' s'
          have nw : News F1 H1 F' H' := ⟨s'.fr, fun b o z => s'.keep b o z owned_args, c'.ext, fun b o z1 z2 => s'.free b o z1 z2 owned_args⟩
          exact ⟨c1.news nw, s1.trans (Stp.news (K := g.K) nw)⟩
        cases er : f (ds.map .dat) with
        | stuck => simp only [er] at hp; exact hp.elim
        | exc x ss' =>
          simp only [er] at hp
          intro cls dd F' H' c' s' ix
          obtain ⟨a1, a2⟩ := out c' s'
          exact hp cls dd F' H' a1 a2 ix
        | ok v ss' =>
          simp only [er] at hp
          intro x F' H' c' s' iv
          obtain ⟨a1, a2⟩ := out c' s'
          refine hp x F' H' a1 a2 ?_
          cases v with
          | d d => exact iv
          | l l =>
            obtain ⟨p, us, e1, e2, e3, e4, _, o⟩ := iv
            have hn : H1 p = none := by
              rcases o with o | o
              · exact absurd o owned_args
              · exact o
            refine ⟨p, us, e1, e2, e3, e4, fun z => ?_, .inr (s1.back hn)⟩
            exact not_owned c1 hn z
      · rw [if_neg hl] at hp
        exact hp.elim
theorem all_dat {ss : List Slot} (h : allDat ss = true) : ∀ (i : Nat) es, ss[i]? ≠ some (.own es) := fun i es e => by
  unfold allDat at h
  rw [List.all_eq_true] at h
  have q := h _ (List.mem_of_getElem? e)
  cases q
/-- behind a call that may have changed the list at p -/
theorem after_own {i : Nat} {σ : St} {ρ1 : Rh} {F1 H1 F' H' : Hp} {vs : List V} {ds os os' : List D} {ss : List Slot} {p : Addr} (c1 : Con g.K σ ρ1 F1 H1) (eo : ρ1[i]? = some (some (.own os))) (q : σ[i]? = some (some (.ref p)))
    (hs : ∀ (i : Nat) es, ss[i]? ≠ some (.own es)) (c' : Con g.K (argsSt (.ref p :: vs)) (argsRh (.own os' :: ss)) F' H') (s' : Stp [] (argsSt (.ref p :: vs)) (argsRh (.own os :: ds.map .dat)) F1 H1 (argsSt (.ref p :: vs)) (argsRh (.own os' :: ss)) F' H') :
    (Con g.K σ (ρ1.set i (some (.own os'))) F' H' ∧ Stp g.P σ ρ1 F1 H1 σ (ρ1.set i (some (.own os'))) F' H') ∧ ∀ b, Owned σ (ρ1.set i (some (.own os'))) b → Owned σ ρ1 b := by
  have ow : ∀ b, Owned (argsSt (.ref p :: vs)) (argsRh (.own os :: ds.map .dat)) b ↔ b = p := fun b => owned_args1 fun _ _ => dat_no_own
  have back : ∀ (j : Nat) (es : List D), (ρ1.set i (some (Slot.own os')))[j]? = some (some (.own es)) → ∃ es', ρ1[j]? = some (some (.own es')) := fun j es z => by
    by_cases hj : i = j
    · subst hj; exact ⟨os, eo⟩
    · rw [get_set_ne hj] at z; exact ⟨es, z⟩
  have mine : Owned σ ρ1 p := Owned.of eo q
  refine ⟨⟨⟨c'.ext, by rw [List.length_set]; exact c1.len, fun j d z => ?_, fun j es z => ?_, fun j k x y b hn z1 z2 => ?_⟩, ⟨s'.fr, fun b o z n => s'.keep b o z fun w => n (by rw [(ow b).mp w]; exact mine), fun b o z1 z2 n => s'.free b o z1 z2 fun w => n (by rw [(ow b).mp w]; exact mine), fun b ⟨j, es, z1, z2⟩ => ?_, s'.dom, fun _ _ => rfl⟩⟩, fun b ⟨j, es, z1, z2⟩ => ?_⟩
  · by_cases hj : i = j
    · subst hj; rw [get_set_self eo] at z; cases z
    · rw [get_set_ne hj] at z
      obtain ⟨v, q1, r1⟩ := c1.dat j d z
      exact ⟨v, q1, dv_mono s'.fr d v r1⟩
  · by_cases hj : i = j
    · subst hj
      rw [get_set_self eo] at z
      cases z
      obtain ⟨p', us', q', f', h', a'⟩ := c'.own 0 os' rfl
      cases q'
      exact ⟨p, us', q, f', h', a'⟩
    · rw [get_set_ne hj] at z
      obtain ⟨b, ws, q1, f1, h1, a1⟩ := c1.own j es z
      have hb : b ≠ p := fun w => by
        rw [w] at q1
        exact c1.sep i j os es p hj eo z q q1
      have nb : ¬ Owned (argsSt (.ref p :: vs)) (argsRh (.own os :: ds.map .dat)) b := fun w => hb ((ow b).mp w)
      exact ⟨b, ws, q1, s'.free b _ h1 f1 nb, s'.keep b _ h1 nb, dvAll_mono s'.fr es ws a1⟩
  · obtain ⟨x', z1⟩ := back j x z1
    obtain ⟨y', z2⟩ := back k y z2
    exact c1.sep j k x' y' b hn z1 z2
  · obtain ⟨es', z1⟩ := back j es z1
    exact .inl (Owned.of z1 z2)
  · obtain ⟨es', z1⟩ := back j es z1
    exact Owned.of z1 z2
theorem snd_callO {i : Nat} (ha : SndA g ta ms) : SndE g (tCallS (spD g.K g.mg n f) (WE g.W) (tCons (tVar i) ta)) (callO n f i ms) := by
  intro σ ρ F H Q c hp
  unfold callO at hp
  split at hp
  · rename_i os0 eo0
    obtain ⟨p, us0, q, _⟩ := c.own i os0 eo0
    refine ⟨_, q, ha σ ρ F H _ c ?_⟩
    cases e : ms ρ with
    | exc x ρ1 => rw [e] at hp; exact hp
    | stuck => rw [e] at hp; exact hp
    | ok vals ρ1 =>
      rw [e] at hp
      intro vs F1 H1 c1 s1 i1
      cases e2 : datL vals with
      | none => simp only [e2] at hp; exact hp.elim
      | some ds =>
        simp only [e2] at hp
        have h := i1.dat e2
        split at hp
        · rename_i os eo
          by_cases hl : ds.length + 1 = n
          · rw [if_pos hl] at hp
            obtain ⟨p', us, q', f1, h1, a1⟩ := c1.own i os eo
            rw [q] at q'
            cases q'
            refine ⟨.own os :: ds.map .dat, F1, by simp only [List.length_cons, List.length_map]; exact hl, con_args1 c1.ext h f1 h1 a1, ?_⟩
            cases er : f (.own os :: ds.map .dat) with
            | stuck => rw [er] at hp; exact hp.elim
            | exc x ss' =>
              rw [er] at hp
              cases ss' with
              | nil => exact hp.elim
              | cons s0 ss =>
                cases s0 with
                | dat d0 => exact hp.elim
                | own os' =>
                  simp only [backO] at hp
                  by_cases hs : allDat ss = true
                  · rw [if_pos hs] at hp
                    intro cls dd F' H' c' s' ix
                    obtain ⟨⟨a2, a3⟩, _⟩ := after_own c1 eo q (all_dat hs) c' s'
                    exact hp cls dd F' H' a2 (s1.trans a3) ix
                  · rw [if_neg hs] at hp; exact hp.elim
            | ok v ss' =>
              rw [er] at hp
              cases ss' with
              | nil => exact hp.elim
              | cons s0 ss =>
                cases s0 with
                | dat d0 => exact hp.elim
                | own os' =>
                  simp only [backO] at hp
                  by_cases hs : allDat ss = true
                  · rw [if_pos hs] at hp
                    intro x F' H' c' s' iv
                    obtain ⟨⟨a2, a3⟩, a4⟩ := after_own c1 eo q (all_dat hs) c' s'
                    refine hp x F' H' a2 (s1.trans a3) ?_
                    cases v with
                    | d d => exact iv
                    | l l =>
                      obtain ⟨b, ws, e1, e2, e3, e4, n1, o⟩ := iv
                      have hb : b ≠ p := fun w => n1 (by rw [w]; exact ⟨0, os', rfl, rfl⟩)
                      have hn : H1 b = none := by
                        rcases o with o | o
                        · exact absurd ((owned_args1 fun _ _ => dat_no_own).mp o) hb
                        · exact o
                      exact ⟨b, ws, e1, e2, e3, e4, fun z => not_owned c1 hn (a4 b z), .inr (s1.back hn)⟩
                  · rw [if_neg hs] at hp; exact hp.elim
          · rw [if_neg hl] at hp
            exact hp.elim
        · exact hp.elim
  · exact hp.elim
theorem snd_callL (hm : SndE g te m) : SndE g (tCallS (spD g.K g.mg 1 f) (WE g.W) (tCons te tNil)) (callL f m) := by
  intro σ ρ F H Q c hp
  refine hm σ ρ F H _ c ?_
  unfold callL at hp
  cases e : m ρ with
  | exc x ρ1 => rw [e] at hp; exact hp
  | stuck => rw [e] at hp; exact hp
  | ok v ρ1 =>
    rw [e] at hp
    cases v with
    | d d => exact hp.elim
    | l os =>
      intro x F1 H1 c1 s1 i1
      obtain ⟨p, us, rfl, f1, h1, a1, n1, o1⟩ := i1
      refine ⟨[.own os], F1, rfl, con_args1 (ds := []) c1.ext .nil f1 h1 a1, ?_⟩
      have ow : ∀ b, Owned (argsSt [.ref p]) (argsRh [.own os]) b ↔ b = p := fun b => owned_args1 (ss := []) fun i es z => by simp at z
      have out : ∀ {ss' : List Slot} {F' H' : Hp}, Con g.K (argsSt [.ref p]) (argsRh ss') F' H' → Stp [] (argsSt [.ref p]) (argsRh [.own os]) F1 H1 (argsSt [.ref p]) (argsRh ss') F' H' → Con g.K σ ρ1 F' H' ∧ Stp g.P σ ρ F H σ ρ1 F' H' := by
        intro ss' F' H' c' s'
        have np : ∀ {b : Addr} {ob : HO}, H b = some ob → ¬ Owned σ ρ b → b ≠ p := fun {b ob} z n w => by
          subst w
          rcases o1 with o | o
          · exact n o
          · rw [o] at z; cases z
        refine ⟨⟨c'.ext, c1.len, fun i d z => ?_, fun i es z => ?_, c1.sep⟩, ⟨fun b o z => s'.fr b o (s1.fr b o z), fun b o z n => s'.keep b o (s1.keep b o z n) fun w => np z n ((ow b).mp w), fun b o z1 z2 n => s'.free b o (s1.keep b o z1 n) (s1.free b o z1 z2 n) fun w => np z1 n ((ow b).mp w), s1.own, fun b o z => ?_, fun _ _ => rfl⟩⟩
        · obtain ⟨v, q, r⟩ := c1.dat i d z
          exact ⟨v, q, dv_mono s'.fr d v r⟩
        · obtain ⟨b, ws, q, f2, h2, a2⟩ := c1.own i es z
          have hb : b ≠ p := fun w => n1 (by rw [w] at q; exact Owned.of z q)
          have nb : ¬ Owned (argsSt [.ref p]) (argsRh [.own os]) b := fun w => hb ((ow b).mp w)
          exact ⟨b, ws, q, s'.free b _ h2 f2 nb, s'.keep b _ h2 nb, dvAll_mono s'.fr es ws a2⟩
        · obtain ⟨o', z'⟩ := s1.dom b o z
          exact s'.dom b o' z'
      dsimp only at hp
      cases er : f [.own os] with
      | stuck => rw [er] at hp; exact hp.elim
      | exc x ss' =>
        rw [er] at hp
        intro cls dd F' H' c' s' ix
        obtain ⟨a1, a2⟩ := out c' s'
        exact hp cls dd F' H' a1 a2 ix
      | ok v ss' =>
        rw [er] at hp
        cases v with
        | l l => exact hp.elim
        | d d =>
          intro x F' H' c' s' iv
          obtain ⟨a1, a2⟩ := out c' s'
          exact hp x F' H' a1 a2 iv
theorem snd_callOV {i j : Nat} : SndE g (tCallS (spD g.K g.mg 2 f) (WE g.W) (tCons (tVar i) (tCons (tVar j) tNil))) (callOV f i j) := by
  intro σ ρ F H Q c hp
  unfold callOV at hp
  split at hp
  · rename_i os eo
    split at hp
    · rename_i es ee
      by_cases hij : i = j
      · rw [if_pos hij] at hp; exact hp.elim
      · rw [if_neg hij] at hp
        obtain ⟨p, us, q, f1, h1, a1⟩ := c.own i os eo
        obtain ⟨r, ws, q2, f2, h2, a2⟩ := c.own j es ee
        have hpr : p ≠ r := fun w => by
          rw [w] at q
          exact c.sep i j os es r hij eo ee q q2
        refine ⟨_, q, _, q2, ?_⟩
        -- what is read stands for good meanwhile
        have fr : Same F (upd F r (.lst ws)) := fun b o z => by rw [upd_ne (ne_of_none z f2)]; exact z
        have ex : Same (upd F r (.lst ws)) H := fun b o z => by
          by_cases hb : b = r
          · subst hb; rw [upd_same] at z; cases z; exact h2
          · rw [upd_ne hb] at z; exact c.ext b o z
        have fp : (upd F r (.lst ws)) p = none := by rw [upd_ne hpr]; exact f1
        refine ⟨[.own os, .dat (.list es)], upd F r (.lst ws), rfl, con_args1 (ds := [.list es]) ex (.cons (.lst upd_same (dvAll_mono fr es ws a2)) .nil) fp h1 (dvAll_mono fr os us a1), ?_⟩
        cases er : f [.own os, .dat (.list es)] with
        | stuck => rw [er] at hp; exact hp.elim
        | exc x ss' => rw [er] at hp; exact hp.elim
        | ok v ss' =>
          rw [er] at hp
          cases v with
          | l l => exact hp.elim
          | d d =>
            cases ss' with
            | nil => exact hp.elim
            | cons s0 ss =>
              cases s0 with
              | dat d0 => exact hp.elim
              | own os' =>
                simp only [flatBack] at hp
                by_cases hs : (flatD d && os'.all flatD && allDat ss) = true
                · rw [if_pos hs] at hp
                  simp only [Bool.and_eq_true] at hs
                  intro x F' H' c' s' iv
                  have ow : ∀ b, Owned (argsSt [.ref p, .ref r]) (argsRh [.own os, .dat (.list es)]) b ↔ b = p := fun b => owned_args1 (ss := [.dat (.list es)]) fun k zs z => by
                    cases k <;> simp at z
                  have ext : Same F H' := fun b o z => c'.ext b o (s'.fr b o (fr b o z))
                  have back : ∀ (k : Nat) (zs : List D), (ρ.set i (some (Slot.own os')))[k]? = some (some (.own zs)) → ∃ zs', ρ[k]? = some (some (.own zs')) := fun k zs z => by
                    by_cases hk : i = k
                    · subst hk; exact ⟨os, eo⟩
                    · rw [get_set_ne hk] at z; exact ⟨zs, z⟩
                  have kp : ∀ b o, H b = some o → b ≠ p → H' b = some o := fun b o z hb => s'.keep b o z fun w => hb ((ow b).mp w)
                  refine hp x F H' ⟨ext, by rw [List.length_set]; exact c.len, fun k dd z => ?_, fun k zs z => ?_, fun k l x y b hn z1 z2 => ?_⟩ ⟨fun _ _ z => z, fun b o z n => kp b o z fun w => n (by rw [w]; exact Owned.of eo q), fun _ _ _ z _ => z, fun b ⟨k, zs, z1, z2⟩ => ?_, s'.dom, fun _ _ => rfl⟩ ?_
                  · by_cases hk : i = k
                    · subst hk; rw [get_set_self eo] at z; cases z
                    · rw [get_set_ne hk] at z
                      exact c.dat k dd z
                  · by_cases hk : i = k
                    · subst hk
                      rw [get_set_self eo] at z
                      cases z
                      obtain ⟨p', us', q', f', h', a'⟩ := c'.own 0 os' rfl
                      cases q'
                      have eu := dvs_flat a' hs.1.2
                      refine ⟨p, us', q, f1, h', ?_⟩
                      rw [eu]
                      exact dvs_vOf hs.1.2
                    · rw [get_set_ne hk] at z
                      obtain ⟨b, zs', q1, g1, h3, a3⟩ := c.own k zs z
                      have hb : b ≠ p := fun w => by
                        rw [w] at q1
                        exact c.sep i k os zs p hk eo z q q1
                      exact ⟨b, zs', q1, g1, kp b _ h3 hb, a3⟩
                  · obtain ⟨x', z1⟩ := back k x z1
                    obtain ⟨y', z2⟩ := back l y z2
                    exact c.sep k l x' y' b hn z1 z2
                  · obtain ⟨zs', z1⟩ := back k zs z1
                    exact .inl (Owned.of z1 z2)
                  · show Dv g.K F x d
                    rw [dv_flat iv hs.1.1]
                    exact dv_vOf hs.1.1
                · rw [if_neg hs] at hp; exact hp.elim
    · exact hp.elim
  · exact hp.elim
end
end DL
set_option Elab.async false
set_option linter.all false
set_option maxRecDepth 100000
set_option maxHeartbeats 2000000
set_option autoImplicit false
/-! DL8: more of statements and expressions; errors. -/
namespace DL
open PySem PySem.Spec PyProof.Rows L2

/-! ### a slot forgotten; two and three names at once -/
def forgetS (i : Nat) (m : SM) : SM := fun ρ => m (ρ.set i none)
section
variable {g : G} {t : TS} {a : SM} {ta : TA} {ms : LM}
theorem sns_forget {i : Nat} (h : SndS g t a) : SndS g t (forgetS i a) := by
  intro Dn σ ρ F H c hp
  have c' : Con g.K σ (ρ.set i none) F H := c.less [i]
  refine h Dn σ _ F H c' (SPost.shift hp ⟨fun _ _ z => z, fun _ _ z _ => z, fun _ _ _ z _ => z, fun b z => .inl (owned_less (vs := [i]) z), fun b o z => ⟨o, z⟩, fun _ _ => rfl⟩)
def bindLS (m : LM) (f : List Val → SM) : SM := fun ρ => match m ρ with
  | .ok v ρ' => f v ρ'
  | .exc e ρ' => .exc e ρ'
  | .stuck => .stuck
theorem SndA.bindLS {f : List Val → SM} (h : SndA g ta ms) {σ : St} {ρ : Rh} {F H : Hp} {Dn : Ends} {Q1 : List V → Hp → Prop} (c : Con g.K σ ρ F H) (hp : SPost g σ ρ F H Dn (DL.bindLS ms f ρ))
    (k : ∀ xs vs ρ' F' H', Con g.K σ ρ' F' H' → Stp g.P σ ρ F H σ ρ' F' H' → AllIs g.K σ ρ H σ ρ' F' H' xs vs → SPost g σ ρ F H Dn (f vs ρ') → Q1 xs H') : ta σ H Q1 := by
  refine h σ ρ F H Q1 c ?_
  unfold DL.bindLS at hp
  cases e : ms ρ with
  | ok v ρ' =>
    rw [e] at hp
    exact fun x F' H' c' s iv => k x v ρ' F' H' c' s iv hp
  | exc x ρ' =>
    rw [e] at hp
    exact fun cls dd F' H' c' s ix => hp cls dd σ F' H' c' s ix
  | stuck => rw [e] at hp; exact hp
def parM (i j : Nat) (ms : LM) : SM := bindLS ms fun vs => match vs with
  | [.d a, .d b] => fun ρ => .nx ((ρ.set i (some (.dat a))).set j (some (.dat b)))
  | [.l a, .d b] => fun ρ => .nx ((ρ.set i (some (.own a))).set j (some (.dat b)))
  | _ => fun _ => .stuck
def par3M (i j k : Nat) (ms : LM) : SM := bindLS ms fun vs => match vs with
  | [.d a, .d b, .d c] => fun ρ => .nx (((ρ.set i (some (.dat a))).set j (some (.dat b))).set k (some (.dat c)))
  | _ => fun _ => .stuck
theorem sns_par {i j : Nat} (hi : i ∉ g.P) (hj : j ∉ g.P) (h : SndA g ta ms) : SndS g (tPar i j ta) (parM i j ms) := by
  intro Dn σ ρ F H c hp
  refine h.bindLS c hp fun xs vs ρ1 F1 H1 c1 s1 i1 hp1 => ?_
  split at hp1
  · rename_i a b
    match xs, i1 with
    | [x, y], ⟨h1, h2, _⟩ =>
      obtain ⟨c2, s2⟩ := c1.setD (P := g.P) (i := i) h1 hi
      obtain ⟨c3, s3⟩ := c2.setD (P := g.P) (i := j) (show Dv g.K F1 y b from h2) hj
      exact ⟨x, y, rfl, hp1 _ F1 H1 c3 (s1.trans (s2.trans s3))⟩
  · rename_i a b
    match xs, i1 with
    | [x, y], ⟨h1, h2, _⟩ =>
      obtain ⟨p, us, rfl, f, q, al, n, o⟩ := h1
      obtain ⟨c2, ow⟩ := c1.setL (i := i) f q al n
      have s2 : Stp g.P σ ρ F H (σ.set i (some (.ref p))) (ρ1.set i (some (.own a))) F1 H1 := ⟨s1.fr, s1.keep, s1.free, fun b hb => by
        rcases ow b hb with z | z
        · exact s1.own b z
        · subst z; exact o, s1.dom, fun k hk => get_set_ne (fun w => hi (by rw [w]; exact hk))⟩
      obtain ⟨c3, s3⟩ := c2.setD (P := g.P) (i := j) (show Dv g.K F1 y b from h2) hj
      exact ⟨_, y, rfl, hp1 _ F1 H1 c3 (s2.trans s3)⟩
  · exact hp1.elim
theorem sns_par3 {i j k : Nat} (hi : i ∉ g.P) (hj : j ∉ g.P) (hk : k ∉ g.P) (h : SndA g ta ms) : SndS g (tPar3 i j k ta) (par3M i j k ms) := by
  intro Dn σ ρ F H c hp
  refine h.bindLS c hp fun xs vs ρ1 F1 H1 c1 s1 i1 hp1 => ?_
  split at hp1
  · rename_i a b d
    match xs, i1 with
    | [x, y, z], ⟨h1, h2, h3, _⟩ =>
      obtain ⟨c2, s2⟩ := c1.setD (P := g.P) (i := i) h1 hi
      obtain ⟨c3, s3⟩ := c2.setD (P := g.P) (i := j) (show Dv g.K F1 y b from h2) hj
      obtain ⟨c4, s4⟩ := c3.setD (P := g.P) (i := k) (show Dv g.K F1 z d from h3) hk
      exact ⟨x, y, z, rfl, hp1 _ F1 H1 c4 (s1.trans (s2.trans (s3.trans s4)))⟩
  · exact hp1.elim
end

/-! ### the def's own lists read -/
/-- own[k] -/
def ixO (i : Nat) (m : EM) : EM := fun ρ => match ρ[i]? with
  | some (some (.own _)) => bindE m (fun v => match v with
    | .d (.int k) => fun ρ' => match ρ'[i]? with
      | some (some (.own ds)) => match atI ds k with
        | some d => .ok (.d d) ρ'
        | none => .stuck
      | _ => .stuck
    | _ => fun _ => .stuck) ρ
  | _ => .stuck
section
variable {g : G} {te ta : TE} {m : EM}
theorem snd_ixO {i : Nat} (h : SndE g te m) : SndE g (tOp (rIxA g.K) (tVar i) te) (ixO i m) := by
  intro σ ρ F H Q c hp
  unfold ixO at hp
  split at hp
  · rename_i ds0 e0
    obtain ⟨p, us0, q, _⟩ := c.own i ds0 e0
    refine ⟨_, q, h.bind c hp fun y v ρ1 F1 H1 c1 s1 i1 hp1 => ?_⟩
    split at hp1
    · rename_i k
      split at hp1
      · rename_i ds e1
        split at hp1
        · rename_i d ed
          obtain ⟨p', us, q', f, h1, al⟩ := c1.own i ds e1
          rw [q] at q'
          cases q'
          obtain ⟨x, ex, dx⟩ := DvAll.atI al ed
          exact .inr (.inr ⟨p, us, k, x, rfl, dv_int i1, SqL.of h1, ex, hp1 x F1 H1 c1 Stp.refl dx⟩)
        · exact hp1.elim
      · exact hp1.elim
    · exact hp1.elim
  · exact hp.elim
end

/-! ### {'a': 'b', ..}[e], written texts -/
def lookS (kvs : List (Str × Str)) (k : Str) : Option Str := (kvs.find? fun p => decide (p.1 = k)).map (·.2)
def dispM (kvs : List (Str × Str)) (m : EM) : EM := bindE m fun v => match v with
  | .d (.str k) => fun ρ => match lookS kvs k with
    | some z => .ok (.d (.str z)) ρ
    | none => .stuck
  | _ => fun _ => .stuck
def kvV (kvs : List (Str × Str)) : List (Key × V) := kvs.map fun p => ((Sum.inr p.1 : Key), V.str p.2)
theorem merge_app : ∀ (more acc : List (Key × V)), (∀ p ∈ more, ∀ q ∈ acc, q.1 ≠ p.1) → (more.map (·.1)).Nodup → mergeK acc more = acc ++ more
  | [], acc, _, _ => by simp [mergeK]
  | p :: r, acc, h, nd => by
    rw [List.map_cons, List.nodup_cons] at nd
    have e : putK acc p.1 p.2 = acc ++ [p] := by
      unfold putK
      rw [if_neg (fun z => by
        rw [List.any_eq_true] at z
        obtain ⟨q, hq, e⟩ := z
        exact h p List.mem_cons_self q hq (of_decide_eq_true e))]
    show mergeK (putK acc p.1 p.2) r = acc ++ p :: r
    rw [e, merge_app r (acc ++ [p]) (fun a ha b hb => ?_) nd.2, List.append_assoc]
    · rfl
    · rcases List.mem_append.mp hb with hb | hb
      · exact h a (List.mem_cons_of_mem _ ha) b hb
      · rw [List.mem_singleton] at hb
        subst hb
        exact fun z => nd.1 (List.mem_map.mpr ⟨a, ha, z.symm⟩)
theorem val_kv (kvs : List (Str × Str)) (k : Str) : valV (kvV kvs) (Sum.inr k : Key) = (lookS kvs k).map V.str := by
  unfold valV lookS kvV
  induction kvs with
  | nil => rfl
  | cons p r ih =>
    rw [List.map_cons, List.find?_cons, List.find?_cons]
    by_cases e : p.1 = k
    · rw [show decide ((Sum.inr p.1 : Key) = Sum.inr k) = true from decide_eq_true (by rw [e]), decide_eq_true e]
      rfl
    · rw [show decide ((Sum.inr p.1 : Key) = Sum.inr k) = false from decide_eq_false (fun z => e (Sum.inr.inj z)), decide_eq_false e]
      exact ih
def trsOf (kvs : List (Str × Str)) : List (TE × TE) := kvs.map fun p => (tC (.str p.1), tC (.str p.2))
theorem pairs_con {σ : St} {H : Hp} : ∀ {kvs : List (Str × Str)} {Q : List (V × V) → Hp → Prop}, Q (kvs.map fun p => (V.str p.1, V.str p.2)) H → tPairs (trsOf kvs) σ H Q
  | [], _, h => h
  | _ :: r, _, h => pairs_con (kvs := r) h
theorem snd_disp {g : G} {te : TE} {m : EM} {kvs : List (Str × Str)} (hl : kvs.length ≤ 15) (nd : (kvs.map (·.1)).Nodup) (h : SndE g te m) : SndE g (tDGet (tDisp (trsOf kvs)) te) (dispM kvs m) := by
  intro σ ρ F H Q c hp p hn
  refine pairs_con ?_
  refine ⟨upd_same, kvV kvs, ?_, by unfold kvV; rw [List.length_map]; exact hl, ?_⟩
  · unfold kvV
    rw [List.map_map]
    rfl
  · have nd' : ((kvV kvs).map (·.1)).Nodup := by
      unfold kvV
      rw [List.map_map]
      exact List.pairwise_map.mpr ((List.pairwise_map.mp nd).imp fun h z => h (Sum.inr.inj z))
    rw [upd_upd, merge_app (kvV kvs) [] (fun _ _ _ z => by cases z) nd', List.nil_append]
    have n := News.loose (F := F) (u := .dK (kvV kvs)) c.ext hn
    have c1 := c.news n
    have s1 : Stp g.P σ ρ F H σ ρ F (upd H p (.dK (kvV kvs))) := Stp.news (K := g.K) n
    refine h.bind c1 (EPost.shift hp s1) fun y v ρ2 F2 H2 c2 s2 i2 hp2 => ?_
    split at hp2
    · rename_i k
      split at hp2
      · rename_i z ez
        have ey := dv_str i2
        subst ey
        have hp' : H2 p = some (.dK (kvV kvs)) := s2.keep _ _ upd_same (not_owned c hn)
        refine ⟨p, .str z, rfl, ?_, hp2 _ F2 H2 c2 Stp.refl (.str z)⟩
        have q := DGet.k (k := (Sum.inr k : Key)) hp'
        rw [val_kv, ez] at q
        exact q
      · exact hp2.elim
    · exact hp2.elim
def emptyD : EM := conM (.dict [])
theorem snd_dnew {g : G} : SndE g tDNewK emptyD := by
  intro σ ρ F H Q c hp p hn
  have n := News.new (u := .dK []) c.ext hn
  exact hp _ _ _ (c.news n) (Stp.news (K := g.K) n) (.emp upd_same)

/-! ### a text some times -/
def rMulS : R2 := fun x y H Q => ∃ (z : Str) (i : Int), x = .str z ∧ y = .int i ∧ (z.length ≤ 16 ∧ 0 ≤ i ∧ i ≤ 1048576) ∧ Q (.str (Txt.mul z i)) H
theorem op_mulS {X : Cx} : OpR X (binaryOp .Mult) rMulS := by
  intro pins s σ H x y v u Q I rx ry h
  obtain ⟨z, i, rfl, rfl, ⟨h1, h2, h3⟩, q⟩ := h
  obtain ⟨t, rfl⟩ := rx
  obtain ⟨t', rfl⟩ := ry
  exact PySem.W.KXi.mul rfl h1 (by omega) (by omega) fun t' k _ _ => ⟨.str _, H, I.tok k, ⟨_, rfl⟩, q⟩
def gMulA : D → D → Option D
  | .int a, .int b => gMul (.int a) (.int b)
  | .str z, .int i => if z.length ≤ 16 ∧ 0 ≤ i ∧ i ≤ 1048576 then some (.str (Txt.mul z i)) else none
  | _, _ => none
def rMulA : R2 := fun x y H Q => rI CMul (fun i j => .int (i * j)) x y H Q ∨ rMulS x y H Q
theorem op_mulA {X : Cx} : OpR X (binaryOp .Mult) rMulA := op_mul.or op_mulS
theorem mulA_D {K : PySem.W.Frag} : OpD K rMulA gMulA := by
  intro F H x y dx dy dz Q e hx hy hg k
  unfold gMulA at hg
  split at hg
  · exact .inl (mul_D F H x y _ _ dz Q e hx hy hg k)
  · split at hg
    · rename_i hl
      cases hg
      exact .inr ⟨_, _, dv_str hx, dv_int hy, hl, k _ _ _ (News.refl e) (.str _)⟩
    · cases hg
  · cases hg

/-! ### isinstance(e, T) -/
theorem snd_isi {g : G} {te : TE} {m : EM} {T : String} (hT : kitsOf T = true) (hN : T ≠ "NoneType") (h : SndE g te m) : SndE g (tCB (rIsi g.K) (tCons te (tCons (tC (.ty T)) tNil))) (op1 (gIsi T) m) := by
  intro σ ρ F H Q c hp
  refine h.bind c hp fun x v ρ1 F1 H1 c1 s1 i1 hp1 => ?_
  cases v with
  | l ds => exact hp1.elim
  | d dx =>
    obtain ⟨dz, e, k⟩ := hp1.lift c1
    obtain ⟨t, b, ty, ke, rfl⟩ := isi_ans hT hN c1.ext i1 e
    exact ⟨x, .ty T, t, .type T, b, rfl, .ty T, ty, ke, k _ _ _ (News.refl c1.ext) (.bl b)⟩

/-! ### f(k = e, ..), all parameters by name, in their order -/
def BindsK (fd : FuncData) (ps : List Str) : Prop := ∀ (s : Shared) (us : List Value), us.length = ps.length → BindsTo s fd ⟨[], ps.zip us⟩ (ps.zip us)
section
variable {X : Cx} {k : Nat} {f : Addr} {fd : FuncData} {ps : List Str} {sp : Sp} {W : WX} {x : Str} {p pos : Pos} {kws : List Keyword} {t : TA}
theorem pe_callGK (F : FnG X.prog X.w X.K X.mg X.base k f fd ps sp) (room : Room k X.A) (gd : X.A.guards = some []) (hg : Gl X x) (hm : X.mg x = some (.ref f)) (hk : PySem.W.keepIn X.K (.ref f) = true) (bd : BindsK fd ps) (tk : Takes X W)
    (ha : PK X kws t) (hall : (backToKw pos (keywordEach kws X.env)).all (·.1.isSome) = true := by rfl) (hks : (backToKw pos (keywordEach kws X.env)).filterMap (·.1) = ps := by rfl) (hdb : (x == ("__debug__" : Str)) = false := by decide)
    (hpl : ((backTo pos (starEach [] X.env)).any (·.1) || (backToKw pos (keywordEach kws X.env)).any (·.1.isNone)) = false := by rfl) :
    PE X (.Call (.Name x p) [] kws pos) (tCallS sp (WE W) t) := by
  refine ⟨fun pins s σ H Q I h => wpAny_Call_Name_kw (ld_glob I hg hm ?_ hdb)⟩
  refine PySem.W.callWith_KW0 (h₀ := X.base) I.ok.mod.kin hk hall (thn (ha.run pos pins s σ H _ I h) fun us s1 ⟨vs, H1, I1, r, q⟩ => ⟨I1.kIn, ?_⟩) hpl
  rw [hks]
  have ul : us.length = ps.length := r.length.symm.trans (F.len _ _ _ _ q)
  refine wpAny_call (codeAny_mono (F.run X.A X.stack s1 H1 ⟨[], ps.zip us⟩ us vs Q (WE W σ) room gd I1.env0 (bd s1 us ul) r q) fun r s' z => ?_)
  match r, z with
  | .error e, z => exact passAt tk σ pins H1 s1 e s' I1 z
  | .ok (.ret u), z => exact I1.after z
  | .ok .next, z => exact z.elim
  | .ok .brk, z => exact z.elim
  | .ok .cont, z => exact z.elim
end

/-! ### errors of one attribute: class C(..): def __init__(self, f): self.f = f -/
def spInit (C : Addr) (f : Str) : Sp := fun vs H Q _ => ∃ (a : Addr) (y : V), vs = [.ref a, y] ∧ H a = some (exo a C none) ∧ ∀ dx, H dx = none → dx ≠ a → Q .non (upd (upd H dx (exd dx [(f, y)])) a (exo a C (some dx)))
/-- what is known of such a class -/
structure XC (P : Program) (w : World) (K : PySem.W.Frag) (mg : Str → Option Value) (base : Heap) (name f : Str) (C fI : Addr) (fd : FuncData) : Prop where
  gC : mg name = some (.ref C)
  oex : OexC K C
  iC : PySem.W.findIn K (.ref C) "__init__" = some (some (.ref fI))
  tI : PySem.W.typeIn K (.ref fI) = some (.type "function")
  noF : PySem.W.findIn K (.ref C) f = some none
  fn : FnOk P w K mg base CX0 1 fI fd ["self", f] (spInit C f)
  bd : Binds K fd ["self", f] []
theorem pure_init {K : PySem.W.Frag} {C : Addr} {f : Str} (T : OexC K C) (noF : PySem.W.findIn K (.ref C) f = some none) {vs : List V} {H : Hp} {Q : VK} {E : XK} (h : spInit C f vs H Q E) : tOst K f (tVar 0) (tVar 1) { nx := fun _ H' => Q .non H', rt := Q } (L2.start ["self", f] vs) H := by
  obtain ⟨a, y, rfl, ha, k⟩ := h
  exact ⟨_, rfl, _, rfl, a, C, rfl, T, noF, .inl ⟨ha, k⟩⟩
def raiseM (cls f : Str) (m : EM) : SM := bindS m fun v => match v with
  | .d d => fun ρ => .exc ⟨cls, some (f, d)⟩ ρ
  | _ => fun _ => .stuck
theorem news_xd {F H : Hp} {a dx : Addr} {fs gs : List (Str × V)} {C : Addr} (e : Same F H) (ha : H a = none) (n : (upd H a (exo a C none)) dx = none) (ne : dx ≠ a) :
    upd (del (upd (upd (upd H a (exo a C none)) dx (exd dx gs)) a (exo a C (some dx))) a) dx (.xd fs) = upd H dx (.xd fs) := by
  funext b
  by_cases hb : b = dx
  · subst hb; rw [upd_same, upd_same]
  · rw [upd_ne hb, upd_ne hb]
    by_cases hba : b = a
    · subst hba; rw [del_same, ha]
    · rw [del_ne hba, upd_ne hba, upd_ne hb, upd_ne hba]
theorem sns_raise {g : G} {C : Addr} {name f : Str} {te : TE} {m : EM} (gC : g.mg name = some (.ref C)) (h : SndE g te m) :
    SndS g (fun _ σ H => tMkO C (spInit C f) [] (tCons te tNil) σ H fun cls d H' => g.W cls d σ H') (raiseM name f m) := by
  intro Dn σ ρ F H c hp
  refine h.bindS c hp fun x v ρ1 F1 H1 c1 s1 i1 hp1 => ?_
  cases v with
  | l ds => exact hp1.elim
  | d d =>
    refine ⟨by show 1 ≤ 1000; decide, fun a ha => ⟨a, x, rfl, upd_same, fun dx n ne => ?_⟩⟩
    have hn : H1 dx = none := by rw [upd_ne ne] at n; exact n
    refine ⟨rfl, dx, [(f, x)], upd_same, ?_, hn, ?_⟩
    · rw [upd_ne ne, upd_same]
    · rw [news_xd c1.ext ha n ne]
      have nw := News.loose (F := F1) (u := .xd [(f, x)]) c1.ext hn
      exact hp1 _ _ σ F1 _ (c1.news nw) (s1.trans (Stp.news (K := g.K) nw)) ⟨C, gC, rfl, dx, x, rfl, upd_same, i1⟩
end DL
set_option Elab.async false
set_option linter.all false
set_option maxRecDepth 100000
set_option maxHeartbeats 2000000
set_option autoImplicit false
/-! DL9: the rules: a piece of syntax and its mirror. -/
namespace DL
open PySem PySem.Spec PyProof.Rows L2

/-! ### the weakest readings -/
def canE (g : G) (m : EM) : TE := fun σ H Q => ∃ ρ F, Con g.K σ ρ F H ∧ EPost g σ ρ F H Q (m ρ)
def canT (g : G) (m : EM) : TT := fun σ H Q => ∃ ρ F, Con g.K σ ρ F H ∧ EPost g σ ρ F H (fun x H' => ∃ b, x = .bl b ∧ Q b H') (m ρ)
def canA (g : G) (m : LM) : TA := fun σ H Q => ∃ ρ F, Con g.K σ ρ F H ∧ LPost g σ ρ F H Q (m ρ)
def canO (g : G) (m : Rh → RO) : TO := fun σ H Q => ∃ ρ F, Con g.K σ ρ F H ∧ OPost g σ ρ F H Q (m ρ)
def canI (g : G) (m : Rh → RI) : TI := fun σ H Q => ∃ ρ F, Con g.K σ ρ F H ∧ IPost g σ ρ F H Q (m ρ)
def canS (g : G) (m : SM) : TS := fun D σ H => ∃ ρ F, Con g.K σ ρ F H ∧ SPost g σ ρ F H D (m ρ)
def canG (g : G) (m : TGM) : TG := fun v σ H Q => ∃ ρ F d ρ', Con g.K σ ρ F H ∧ Dv g.K F v d ∧ m d ρ = some ρ' ∧ ∀ σ' F' H', Con g.K σ' ρ' F' H' → Stp g.P σ ρ F H σ' ρ' F' H' → Q σ' H'
def canGs (g : G) (m : List D → Rh → Option Rh) : TGs := fun v σ H Q => ∃ ρ F d ρ', Con g.K σ ρ F H ∧ DvAll g.K F v d ∧ m d ρ = some ρ' ∧ ∀ σ' F' H', Con g.K σ' ρ' F' H' → Stp g.P σ ρ F H σ' ρ' F' H' → Q σ' H'
def canGv (g : G) (vs : List Nat) (m : TGM) : TG := fun v σ H Q => ∃ ρ F d ρ', Con g.K σ ρ F H ∧ Dv g.K F v d ∧ m d ρ = some ρ' ∧ ∀ σ', wipe σ' vs = wipe σ vs → Con g.K σ' ρ' F H → Stp g.P σ ρ F H σ' ρ' F H → Q σ' H
def canGvs (g : G) (vs : List Nat) (m : List D → Rh → Option Rh) : TGs := fun v σ H Q => ∃ ρ F d ρ', Con g.K σ ρ F H ∧ DvAll g.K F v d ∧ m d ρ = some ρ' ∧ ∀ σ', wipe σ' vs = wipe σ vs → Con g.K σ' ρ' F H → Stp g.P σ ρ F H σ' ρ' F H → Q σ' H
abbrev gX (X : Cx) (W : WX) (P : List Nat) : G := ⟨X.K, X.mg, W, P⟩
section
variable (X : Cx) (W : WX) (P : List Nat)
def PED (e : Expr) (m : EM) : Prop := PE X e (canE (gX X W P) m)
def PTD (e : Expr) (m : EM) : Prop := PT X e (canT (gX X W P) m)
def PWD (e : Expr) (m : EM) : Prop := PW X e (canT (gX X W P) m)
def PAD (es : List Expr) (m : LM) : Prop := PA X es (canA (gX X W P) m)
def PKD (kws : List Keyword) (m : LM) : Prop := PK X kws (canA (gX X W P) m)
def POD (e : Option Expr) (m : Rh → RO) : Prop := PO X e (canO (gX X W P) m)
def PID (tg e : Expr) (m : Rh → RI) : Prop := PI X tg e (canI (gX X W P) m)
def PSD (st : Stmt) (m : SM) : Prop := PS X st (canS (gX X W P) m)
def PBD (sts : List Stmt) (m : SM) : Prop := PSs X sts (canS (gX X W P) m)
def PGD (tg : Expr) (m : TGM) : Prop := PG X tg (canG (gX X W P) m)
def PGsD (tgs : List Expr) (m : List D → Rh → Option Rh) : Prop := PGs X tgs (canGs (gX X W P) m)
def PVD (vs : List Nat) (tg : Expr) (m : TGM) : Prop := PG X tg (canGv (gX X W P) vs m)
def PVsD (vs : List Nat) (tgs : List Expr) (m : List D → Rh → Option Rh) : Prop := PGs X tgs (canGvs (gX X W P) vs m)
def PCD (ifs : List Expr) (m : EM) : Prop := PTs X ifs (canT (gX X W P) m)
end
section
variable {X : Cx} {W : WX} {P : List Nat} {g : G}
theorem ce {m : EM} : SndE g (canE g m) m := fun _ ρ F _ _ c p => ⟨ρ, F, c, p⟩
theorem ct {m : EM} : SndT g (canT g m) m := fun _ ρ F _ _ c p => ⟨ρ, F, c, p⟩
theorem ca {m : LM} : SndA g (canA g m) m := fun _ ρ F _ _ c p => ⟨ρ, F, c, p⟩
theorem co {m : Rh → RO} : SndO g (canO g m) m := fun _ ρ F _ _ c p => ⟨ρ, F, c, p⟩
theorem ci {m : Rh → RI} : SndI g (canI g m) m := fun _ ρ F _ _ c p => ⟨ρ, F, c, p⟩
theorem cs {m : SM} : SndS g (canS g m) m := fun _ _ ρ F _ c p => ⟨ρ, F, c, p⟩
theorem cg {m : TGM} : SndG g (canG g m) m := fun _ ρ F _ _ d ρ' _ c h e k => ⟨ρ, F, d, ρ', c, h, e, k⟩
theorem cgs {m : List D → Rh → Option Rh} : SndGs g (canGs g m) m := fun _ ρ F _ _ d ρ' _ c h e k => ⟨ρ, F, d, ρ', c, h, e, k⟩
theorem cgv {vs : List Nat} {m : TGM} : SndGv g vs (canGv g vs m) m := fun _ ρ F _ _ d ρ' _ c h e k => ⟨ρ, F, d, ρ', c, h, e, k⟩
theorem cgvs {vs : List Nat} {m : List D → Rh → Option Rh} : SndGvs g vs (canGvs g vs m) m := fun _ ρ F _ _ d ρ' _ c h e k => ⟨ρ, F, d, ρ', c, h, e, k⟩
theorem ped {e : Expr} {t : TE} {m : EM} (h : PE X e t) (s : SndE (gX X W P) t m) : PED X W P e m := ⟨fun pins s' σ H Q I ⟨ρ, F, c, p⟩ => h.run pins s' σ H Q I (s σ ρ F H Q c p)⟩
theorem ptd {e : Expr} {t : TT} {m : EM} (h : PT X e t) (s : SndT (gX X W P) t m) : PTD X W P e m := ⟨fun pins s' σ H Q I ⟨ρ, F, c, p⟩ => h.run pins s' σ H Q I (s σ ρ F H Q c p)⟩
theorem pwd {e : Expr} {t : TT} {m : EM} (h : PW X e t) (s : SndT (gX X W P) t m) : PWD X W P e m := ⟨fun wh pins s' σ H Q I ⟨ρ, F, c, p⟩ => h.run wh pins s' σ H Q I (s σ ρ F H Q c p)⟩
theorem pad {es : List Expr} {t : TA} {m : LM} (h : PA X es t) (s : SndA (gX X W P) t m) : PAD X W P es m := ⟨fun pos pins s' σ H Q I ⟨ρ, F, c, p⟩ => h.run pos pins s' σ H Q I (s σ ρ F H Q c p)⟩
theorem pkd {kws : List Keyword} {t : TA} {m : LM} (h : PK X kws t) (s : SndA (gX X W P) t m) : PKD X W P kws m := ⟨fun pos pins s' σ H Q I ⟨ρ, F, c, p⟩ => h.run pos pins s' σ H Q I (s σ ρ F H Q c p)⟩
theorem pod {e : Option Expr} {t : TO} {m : Rh → RO} (h : PO X e t) (s : SndO (gX X W P) t m) : POD X W P e m := ⟨fun pins s' σ H Q I ⟨ρ, F, c, p⟩ => h.run pins s' σ H Q I (s σ ρ F H Q c p)⟩
theorem pid {tg e : Expr} {t : TI} {m : Rh → RI} (h : PI X tg e t) (s : SndI (gX X W P) t m) : PID X W P tg e m := ⟨fun pins s' σ H Q I ⟨ρ, F, c, p⟩ => h.run pins s' σ H Q I (s σ ρ F H Q c p)⟩
theorem psd {st : Stmt} {t : TS} {m : SM} (h : PS X st t) (s : SndS (gX X W P) t m) : PSD X W P st m := ⟨fun pins s' σ H D I ⟨ρ, F, c, p⟩ => h.run pins s' σ H D I (s D σ ρ F H c p)⟩
theorem pbd {st : List Stmt} {t : TS} {m : SM} (h : PSs X st t) (s : SndS (gX X W P) t m) : PBD X W P st m := ⟨fun pins s' σ H D I ⟨ρ, F, c, p⟩ => h.run pins s' σ H D I (s D σ ρ F H c p)⟩
theorem pgd {tg : Expr} {t : TG} {m : TGM} (h : PG X tg t) (s : SndG (gX X W P) t m) : PGD X W P tg m := ⟨fun pins s' σ H v u Q I r ⟨ρ, F, d, ρ', c, hd, e, k⟩ => h.run pins s' σ H v u Q I r (s σ ρ F H v d ρ' Q c hd e k)⟩
theorem pgsd {tg : List Expr} {t : TGs} {m : List D → Rh → Option Rh} (h : PGs X tg t) (s : SndGs (gX X W P) t m) : PGsD X W P tg m := ⟨fun pins s' σ H v u Q I r ⟨ρ, F, d, ρ', c, hd, e, k⟩ => h.run pins s' σ H v u Q I r (s σ ρ F H v d ρ' Q c hd e k)⟩
theorem pvd {vs : List Nat} {tg : Expr} {t : TG} {m : TGM} (h : PG X tg t) (s : SndGv (gX X W P) vs t m) : PVD X W P vs tg m := ⟨fun pins s' σ H v u Q I r ⟨ρ, F, d, ρ', c, hd, e, k⟩ => h.run pins s' σ H v u Q I r (s σ ρ F H v d ρ' Q c hd e k)⟩
theorem pvsd {vs : List Nat} {tg : List Expr} {t : TGs} {m : List D → Rh → Option Rh} (h : PGs X tg t) (s : SndGvs (gX X W P) vs t m) : PVsD X W P vs tg m := ⟨fun pins s' σ H v u Q I r ⟨ρ, F, d, ρ', c, hd, e, k⟩ => h.run pins s' σ H v u Q I r (s σ ρ F H v d ρ' Q c hd e k)⟩

/-! ### what holds wherever a def's code stands -/
structure Here (X : Cx) (W : WX) (k : Nat) : Prop where
  room : Room k X.A
  gd : X.A.guards = some []
  tk : Takes X W
  pass : PassesOwn (model X.prog X.w) X.A X.env X.xe
  calm : X.calm = true
abbrev W0 : WX := fun _ _ _ _ => False
theorem Here.blk {k : Nat} (h : Here X W k) {s : Shared} {H : Hp} {sc : Scope} {ce : Env} {fp : List Addr} : Here (X.blk s H sc ce fp) W0 k := ⟨h.room, h.gd, takes0, PassesOwn.never, h.calm⟩
/-- a def by its name -/
def FnAt (P : Program) (w : World) (K : PySem.W.Frag) (mg : Str → Option Value) (base : Heap) (k : Nat) (name : Str) (ps : List Str) (m : FM) : Prop :=
  ∃ f fd, mg name = some (.ref f) ∧ PySem.W.keepIn K (.ref f) = true ∧ Binds K fd ps [] ∧ BindsK fd ps ∧ FnG P w K mg base k f fd ps (spD K mg ps.length m)

/-! ### expressions -/
variable {a b c e : Expr} {es : List Expr} {ma mb mc m m' : EM} {ms : LM} {pos : Pos}
theorem de_var (i : Nat) {x : Str} (hN : X.N[i]? = some x := by rfl) (hv : Vis X.env.scope x := by first | exact Or.inl rfl | exact Or.inr (Or.inl rfl) | exact Or.inr (Or.inr rfl)) (hd : (x == ("__debug__" : Str)) = false := by decide)
    (hcd : (x == ("__classdict__" : Str)) = false := by decide) : PED X W P (.Name x pos) (varM i) := ped (pe_var hN hv hd hcd) snd_var
theorem de_int {i : Int} {j} : PED X W P (.Constant (.int i) j pos) (conM (.int i)) := ped pe_int (snd_con fun _ => .int i)
theorem de_str {i : Str} {j} : PED X W P (.Constant (.str i) j pos) (conM (.str i)) := ped pe_str (snd_con fun _ => .str i)
theorem de_bool {i : Bool} {j} : PED X W P (.Constant (.bool i) j pos) (conM (.bool i)) := ped pe_bl (snd_con fun _ => .bl i)
theorem de_none {j} : PED X W P (.Constant .none j pos) (conM .none) := ped pe_non (snd_con fun _ => .non)
/-- a constant of the module -/
def GlobD (K : PySem.W.Frag) (mg : Str → Option Value) (x : Str) (d : D) : Prop := ∃ v u, mg x = some u ∧ RelV v u ∧ ∀ F, Dv K F v d
theorem de_glob {x : Str} {d : D} (h : GlobD X.K X.mg x d) (hg : Gl X x := by rfl) (hd : (x == ("__debug__" : Str)) = false := by decide) : PED X W P (.Name x pos) (conM d) := by
  obtain ⟨v, u, hm, r, q⟩ := h
  exact ped (pe_glob hg hm r hd) (snd_con q)
theorem de_add (ha : PED X W P a ma) (hb : PED X W P b mb) : PED X W P (.BinOp a .Add b pos) (op2 gAdd ma mb) := ped (pe_op op_addA ha hb) (snd_op add_D ce ce)
theorem de_sub (ha : PED X W P a ma) (hb : PED X W P b mb) : PED X W P (.BinOp a .Sub b pos) (op2 gSub ma mb) := ped (pe_op op_sub ha hb) (snd_op sub_D ce ce)
theorem de_mul (ha : PED X W P a ma) (hb : PED X W P b mb) : PED X W P (.BinOp a .Mult b pos) (op2 gMulA ma mb) := ped (pe_op op_mulA ha hb) (snd_op mulA_D ce ce)
theorem de_div (ha : PED X W P a ma) (hb : PED X W P b mb) : PED X W P (.BinOp a .FloorDiv b pos) (op2 gDiv ma mb) := ped (pe_op op_fdivW ha hb) (snd_op div_D ce ce)
theorem de_mod (ha : PED X W P a ma) (hb : PED X W P b mb) : PED X W P (.BinOp a .Mod b pos) (op2 gMod ma mb) := ped (pe_op op_mod ha hb) (snd_op mod_D ce ce)
theorem de_pow (ha : PED X W P a ma) (hb : PED X W P b mb) : PED X W P (.BinOp a .Pow b pos) (op2 gPow ma mb) := ped (pe_op op_pow ha hb) (snd_op pow_D ce ce)
def gNeg : D → Option D
  | .int i => some (.int (-i))
  | _ => none
theorem neg_D {K : PySem.W.Frag} : UnD K (rU fun i => .int (-i)) gNeg := by
  intro F H x dx dz Q e hx hg k
  unfold gNeg at hg
  split at hg
  · cases hg
    exact ⟨_, dv_int hx, k _ _ _ (News.refl e) (.int _)⟩
  · cases hg
theorem de_neg (ha : PED X W P a ma) : PED X W P (.UnaryOp .USub a pos) (op1 gNeg ma) := ped (pe_un un_neg ha) (snd_un neg_D ce)
theorem de_lt (ha : PED X W P a ma) (hb : PED X W P b mb) : PED X W P (.Compare a [.Lt] [b] pos) (op2 gLt ma mb) := ped (pe_cmpR op_lt ha hb (nomark _)) (snd_op lt_D ce ce)
theorem de_le (ha : PED X W P a ma) (hb : PED X W P b mb) : PED X W P (.Compare a [.LtE] [b] pos) (op2 gLe ma mb) := ped (pe_cmpR op_le ha hb (nomark _)) (snd_op le_D ce ce)
theorem de_gt (ha : PED X W P a ma) (hb : PED X W P b mb) : PED X W P (.Compare a [.Gt] [b] pos) (op2 gGt ma mb) := ped (pe_cmpR op_gt ha hb (nomark _)) (snd_op gt_D ce ce)
theorem de_ge (ha : PED X W P a ma) (hb : PED X W P b mb) : PED X W P (.Compare a [.GtE] [b] pos) (op2 gGe ma mb) := ped (pe_cmpR op_ge ha hb (nomark _)) (snd_op ge_D ce ce)
theorem de_eq {k : Nat} (h : Here X W k) (ha : PED X W P a ma) (hb : PED X W P b mb) : PED X W P (.Compare a [.Eq] [b] pos) (op2 gEq ma mb) := ped (pe_cmpR (op_eq.or (op_eqD h.room.units)) ha hb (nomark _)) (snd_op eq_D ce ce)
theorem de_ne {k : Nat} (h : Here X W k) (ha : PED X W P a ma) (hb : PED X W P b mb) : PED X W P (.Compare a [.NotEq] [b] pos) (op2 gNe ma mb) := ped (pe_cmpR (op_ne.or (op_neD h.room.units)) ha hb (nomark _)) (snd_op ne_D ce ce)
theorem de_in (ha : PED X W P a ma) (hb : PED X W P b mb) (hm : behindInMarks .In b = false := by rfl) : PED X W P (.Compare a [.In] [b] pos) (op2 gIn ma mb) := ped (pe_cmpR op_inA ha hb hm) (snd_op in_D ce ce)
theorem de_notIn (ha : PED X W P a ma) (hb : PED X W P b mb) (hm : behindInMarks .NotIn b = false := by rfl) : PED X W P (.Compare a [.NotIn] [b] pos) (op2 gNotIn ma mb) := ped (pe_cmpR op_notInA ha hb hm) (snd_op notIn_D ce ce)
theorem de_isN (ha : PED X W P a ma) (hb : PED X W P b mb) : PED X W P (.Compare a [.Is] [b] pos) (op2 gIsN ma mb) := ped (pe_cmpR op_isN ha hb (nomark _)) (snd_op isN_D ce ce)
theorem de_notN (ha : PED X W P a ma) (hb : PED X W P b mb) : PED X W P (.Compare a [.IsNot] [b] pos) (op2 gNotN ma mb) := ped (pe_cmpR op_notN ha hb (nomark _)) (snd_op notN_D ce ce)
theorem de_lele (ha : PED X W P a ma) (hb : PED X W P b mb) (hc : PED X W P c mc) : PED X W P (.Compare a [.LtE, .LtE] [b, c] pos) (chM gLe gLe ma mb mc) := ped (pe_chain op_le op_le ha hb hc (nomark c)) (snd_ch le_D le_D ce ce ce)
theorem de_ltle (ha : PED X W P a ma) (hb : PED X W P b mb) (hc : PED X W P c mc) : PED X W P (.Compare a [.Lt, .LtE] [b, c] pos) (chM gLt gLe ma mb mc) := ped (pe_chain op_lt op_le ha hb hc (nomark c)) (snd_ch lt_D le_D ce ce ce)
theorem de_lelt (ha : PED X W P a ma) (hb : PED X W P b mb) (hc : PED X W P c mc) : PED X W P (.Compare a [.LtE, .Lt] [b, c] pos) (chM gLe gLt ma mb mc) := ped (pe_chain op_le op_lt ha hb hc (nomark c)) (snd_ch le_D lt_D ce ce ce)
theorem de_ltlt (ha : PED X W P a ma) (hb : PED X W P b mb) (hc : PED X W P c mc) : PED X W P (.Compare a [.Lt, .Lt] [b, c] pos) (chM gLt gLt ma mb mc) := ped (pe_chain op_lt op_lt ha hb hc (nomark c)) (snd_ch lt_D lt_D ce ce ce)
theorem de_and {rest : List Expr} (ha : PED X W P a ma) (hb : PED X W P (.BoolOp .And (b :: rest) pos) mb) : PED X W P (.BoolOp .And (a :: b :: rest) pos) (andM ma mb) := ped (pe_and ha hb) (snd_and ce ce)
theorem de_or {rest : List Expr} (ha : PED X W P a ma) (hb : PED X W P (.BoolOp .Or (b :: rest) pos) mb) : PED X W P (.BoolOp .Or (a :: b :: rest) pos) (orM ma mb) := ped (pe_or ha hb) (snd_or ce ce)
theorem de_one {op : BoolOp} (ha : PED X W P a ma) : PED X W P (.BoolOp op [a] pos) ma := ped (pe_one ha) ce
theorem de_not (ha : PED X W P a ma) : PED X W P (.UnaryOp .Not a pos) (notM ma) := ped (pe_not ha) (snd_not ce)
theorem dt_val (ha : PED X W P a ma) (he : ∀ whole, isTrue a X.env whole = (do let v ← whole; standAt a.pos; holding [v] (truthy v)) := by intro _; rfl) : PTD X W P a ma := ptd (pt_val ha he) (snt_B ce)
theorem dt_lt (ha : PED X W P a ma) (hb : PED X W P b mb) : PTD X W P (.Compare a [.Lt] [b] pos) (op2 gLt ma mb) := ptd (pt_cmpR op_lt ha hb (nomark _)) (snt_test (snd_op lt_D ce ce))
theorem dt_le (ha : PED X W P a ma) (hb : PED X W P b mb) : PTD X W P (.Compare a [.LtE] [b] pos) (op2 gLe ma mb) := ptd (pt_cmpR op_le ha hb (nomark _)) (snt_test (snd_op le_D ce ce))
theorem dt_gt (ha : PED X W P a ma) (hb : PED X W P b mb) : PTD X W P (.Compare a [.Gt] [b] pos) (op2 gGt ma mb) := ptd (pt_cmpR op_gt ha hb (nomark _)) (snt_test (snd_op gt_D ce ce))
theorem dt_ge (ha : PED X W P a ma) (hb : PED X W P b mb) : PTD X W P (.Compare a [.GtE] [b] pos) (op2 gGe ma mb) := ptd (pt_cmpR op_ge ha hb (nomark _)) (snt_test (snd_op ge_D ce ce))
theorem dt_eq {k : Nat} (h : Here X W k) (ha : PED X W P a ma) (hb : PED X W P b mb) : PTD X W P (.Compare a [.Eq] [b] pos) (op2 gEq ma mb) := ptd (pt_cmpR (op_eq.or (op_eqD h.room.units)) ha hb (nomark _)) (snt_test (snd_op eq_D ce ce))
theorem dt_ne {k : Nat} (h : Here X W k) (ha : PED X W P a ma) (hb : PED X W P b mb) : PTD X W P (.Compare a [.NotEq] [b] pos) (op2 gNe ma mb) := ptd (pt_cmpR (op_ne.or (op_neD h.room.units)) ha hb (nomark _)) (snt_test (snd_op ne_D ce ce))
theorem dt_in (ha : PED X W P a ma) (hb : PED X W P b mb) (hm : behindInMarks .In b = false := by rfl) : PTD X W P (.Compare a [.In] [b] pos) (op2 gIn ma mb) := ptd (pt_cmpR op_inA ha hb hm) (snt_test (snd_op in_D ce ce))
theorem dt_notIn (ha : PED X W P a ma) (hb : PED X W P b mb) (hm : behindInMarks .NotIn b = false := by rfl) : PTD X W P (.Compare a [.NotIn] [b] pos) (op2 gNotIn ma mb) := ptd (pt_cmpR op_notInA ha hb hm) (snt_test (snd_op notIn_D ce ce))
theorem dt_isN (ha : PED X W P a ma) (hb : PED X W P b mb) : PTD X W P (.Compare a [.Is] [b] pos) (op2 gIsN ma mb) := ptd (pt_cmpR op_isN ha hb (nomark _)) (snt_test (snd_op isN_D ce ce))
theorem dt_notN (ha : PED X W P a ma) (hb : PED X W P b mb) : PTD X W P (.Compare a [.IsNot] [b] pos) (op2 gNotN ma mb) := ptd (pt_cmpR op_notN ha hb (nomark _)) (snt_test (snd_op notN_D ce ce))
theorem dt_lele (ha : PED X W P a ma) (hb : PED X W P b mb) (hc : PED X W P c mc) : PTD X W P (.Compare a [.LtE, .LtE] [b, c] pos) (chM gLe gLe ma mb mc) := ptd (pt_chain op_le op_le ha hb hc (nomark c)) (snt_test (snd_ch le_D le_D ce ce ce))
theorem dt_ltle (ha : PED X W P a ma) (hb : PED X W P b mb) (hc : PED X W P c mc) : PTD X W P (.Compare a [.Lt, .LtE] [b, c] pos) (chM gLt gLe ma mb mc) := ptd (pt_chain op_lt op_le ha hb hc (nomark c)) (snt_test (snd_ch lt_D le_D ce ce ce))
theorem dt_and {rest : List Expr} (ha : PTD X W P a ma) (hb : PWD X W P (.BoolOp .And (b :: rest) pos) mb) : PTD X W P (.BoolOp .And (a :: b :: rest) pos) (andM ma mb) := ptd (pw_and ha hb).pt (snt_and ct ct)
theorem dt_or {rest : List Expr} (ha : PTD X W P a ma) (hb : PWD X W P (.BoolOp .Or (b :: rest) pos) mb) : PTD X W P (.BoolOp .Or (a :: b :: rest) pos) (orM ma mb) := ptd (pw_or ha hb).pt (snt_or ct ct)
theorem dw_and {rest : List Expr} (ha : PTD X W P a ma) (hb : PWD X W P (.BoolOp .And (b :: rest) pos) mb) : PWD X W P (.BoolOp .And (a :: b :: rest) pos) (andM ma mb) := pwd (pw_and ha hb) (snt_and ct ct)
theorem dw_or {rest : List Expr} (ha : PTD X W P a ma) (hb : PWD X W P (.BoolOp .Or (b :: rest) pos) mb) : PWD X W P (.BoolOp .Or (a :: b :: rest) pos) (orM ma mb) := pwd (pw_or ha hb) (snt_or ct ct)
theorem dw_and1 (ha : PTD X W P a ma) : PWD X W P (.BoolOp .And [a] pos) ma := pwd (pw_and1 ha) ct
theorem dw_or1 (ha : PTD X W P a ma) : PWD X W P (.BoolOp .Or [a] pos) ma := pwd (pw_or1 ha) ct
theorem dt_not (ha : PTD X W P a ma) : PTD X W P (.UnaryOp .Not a pos) (notM ma) := ptd (pt_not ha) (snt_not ct)
theorem de_ifE (hc : PTD X W P c mc) (ha : PED X W P a ma) (hb : PED X W P b mb) : PED X W P (.IfExp c a b pos) (iteM mc ma mb) := ped (pe_ifExp hc ha hb) (snd_ite ct ce ce)
theorem da_nil : PAD X W P [] nilL := pad pa_nil snd_nil
theorem da_cons (ha : PED X W P e m) (hr : PAD X W P es ms) (hs : starEach (e :: es) X.env = (false, eval e X.env) :: starEach es X.env := by rfl) : PAD X W P (e :: es) (consL m ms) := pad (pa_cons ha hr hs) (snd_cons ce ca)
theorem dk_nil : PKD X W P [] nilL := pkd pk_nil snd_nil
theorem dk_cons {nm : Option Str} {kpos : Pos} {kws : List Keyword} (ha : PED X W P e m) (hr : PKD X W P kws ms) : PKD X W P (⟨nm, e, kpos⟩ :: kws) (consL m ms) := pkd (pk_cons ha hr) (snd_cons ce ca)
theorem de_tup {x1} (h : PAD X W P es ms) : PED X W P (.Tuple es x1 pos) (opL gTup ms) := ped (pe_tup h) (snd_tup ca)
theorem de_lst (h : PAD X W P es ms) : PED X W P (.List es pos) (opL gLst ms) := ped (pe_lst h) (snd_lst ca)
theorem de_lstO (h : PAD X W P es ms) : PED X W P (.List es pos) (lstO ms) := ped (pe_lst h) (snd_lstO ca)
theorem de_frz (h : PED X W P e m) : PED X W P e (frzE m) := ped h (snd_frz ce)
theorem de_dnew : PED X W P (.Dict [] [] pos) emptyD := ped pe_dnewK snd_dnew
theorem de_ix (ha : PED X W P a ma) (hb : PED X W P b mb) (hs : PlainIx b := by exact fun _ _ => rfl) : PED X W P (.Subscript a b pos) (op2 gIx ma mb) := ped (pe_ix ix_A ha hb hs) (snd_op ix_D ce ce)
theorem de_ixO (i : Nat) {x : Str} {px : Pos} (hb : PED X W P b mb) (hs : PlainIx b := by exact fun _ _ => rfl) (hN : X.N[i]? = some x := by rfl) (hv : Vis X.env.scope x := by first | exact Or.inl rfl | exact Or.inr (Or.inl rfl) | exact Or.inr (Or.inr rfl)) :
    (x == ("__debug__" : Str)) = false → (x == ("__classdict__" : Str)) = false → PED X W P (.Subscript (.Name x px) b pos) (ixO i mb) := fun h1 h2 => ped (pe_ix ix_A (pe_var hN hv h1 h2) hb hs) (snd_ixO ce)
theorem do_no : POD X W P none noPartM := pod po_none sno_no
theorem do_part (h : PED X W P e m) : POD X W P (some e) (partM m) := pod (po_some h) (sno_part ce)
theorem de_sl {lo hi : Option Expr} {ml mh : Rh → RO} {p2 : Pos} (ha : PED X W P a ma) (hl : POD X W P lo ml) (hh : POD X W P hi mh) : PED X W P (.Subscript a (.Slice lo hi none p2) pos) (slM ma ml mh) := ped (pe_slice sl_X ha hl hh) (snd_sl ce co co)
/-! calls of built-ins -/
section
variable {x : Str} {p : Pos}
theorem de_len (hm : X.mg "len" = none) (h : PAD X W P (e :: es) ms) (hg : Gl X "len" := by rfl) (he : starEach (e :: es) X.env = (false, eval e X.env) :: starEach es X.env := by rfl) (hpl : (backTo pos (starEach es X.env)).any (·.1) = false := by rfl) : PED X W P (.Call (.Name "len" p) (e :: es) [] pos) (opL gLen ms) := ped (pe_callB call_len hg hm (by decide +kernel) h (he := he) (hpl := hpl)) (snd_call len_D ca)
theorem de_abs (hm : X.mg "abs" = none) (h : PAD X W P (e :: es) ms) (hg : Gl X "abs" := by rfl) (he : starEach (e :: es) X.env = (false, eval e X.env) :: starEach es X.env := by rfl) (hpl : (backTo pos (starEach es X.env)).any (·.1) = false := by rfl) : PED X W P (.Call (.Name "abs" p) (e :: es) [] pos) (opL gAbs ms) := ped (pe_callB call_abs hg hm (by decide +kernel) h (he := he) (hpl := hpl)) (snd_call abs_D ca)
theorem de_divmod (hm : X.mg "divmod" = none) (h : PAD X W P (e :: es) ms) (hg : Gl X "divmod" := by rfl) (he : starEach (e :: es) X.env = (false, eval e X.env) :: starEach es X.env := by rfl) (hpl : (backTo pos (starEach es X.env)).any (·.1) = false := by rfl) : PED X W P (.Call (.Name "divmod" p) (e :: es) [] pos) (opL gDivmod ms) := ped (pe_callB call_divmodW hg hm (by decide +kernel) h (he := he) (hpl := hpl)) (snd_call divmod_D ca)
theorem de_max {k : Nat} (hh : Here X W k) (hm : X.mg "max" = none) (h : PAD X W P (e :: es) ms) (hg : Gl X "max" := by rfl) (he : starEach (e :: es) X.env = (false, eval e X.env) :: starEach es X.env := by rfl) (hpl : (backTo pos (starEach es X.env)).any (·.1) = false := by rfl) : PED X W P (.Call (.Name "max" p) (e :: es) [] pos) (opL gMax ms) := ped (pe_callB (call_max2 hh.calm) hg hm (by decide +kernel) h (he := he) (hpl := hpl)) (snd_call max_D ca)
theorem de_min {k : Nat} (hh : Here X W k) (hm : X.mg "min" = none) (h : PAD X W P (e :: es) ms) (hg : Gl X "min" := by rfl) (he : starEach (e :: es) X.env = (false, eval e X.env) :: starEach es X.env := by rfl) (hpl : (backTo pos (starEach es X.env)).any (·.1) = false := by rfl) : PED X W P (.Call (.Name "min" p) (e :: es) [] pos) (opL gMin ms) := ped (pe_callB (call_min2 hh.calm) hg hm (by decide +kernel) h (he := he) (hpl := hpl)) (snd_call min_D ca)
theorem de_all {k : Nat} (hh : Here X W k) (hm : X.mg "all" = none) (h : PAD X W P (e :: es) ms) (hg : Gl X "all" := by rfl) (he : starEach (e :: es) X.env = (false, eval e X.env) :: starEach es X.env := by rfl) (hpl : (backTo pos (starEach es X.env)).any (·.1) = false := by rfl) : PED X W P (.Call (.Name "all" p) (e :: es) [] pos) (opL gAll ms) := ped (pe_callB (cr_all hh.calm) hg hm (by decide +kernel) h (he := he) (hpl := hpl)) (snd_call all_D ca)
theorem de_any {k : Nat} (hh : Here X W k) (hm : X.mg "any" = none) (h : PAD X W P (e :: es) ms) (hg : Gl X "any" := by rfl) (he : starEach (e :: es) X.env = (false, eval e X.env) :: starEach es X.env := by rfl) (hpl : (backTo pos (starEach es X.env)).any (·.1) = false := by rfl) : PED X W P (.Call (.Name "any" p) (e :: es) [] pos) (opL gAny ms) := ped (pe_callB (cr_any hh.calm) hg hm (by decide +kernel) h (he := he) (hpl := hpl)) (snd_call any_D ca)
theorem de_repr {k : Nat} (hh : Here X W k) (hm : X.mg "repr" = none) (h : PAD X W P (e :: es) ms) (hg : Gl X "repr" := by rfl) (he : starEach (e :: es) X.env = (false, eval e X.env) :: starEach es X.env := by rfl) (hpl : (backTo pos (starEach es X.env)).any (·.1) = false := by rfl) : PED X W P (.Call (.Name "repr" p) (e :: es) [] pos) (opL gRepr ms) :=
  ped (pe_callB (call_reprD hh.gd (by have := hh.room.un; omega)) hg hm (by decide +kernel) h (he := he) (hpl := hpl)) (snd_call repr_D ca)
theorem de_intC (hm : X.mg "int" = none) (h : PAD X W P (e :: es) ms) (hg : Gl X "int" := by rfl) (he : starEach (e :: es) X.env = (false, eval e X.env) :: starEach es X.env := by rfl) (hpl : (backTo pos (starEach es X.env)).any (·.1) = false := by rfl) : PED X W P (.Call (.Name "int" p) (e :: es) [] pos) (opL gInt ms) := ped (pe_callTy call_intA hg hm (by decide +kernel) h (he := he) (hpl := hpl)) (snd_call int_CD ca)
theorem de_strC (hm : X.mg "str" = none) (h : PAD X W P (e :: es) ms) (hg : Gl X "str" := by rfl) (he : starEach (e :: es) X.env = (false, eval e X.env) :: starEach es X.env := by rfl) (hpl : (backTo pos (starEach es X.env)).any (·.1) = false := by rfl) : PED X W P (.Call (.Name "str" p) (e :: es) [] pos) (opL gStr ms) := ped (pe_callTy call_strA hg hm (by decide +kernel) h (he := he) (hpl := hpl)) (snd_call str_CD ca)
theorem de_tupC (hm : X.mg "tuple" = none) (h : PAD X W P (e :: es) ms) (hg : Gl X "tuple" := by rfl) (he : starEach (e :: es) X.env = (false, eval e X.env) :: starEach es X.env := by rfl) (hpl : (backTo pos (starEach es X.env)).any (·.1) = false := by rfl) : PED X W P (.Call (.Name "tuple" p) (e :: es) [] pos) (opL gTuple ms) := ped (pe_callTy call_tuple_of hg hm (by decide +kernel) h (he := he) (hpl := hpl)) (snd_call tuple_D ca)
theorem de_lstC (hm : X.mg "list" = none) (h : PAD X W P (e :: es) ms) (hg : Gl X "list" := by rfl) (he : starEach (e :: es) X.env = (false, eval e X.env) :: starEach es X.env := by rfl) (hpl : (backTo pos (starEach es X.env)).any (·.1) = false := by rfl) : PED X W P (.Call (.Name "list" p) (e :: es) [] pos) (opL gList ms) := ped (pe_callTy call_list_of hg hm (by decide +kernel) h (he := he) (hpl := hpl)) (snd_call list_D ca)
/-- isinstance(e, T), T a built-in class by its name -/
theorem de_isi {T : String} {Tn : Str} {pT : Pos} (hT : kitsOf T = true) (hN : T ≠ "NoneType") (hm : X.mg "isinstance" = none) (hmT : X.mg Tn = none) (hv : bootBuiltins Tn = some (.type T)) (h : PED X W P e m) (hgi : Gl X "isinstance" := by rfl) (hg : Gl X Tn := by rfl) (hn : Tn ≠ "__name__" := by decide) (hd : (Tn == ("__debug__" : Str)) = false := by decide)
    (hs : starEach (e :: [.Name Tn pT]) X.env = (false, eval e X.env) :: starEach [.Name Tn pT] X.env := by rfl) (hs2 : starEach [.Name Tn pT] X.env = (false, eval (.Name Tn pT) X.env) :: starEach [] X.env := by rfl)
    (hpl : (backTo pos (starEach [.Name Tn pT] X.env)).any (·.1) = false := by rfl) :
    PED X W P (.Call (.Name "isinstance" p) [e, .Name Tn pT] [] pos) (op1 (gIsi T) m) :=
  ped (pe_callB call_isi hgi hm (by decide +kernel) (pa_cons h (pa_cons (pe_bltn (v := .ty T) hg hmT hv rfl hn hd) pa_nil hs2) hs) (he := hs) (hpl := hpl)) (snd_isi hT hN ce)
theorem de_join {o : Expr} {mo : EM} {apos : Pos} (ho : PED X W P o mo) (he : PED X W P e m) (hs : starEach [e] X.env = [(false, eval e X.env)] := by rfl) (hbase : attributeBase o "join" X.env (eval o X.env) = eval o X.env := by rfl)
    (hline : (apos.endLine == pos.line) = true := by rfl) : PED X W P (.Call (.Attribute o "join" apos) [e] [] pos) (strM gJoin mo m) := ped (pe_join ho he hs hbase hline) (snd_join ce ce)
/-! calls of defs -/
variable {k j : Nat} {f : FM} {ps : List Str} {n : Nat}
theorem de_callD (F : FnAt X.prog X.w X.K X.mg X.base j x ps f) (hh : Here X W k) (hj : j ≤ k) (hn : ps.length = n) (h : PAD X W P (e :: es) ms) (hg : Gl X x := by rfl) (hdb : (x == ("__debug__" : Str)) = false := by decide)
    (he : starEach (e :: es) X.env = (false, eval e X.env) :: starEach es X.env := by rfl) (hpl : (backTo pos (starEach es X.env)).any (·.1) = false := by rfl) : PED X W P (.Call (.Name x p) (e :: es) [] pos) (callD n f ms) := by
  obtain ⟨fa, fd, hm, hk, bd, _, G⟩ := F
  subst hn
  exact ped (pe_callG G (hh.room.mono hj) hh.gd hg hm hk bd hh.tk h hdb he hpl) (snd_callD ca)
theorem de_callK {kw : Keyword} {kws : List Keyword} (F : FnAt X.prog X.w X.K X.mg X.base j x ps f) (hh : Here X W k) (hj : j ≤ k) (hn : ps.length = n) (h : PKD X W P (kw :: kws) ms) (hks : (backToKw pos (keywordEach (kw :: kws) X.env)).filterMap (·.1) = ps := by rfl) (hg : Gl X x := by rfl) (hdb : (x == ("__debug__" : Str)) = false := by decide)
    (hall : (backToKw pos (keywordEach (kw :: kws) X.env)).all (·.1.isSome) = true := by rfl) (hpl : ((backTo pos (starEach [] X.env)).any (·.1) || (backToKw pos (keywordEach (kw :: kws) X.env)).any (·.1.isNone)) = false := by rfl) :
    PED X W P (.Call (.Name x p) [] (kw :: kws) pos) (callD n f ms) := by
  obtain ⟨fa, fd, hm, hk, _, bd, G⟩ := F
  subst hn
  exact ped (pe_callGK G (hh.room.mono hj) hh.gd hg hm hk bd hh.tk h hall hks hdb hpl) (snd_callD ca)
theorem de_callO (i : Nat) {y : Str} {py : Pos} (F : FnAt X.prog X.w X.K X.mg X.base j x ps f) (hh : Here X W k) (hj : j ≤ k) (hn : ps.length = n) (h : PAD X W P es ms) (hg : Gl X x := by rfl) (hdb : (x == ("__debug__" : Str)) = false := by decide)
    (hN : X.N[i]? = some y := by rfl) (hv : Vis X.env.scope y := by first | exact Or.inl rfl | exact Or.inr (Or.inl rfl) | exact Or.inr (Or.inr rfl)) (hd : (y == ("__debug__" : Str)) = false := by decide) (hcd : (y == ("__classdict__" : Str)) = false := by decide)
    (he : starEach (.Name y py :: es) X.env = (false, eval (.Name y py) X.env) :: starEach es X.env := by rfl) (hpl : (backTo pos (starEach es X.env)).any (·.1) = false := by rfl) : PED X W P (.Call (.Name x p) (.Name y py :: es) [] pos) (callO n f i ms) := by
  obtain ⟨fa, fd, hm, hk, bd, _, G⟩ := F
  subst hn
  exact ped (pe_callG G (hh.room.mono hj) hh.gd hg hm hk bd hh.tk (pa_cons (pe_var hN hv hd hcd) h he) hdb he hpl) (snd_callO ca)
theorem de_callL (F : FnAt X.prog X.w X.K X.mg X.base j x ps f) (hh : Here X W k) (hj : j ≤ k) (hn : ps.length = 1) (h : PED X W P e m) (hg : Gl X x := by rfl) (hdb : (x == ("__debug__" : Str)) = false := by decide)
    (he : starEach [e] X.env = (false, eval e X.env) :: starEach [] X.env := by rfl) (hpl : (backTo pos (starEach [] X.env)).any (·.1) = false := by rfl) : PED X W P (.Call (.Name x p) [e] [] pos) (callL f m) := by
  obtain ⟨fa, fd, hm, hk, bd, _, G⟩ := F
  rw [hn] at G
  exact ped (pe_callG G (hh.room.mono hj) hh.gd hg hm hk bd hh.tk (pa_cons h pa_nil he) hdb he hpl) (snd_callL ce)
theorem de_callOV (i l : Nat) {y z : Str} {py pz : Pos} (F : FnAt X.prog X.w X.K X.mg X.base j x ps f) (hh : Here X W k) (hj : j ≤ k) (hn : ps.length = 2) (hg : Gl X x := by rfl) (hdb : (x == ("__debug__" : Str)) = false := by decide)
    (hN : X.N[i]? = some y := by rfl) (hv : Vis X.env.scope y := by first | exact Or.inl rfl | exact Or.inr (Or.inl rfl) | exact Or.inr (Or.inr rfl)) (hd : (y == ("__debug__" : Str)) = false := by decide) (hcd : (y == ("__classdict__" : Str)) = false := by decide)
    (hN2 : X.N[l]? = some z := by rfl) (hv2 : Vis X.env.scope z := by first | exact Or.inl rfl | exact Or.inr (Or.inl rfl) | exact Or.inr (Or.inr rfl)) (hd2 : (z == ("__debug__" : Str)) = false := by decide) (hcd2 : (z == ("__classdict__" : Str)) = false := by decide)
    (he : starEach [.Name y py, .Name z pz] X.env = (false, eval (.Name y py) X.env) :: starEach [.Name z pz] X.env := by rfl) (he2 : starEach [.Name z pz] X.env = (false, eval (.Name z pz) X.env) :: starEach [] X.env := by rfl)
    (hpl : (backTo pos (starEach [.Name z pz] X.env)).any (·.1) = false := by rfl) : PED X W P (.Call (.Name x p) [.Name y py, .Name z pz] [] pos) (callOV f i l) := by
  obtain ⟨fa, fd, hm, hk, bd, _, G⟩ := F
  rw [hn] at G
  exact ped (pe_callG G (hh.room.mono hj) hh.gd hg hm hk bd hh.tk (pa_cons (pe_var hN hv hd hcd) (pa_cons (pe_var hN2 hv2 hd2 hcd2) pa_nil he2) he) hdb he hpl) snd_callOV
end
/-! {'a': 'b', ..}[e] -/
theorem de_disp {k : Nat} (kvs : List (Str × Str)) {keys : List (Option Expr)} {values : List Expr} {dpos : Pos} (hh : Here X W k) (h : PPs X dpos keys values (trsOf kvs)) (hb : PED X W P e m) (hl : kvs.length ≤ 15 := by decide) (nd : (kvs.map (·.1)).Nodup := by decide) (hall : keys.all (·.isSome) = true := by rfl)
    (hlen : keys.length = values.length := by rfl) (h0 : keys ≠ [] := by (intro z; cases z)) (h15 : keys.length ≤ 15 := by decide) (hs : NoSl e := by exact fun _ _ => rfl) : PED X W P (.Subscript (.Dict keys values dpos) e pos) (dispM kvs m) :=
  ped (pe_dget (by have := hh.room.un; omega) (pe_disp h hall hlen h0 h15) hb hs) (snd_disp hl nd ce)
/-! ### walked -/
variable {tg : Expr} {mi : Rh → RI} {mt : TGM} {mts : List D → Rh → Option Rh}
theorem di_seq (h : PED X W P e m) : PID X W P tg e (seqI m) := pid (pi_seq h) (sni_seq ce)
theorem di_rng1 {p : Pos} (hm : X.mg "range" = none) (h : PAD X W P [a] ms) (hg : Gl X "range" := by rfl) (hs : starEach [a] X.env = [(false, eval a X.env)] := by rfl) : PID X W P tg (.Call (.Name "range" p) [a] [] pos) (rng1I ms) := pid (pi_range1 hg hm h hs) (sni_rng1 ca)
theorem di_rng2 {p : Pos} (hm : X.mg "range" = none) (h : PAD X W P [a, b] ms) (hg : Gl X "range" := by rfl) (hs : starEach [a, b] X.env = [(false, eval a X.env), (false, eval b X.env)] := by rfl) (hs2 : starEach [b] X.env = [(false, eval b X.env)] := by rfl) : PID X W P tg (.Call (.Name "range" p) [a, b] [] pos) (rng2I ms) := pid (pi_range2 hg hm h hs hs2) (sni_rng2 ca)
/-! ### targets -/
theorem dg_name (i : Nat) {x : Str} (hi : i ∉ P := by decide) (hN : X.N.Nodup) (hx : X.N[i]? = some x := by rfl) (hl : Loc X.env.scope x := by first | exact Or.inl rfl | exact Or.inr rfl) (hf : X.fn x = true ∨ X.env.scope.names.lookup x = some .local := by first | exact .inl rfl | exact .inr rfl) : PGD X W P (.Name x pos) (nameT i) := pgd (pg_name hN hx hl hf) (sng_name hi)
theorem dg_nil : PGsD X W P [] nilT := pgsd pgs_nil sng_nil
theorem dg_cons (h1 : PGD X W P e mt) (h2 : PGsD X W P es mts) (hs : (assignEach (e :: es) X.env).map (·.2) = assign e X.env :: (assignEach es X.env).map (·.2) := by rfl) : PGsD X W P (e :: es) (consT mt mts) := pgsd (pgs_cons h1 h2 hs) (sng_cons cg cgs)
theorem dg_tup {kk n : Nat} (hc : X.calm = true) (h : PGsD X W P es mts) (hn : (assignEach es X.env).length = n := by rfl) (hst : (assignEach es X.env).findIdx? (·.1) = none := by rfl) : PGD X W P (.Tuple es kk pos) (tupT n mts) := pgd (pg_tup hc h hn hst) (sng_tup cgs)
theorem dg_sub (i : Nat) {x : Str} {k : Int} {jj : Nat} {px pk : Pos} (hN : X.N[i]? = some x := by rfl) (hv : Vis X.env.scope x := by first | exact Or.inl rfl | exact Or.inr (Or.inl rfl) | exact Or.inr (Or.inr rfl)) (hd : (x == ("__debug__" : Str)) = false := by decide) (hcd : (x == ("__classdict__" : Str)) = false := by decide)
    (ha : ∀ v, assign (.Subscript (.Name x px) (.Constant (.int k) jj pk) pos) X.env v = (do
      let ov ← holding [v] (eval (.Name x px) X.env)
      let iv ← holding [v, ov] (eval (.Constant (.int k) jj pk) X.env)
      standAt pos
      holding [v, ov, iv] (setItem ov iv v)
      release [v, ov, iv] []) := by intro _; rfl) : PGD X W P (.Subscript (.Name x px) (.Constant (.int k) jj pk) pos) (subT i k) := pgd (pg_sub (pe_var hN hv hd hcd) pe_int set_list ha) sng_sub
variable {vs : List Nat}
theorem dv_name (i : Nat) {x : Str} (hi : i ∉ P := by decide) (hvs : i ∈ vs := by decide) (hN : X.N.Nodup) (hx : X.N[i]? = some x := by rfl) (hl : Loc X.env.scope x := by first | exact Or.inl rfl | exact Or.inr rfl) (hf : X.fn x = true ∨ X.env.scope.names.lookup x = some .local := by first | exact .inl rfl | exact .inr rfl) : PVD X W P vs (.Name x pos) (nameT i) := pvd (pg_name hN hx hl hf) (sgv_name hi hvs)
theorem dv_nil : PVsD X W P vs [] nilT := pvsd pgs_nil sgv_nil
theorem dv_cons (h1 : PVD X W P vs e mt) (h2 : PVsD X W P vs es mts) (hs : (assignEach (e :: es) X.env).map (·.2) = assign e X.env :: (assignEach es X.env).map (·.2) := by rfl) : PVsD X W P vs (e :: es) (consT mt mts) := pvsd (pgs_cons h1 h2 hs) (sgv_cons cgv cgvs)
theorem dv_tupT {kk n : Nat} (hc : X.calm = true) (h : PVsD X W P vs es mts) (hn : (assignEach es X.env).length = n := by rfl) (hst : (assignEach es X.env).findIdx? (·.1) = none := by rfl) : PVD X W P vs (.Tuple es kk pos) (tupT n mts) := pvd (pg_tup hc h hn hst) (sgv_tup cgvs)
/-! ### comprehensions -/
theorem dc_nil : PCD X W P [] (conM (.bool true)) := ⟨fun pins s σ H Q I ⟨ρ, F, c, p⟩ => pts_nil.run pins s σ H Q I (by
  obtain ⟨b, e, q⟩ := epost_con c p (.bl true)
  cases e
  exact q)⟩
theorem dc_one (h : PTD X W P c mc) : PCD X W P [c] mc := pts_one h
theorem de_lc {elt iter : Expr} {ifs : List Expr} {scope : Scope} {mtest melt : EM} {k : Nat} (own : List (Str × Nat)) (hh : Here X W k) (hN : X.N.Nodup) (hi : PID X W P tg iter mi) (ok : BlkOk X.N X.env.scope scope own)
    (hg : ∀ (s : Shared) (H : Hp) (C : Addr) (cl : List (Str × Addr)) (fp : List Addr), PVD (X.blk s H scope (compEnvC scope cl C X.env) fp) W0 P (own.map (·.2)) tg mt) (ht : ∀ (s : Shared) (H : Hp) (C : Addr) (cl : List (Str × Addr)) (fp : List Addr), PCD (X.blk s H scope (compEnvC scope cl C X.env) fp) W0 P ifs mtest)
    (he : ∀ (s : Shared) (H : Hp) (C : Addr) (cl : List (Str × Addr)) (fp : List Addr), PED (X.blk s H scope (compEnvC scope cl C X.env) fp) W0 P elt melt) (hs : ∀ x, foldedSetIterable iter X.env x = pure x := by intro _; rfl) :
    PED X W P (.ListComp elt [⟨tg, iter, ifs, 0⟩] scope pos) (lcM mi mt mtest melt (own.map (·.2))) :=
  ped (pe_lc (g := canGv (gX X W0 P) (List.map (fun x : Str × Nat => x.2) own) mt) (tt := canT (gX X W0 P) mtest) (te := canE (gX X W0 P) melt) hh.calm hN hi ok hg ht he hs) (snd_lc ci cgv ct ce)
/-! ### statements -/
variable {st : Stmt} {sts : List Stmt} {sa sb : SM}
theorem db_nil : PBD X W P [] nextM := pbd pss_nil sns_next
theorem db_cons (h : PSD X W P st sa) (hs : PBD X W P sts sb) : PBD X W P (st :: sts) (seqM sa sb) := pbd (pss_cons h hs) (sns_seq cs cs)
theorem db_one (h : PSD X W P st sa) : PBD X W P [st] sa := pbd (pss_one h) cs
theorem ds_frz (i : Nat) (h : PSD X W P st sa) : PSD X W P st (frzS i sa) := psd h (sns_frz cs)
theorem ds_forget (i : Nat) (h : PSD X W P st sa) : PSD X W P st (forgetS i sa) := psd h (sns_forget cs)
theorem ds_set (i : Nat) {x : Str} {px : Pos} (hN : X.N.Nodup) (h : PED X W P e m) (hi : i ∉ P := by decide) (hx : X.N[i]? = some x := by rfl) (hl : Loc X.env.scope x := by first | exact Or.inl rfl | exact Or.inr rfl)
    (hs : swapsWith e (some (.Name x px)) pos.line X.env = pure false := by rfl) (hf : X.fn x = true ∨ X.env.scope.names.lookup x = some .local := by first | exact .inl rfl | exact .inr rfl) : PSD X W P (.Assign [.Name x px] e pos) (asgM (nameT i) m) := psd (ps_set hN hx hl h hs hf) (sns_asg ce (sng_name hi))
theorem ds_setO (i : Nat) {x : Str} {px : Pos} (hN : X.N.Nodup) (h : PED X W P e m) (hi : i ∉ P := by decide) (hx : X.N[i]? = some x := by rfl) (hl : Loc X.env.scope x := by first | exact Or.inl rfl | exact Or.inr rfl)
    (hs : swapsWith e (some (.Name x px)) pos.line X.env = pure false := by rfl) (hf : X.fn x = true ∨ X.env.scope.names.lookup x = some .local := by first | exact .inl rfl | exact .inr rfl) : PSD X W P (.Assign [.Name x px] e pos) (asgO i m) := psd (ps_set hN hx hl h hs hf) (sns_asgO hi ce)
theorem ds_asg (h : PED X W P e m) (hg : PGD X W P tg mt) (hs : swapsWithSole [tg] e pos.line X.env = pure false := by rfl) (hw : swappedStores [tg] e X.env = pure none := by rfl) (h1 : (assignEach [tg] X.env).map (·.2) = [assign tg X.env] := by rfl) : PSD X W P (.Assign [tg] e pos) (asgM mt m) := psd (ps_asg h hg hs hw (h1 := h1)) (sns_asg ce cg)
theorem ds_par (i j : Nat) {x y : Str} {px py pt : Pos} {kt k2 : Nat} {pt2 : Pos} (hc : X.calm = true) (hN : X.N.Nodup) (ha : PAD X W P [a, b] ms) (hi : i ∉ P := by decide) (hj : j ∉ P := by decide) (h1 : X.N[i]? = some x := by rfl) (h2 : X.N[j]? = some y := by rfl) (hij : i ≠ j := by decide)
    (hx : X.env.scope.names.lookup x = some .local := by rfl) (hy : X.env.scope.names.lookup y = some .local := by rfl) (hw : swappedStores [.Tuple [.Name x px, .Name y py] kt pt] (.Tuple [a, b] k2 pt2) X.env = pure (some [x, y]) := by rfl)
    (hs : swapsWithSole [.Tuple [.Name x px, .Name y py] kt pt] (.Tuple [a, b] k2 pt2) pos.line X.env = pure false := by rfl) : PSD X W P (.Assign [.Tuple [.Name x px, .Name y py] kt pt] (.Tuple [a, b] k2 pt2) pos) (parM i j ms) := psd (ps_par hc hN h1 h2 hij hx hy ha hw hs) (sns_par hi hj ca)
theorem ds_par3 (i j l : Nat) {x y z : Str} {px py pz pt : Pos} {kt k2 : Nat} {pt2 : Pos} (hc : X.calm = true) (hN : X.N.Nodup) (ha : PAD X W P [a, b, c] ms) (hi : i ∉ P := by decide) (hj : j ∉ P := by decide) (hl : l ∉ P := by decide) (h1 : X.N[i]? = some x := by rfl) (h2 : X.N[j]? = some y := by rfl) (h3 : X.N[l]? = some z := by rfl)
    (hij : i ≠ j := by decide) (hil : i ≠ l := by decide) (hjl : j ≠ l := by decide) (hx : X.env.scope.names.lookup x = some .local := by rfl) (hy : X.env.scope.names.lookup y = some .local := by rfl) (hz : X.env.scope.names.lookup z = some .local := by rfl)
    (hw : swappedStores [.Tuple [.Name x px, .Name y py, .Name z pz] kt pt] (.Tuple [a, b, c] k2 pt2) X.env = pure (some [x, y, z]) := by rfl)
    (hs : swapsWithSole [.Tuple [.Name x px, .Name y py, .Name z pz] kt pt] (.Tuple [a, b, c] k2 pt2) pos.line X.env = pure false := by rfl) : PSD X W P (.Assign [.Tuple [.Name x px, .Name y py, .Name z pz] kt pt] (.Tuple [a, b, c] k2 pt2) pos) (par3M i j l ms) :=
  psd (ps_par3 hc hN h1 h2 h3 hij hil hjl hx hy hz ha hw hs) (sns_par3 hi hj hl ca)
theorem ds_expr (h : PED X W P e m) (hs : swapsWith e none pos.line X.env = pure false := by rfl) : PSD X W P (.Expr e pos) (exprM m) := psd (ps_expr h hs) (sns_expr ce)
theorem ds_app (i : Nat) {x : Str} {px apos cpos : Pos} (h : PED X W P e m) (hN : X.N[i]? = some x := by rfl) (hv : Vis X.env.scope x := by first | exact Or.inl rfl | exact Or.inr (Or.inl rfl) | exact Or.inr (Or.inr rfl)) (hd : (x == ("__debug__" : Str)) = false := by decide) (hcd : (x == ("__classdict__" : Str)) = false := by decide)
    (hb : attributeBase (.Name x px) "append" X.env (eval (.Name x px) X.env) = eval (.Name x px) X.env := by rfl)
    (hfew : ((backTo cpos (starEach [e] X.env)).all (fun x => !x.1) && (backToKw cpos (keywordEach [] X.env)).all (fun x => x.1.isSome) && decide (([e] : List Expr).length + ([] : List Keyword).length + (if ([] : List Keyword).isEmpty then 0 else 1) < 30)) = true := by rfl)
    (hline : (apos.endLine == cpos.line) = true := by rfl) (hst : starEach (e :: []) X.env = (false, eval e X.env) :: starEach [] X.env := by rfl) (hpl : (backTo cpos (starEach [] X.env)).any (·.1) = false := by rfl)
    (hs : swapsWith (.Call (.Attribute (.Name x px) "append" apos) [e] [] cpos) none pos.line X.env = pure false := by rfl) : PSD X W P (.Expr (.Call (.Attribute (.Name x px) "append" apos) [e] [] cpos) pos) (appM i m) :=
  psd (ps_expr (pe_bm PySem.F.plainAttrs_list PySem.F.slot_list_append PySem.F.type_list_append mt_append (pe_var hN hv hd hcd) (pa_cons h pa_nil hst) hb hfew hline hst hpl) hs) (sns_app ce)
theorem ds_ret (h : PED X W P e m) : PSD X W P (.Return (some e) pos) (retM m) := psd (ps_ret h) (sns_ret ce)
theorem ds_retN : PSD X W P (.Return none pos) retNM := psd ps_retN sns_retN
theorem ds_if {sts2 : List Stmt} (hc : PTD X W P c mc) (ha : PBD X W P sts sa) (hb : PBD X W P sts2 sb) : PSD X W P (.If c sts sts2 pos) (ifM mc sa sb) := psd (ps_if hc ha hb) (sns_if ct cs cs)
theorem ds_pass : PSD X W P (.Pass pos) nextM := psd ps_pass sns_next
theorem ds_brk : PSD X W P (.Break pos) brkM := psd ps_break sns_brk
theorem ds_ct : PSD X W P (.Continue pos) ctM := psd ps_continue sns_ct
theorem ds_while {k : Nat} (fuel : Rh → Nat) (hh : Here X W k) (hc : PTD X W P c mc) (hb : PBD X W P sts sb) : PSD X W P (.While c sts [] pos) (whileM fuel mc sb) := psd (ps_while hh.pass hc hb) (sns_while fuel ct cs)
theorem ds_for {k : Nat} {iter : Expr} (hh : Here X W k) (hi : PID X W P tg iter mi) (hg : PGD X W P tg mt) (hb : PBD X W P sts sb) (hs : ∀ x, foldedSetIterable iter X.env x = pure x := by intro _; rfl) : PSD X W P (.For tg iter sts [] pos) (forM mi mt sb) :=
  psd (ps_for hh.pass hh.calm hi hg hb hs) (sns_for ci cg cs)
/-- y = [.. for ..], y a local -/
theorem ds_setLc {elt iter : Expr} {ifs : List Expr} {scope : Scope} {mtest melt : EM} {k : Nat} {py spos : Pos} {y : Str} (i : Nat) (own : List (Str × Nat)) (hh : Here X W k) (hN : X.N.Nodup) (hi : PID X W P tg iter mi) (ok : BlkOk X.N X.env.scope scope own)
    (hg : ∀ (s : Shared) (H : Hp) (C : Addr) (cl : List (Str × Addr)) (fp : List Addr), PVD (X.blk s H scope (compEnvC scope cl C X.env) fp) W0 P (own.map (·.2)) tg mt) (ht : ∀ (s : Shared) (H : Hp) (C : Addr) (cl : List (Str × Addr)) (fp : List Addr), PCD (X.blk s H scope (compEnvC scope cl C X.env) fp) W0 P ifs mtest)
    (he : ∀ (s : Shared) (H : Hp) (C : Addr) (cl : List (Str × Addr)) (fp : List Addr), PED (X.blk s H scope (compEnvC scope cl C X.env) fp) W0 P elt melt) (hiP : i ∉ P := by decide) (hy : X.N[i]? = some y := by rfl) (hyl : X.env.scope.names.lookup y = some .local := by rfl)
    (hsw : swapsWith (.ListComp elt [⟨tg, iter, ifs, 0⟩] scope pos) (some (.Name y py)) spos.line X.env = pure true := by exact sw_true rfl rfl rfl (by decide +kernel)) (hs : ∀ x, foldedSetIterable iter X.env x = pure x := by intro _; rfl) :
    PSD X W P (.Assign [.Name y py] (.ListComp elt [⟨tg, iter, ifs, 0⟩] scope pos) spos) (asgM (nameT i) (frzE (lcM mi mt mtest melt (own.map (·.2))))) :=
  psd (ps_setLc (g := canGv (gX X W0 P) (List.map (fun x : Str × Nat => x.2) own) mt) (tt := canT (gX X W0 P) mtest) (te := canE (gX X W0 P) melt) hh.calm hN hy hyl hsw hi ok hg ht he hs) (sns_asg (snd_frz (snd_lc ci cgv ct ce)) (sng_name hiP))
/-- raise C(e), C of one attribute -/
theorem ds_raise {k : Nat} {x f : Str} {p p2 : Pos} {C fI : Addr} {fd : FuncData} (T : XC X.prog X.w X.K X.mg X.base x f C fI fd) (hh : Here X W k) (hk : 2 ≤ k) (h : PED X W P e m) (hg : Gl X x := by rfl) (hdb : (x == ("__debug__" : Str)) = false := by decide)
    (he : starEach (e :: []) X.env = (false, eval e X.env) :: starEach [] X.env := by rfl) (hpl : (backTo p2 (starEach [] X.env)).any (·.1) = false := by rfl) : PSD X W P (.Raise (some (.Call (.Name x p) [e] [] p2)) none pos) (raiseM x f m) :=
  psd (ps_raise hh.calm hh.tk (pmk_oex T.oex T.iC T.tI T.fn (hh.room.mono hk) T.bd .nil pass0 hg T.gC (pa_cons h pa_nil he) hdb he hpl)) (sns_raise T.gC ce)
end
/-! ### a def -/
theorem fnAt_mono {P : Program} {w : World} {K : PySem.W.Frag} {mg : Str → Option Value} {base : Heap} {j k : Nat} {name : Str} {ps : List Str} {m : FM} (h : FnAt P w K mg base j name ps m) (hj : j ≤ k) : FnAt P w K mg base k name ps m := by
  obtain ⟨f, fd, a, b, c, d, F⟩ := h
  exact ⟨f, fd, a, b, c, d, F.mono hj⟩
/-- where a def of the text stands behind the top -/
structure DefAt (K : PySem.W.Frag) (mg : Str → Option Value) (name : Str) (st : Stmt) (ps : List Str) : Prop where
  ex : ∃ f fd, mg name = some (.ref f) ∧ Fun K name name st f fd ∧ Binds K fd ps [] ∧ BindsK fd ps
theorem fn_rule {P : Program} {w : World} {K : PySem.W.Frag} {mg : Str → Option Value} {base : Heap} {k : Nat} {name : Str} {st : Stmt} {N ps : List Str} {pin : List Nat} {m : SM} (Df : DefAt K mg name st ps) (S : FnScope N ps (defScope st))
    (body : ∀ (X : Cx) (W : WX), X.N = N → X.env.scope = defScope st → X.prog = P → X.w = w → X.K = K → X.mg = mg → X.base = base → Here X W k → True) : True := trivial
end DL
set_option Elab.async false
set_option linter.all false
set_option maxRecDepth 100000
set_option maxHeartbeats 2000000
set_option autoImplicit false
/-! DL10: defs by their bodies; a try that returns. -/
namespace DL
open PySem PySem.Spec PyProof.Rows L2

section
variable {P : Program} {w : World} {K : PySem.W.Frag} {mg : Str → Option Value} {base : Heap} {k : Nat} {name : Str} {st : Stmt} {N ps : List Str} {pin : List Nat} {m : SM}
/-- THE RULE of a def, by its name -/
theorem fnAt_of (Df : DefAt K mg name st ps) (S : FnScope N ps (defScope st))
    (body : ∀ (f : Addr) (cdv : Value) (A : Around) (outer : List Env) (s : Shared) (H : Hp) (E : XK), Here (cxOf (L2.CX P w) P w K mg base N name (defScope st) f cdv A outer s H E) (fun cls d _ H => E cls d H) k →
      PBD (cxOf (L2.CX P w) P w K mg base N name (defScope st) f cdv A outer s H E) (fun cls d _ H => E cls d H) pin (defBody st) m) : FnAt P w K mg base (k + 1) name ps (fnM pin N.length m) := by
  obtain ⟨f, fd, hm, Fn, b1, b2⟩ := Df.ex
  refine ⟨f, fd, hm, Fn.kp, b1, b2, fnd_body Fn S fun cdv A outer s H E room gd => ?_⟩
  exact ⟨_, body f cdv A outer s H E ⟨room, gd, takes_of rfl rfl rfl rfl, passes_of rfl, rfl⟩, cs⟩
theorem fnAt_stuck (Df : DefAt K mg name st ps) : FnAt P w K mg base k name ps fun _ => .stuck := by
  obtain ⟨f, fd, hm, Fn, b1, b2⟩ := Df.ex
  refine ⟨f, fd, hm, Fn.kp, b1, b2, ⟨fun vs H Q E h => ?_, fun A outer s H args us vs Q E _ _ _ _ _ h => ?_⟩⟩
  · obtain ⟨ss, F, hl, c, _⟩ := h
    have q := c.len
    simp only [List.length_map] at q
    omega
  · obtain ⟨ss, F, hl, c, hp⟩ := h
    exact hp.elim
end

/-! ### try: return E / except C as n: return [n.f] if isinstance(n, C1) and isinstance(n, T2) else [..] -/
/-- isinstance of a caught error that has a dict -/
def rIsX (K : PySem.W.Frag) (D a : Addr) (d : Option Addr) : List V → Hp → VK → Prop := fun xs H Q => ∃ (c : V) (cv : Value) (b : Bool) (dd : Addr) (fs : List (Str × V)), xs = [.ref a, c] ∧ (∀ u, RelV c u → u = cv) ∧ d = some dd ∧ H dd = some (.xd fs) ∧ PySem.W.kitOne K (.ref D) cv = some b ∧ Q (.bl b) H
theorem call_isX {X : Cx} {a D : Addr} {d : Option Addr} {oe : Obj} {pn : List (Addr × Obj)} (C : ExcC X.K D) (hz : Zc (.ref D) d oe) (hf : ∃ vs, oe.data = .fields vs) : CallR (X.suite a ((a, oe) :: pn)) (.builtin "isinstance") (rIsX X.K D a d) := by
  intro pins s σ H xs us Q I r h
  obtain ⟨c, cv, b, dd, fs, rfl, hcv, rfl, hH, e, q⟩ := h
  obtain ⟨u1, u2, rfl, rx, rt⟩ := vals2 r
  cases rx
  have ec := hcv _ rt
  subst ec
  obtain ⟨hget, _⟩ := I.pin (a, oe) (List.mem_append_left _ List.mem_cons_self)
  obtain ⟨vs, hv⟩ := hf
  have hx : ObjOk X.prog X.w H s.heap dd (.xd fs) := I.hok dd _ hH
  obtain ⟨mA, hns, _⟩ := hx
  obtain ⟨od, ho, _⟩ := lookIn_ns hns
  have J : PySem.W.InstAt s.heap a oe D (some od) := ⟨hget, hz.1, by unfold PySem.W.notCls; rw [hv] <;> rfl, by rw [hz.2]; exact ho⟩
  have cl : (PySem.W.clsIn X.K D).isSome = true := by
    obtain ⟨cd, hc, _⟩ := PySem.W.any_some C.hd
    rw [hc]; rfl
  exact PySem.W.kia_one (PySem.W.kitx_exc cl C.hg C.hk C.hs C.ha C.hn C.ht C.hm) I.kIn J e (fun z => nomatch z) fun tk => ⟨.bl b, H, I.kept (t' := tk) fun _ _ z => z, rfl, q⟩
/-- what the classes are: C, caught by its own name; C1 above it, T2 a built-in one above it -/
structure CatchC (K : PySem.W.Frag) (mg : Str → Option Value) (C C1 f : Str) (T2 : String) (T2n : Str) : Prop where
  ex : ∃ a a1 : Addr, mg C = some (.ref a) ∧ mg C1 = some (.ref a1) ∧ PySem.W.exmOne K (.ref a) (.ref a) = some true ∧ XfC K a ∧ ExcC K a ∧ PySem.W.findIn K (.ref a) f = some none ∧
    PySem.W.kitOne K (.ref a) (.ref a1) = some true ∧ PySem.W.kitOne K (.ref a) (.type T2) = some true
  m2 : mg T2n = none
  b2 : bootBuiltins T2n = some (.type T2)
  mi : mg "isinstance" = none
def tryA (i : Nat) (C f : Str) (m : EM) : SM := fun ρ => match m ρ with
  | .ok v ρ' => .ret v ρ'
  | .exc x ρ' => if i < ρ'.length then if x.cls = C then match x.fld with
      | some (g, d) => if g = f then .ret (.d (.list [d])) (ρ'.set i none) else .stuck
      | none => .stuck
    else .stuck
    else .stuck
  | .stuck => .stuck
theorem ds_tryA {X : Cx} {W : WX} {P : List Nat} {k : Nat} (i : Nat) {C C1 f n T2n : Str} {T2 : String} {e : Expr} {m : EM} {p0 p1 p2 p3 p4 p5 p6 p7 p8 p9 q0 q1 q2 q3 q4 q5 q6 pos pos' posh : Pos} {x1 : Nat} {z : Str} (T : CatchC X.K X.mg C C1 f T2 T2n)
    (hh : Here X W k) (hs : X.stack = X.env :: X.outer) (hf : X.env.frame = some X.env.locals) (hN : X.N.Nodup) (hi : X.N[i]? = some n) (hln : X.env.kindOf n = some .local)
    (hb : ∀ (W' : WX) (pn : List (Addr × Obj)) (xe : Value → Shared → Prop), Here (X.tr pn xe) W' k → PED (X.tr pn xe) W' P e m) (hiP : i ∉ P)
    (vis : Vis X.env.scope n) (hd : (n == ("__debug__" : Str)) = false := by decide) (hcd : (n == ("__classdict__" : Str)) = false := by decide)
    (gC : Gl X C := by rfl) (gC1 : Gl X C1 := by rfl) (gT2 : Gl X T2n := by rfl) (gI : Gl X "isinstance" := by rfl) (dC : (C == ("__debug__" : Str)) = false := by decide) (dC1 : (C1 == ("__debug__" : Str)) = false := by decide) (nT2 : T2n ≠ "__name__" := by decide) (dT2 : (T2n == ("__debug__" : Str)) = false := by decide)
    (s1 : starEach (.Name n p3 :: [.Name C1 p4]) X.env = (false, eval (.Name n p3) X.env) :: starEach [.Name C1 p4] X.env := by rfl) (s2 : starEach [.Name C1 p4] X.env = (false, eval (.Name C1 p4) X.env) :: starEach [] X.env := by rfl)
    (s3 : starEach (.Name n p7 :: [.Name T2n p8]) X.env = (false, eval (.Name n p7) X.env) :: starEach [.Name T2n p8] X.env := by rfl) (s4 : starEach [.Name T2n p8] X.env = (false, eval (.Name T2n p8) X.env) :: starEach [] X.env := by rfl)
    (l1 : (backTo p5 (starEach [.Name C1 p4] X.env)).any (·.1) = false := by rfl) (l2 : (backTo p9 (starEach [.Name T2n p8] X.env)).any (·.1) = false := by rfl)
    (ab : attributeBase (.Name n q1) f X.env (eval (.Name n q1) X.env) = eval (.Name n q1) X.env := by rfl) (s5 : starEach [.Attribute (.Name n q1) f q2] X.env = (false, eval (.Attribute (.Name n q1) f q2) X.env) :: starEach [] X.env := by rfl)
    (s6 : starEach [.Constant (.str z) x1 q4] X.env = (false, eval (.Constant (.str z) x1 q4) X.env) :: starEach [] X.env := by rfl)
    (t1 : ∀ whole, isTrue (.Call (.Name "isinstance" p2) [.Name n p3, .Name C1 p4] [] p5) X.env whole = (do let v ← whole; standAt p5; holding [v] (truthy v)) := by intro _; rfl)
    (t2 : ∀ whole, isTrue (.Call (.Name "isinstance" p6) [.Name n p7, .Name T2n p8] [] p9) X.env whole = (do let v ← whole; standAt p9; holding [v] (truthy v)) := by intro _; rfl) :
    PSD X W P (.Try [.Return (some e) p0] [.ExceptHandler (some (.Name C p1)) (some n) [.Return (some (.IfExp
      (.BoolOp .And [.Call (.Name "isinstance" p2) [.Name n p3, .Name C1 p4] [] p5, .Call (.Name "isinstance" p6) [.Name n p7, .Name T2n p8] [] p9] q0)
      (.List [.Attribute (.Name n q1) f q2] q3) (.List [.Constant (.str z) x1 q4] q5) q6)) pos'] posh] [] [] pos) (tryA i C f m) := by
  obtain ⟨a, a1, g1, g2, ex, xf, ec, nf, k1', k2'⟩ := T.ex
  have bdy := ps_try_as (X := X) (x := C) (n := n) (c := .ref a) (i := i) (body := [.Return (some e) p0]) (suite := []) (np := p1) (pos := pos) (pos' := posh) (Wout := fun _ _ _ _ => False)
    (b₀ := .Return (some (.IfExp
      (.BoolOp .And [.Call (.Name "isinstance" p2) [.Name n p3, .Name C1 p4] [] p5, .Call (.Name "isinstance" p6) [.Name n p7, .Name T2n p8] [] p9] q0)
      (.List [.Attribute (.Name n q1) f q2] q3) (.List [.Constant (.str z) x1 q4] q5) q6)) pos')
    (tb := fun W' => tRet (canE (gX X W' P) m))
    (ts := fun e0 cls d D σ H => cls = .ref a ∧ tRet (tIf (tAnd (tB (tCB (rIsX X.K a e0 d) (tCons (tVar i) (tCons (tC (.ref a1)) tNil)))) (tB (tCB (rIsX X.K a e0 d) (tCons (tVar i) (tCons (tC (.ty T2)) tNil)))))
      (tLst (tCons (tXf e0 cls d a f (tVar i)) tNil)) (tLst (tCons (tC (.str z)) tNil))) D σ H)
    hs hf hN hi hln ⟨gC, dC, .inl g1⟩ takes0 (fun W' pn xe tk ps => pss_one (ps_ret (hb W' pn xe ⟨hh.room, hh.gd, tk, ps, hh.calm⟩))) (fun e0 oe cls d pn hz hf' => ?_)
  · refine psd bdy ?_
    intro Dn σ ρ F H c hp
    refine ⟨ρ, F, c, ?_⟩
    unfold tryA at hp
    cases er : m ρ with
    | stuck => rw [er] at hp; exact hp.elim
    | ok v ρ' =>
      rw [er] at hp
      exact fun x F' H' c' s' iv => hp x σ F' H' c' s' iv
    | exc x ρ' =>
      rw [er] at hp
      dsimp only at hp
      by_cases hil : i < ρ'.length
      · rw [if_pos hil] at hp
        by_cases hx : x.cls = C
        · rw [if_pos hx] at hp
          cases ef : x.fld with
          | none => rw [ef] at hp; exact hp.elim
          | some gd =>
            obtain ⟨g0, d0⟩ := gd
            rw [ef] at hp
            dsimp only at hp
            by_cases hg : g0 = f
            · rw [if_pos hg] at hp
              subst hg
              intro cls dd F' H' c' s' ix
              obtain ⟨Ca, gm, rfl, fx⟩ := ix
              rw [hx] at gm
              have gm' : X.mg C = some (.ref Ca) := gm
              rw [g1] at gm'
              cases gm'
              rw [ef] at fx
              obtain ⟨b, v, rfl, hb', dv⟩ := fx
              refine ⟨true, ex, fun _ e0 he0 => ?_, fun q => Bool.noConfusion q⟩
              have hl : i < σ.length := by rw [c'.len]; exact hil
              have hv : (σ.set i (some (V.ref e0)))[i]? = some (some (.ref e0)) := List.getElem?_set_self hl
              have lk : List.lookup g0 [(g0, v)] = some v := by simp [List.lookup]
              refine ⟨rfl, _, hv, .ref a1, .ref a1, true, b, [(g0, v)], rfl, fun u ru => ru, rfl, hb', k1', true, rfl, iteT ?_⟩
              refine ⟨_, hv, .ty T2, .type T2, true, b, [(g0, v)], rfl, fun u ru => ru, rfl, hb', k2', true, rfl, iteT ?_⟩
              refine ⟨_, hv, rfl, rfl, b, [(g0, v)], v, rfl, hb', lk, by show 1 ≤ sizeLine; decide, fun p hn => ?_⟩
              have nw := News.new (u := .lst [v]) c'.ext hn
              have c2 := c'.news nw
              have s2 := s'.trans (Stp.news (K := X.K) (P := P) nw)
              have c3 : Con X.K σ (ρ'.set i none) _ _ := c2.less [i]
              exact hp (.ref p) σ _ _ c3 (s2.trans ⟨fun _ _ z => z, fun _ _ z _ => z, fun _ _ _ z _ => z, fun b z => .inl (owned_less (vs := [i]) z), fun b o z => ⟨o, z⟩, fun _ _ => rfl⟩) (.lst upd_same (.cons (dv_mono nw.fr d0 v dv) .nil))
            · rw [if_neg hg] at hp; exact hp.elim
        · rw [if_neg hx] at hp; exact hp.elim
      · rw [if_neg hil] at hp; exact hp.elim
  · refine ⟨fun pins s σ H D I ⟨hcl, h⟩ => ?_⟩
    subst hcl
    have ci := call_isX (X := X) (a := e0) (d := d) (oe := oe) (pn := pn) ec hz hf'
    have drv := pss_one (ps_ret (pos := pos') (pe_ifExp (pos := q6) (PW.pt (pw_and (pos := q0) (pt_val (pe_callB (p := p2) ci gI T.mi (by decide +kernel) (pa_cons (pe_var (pos := p3) hi vis hd hcd) (pa_cons (pe_glob (v := .ref a1) (pos := p4) gC1 g2 rfl dC1) pa_nil s2) s1) (he := s1) (hpl := l1)) t1)
        (pw_and1 (pt_val (pe_callB (p := p6) ci gI T.mi (by decide +kernel) (pa_cons (pe_var (pos := p7) hi vis hd hcd) (pa_cons (pe_bltn (pos := p8) (v := .ty T2) gT2 T.m2 T.b2 rfl nT2 dT2) pa_nil s4) s3) (he := s3) (hpl := l2)) t2))))
        (pe_lst (pos := q3) (pa_cons (pe_xf (pos := q2) xf nf hz hf' (pe_var (pos := q1) hi vis hd hcd) ab) pa_nil s5)) (pe_lst (pos := q5) (pa_cons (pe_str (pos := q4) (j := x1)) pa_nil s6))))
    exact drv.run pins s σ H D I h
end DL
set_option Elab.async false
set_option linter.all false
set_option maxRecDepth 100000
set_option maxHeartbeats 2000000
set_option autoImplicit false
/-! DL11: the law's end: a mirror that says True on every script. -/
namespace DL
open PySem PySem.Spec PyProof.Rows L2

/-- a script as data -/
def scr (ns : List Int) : D := .dict ((.none, .none) :: ns.map fun n => (.int n, .none))
/-- what is told of the heap at the law's entry: the script, where the module does not hold it -/
def hEntry (a : Addr) (o : Obj) (ns : List Int) (told : Bool) : Hp := fun b => if told = true ∧ b = a then some (.frz o (.lst (ns.map V.int))) else none
theorem hEntry_no {a : Addr} {o : Obj} {ns : List Int} {b : Addr} {told : Bool} (h : ¬ (told = true ∧ b = a)) : hEntry a o ns told b = none := if_neg h
theorem hEntry_yes {a : Addr} {o : Obj} {ns : List Int} : hEntry a o ns true a = some (.frz o (.lst (ns.map V.int))) := if_pos ⟨rfl, rfl⟩
theorem hEntry_inv {a : Addr} {o : Obj} {ns : List Int} {b : Addr} {told : Bool} {u : HO} (h : hEntry a o ns told b = some u) : told = true ∧ b = a ∧ u = .frz o (.lst (ns.map V.int)) := by
  by_cases c : told = true ∧ b = a
  · refine ⟨c.1, c.2, ?_⟩
    have z : hEntry a o ns told b = some (.frz o (.lst (ns.map V.int))) := if_pos c
    rw [z] at h
    exact (Option.some.inj h).symm
  · rw [hEntry_no c] at h
    cases h
theorem entry_call {P : Program} {w : World} {K : PySem.W.Frag} {mg mb : Str → Option Value} {k : Nat} {a fa : Addr} {x name : Str} {m : FM} {s : Shared} {vs : List Value} {ns : List Int} (KX : K.In s.heap) (g1 : s.heap.Ns mainGlobals mg) (g2 : s.heap.Ns builtinsNs mb)
    (g3 : ∀ y : Str, y ≠ "__name__" → mb y = bootBuiltins y) (g4 : s.heap.NoLimit) (g5 : s.gens = #[]) (ha : s.heap.get? a = some { cls := .type "list", data := .seq vs.toArray }) (hi : IntsAre vs ns) (hl : ns.length ≤ sizeLine) (room : Room k callerA)
    (hm : mg name = some (.ref fa)) (F : ∀ base : Heap, K.In base → base.Ns mainGlobals mg → FnAt P w K mg base k name [x] m) (truth : ∃ ss, m [.dat (scr ns)] = .ok (.d (.bool true)) ss) :
    codeAny (model P w) callerA (.call (.ref fa) ⟨[.ref a], []⟩) (fun r s' => r = .ok (.ret (.bool true)) ∧ OldK s.heap s'.heap ∧ s'.os = s.os ∧ AllBare s'.gens) s := by
  obtain ⟨o, ho⟩ : ∃ o : Obj, o = { cls := .type "list", data := .seq vs.toArray } := ⟨_, rfl⟩
  rw [← ho] at ha
  obtain ⟨told, ht⟩ : ∃ told : Bool, told = (K.lookup a).isNone := ⟨_, rfl⟩
  have rv := vals_ints hi
  have le := hi.length
  obtain ⟨H, hH⟩ : ∃ H : Hp, H = hEntry a o ns told := ⟨_, rfl⟩
  have ok0 : HOk P w H s.heap := fun b u e => by
    rw [hH] at e
    obtain ⟨_, rfl, rfl⟩ := hEntry_inv e
    refine ⟨ha, by rw [List.length_map]; exact hl, vs, _, rv, by rw [ha, ho]⟩
  have sq : SqL K H a (ns.map V.int) := by
    cases q : K.lookup a with
    | none =>
      have t1 : told = true := by rw [ht, q]; rfl
      refine .inl (.inr ⟨o, ?_⟩)
      rw [hH, t1]
      exact hEntry_yes
    | some u =>
      have e := KX a u q
      rw [ha] at e
      cases e
      exact .inr ⟨o, vs.toArray, _, q, by rw [ho], by rw [ho], by rw [ho], by rw [List.size_toArray, le]; exact hl, by simpa using rv⟩
  have noDict : ∀ {b : Addr} {u : Obj} {es : Array DictEntry} {ep : Nat}, s.heap.get? b = some u → u.data = .dict es ep → H b = none := fun {b u es ep} e d => by
    cases q : H b with
    | none => rfl
    | some v =>
      rw [hH] at q
      obtain ⟨_, rfl, _⟩ := hEntry_inv q
      rw [ha] at e
      cases e
      rw [ho] at d
      cases d
  have nsB : ∀ {b : Addr} {f : Str → Option Value}, s.heap.Ns b f → (hidT s.heap H).Ns b f := fun {b f} ⟨u, es, ep, e, d, r⟩ => ⟨u, es, ep, hidT_get e (noDict e d), d, r⟩
  have kinB : K.In (hidT s.heap H) := fun b u e => hidT_get (KX b u e) (by
    cases q : H b with
    | none => rfl
    | some v =>
      rw [hH] at q
      obtain ⟨t1, rfl, _⟩ := hEntry_inv q
      rw [ht, e] at t1
      cases t1)
  obtain ⟨f, fd, hf, _, bd, _, G⟩ := F _ kinB (nsB g1)
  rw [hm] at hf
  cases hf
  have b0 := bd s [.ref a] KX rfl
  rw [List.append_nil] at b0
  have e0 : Env0 P w K mg (hidT s.heap H) callerA [] s H := by
    refine ⟨rfl, ⟨kinB, nsB g1, ⟨mb, nsB g2, g3⟩, ?_⟩, fun b u e => of_hidT e, Nat.le_of_eq (hidT_size _ _), trivial, (fun b hb => nomatch (show b ∈ ([] : List Addr) from hb)), ok0, .of_eq g5⟩
    obtain ⟨mc, z1, z2⟩ := g4
    exact ⟨mc, nsB z1, z2⟩
  obtain ⟨ss, et⟩ := truth
  have asked : spD K mg 1 m [.ref a] H (fun v _ => v = .bl true) fun _ _ _ => False := by
    refine ⟨[.dat (scr ns)], H, rfl, con_args (fun _ _ z => z) (.cons (.rdl sq) .nil), ?_⟩
    rw [et]
    intro y F' H' c st iv
    have dv : Dv K F' y (.bool true) := iv
    cases dv
    rfl
  refine codeAny_mono (G.run callerA [] s H ⟨[.ref a], []⟩ [.ref a] [.ref a] _ _ room rfl e0 b0 (.cons rfl .nil) asked) fun r s' z => ?_
  match r, z with
  | .error e, z =>
    obtain ⟨_, _, _, _, _, _, _, _, _, _, _, _, no⟩ := z
    exact no.elim
  | .ok .next, z => exact False.elim z
  | .ok .brk, z => exact False.elim z
  | .ok .cont, z => exact False.elim z
  | .ok (.ret u), z =>
    obtain ⟨v, H', os, bare, un, ok', r', rfl⟩ := z
    obtain rfl : u = Value.bool true := r'
    refine ⟨rfl, OldK.of_keep fun b u e => ?_, os, bare⟩
    cases q : H b with
    | none => exact un.keep b u e q (fun z => nomatch (show b ∈ ([] : List Addr) from z)) (by simp)
    | some v =>
      have q' := q
      rw [hH] at q'
      obtain ⟨_, rfl, rfl⟩ := hEntry_inv q'
      rw [ha] at e
      cases e
      exact (ok' _ _ (un.frzs _ _ _ q)).1
/-- THE END -/
theorem walkD {l : PySem.W.OpenLaw} {n k : Nat} {q : Program} {loose : List Str} {XP : (Str → Option Value) → Heap → Prop} {YP : World → Heap → Prop} {d : DefRec} {K : Params → PySem.W.Frag} {x : Str} {m : FM}
    (hn : l.most = some n) (hn2 : n ≤ sizeLine) (hdf : d.params.defaults = []) (room : Room k callerA) (hY : ∀ (w : World) (h : Heap), YP w h → (K w.params).In h)
    (truth : ∀ ns : List Int, ns.length ≤ n → ∃ ss, m [.dat (scr ns)] = .ok (.d (.bool true)) ss)
    (F : ∀ (w : World) (mg : Str → Option Value) (h : Heap), (K w.params).In h → h.Ns mainGlobals mg → ∀ base : Heap, (K w.params).In base → base.Ns mainGlobals mg → FnAt l.prog w (K w.params) mg base k d.name [x] m) :
    PySem.W.WalkO q loose XP YP l.row.toRowW d [] (fun f vs => PySem.call f vs) := by
  refine Att.attach_call hn hdf fun w s₀ s₁ mg mb fa o pm cd doc a vs ns G Y ho hd hcd hmg hobj hints hlen hg => ?_
  have KX := hY w _ Y
  exact entry_call KX G.T.g G.T.b G.T.builtins G.T.nolimit hg hobj hints (Nat.le_trans hlen hn2) room hmg (F w mg _ KX G.T.g) (truth ns hlen)
end DL
set_option Elab.async false
set_option linter.all false
set_option maxRecDepth 100000
set_option maxHeartbeats 2000000
set_option autoImplicit false
/-! DL12: what the top has written, as facts of this layer. -/
namespace DL
open PySem PySem.Spec PyProof.Rows L2
section
variable {K : PySem.W.Frag} {h : Heap} {mg : Str → Option Value} (X : K.In h) (G : h.Ns mainGlobals mg)
include X G
theorem def_mk {x : Str} {st : Stmt} {ps : List Str} {f : Addr} {oc : Value} {od an : Option Addr} {osl : Array (Option Value)} {kV doc pm cdv ct : Value} (a : PySem.W.nsIn K mainGlobals x = some (some (.ref f)))
    (l : K.lookup f = some ⟨oc, od, .func (PySem.W.fnOf x x (defArgs st) (defBody st) (defScope st) .none kV doc pm an cdv ct), osl⟩) (c : PySem.W.codeIn K cdv x = true) (k : PySem.W.keepIn K (.ref f) = true)
    (b1 : ∀ (kV doc pm : Value) (an : Option Addr) (cdv ct : Value) (us : List Value), us.length = ps.length → bindArgs (PySem.W.fnOf x x (defArgs st) (defBody st) (defScope st) .none kV doc pm an cdv ct) ⟨us, []⟩ = pure (ps.zip us))
    (b2 : ∀ (kV doc pm : Value) (an : Option Addr) (cdv ct : Value) (us : List Value), us.length = ps.length → bindArgs (PySem.W.fnOf x x (defArgs st) (defBody st) (defScope st) .none kV doc pm an cdv ct) ⟨[], ps.zip us⟩ = pure (ps.zip us)) : DefAt K mg x st ps := by
  have F := fun_mk (st := st) l c k
  exact ⟨f, _, PySem.W.mg_of X G a, F, F.binds b1, fun s us hl => .of_eq (b2 _ _ _ _ _ _ us hl)⟩
theorem glob_str {x z : Str} {t : Nat} (a : PySem.W.nsIn K mainGlobals x = some (some (.str z t))) : GlobD K mg x (.str z) := ⟨.str z, _, PySem.W.mg_of X G a, ⟨t, rfl⟩, fun _ => .str z⟩
theorem glob_int {x : Str} {z : Int} {t : Nat} (a : PySem.W.nsIn K mainGlobals x = some (some (.int z t))) : GlobD K mg x (.int z) := ⟨.int z, _, PySem.W.mg_of X G a, ⟨t, rfl⟩, fun _ => .int z⟩
omit X G in
theorem vals_strs : ∀ zs : List (Str × Nat), Vals (zs.map fun p => V.str p.1) (zs.map fun p => Value.str p.1 p.2)
  | [] => .nil
  | _ :: r => .cons ⟨_, rfl⟩ (vals_strs r)
omit X G in
theorem dvs_strsT {F : Hp} : ∀ zs : List (Str × Nat), DvAll K F (zs.map fun p => V.str p.1) (zs.map fun p => PyData.str p.1)
  | [] => .nil
  | _ :: r => .cons (.str _) (dvs_strsT r)
theorem glob_tups {x : Str} {q : Addr} {dq : Option Addr} {its : Array Value} {nq : Nat} {sq : Array (Option Value)} {d : List D} (a : PySem.W.nsIn K mainGlobals x = some (some (.ref q))) (l : K.lookup q = some ⟨.type "tuple", dq, .seq its nq, sq⟩) (zs : List (Str × Nat))
    (hi : its = (zs.map fun p => Value.str p.1 p.2).toArray) (hd : d = zs.map fun p => PyData.str p.1) (hz : zs.length ≤ 1000) : GlobD K mg x (.tuple d) := by
  subst hi
  subst hd
  refine ⟨.ref q, _, PySem.W.mg_of X G a, rfl, fun F => .tup (xs := zs.map fun p => V.str p.1) (.inr ⟨_, _, nq, l, rfl, rfl, ?_, ?_⟩) (dvs_strsT zs)⟩
  · rw [List.size_toArray, List.length_map]
    exact Nat.le_of_lt (small1000 hz)
  · exact vals_strs zs
theorem xc_mk {x qual f : Str} {st : Stmt} {C fI : Addr} {fd : FuncData} (a : PySem.W.nsIn K mainGlobals x = some (some (.ref C))) (T : OexC K C) (iC : PySem.W.findIn K (.ref C) "__init__" = some (some (.ref fI))) (tI : PySem.W.typeIn K (.ref fI) = some (.type "function"))
    (noF : PySem.W.findIn K (.ref C) f = some none) (Fn : Fun K "__init__" qual st fI fd) (S : FnScope [("self" : Str), f] [("self" : Str), f] (defScope st))
    (b1 : ∀ (kV doc pm : Value) (an : Option Addr) (cdv ct : Value) (us : List Value), us.length = ([("self" : Str), f] : List Str).length → bindArgs (PySem.W.fnOf "__init__" qual (defArgs st) (defBody st) (defScope st) .none kV doc pm an cdv ct) ⟨us, []⟩ = pure (([("self" : Str), f] : List Str).zip us))
    (body : ∀ (P : Program) (w : World) (base : Heap) (cdv : Value) (A : Around) (outer : List Env) (s : Shared) (H : Hp) (E : XK), PSs (cxOf CX0 P w K mg base [("self" : Str), f] qual (defScope st) fI cdv A outer s H E).nox (defBody st) (tOst K f (tVar 0) (tVar 1))) : ∃ C fI fd, ∀ P w base, XC P w K mg base x f C fI fd := by
  refine ⟨C, fI, fd, fun P w base => ⟨PySem.W.mg_of X G a, T, iC, tI, noF, Fn.ok S (fun vs H Q E z => ?_) fun cdv A outer s H vs Q E hr z => ?_, Fn.binds b1⟩⟩
  · obtain ⟨_, _, rfl, _⟩ := z
    rfl
  · exact ⟨_, body P w base cdv A outer s H E, pure_init T noF z⟩
end
/-- a class is caught by its own name -/
theorem exm_me {K : PySem.W.Frag} {c : Addr} (a : PySem.W.subIn K (.ref c) (.type "BaseException") = some true) (b : PySem.W.isClsIn K c = true) (d : PySem.W.typeIn K (.ref c) = some (.type "type")) (e : PySem.W.subIn K (.ref c) (.ref c) = some true) : PySem.W.exmOne K (.ref c) (.ref c) = some true := by
  have b' : (PySem.W.clsIn K c).isSome = true := b
  unfold PySem.W.exmOne PySem.W.kitCls
  rw [if_pos (by rw [a]; rfl)]
  dsimp only
  rw [if_pos (by rw [b', d]; rfl)]
  exact e
theorem kit_own {K : PySem.W.Frag} {c b : Addr} (i : PySem.W.isClsIn K b = true) (d : PySem.W.typeIn K (.ref b) = some (.type "type")) (e : PySem.W.subIn K (.ref c) (.ref b) = some true) : PySem.W.kitOne K (.ref c) (.ref b) = some true := by
  have i' : (PySem.W.clsIn K b).isSome = true := i
  unfold PySem.W.kitOne
  split
  · rfl
  · unfold PySem.W.kitCls
    dsimp only
    rw [if_pos (by rw [i', d]; rfl)]
    exact e
theorem kit_blt {K : PySem.W.Frag} {c : Addr} {T : String} (i : PySem.W.kitMeta T = true) (e : PySem.W.subIn K (.ref c) (.type T) = some true) : PySem.W.kitOne K (.ref c) (.type T) = some true := by
  unfold PySem.W.kitOne
  split
  · rfl
  · unfold PySem.W.kitCls
    dsimp only
    rw [if_pos i]
    exact e
end DL
set_option Elab.async false
set_option linter.all false
set_option maxRecDepth 100000
set_option maxHeartbeats 2000000
set_option autoImplicit false
/-! WP: what a mirror answers, read backwards. -/
namespace DL
open PySem PySem.Spec PyProof.Rows L2

def oP {α : Type} (o : Option α) (P : α → Prop) : Prop := match o with
  | some a => P a
  | none => False
@[simp] theorem oP_some {α : Type} {a : α} {P : α → Prop} : oP (some a) P ↔ P a := Iff.rfl
@[simp] theorem oP_none {α : Type} {P : α → Prop} : oP none P ↔ False := Iff.rfl
@[simp] theorem oP_if {α : Type} {c : Prop} [Decidable c] {a : α} {P : α → Prop} : oP (if c then some a else none) P ↔ c ∧ P a := by
  by_cases h : c <;> simp [h]
@[simp] theorem oP_map {α β : Type} {f : α → β} {o : Option α} {P : β → Prop} : oP (o.map f) P ↔ oP o fun a => P (f a) := by cases o <;> simp
@[simp] theorem oP_bind {α β : Type} {f : α → Option β} {o : Option α} {P : β → Prop} : oP (o.bind f) P ↔ oP o fun a => oP (f a) P := by cases o <;> simp
theorem oP_of {α : Type} {o : Option α} {a : α} {P : α → Prop} (h : o = some a) (p : P a) : oP o P := by rw [h]; exact p
def vD (v : Val) (P : D → Prop) : Prop := match v with
  | .d d => P d
  | .l _ => False
@[simp] theorem vD_d {d : D} {P : D → Prop} : vD (.d d) P ↔ P d := Iff.rfl
@[simp] theorem vD_l {d : List D} {P : D → Prop} : vD (.l d) P ↔ False := Iff.rfl
def dB (v : Val) (P : Bool → Prop) : Prop := match v with
  | .d (.bool b) => P b
  | _ => False
@[simp] theorem dB_b {b : Bool} {P : Bool → Prop} : dB (.d (.bool b)) P ↔ P b := Iff.rfl
def dI (v : Val) (P : Int → Prop) : Prop := match v with
  | .d (.int b) => P b
  | _ => False
@[simp] theorem dI_i {b : Int} {P : Int → Prop} : dI (.d (.int b)) P ↔ P b := Iff.rfl
def wE (m : EM) (ρ : Rh) (Φ : Val → Rh → Prop) : Prop := match m ρ with
  | .ok v ρ' => Φ v ρ'
  | _ => False
def wL (m : LM) (ρ : Rh) (Φ : List Val → Rh → Prop) : Prop := match m ρ with
  | .ok v ρ' => Φ v ρ'
  | _ => False
def wO (m : Rh → RO) (ρ : Rh) (Φ : Option Int → Rh → Prop) : Prop := match m ρ with
  | .ok v ρ' => Φ v ρ'
  | _ => False
def wI (m : Rh → RI) (ρ : Rh) (Φ : List D → Rh → Prop) : Prop := match m ρ with
  | .ok v ρ' => Φ v ρ'
  | _ => False
def wS (m : SM) (ρ : Rh) (Ψ : Out → Prop) : Prop := Ψ (m ρ)
def pF (f : FM) (ss : List Slot) (Φ : Val → List Slot → Prop) : Prop := match f ss with
  | .ok v s => Φ v s
  | _ => False
def rD (ρ : Rh) (i : Nat) (P : D → Prop) : Prop := match ρ[i]? with
  | some (some (.dat d)) => P d
  | _ => False
def rOw (ρ : Rh) (i : Nat) (P : List D → Prop) : Prop := match ρ[i]? with
  | some (some (.own d)) => P d
  | _ => False
@[simp] theorem rD_0 {ρ : Rh} {d : D} {P : D → Prop} : rD (some (.dat d) :: ρ) 0 P ↔ P d := Iff.rfl
@[simp] theorem rD_s {ρ : Rh} {x : Option Slot} {i : Nat} {P : D → Prop} : rD (x :: ρ) (i + 1) P ↔ rD ρ i P := by unfold rD; rw [List.getElem?_cons_succ]
@[simp] theorem rO_0 {ρ : Rh} {d : List D} {P : List D → Prop} : rOw (some (.own d) :: ρ) 0 P ↔ P d := Iff.rfl
@[simp] theorem rO_s {ρ : Rh} {x : Option Slot} {i : Nat} {P : List D → Prop} : rOw (x :: ρ) (i + 1) P ↔ rOw ρ i P := by unfold rOw; rw [List.getElem?_cons_succ]
section
variable {ρ : Rh} {Φ : Val → Rh → Prop} {ma mb mc m : EM} {ms : LM} {i n : Nat}
@[simp] theorem wE_con {d : D} : wE (conM d) ρ Φ ↔ Φ (.d d) ρ := Iff.rfl
@[simp] theorem wE_var : wE (varM i) ρ Φ ↔ rD ρ i fun d => Φ (.d d) ρ := by
  unfold wE varM rD
  rcases h : ρ[i]? with _ | _ | d | o <;> simp
theorem wE_bind {f : Val → EM} : wE (bindE m f) ρ Φ ↔ wE m ρ fun v ρ' => wE (f v) ρ' Φ := by
  unfold wE bindE
  cases m ρ <;> rfl
theorem wE_bindL {f : List Val → EM} : wE (bindL ms f) ρ Φ ↔ wL ms ρ fun v ρ' => wE (f v) ρ' Φ := by
  unfold wE wL bindL
  cases ms ρ <;> rfl
theorem wE_bindO {mo : Rh → RO} {f : Option Int → EM} : wE (bindO mo f) ρ Φ ↔ wO mo ρ fun v ρ' => wE (f v) ρ' Φ := by
  unfold wE wO bindO
  cases mo ρ <;> rfl
theorem wE_lift {o : Option D} : wE (liftD o) ρ Φ ↔ oP o fun d => Φ (.d d) ρ := by
  cases o <;> rfl
theorem wE_st : wE (fun _ => .stuck) ρ Φ ↔ False := Iff.rfl
@[simp] theorem wE_op2 {g : D → D → Option D} : wE (op2 g ma mb) ρ Φ ↔ wE ma ρ fun x ρ1 => wE mb ρ1 fun y ρ2 => vD x fun x => vD y fun y => oP (g x y) fun d => Φ (.d d) ρ2 := by
  unfold op2
  rw [wE_bind]
  apply iff_of_eq
  congr 1; funext x ρ1
  rw [wE_bind]
  congr 1; funext y ρ2
  cases x <;> cases y <;> simp [wE_lift, wE_st]
@[simp] theorem wE_op1 {g : D → Option D} : wE (op1 g ma) ρ Φ ↔ wE ma ρ fun x ρ1 => vD x fun x => oP (g x) fun d => Φ (.d d) ρ1 := by
  unfold op1
  rw [wE_bind]
  apply iff_of_eq
  congr 1; funext x ρ1
  cases x <;> simp [wE_lift, wE_st]
@[simp] theorem wE_opL {g : List D → Option D} : wE (opL g ms) ρ Φ ↔ wL ms ρ fun vs ρ1 => oP (datL vs) fun ds => oP (g ds) fun d => Φ (.d d) ρ1 := by
  unfold opL
  rw [wE_bindL]
  apply iff_of_eq
  congr 1; funext x ρ1
  simp [wE_lift]
@[simp] theorem datL_nil : datL [] = some [] := rfl
@[simp] theorem datL_d {d : D} {r : List Val} : datL (.d d :: r) = (datL r).map (d :: ·) := rfl
@[simp] theorem wL_nil {Φ : List Val → Rh → Prop} : wL nilL ρ Φ ↔ Φ [] ρ := Iff.rfl
@[simp] theorem wL_cons {Φ : List Val → Rh → Prop} : wL (consL m ms) ρ Φ ↔ wE m ρ fun v ρ1 => wL ms ρ1 fun vs ρ2 => Φ (v :: vs) ρ2 := by
  unfold wL wE consL
  cases m ρ with
  | ok v ρ1 => dsimp only; cases ms ρ1 <;> rfl
  | exc x ρ1 => rfl
  | stuck => rfl
@[simp] theorem wE_and : wE (andM ma mb) ρ Φ ↔ wE ma ρ fun v ρ1 => dB v fun b => if b = true then wE mb ρ1 Φ else Φ (.d (.bool false)) ρ1 := by
  unfold andM
  rw [wE_bind]
  apply iff_of_eq
  congr 1; funext x ρ1
  unfold dB
  split <;> simp_all [wE_con, wE_st]
@[simp] theorem wE_or : wE (orM ma mb) ρ Φ ↔ wE ma ρ fun v ρ1 => dB v fun b => if b = true then Φ (.d (.bool true)) ρ1 else wE mb ρ1 Φ := by
  unfold orM
  rw [wE_bind]
  apply iff_of_eq
  congr 1; funext x ρ1
  unfold dB
  split <;> simp_all [wE_con, wE_st]
@[simp] theorem wE_not : wE (notM ma) ρ Φ ↔ wE ma ρ fun v ρ1 => dB v fun b => Φ (.d (.bool (!b))) ρ1 := by
  unfold notM
  rw [wE_bind]
  apply iff_of_eq
  congr 1; funext x ρ1
  unfold dB
  split <;> simp_all [wE_con, wE_st]
@[simp] theorem wE_ite : wE (iteM mc ma mb) ρ Φ ↔ wE mc ρ fun v ρ1 => dB v fun b => if b = true then wE ma ρ1 Φ else wE mb ρ1 Φ := by
  unfold iteM
  rw [wE_bind]
  apply iff_of_eq
  congr 1; funext x ρ1
  unfold dB
  split <;> simp_all [wE_st]
@[simp] theorem wE_lstO : wE (lstO ms) ρ Φ ↔ wL ms ρ fun vs ρ1 => oP (datL vs) fun ds => ds.length ≤ 100000 ∧ Φ (.l ds) ρ1 := by
  unfold lstO
  rw [wE_bindL]
  apply iff_of_eq
  congr 1; funext x ρ1
  cases datL x with
  | none => simp [wE_st]
  | some ds =>
    unfold wE
    by_cases h : ds.length ≤ 100000 <;> simp [h]
def frV : Val → Val
  | .l ds => .d (.list ds)
  | .d d => .d d
@[simp] theorem frV_l {ds : List D} : frV (.l ds) = .d (.list ds) := rfl
@[simp] theorem frV_d {d : D} : frV (.d d) = .d d := rfl
@[simp] theorem wE_frz : wE (frzE m) ρ Φ ↔ wE m ρ fun v ρ1 => Φ (frV v) ρ1 := by
  unfold wE frzE
  cases m ρ with
  | ok v ρ1 => cases v <;> rfl
  | exc x ρ1 => rfl
  | stuck => rfl
@[simp] theorem wO_no {Φ : Option Int → Rh → Prop} : wO noPartM ρ Φ ↔ Φ none ρ := Iff.rfl
@[simp] theorem wO_part {Φ : Option Int → Rh → Prop} : wO (partM m) ρ Φ ↔ wE m ρ fun v ρ1 => dI v fun i => Φ (some i) ρ1 := by
  unfold wO wE partM
  cases m ρ with
  | ok v ρ1 =>
    cases v with
    | l ds => rfl
    | d d => cases d <;> rfl
  | exc x ρ1 => rfl
  | stuck => rfl
@[simp] theorem wE_sl {lo hi : Rh → RO} : wE (slM m lo hi) ρ Φ ↔ wE m ρ fun v ρ1 => vD v fun x => wO lo ρ1 fun l ρ2 => wO hi ρ2 fun h ρ3 => oP (gSl x l h) fun d => Φ (.d d) ρ3 := by
  unfold slM
  rw [wE_bind]
  apply iff_of_eq
  congr 1; funext x ρ1
  cases x <;> simp [wE_lift, wE_st, wE_bindO]
@[simp] theorem wE_ch {g1 g2 : D → D → Option D} : wE (chM g1 g2 ma mb mc) ρ Φ ↔ wE ma ρ fun x ρ1 => wE mb ρ1 fun y ρ2 => vD x fun x => vD y fun y => oP (g1 x y) fun t => dB (.d t) fun t => if t = true then wE mc ρ2 fun z ρ3 => vD z fun z => oP (g2 y z) fun d => Φ (.d d) ρ3 else Φ (.d (.bool false)) ρ2 := by
  unfold chM
  rw [wE_bind]
  apply iff_of_eq
  congr 1; funext x ρ1
  rw [wE_bind]
  congr 1; funext y ρ2
  cases x <;> cases y <;> simp [wE_st]
  rename_i x y
  cases g1 x y with
  | none => simp [wE_st]
  | some t =>
    cases t <;> simp [wE_st, dB]
    rename_i t
    cases t <;> simp [wE_con, wE_bind]
    apply iff_of_eq
    congr 1; funext z ρ3
    cases z <;> simp [wE_lift, wE_st]
def dS (v : Val) (P : Str → Prop) : Prop := match v with
  | .d (.str b) => P b
  | _ => False
@[simp] theorem dS_s {b : Str} {P : Str → Prop} : dS (.d (.str b)) P ↔ P b := Iff.rfl
@[simp] theorem wE_strM {g : D → D → Option D} {mo : EM} : wE (strM g mo m) ρ Φ ↔ wE mo ρ fun a ρ1 => dS a fun z => wE m ρ1 fun y ρ2 => vD y fun y => oP (g (.str z) y) fun d => Φ (.d d) ρ2 := by
  unfold strM
  rw [wE_bind]
  apply iff_of_eq
  congr 1; funext x ρ1
  unfold dS
  split <;> simp_all [wE_st, wE_bind]
  apply iff_of_eq
  congr 1; funext y ρ2
  cases y <;> simp [wE_lift, wE_st]
@[simp] theorem wE_disp {kvs : List (Str × Str)} : wE (dispM kvs m) ρ Φ ↔ wE m ρ fun a ρ1 => dS a fun k => oP (lookS kvs k) fun z => Φ (.d (.str z)) ρ1 := by
  unfold dispM
  rw [wE_bind]
  apply iff_of_eq
  congr 1; funext x ρ1
  unfold dS
  split <;> simp_all [wE_st]
  rename_i k
  unfold wE
  cases lookS kvs k <;> simp
@[simp] theorem wE_ixO : wE (ixO i m) ρ Φ ↔ rOw ρ i fun _ => wE m ρ fun v ρ1 => dI v fun k => rOw ρ1 i fun ds => oP (atI ds k) fun d => Φ (.d d) ρ1 := by
  rcases h : ρ[i]? with _ | _ | d | o
  · simp [wE, ixO, rOw, h]
  · simp [wE, ixO, rOw, h]
  · simp [wE, ixO, rOw, h]
  · have e : wE (ixO i m) ρ Φ ↔ wE (bindE m fun v => match v with
        | .d (.int k) => fun ρ' => match ρ'[i]? with
          | some (some (.own ds)) => match atI ds k with
            | some d => .ok (.d d) ρ'
            | none => .stuck
          | _ => .stuck
        | _ => fun _ => .stuck) ρ Φ := by unfold wE; rw [show ixO i m ρ = _ from by unfold ixO; rw [h]] <;> exact Iff.rfl
    rw [e, wE_bind, show rOw ρ i (fun _ => wE m ρ fun v ρ1 => dI v fun k => rOw ρ1 i fun ds => oP (atI ds k) fun d => Φ (.d d) ρ1) = (wE m ρ fun v ρ1 => dI v fun k => rOw ρ1 i fun ds => oP (atI ds k) fun d => Φ (.d d) ρ1) from by unfold rOw; rw [h]]
    apply iff_of_eq
    congr 1; funext v ρ1
    cases v with
    | l ds => rfl
    | d d =>
      cases d <;> try rfl
      rename_i k
      show wE _ ρ1 Φ = rOw ρ1 i _
      unfold wE rOw
      dsimp only
      rcases h1 : ρ1[i]? with _ | _ | d | o
      · rfl
      · rfl
      · rfl
      · dsimp only
        cases atI o k <;> rfl
@[simp] theorem wE_empty : wE emptyD ρ Φ ↔ Φ (.d (.dict [])) ρ := Iff.rfl
/-! calls -/
@[simp] theorem wE_callD {f : FM} : wE (callD n f ms) ρ Φ ↔ wL ms ρ fun vs ρ1 => oP (datL vs) fun ds => ds.length = n ∧ pF f (ds.map .dat) fun v _ => Φ v ρ1 := by
  unfold wE wL callD
  cases ms ρ with
  | ok vs ρ1 =>
    dsimp only
    cases datL vs with
    | none => simp
    | some ds =>
      by_cases h : ds.length = n
      · simp only [h, if_true, oP_some, true_and, pF]
        cases f (ds.map .dat) <;> simp
      · simp [h]
  | exc x ρ1 => rfl
  | stuck => rfl
def bK (i : Nat) (ρ1 : Rh) (Φ : Val → Rh → Prop) (v : Val) (ss : List Slot) : Prop := match ss with
  | .own os' :: r => allDat r = true ∧ Φ v (ρ1.set i (some (.own os')))
  | _ => False
@[simp] theorem bK_own {ρ1 : Rh} {v : Val} {os : List D} {r : List Slot} : bK i ρ1 Φ v (.own os :: r) ↔ allDat r = true ∧ Φ v (ρ1.set i (some (.own os))) := Iff.rfl
@[simp] theorem allDat_nil : allDat [] = true := rfl
@[simp] theorem allDat_d {d : D} {r : List Slot} : allDat (.dat d :: r) = allDat r := by simp [allDat]
@[simp] theorem wE_callO {f : FM} : wE (callO n f i ms) ρ Φ ↔ rOw ρ i fun _ => wL ms ρ fun vs ρ1 => oP (datL vs) fun ds => rOw ρ1 i fun os => ds.length + 1 = n ∧ pF f (.own os :: ds.map .dat) (bK i ρ1 Φ) := by
  rcases h : ρ[i]? with _ | _ | d | o
  · simp [wE, callO, rOw, h]
  · simp [wE, callO, rOw, h]
  · simp [wE, callO, rOw, h]
  · unfold wE wL rOw callO
    rw [h]
    dsimp only
    cases ms ρ with
    | exc x ρ1 => rfl
    | stuck => rfl
    | ok vs ρ1 =>
      dsimp only
      cases datL vs with
      | none => rfl
      | some ds =>
        rw [oP_some]
        dsimp only
        rcases h1 : ρ1[i]? with _ | _ | d | os
        · simp
        · simp
        · simp
        · dsimp only
          by_cases hn : ds.length + 1 = n
          · rw [if_pos hn]
            unfold pF
            cases f (.own os :: ds.map .dat) with
            | stuck => simp [backO]
            | exc x ss =>
              rcases ss with _ | ⟨_ | _, r⟩
              · simp [backO]
              · simp [backO]
              · rename_i os'
                by_cases ha : allDat r = true <;> simp [backO, ha]
            | ok v ss =>
              rcases ss with _ | ⟨_ | _, r⟩
              · simp [backO, bK]
              · simp [backO, bK]
              · rename_i os'
                by_cases ha : allDat r = true <;> simp [backO, ha, hn]
          · simp [hn]
end
end DL
set_option Elab.async false
set_option linter.all false
set_option maxRecDepth 100000
set_option maxHeartbeats 2000000
set_option autoImplicit false
/-! WP2: statements, loops, defs, read backwards. -/
namespace DL
open PySem PySem.Spec PyProof.Rows L2
section
variable {ρ : Rh} {Ψ : Out → Prop} {Φ : Val → Rh → Prop} {a b : SM} {m mc : EM} {ms : LM} {mt : TGM} {i j k n : Nat}
def seqK (b : SM) (Ψ : Out → Prop) (o : Out) : Prop := match o with
  | .nx ρ' => wS b ρ' Ψ
  | o => Ψ o
@[simp] theorem seqK_nx : seqK b Ψ (.nx ρ) ↔ wS b ρ Ψ := Iff.rfl
@[simp] theorem seqK_ret {v : Val} : seqK b Ψ (.ret v ρ) ↔ Ψ (.ret v ρ) := Iff.rfl
@[simp] theorem seqK_exc {x : Xn} : seqK b Ψ (.exc x ρ) ↔ Ψ (.exc x ρ) := Iff.rfl
@[simp] theorem wS_seq : wS (seqM a b) ρ Ψ ↔ wS a ρ (seqK b Ψ) := by
  unfold wS seqM seqK
  cases a ρ <;> rfl
@[simp] theorem wS_next : wS nextM ρ Ψ ↔ Ψ (.nx ρ) := Iff.rfl
theorem wS_bind {f : Val → SM} (h : wE m ρ fun v ρ' => wS (f v) ρ' Ψ) : wS (bindS m f) ρ Ψ := by
  unfold wS bindS
  unfold wE at h
  cases e : m ρ with
  | ok v ρ1 => rw [e] at h; exact h
  | exc x ρ1 => rw [e] at h; exact h.elim
  | stuck => rw [e] at h; exact h.elim
theorem wE_mono {Φ Φ' : Val → Rh → Prop} (h : wE m ρ Φ) (k : ∀ v ρ', Φ v ρ' → Φ' v ρ') : wE m ρ Φ' := by
  unfold wE at *
  cases e : m ρ <;> simp_all
theorem wS_mono {Ψ Ψ' : Out → Prop} (h : wS a ρ Ψ) (k : ∀ o, Ψ o → Ψ' o) : wS a ρ Ψ' := k _ h
theorem pF_mono {f : FM} {ss : List Slot} {Φ Φ' : Val → List Slot → Prop} (h : pF f ss Φ) (k : ∀ v ρ', Φ v ρ' → Φ' v ρ') : pF f ss Φ' := by
  unfold pF at *
  cases e : f ss <;> simp_all
theorem ws_asg (h : wE m ρ fun v ρ1 => vD v fun d => oP (mt d ρ1) fun ρ2 => Ψ (.nx ρ2)) : wS (asgM mt m) ρ Ψ := by
  refine wS_bind (wE_mono h fun v ρ' q => ?_)
  cases v with
  | l d => exact q.elim
  | d d =>
    unfold wS
    dsimp only
    rw [vD_d] at q
    cases e : mt d ρ' with
    | none => rw [e] at q; exact q.elim
    | some r => rw [e] at q; exact q
def lV (v : Val) (P : List D → Prop) : Prop := match v with
  | .l d => P d
  | .d _ => False
@[simp] theorem lV_l {d : List D} {P : List D → Prop} : lV (.l d) P ↔ P d := Iff.rfl
@[simp] theorem lV_d {d : D} {P : List D → Prop} : lV (.d d) P ↔ False := Iff.rfl
theorem ws_asgO (h : wE m ρ fun v ρ1 => lV v fun ds => Ψ (.nx (ρ1.set i (some (.own ds))))) : wS (asgO i m) ρ Ψ := by
  refine wS_bind (wE_mono h fun v ρ' q => ?_)
  cases v with
  | l d => exact q
  | d d => exact False.elim q
theorem ws_expr (h : wE m ρ fun v ρ1 => Ψ (.nx ρ1)) : wS (exprM m) ρ Ψ := wS_bind h
theorem ws_ret (h : wE m ρ fun v ρ1 => Ψ (.ret v ρ1)) : wS (retM m) ρ Ψ := wS_bind h
theorem ws_if (h : wE mc ρ fun v ρ1 => dB v fun t => if t = true then wS a ρ1 Ψ else wS b ρ1 Ψ) : wS (ifM mc a b) ρ Ψ := by
  refine wS_bind (wE_mono h fun v ρ' q => ?_)
  cases v with
  | l d => exact q.elim
  | d d =>
    cases d with
    | bool t =>
      rw [dB_b] at q
      cases t
      · exact q
      · exact q
    | none => exact q.elim
    | int _ => exact q.elim
    | str _ => exact q.elim
    | list _ => exact q.elim
    | tuple _ => exact q.elim
    | dict _ => exact q.elim
theorem ws_app (h : rOw ρ i fun _ => wE m ρ fun v ρ1 => vD v fun d => rOw ρ1 i fun ds => ds.length < 100000 ∧ Ψ (.nx (ρ1.set i (some (.own (ds ++ [d])))))) : wS (appM i m) ρ Ψ := by
  unfold rOw at h
  rcases e : ρ[i]? with _ | _ | d | o
  · rw [e] at h; exact h.elim
  · rw [e] at h; exact h.elim
  · rw [e] at h; exact h.elim
  · rw [e] at h
    dsimp only at h
    unfold wS appM
    rw [e]
    dsimp only
    refine wS_bind (wE_mono h fun v ρ' q => ?_)
    cases v with
    | l d => exact q.elim
    | d d =>
      unfold wS
      dsimp only
      rw [vD_d] at q
      rcases e2 : ρ'[i]? with _ | _ | d2 | o2
      · rw [e2] at q; exact q.elim
      · rw [e2] at q; exact q.elim
      · rw [e2] at q; exact q.elim
      · rw [e2] at q
        dsimp only at q ⊢
        rw [if_pos q.1]
        exact q.2
theorem ws_frz (h : match ρ[i]? with
    | some (some (.own ds)) => wS a (ρ.set i (some (.dat (.list ds)))) Ψ
    | _ => wS a ρ Ψ) : wS (frzS i a) ρ Ψ := by
  unfold wS frzS
  rcases e : ρ[i]? with _ | _ | d2 | o2 <;> rw [e] at h <;> exact h
theorem ws_forget (h : wS a (ρ.set i none) Ψ) : wS (forgetS i a) ρ Ψ := h
def v2 (vs : List Val) (P : Val → Val → Prop) : Prop := match vs with
  | [x, y] => P x y
  | _ => False
@[simp] theorem v2_2 {x y : Val} {P : Val → Val → Prop} : v2 [x, y] P ↔ P x y := Iff.rfl
theorem wS_bindL {f : List Val → SM} (h : wL ms ρ fun v ρ' => wS (f v) ρ' Ψ) : wS (bindLS ms f) ρ Ψ := by
  unfold wS bindLS
  unfold wL at h
  cases e : ms ρ with
  | ok v ρ1 => rw [e] at h; exact h
  | exc x ρ1 => rw [e] at h; exact h.elim
  | stuck => rw [e] at h; exact h.elim
theorem wL_mono {Φ Φ' : List Val → Rh → Prop} (h : wL ms ρ Φ) (k : ∀ v ρ', Φ v ρ' → Φ' v ρ') : wL ms ρ Φ' := by
  unfold wL at *
  cases e : ms ρ <;> simp_all
def sOf : Val → Slot
  | .d d => .dat d
  | .l d => .own d
@[simp] theorem sOf_d {d : D} : sOf (.d d) = .dat d := rfl
@[simp] theorem sOf_l {d : List D} : sOf (.l d) = .own d := rfl
theorem ws_par (h : wL ms ρ fun vs ρ1 => v2 vs fun x y => vD y fun y => Ψ (.nx ((ρ1.set i (some (sOf x))).set j (some (.dat y))))) : wS (parM i j ms) ρ Ψ := by
  refine wS_bindL (wL_mono h fun v ρ' q => ?_)
  match v, q with
  | [.d x, .d y], q => exact q
  | [.l x, .d y], q => exact q
  | [.d x, .l y], q => exact False.elim q
  | [.l x, .l y], q => exact False.elim q
def v3 (vs : List Val) (P : D → D → D → Prop) : Prop := match vs with
  | [.d x, .d y, .d z] => P x y z
  | _ => False
@[simp] theorem v3_3 {x y z : D} {P : D → D → D → Prop} : v3 [.d x, .d y, .d z] P ↔ P x y z := Iff.rfl
theorem ws_par3 (h : wL ms ρ fun vs ρ1 => v3 vs fun x y z => Ψ (.nx (((ρ1.set i (some (.dat x))).set j (some (.dat y))).set k (some (.dat z))))) : wS (par3M i j k ms) ρ Ψ := by
  refine wS_bindL (wL_mono h fun v ρ' q => ?_)
  match v, q with
  | [.d x, .d y, .d z], q => exact q
/-! walked -/
@[simp] theorem wI_seq {Φ : List D → Rh → Prop} : wI (seqI m) ρ Φ ↔ wE m ρ fun v ρ1 => vD v fun d => oP (itemsD d) fun ds => Φ ds ρ1 := by
  unfold wI wE seqI
  cases m ρ with
  | ok v ρ1 =>
    cases v with
    | l d => rfl
    | d d =>
      show (match (match itemsD d with
        | some ds => RI.ok ds ρ1
        | none => .stuck) with
        | .ok v ρ' => Φ v ρ'
        | _ => False) ↔ oP (itemsD d) fun ds => Φ ds ρ1
      cases itemsD d <;> exact Iff.rfl
  | exc x ρ1 => rfl
  | stuck => rfl
def v1I (vs : List Val) (P : Int → Prop) : Prop := match vs with
  | [.d (.int j)] => P j
  | _ => False
@[simp] theorem v1I_1 {j : Int} {P : Int → Prop} : v1I [.d (.int j)] P ↔ P j := Iff.rfl
theorem wi_rng1 {Φ : List D → Rh → Prop} (h : wL ms ρ fun vs ρ1 => v1I vs fun j => (-(2 ^ 62) ≤ j ∧ j < 2 ^ 62) ∧ Φ (rangeD 0 j.toNat) ρ1) : wI (rng1I ms) ρ Φ := by
  unfold wI rng1I
  unfold wL at h
  cases e : ms ρ with
  | ok v ρ1 =>
    rw [e] at h
    dsimp only at h ⊢
    match v, h with
    | [.d (.int j)], h =>
      obtain ⟨h1, h2⟩ := h
      dsimp only
      rw [if_pos h1]
      exact h2
  | exc x ρ1 => rw [e] at h; exact h.elim
  | stuck => rw [e] at h; exact h.elim
theorem ws_for {mi : Rh → RI} (h : wI mi ρ fun ds ρ1 => wS (forN mt a ds) ρ1 Ψ) : wS (forM mi mt a) ρ Ψ := by
  unfold wS forM
  unfold wI at h
  cases e : mi ρ with
  | ok v ρ1 => rw [e] at h; exact h
  | exc x ρ1 => rw [e] at h; exact h.elim
  | stuck => rw [e] at h; exact h.elim
def goK (k : Rh → Prop) (Ψ : Out → Prop) (o : Out) : Prop := match o with
  | .nx ρ => k ρ
  | .ct ρ => k ρ
  | .brk ρ => Ψ (.nx ρ)
  | o => Ψ o
@[simp] theorem goK_nx {k : Rh → Prop} : goK k Ψ (.nx ρ) ↔ k ρ := Iff.rfl
@[simp] theorem goK_ret {k : Rh → Prop} {v : Val} : goK k Ψ (.ret v ρ) ↔ Ψ (.ret v ρ) := Iff.rfl
theorem ws_forN_cons {d : D} {ds : List D} (h : oP (mt d ρ) fun ρ1 => wS a ρ1 (goK (fun ρ2 => wS (forN mt a ds) ρ2 Ψ) Ψ)) : wS (forN mt a (d :: ds)) ρ Ψ := by
  unfold wS forN
  cases e : mt d ρ with
  | none => rw [e] at h; exact h.elim
  | some ρ1 =>
    rw [e, oP_some] at h
    unfold wS goK at h
    dsimp only
    cases e2 : a ρ1 <;> rw [e2] at h <;> exact h
/-- a loop by its invariant -/
theorem ws_forN (J : List D → Rh → Prop) (step : ∀ d r ρ, J (d :: r) ρ → oP (mt d ρ) fun ρ1 => wS a ρ1 (goK (J r) Ψ)) (fin : ∀ ρ, J [] ρ → Ψ (.nx ρ)) : ∀ (ds : List D) (ρ : Rh), J ds ρ → wS (forN mt a ds) ρ Ψ
  | [], ρ, h => fin ρ h
  | d :: r, ρ, h => ws_forN_cons (by
    have q := step d r ρ h
    cases e : mt d ρ with
    | none => rw [e] at q; exact q.elim
    | some ρ1 =>
      rw [e, oP_some] at q
      rw [oP_some]
      refine wS_mono q fun o qo => ?_
      cases o with
      | nx ρ2 => exact ws_forN J step fin r ρ2 qo
      | ct ρ2 => exact ws_forN J step fin r ρ2 qo
      | brk ρ2 => exact qo
      | ret v ρ2 => exact qo
      | exc x ρ2 => exact qo
      | stuck => exact qo)
theorem ws_while_step {body : SM} (h : wE mc ρ fun v ρ1 => dB v fun t => if t = true then wS body ρ1 (goK (fun ρ2 => wS (whileN mc body n) ρ2 Ψ) Ψ) else Ψ (.nx ρ1)) : wS (whileN mc body (n + 1)) ρ Ψ := by
  unfold wS whileN
  unfold wE at h
  cases e : mc ρ with
  | ok v ρ1 =>
    rw [e] at h
    dsimp only at h ⊢
    cases v with
    | l d => exact h.elim
    | d d =>
      cases d with
      | bool t =>
        rw [dB_b] at h
        cases t
        · exact h
        · simp only [if_true] at h
          unfold wS goK at h
          dsimp only
          cases e2 : body ρ1 <;> rw [e2] at h <;> exact h
      | none => exact h.elim
      | int _ => exact h.elim
      | str _ => exact h.elim
      | list _ => exact h.elim
      | tuple _ => exact h.elim
      | dict _ => exact h.elim
  | exc x ρ1 => rw [e] at h; exact h.elim
  | stuck => rw [e] at h; exact h.elim
theorem ws_whileM {body : SM} {fuel : Rh → Nat} (h : wS (whileN mc body (fuel ρ)) ρ Ψ) : wS (whileM fuel mc body) ρ Ψ := h
/-! comprehensions -/
def wC (mt : TGM) (mtest melt : EM) (vs : List Nat) (ds : List D) (ρ : Rh) (acc : List D) (Φ : List D → Rh → Prop) : Prop := match lcN mt mtest melt vs ds ρ acc with
  | .ok ys ρ' => Φ ys ρ'
  | _ => False
theorem we_lc {mi : Rh → RI} {mtest melt : EM} {vs : List Nat} (h : wI mi ρ fun ds ρ0 => vsNone vs ρ0 = true ∧ wC mt mtest melt vs ds ρ0 [] fun ys ρ' => Φ (.l ys) ρ') : wE (lcM mi mt mtest melt vs) ρ Φ := by
  unfold wE lcM
  unfold wI at h
  cases e : mi ρ with
  | ok ds ρ0 =>
    rw [e] at h
    dsimp only at h ⊢
    obtain ⟨h1, h2⟩ := h
    rw [if_pos h1]
    unfold wC at h2
    cases e2 : lcN mt mtest melt vs ds ρ0 [] <;> rw [e2] at h2 <;> exact h2
  | exc x ρ1 => rw [e] at h; exact h.elim
  | stuck => rw [e] at h; exact h.elim
/-- a comprehension by its invariant -/
theorem wc_ind {mtest melt : EM} {vs : List Nat} {Φ : List D → Rh → Prop} (J : List D → Rh → List D → Prop)
    (step : ∀ d r ρ acc, J (d :: r) ρ acc → oP (mt d ρ) fun ρ1 => wE mtest ρ1 fun v ρ2 => dB v fun t => if t = true then acc.length < 100000 ∧ wE melt ρ2 fun y ρ3 => vD y fun y => J r (wipeR ρ3 vs) (acc ++ [y]) else J r (wipeR ρ2 vs) acc)
    (fin : ∀ ρ acc, J [] ρ acc → Φ acc ρ) : ∀ (ds : List D) (ρ : Rh) (acc : List D), J ds ρ acc → wC mt mtest melt vs ds ρ acc Φ
  | [], ρ, acc, h => fin ρ acc h
  | d :: r, ρ, acc, h => by
    have q := step d r ρ acc h
    unfold wC lcN
    cases e : mt d ρ with
    | none => rw [e] at q; exact q.elim
    | some ρ1 =>
      rw [e, oP_some] at q
      unfold wE at q
      dsimp only
      cases e1 : mtest ρ1 with
      | exc x ρ1 => rw [e1] at q; exact q.elim
      | stuck => rw [e1] at q; exact q.elim
      | ok v ρ2 =>
        rw [e1] at q
        dsimp only at q ⊢
        cases v with
        | l d => exact q.elim
        | d d =>
          cases d with
          | bool t =>
            rw [dB_b] at q
            cases t
            · exact wc_ind J step fin r _ _ q
            · simp only [if_true] at q
              obtain ⟨ql, q⟩ := q
              dsimp only
              cases e3 : melt ρ2 with
              | exc x ρ1 => rw [e3] at q; exact q.elim
              | stuck => rw [e3] at q; exact q.elim
              | ok y ρ3 =>
                rw [e3] at q
                cases y with
                | l d => exact q.elim
                | d y =>
                  dsimp only at q ⊢
                  rw [if_pos ql]
                  exact wc_ind J step fin r _ _ q
          | none => exact q.elim
          | int _ => exact q.elim
          | str _ => exact q.elim
          | list _ => exact q.elim
          | tuple _ => exact q.elim
          | dict _ => exact q.elim
/-! defs -/
def retK (P : List Nat) (ss : List Slot) (Φ : Val → List Slot → Prop) (o : Out) : Prop := match o with
  | .ret v ρ' => oP (backS P 0 ss ρ') fun ss' => Φ v ss'
  | .nx ρ' => oP (backS P 0 ss ρ') fun ss' => Φ (.d .none) ss'
  | _ => False
@[simp] theorem retK_ret {P : List Nat} {ss : List Slot} {Φ : Val → List Slot → Prop} {v : Val} : retK P ss Φ (.ret v ρ) ↔ oP (backS P 0 ss ρ) fun ss' => Φ v ss' := Iff.rfl
@[simp] theorem retK_nx {P : List Nat} {ss : List Slot} {Φ : Val → List Slot → Prop} : retK P ss Φ (.nx ρ) ↔ oP (backS P 0 ss ρ) fun ss' => Φ (.d .none) ss' := Iff.rfl
theorem pf_fn {P : List Nat} {ss : List Slot} {Φ : Val → List Slot → Prop} {N : Nat} (h : wS a (argsRh ss ++ List.replicate (N - ss.length) none) (retK P ss Φ)) : pF (fnM P N a) ss Φ := by
  unfold pF fnM
  unfold wS retK at h
  cases e : a (argsRh ss ++ List.replicate (N - ss.length) none) with
  | ret v ρ' =>
    rw [e] at h
    dsimp only at h ⊢
    cases e2 : backS P 0 ss ρ' <;> rw [e2] at h
    · exact h.elim
    · exact h
  | nx ρ' =>
    rw [e] at h
    dsimp only at h ⊢
    cases e2 : backS P 0 ss ρ' <;> rw [e2] at h
    · exact h.elim
    · exact h
  | brk ρ' => rw [e] at h; exact h.elim
  | ct ρ' => rw [e] at h; exact h.elim
  | exc x ρ' => rw [e] at h; exact h.elim
  | stuck => rw [e] at h; exact h.elim
@[simp] theorem backS_nil {P : List Nat} : backS P i [] ρ = some [] := rfl
@[simp] theorem backS_dat {P : List Nat} {d : D} {r : List Slot} : backS P i (.dat d :: r) ρ = (backS P (i + 1) r ρ).map (.dat d :: ·) := rfl
@[simp] theorem backS_own {os d : List D} {r : List Slot} : backS [0] 0 (.own os :: r) (some (.own d) :: ρ) = (backS [0] 1 r (some (.own d) :: ρ)).map (.own d :: ·) := by simp [backS]
end
end DL
set_option Elab.async false
set_option linter.all false
set_option maxRecDepth 100000
set_option maxHeartbeats 2000000
set_option autoImplicit false
/-! K01M: the mirrors of the defs (printed by gen.py). -/
namespace DL
namespace K01
open PySem PySem.Spec PyProof.Rows L2
/-- fuel for a walk along the text in a slot -/
def fuelText (i : Nat) : Rh → Nat := fun ρ => match ρ[i]? with
  | some (some (.dat (.str z))) => z.length + 1
  | _ => 0
def g_BLANK : D := (.str " ")
def g_FIGURES : D := (.str "0123456789")
def g_LINE_END : D := (.str "\n")
def g_MOST_FIGURES : D := (.int 30)
def g_MOST_SIGNS : D := (.int 12)
def g_RUN_SIGNS : D := (.str "abcdefghijklmnopqrstuvwxyz0123456789")
def g_SIGNS : D := (.str "=<>+-*/(),")
def g_WORDS : D := (.tuple [.str "ask", .str "tell", .str "by", .str "poly", .str "root", .str "sqrt", .str "dist", .str "x", .str "y", .str "point", .str "line", .str "circle", .str "ring", .str "meet", .str "mid", .str "foot", .str "mirror", .str "parallel", .str "upright", .str "on", .str "inside", .str "left", .str "same", .str "between", .str "touch"])
def b_are_figures : SM :=
  retM (andM (op2 gNe (varM 0) (conM (.str ""))) (opL gAll (consL (frzE (lcM (seqI (varM 0)) (nameT 1) (conM (.bool true)) (op2 gIn (varM 1) (conM g_FIGURES)) [1])) (nilL))))
def f_are_figures : FM := fnM [] 2 b_are_figures
def b_is_numeral : SM :=
  retM (andM (callD 1 f_are_figures (consL (varM 0) (nilL))) (andM (op2 gLe (opL gLen (consL (varM 0) (nilL))) (conM g_MOST_FIGURES)) (orM (op2 gEq (varM 0) (conM (.str "0"))) (op2 gNe (op2 gIx (varM 0) (conM (.int 0))) (conM (.str "0"))))))
def f_is_numeral : FM := fnM [] 1 b_is_numeral
def b_kind_of_run : SM :=
  seqM (ifM (op2 gIn (op2 gIx (varM 0) (conM (.int 0))) (conM g_FIGURES)) (retM (iteM (callD 1 f_is_numeral (consL (varM 0) (nilL))) (conM (.str "numeral")) (conM (.str "wrong")))) (nextM)) (seqM (ifM (op2 gGt (opL gLen (consL (varM 0) (nilL))) (conM g_MOST_SIGNS)) (retM (conM (.str "wrong"))) (nextM)) (retM (iteM (op2 gIn (varM 0) (conM g_WORDS)) (conM (.str "word")) (conM (.str "name")))))
def f_kind_of_run : FM := fnM [] 1 b_kind_of_run
def b_kind_of_sign : SM :=
  seqM (ifM (op2 gEq (varM 0) (conM g_LINE_END)) (retM (conM (.str "end"))) (nextM)) (retM (iteM (op2 gIn (varM 0) (conM g_SIGNS)) (conM (.str "sign")) (conM (.str "wrong"))))
def f_kind_of_sign : FM := fnM [] 1 b_kind_of_sign
def b_run_end : SM :=
  seqM (asgM (nameT 2) (varM 1)) (seqM (whileM (fuelText 0) (andM (op2 gLt (varM 2) (opL gLen (consL (varM 0) (nilL)))) (op2 gIn (op2 gIx (varM 0) (varM 2)) (conM g_RUN_SIGNS))) (asgM (nameT 2) (op2 gAdd (varM 2) (conM (.int 1))))) (retM (varM 2)))
def f_run_end : FM := fnM [] 3 b_run_end
def b_piece_at : SM :=
  seqM (ifM (op2 gNotIn (op2 gIx (varM 0) (varM 1)) (conM g_RUN_SIGNS)) (retM (opL gTup (consL (varM 1) (consL (callD 1 f_kind_of_sign (consL (op2 gIx (varM 0) (varM 1)) (nilL))) (consL (op2 gIx (varM 0) (varM 1)) (nilL)))))) (nextM)) (seqM (asgM (nameT 2) (slM (varM 0) (partM (varM 1)) (partM (callD 2 f_run_end (consL (varM 0) (consL (varM 1) (nilL))))))) (retM (opL gTup (consL (varM 1) (consL (callD 1 f_kind_of_run (consL (varM 2) (nilL))) (consL (varM 2) (nilL)))))))
def f_piece_at : FM := fnM [] 3 b_piece_at
def b_pieces_by : SM :=
  seqM (parM 1 2 (consL (lstO (nilL)) (consL (conM (.int 0)) (nilL)))) (seqM (whileM (fuelText 0) (op2 gLt (varM 2) (opL gLen (consL (varM 0) (nilL)))) (ifM (op2 gEq (op2 gIx (varM 0) (varM 2)) (conM g_BLANK)) (asgM (nameT 2) (op2 gAdd (varM 2) (conM (.int 1)))) (seqM (asgM (nameT 3) (callD 2 f_piece_at (consL (varM 0) (consL (varM 2) (nilL))))) (seqM (appM 1 (varM 3)) (asgM (nameT 2) (op2 gAdd (varM 2) (opL gLen (consL (op2 gIx (varM 3) (conM (.int 2))) (nilL))))))))) (frzS 1 (retM (varM 1))))
def f_pieces_by : FM := fnM [] 4 b_pieces_by
def b_tokens_by : SM :=
  seqM (asgM (nameT 1) (callD 1 f_pieces_by (consL (varM 0) (nilL)))) (seqM (forM (seqI (varM 1)) (tupT 3 (consT (nameT 2) (consT (nameT 3) (consT (nameT 4) (nilT))))) (ifM (op2 gEq (varM 3) (conM (.str "wrong"))) (retM (opL gTup (consL (conM .none) (consL (varM 2) (nilL))))) (nextM))) (forgetS 3 (forgetS 2 (retM (opL gTup (consL (opL gTuple (consL (frzE (lcM (seqI (varM 1)) (tupT 3 (consT (nameT 2) (consT (nameT 3) (consT (nameT 5) (nilT))))) (op2 gNe (varM 3) (conM (.str "end"))) (opL gTup (consL (varM 2) (consL (varM 5) (nilL)))) [2, 3, 5])) (nilL))) (consL (conM .none) (nilL))))))))
def f_tokens_by : FM := fnM [] 6 b_tokens_by
def b_check_string : SM :=
  ifM (notM (op1 (gIsi "str") (varM 0))) (raiseM "InvalidText" "index" (conM .none)) (nextM)
def f_check_string : FM := fnM [] 1 b_check_string
def b_tokens : SM :=
  seqM (exprM (callD 1 f_check_string (consL (varM 0) (nilL)))) (seqM (asgM (tupT 2 (consT (nameT 1) (consT (nameT 2) (nilT)))) (callD 1 f_tokens_by (consL (varM 0) (nilL)))) (seqM (ifM (op2 gIsN (varM 1) (conM .none)) (raiseM "InvalidText" "index" (varM 2)) (nextM)) (retM (varM 1))))
def f_tokens : FM := fnM [] 3 b_tokens
def b__law_pool : SM :=
  seqM (parM 2 3 (consL (iteM (op2 gLt (varM 1) (opL gLen (consL (varM 0) (nilL)))) (opL gInt (consL (op2 gIx (varM 0) (varM 1)) (nilL))) (op2 gAdd (op2 gMulA (conM (.int 70001)) (varM 1)) (conM (.int 2839)))) (consL (op2 gAdd (conM (.int 1032204)) (op2 gMulA (conM (.int 5087)) (varM 1))) (nilL)))) (seqM (forM (seqI (slM (varM 0) (noPartM) (partM (conM (.int 63))))) (nameT 4) (asgM (nameT 3) (op2 gMod (opL gInt (consL (op2 gAdd (op2 gAdd (op2 gMulA (varM 3) (conM (.int 48271))) (op2 gMod (opL gInt (consL (varM 4) (nilL))) (conM (.int 2147483549)))) (conM (.int 551))) (nilL))) (conM (.int 2147483549))))) (retM (lstO (consL (op2 gMod (opL gInt (consL (op2 gAdd (varM 3) (op2 gMulA (varM 2) (conM (.int 1013)))) (nilL))) (conM (.int 2147483549))) (consL (iteM (orM (op2 gLt (varM 2) (conM (.int 0))) (op2 gGe (varM 2) (op2 gPow (conM (.int 10)) (conM (.int 18))))) (opL gAbs (consL (varM 2) (nilL))) (conM (.int 0))) (consL (conM (.int 0)) (nilL)))))))
def f__law_pool : FM := fnM [] 5 b__law_pool
def b__law_draw : SM :=
  seqM (ifM (op2 gGt (ixO 0 (conM (.int 1))) (conM (.int 0))) (seqM (asgM (tupT 2 (consT (subT 0 1) (consT (nameT 2) (nilT)))) (opL gDivmod (consL (ixO 0 (conM (.int 1))) (consL (varM 1) (nilL))))) (retM (varM 2))) (nextM)) (seqM (asgM (subT 0 2) (op2 gAdd (ixO 0 (conM (.int 2))) (conM (.int 1)))) (seqM (asgM (nameT 3) (opL gInt (consL (ixO 0 (conM (.int 0))) (nilL)))) (seqM (asgM (subT 0 0) (op2 gMod (opL gInt (consL (op2 gAdd (op2 gAdd (op2 gMulA (varM 3) (op2 gAdd (op2 gMod (varM 3) (conM (.int 20011))) (conM (.int 30011)))) (op2 gMulA (conM (.int 70001)) (ixO 0 (conM (.int 2))))) (conM (.int 9))) (nilL))) (conM (.int 2147483549)))) (retM (op2 gMod (opL gInt (consL (op2 gDiv (ixO 0 (conM (.int 0))) (conM (.int 128))) (nilL))) (varM 1))))))
def f__law_draw : FM := fnM [0] 4 b__law_draw
def b__law_pick : SM :=
  retM (op2 gIx (varM 1) (callO 2 f__law_draw 0 (consL (opL gLen (consL (varM 1) (nilL))) (nilL))))
def f__law_pick : FM := fnM [0] 2 b__law_pick
def b__law_is_num : SM :=
  retM (andM (op1 (gIsi "int") (varM 0)) (notM (op1 (gIsi "bool") (varM 0))))
def f__law_is_num : FM := fnM [] 1 b__law_is_num
def b__law_only : SM :=
  retM (op2 gEq (frzE (lcM (seqI (varM 0)) (nameT 2) (op2 gNotIn (varM 2) (varM 1)) (varM 2) [2])) (opL gLst (nilL)))
def f__law_only : FM := fnM [] 3 b__law_only
def b__law_is_numeral : SM :=
  retM (andM (chM gLt gLe (conM (.int 0)) (opL gLen (consL (varM 0) (nilL))) (conM (.int 30))) (andM (callD 2 f__law_only (consL (varM 0) (consL (conM (.str "0123456789")) (nilL)))) (orM (op2 gNe (op2 gIx (varM 0) (conM (.int 0))) (conM (.str "0"))) (op2 gEq (varM 0) (conM (.str "0"))))))
def f__law_is_numeral : FM := fnM [] 1 b__law_is_numeral
def b__law_is_word : SM :=
  retM (andM (chM gLt gLe (conM (.int 0)) (opL gLen (consL (varM 0) (nilL))) (conM (.int 12))) (andM (callD 2 f__law_only (consL (varM 0) (consL (conM (.str "abcdefghijklmnopqrstuvwxyz0123456789")) (nilL)))) (op2 gNotIn (op2 gIx (varM 0) (conM (.int 0))) (conM (.str "0123456789")))))
def f__law_is_word : FM := fnM [] 1 b__law_is_word
def b__law_tokens : SM :=
  seqM (parM 1 2 (consL (lstO (nilL)) (consL (conM (.int 0)) (nilL)))) (seqM (asgM (tupT 2 (consT (nameT 3) (consT (nameT 4) (nilT)))) (opL gTup (consL (conM (.str "abcdefghijklmnopqrstuvwxyz0123456789")) (consL (conM (.str "=<>+-*/(),\n")) (nilL))))) (seqM (forM (rng1I (consL (op2 gAdd (opL gLen (consL (varM 0) (nilL))) (conM (.int 1))) (nilL))) (nameT 5) (ifM (op2 gLt (varM 2) (opL gLen (consL (varM 0) (nilL)))) (seqM (asgM (nameT 6) (varM 2)) (seqM (whileM (fuelText 0) (andM (op2 gLt (varM 6) (opL gLen (consL (varM 0) (nilL)))) (op2 gIn (op2 gIx (varM 0) (varM 6)) (varM 3))) (asgM (nameT 6) (op2 gAdd (varM 6) (conM (.int 1))))) (ifM (op2 gGt (varM 6) (varM 2)) (seqM (asgM (nameT 7) (slM (varM 0) (partM (varM 2)) (partM (varM 6)))) (seqM (appM 1 (opL gTup (consL (varM 2) (consL (iteM (orM (callD 1 f__law_is_numeral (consL (varM 7) (nilL))) (callD 1 f__law_is_word (consL (varM 7) (nilL)))) (varM 7) (conM .none)) (nilL))))) (asgM (nameT 2) (varM 6)))) (seqM (ifM (op2 gNe (op2 gIx (varM 0) (varM 2)) (conM (.str " "))) (appM 1 (opL gTup (consL (varM 2) (consL (iteM (op2 gIn (op2 gIx (varM 0) (varM 2)) (varM 4)) (op2 gIx (varM 0) (varM 2)) (conM .none)) (nilL))))) (nextM)) (asgM (nameT 2) (op2 gAdd (varM 2) (conM (.int 1)))))))) (nextM))) (frzS 1 (retM (varM 1)))))
def f__law_tokens : FM := fnM [] 8 b__law_tokens
def b__law_name_of : SM :=
  seqM (asgM (nameT 2) (opL gLst (consL (conM (.str "a")) (consL (conM (.str "b")) (consL (conM (.str "c")) (consL (conM (.str "d")) (consL (conM (.str "e")) (consL (conM (.str "f")) (consL (conM (.str "g")) (consL (conM (.str "h")) (consL (conM (.str "p")) (consL (conM (.str "q")) (consL (conM (.str "u")) (consL (conM (.str "v")) (consL (conM (.str "w")) (consL (conM (.str "far")) (consL (conM (.str "near")) (consL (conM (.str "mass")) (consL (conM (.str "gate1")) (consL (conM (.str "z9")) (consL (conM (.str "centre")) (consL (conM (.str "abcdefghijkl")) (consL (conM (.str "sum")) (consL (conM (.str "k")) (consL (conM (.str "m")) (consL (conM (.str "n")) (consL (conM (.str "o")) (consL (conM (.str "r")) (consL (conM (.str "s")) (consL (conM (.str "t")) (nilL))))))))))))))))))))))))))))))) (retM (callO 2 f__law_pick 0 (consL (frzE (lcM (seqI (varM 2)) (nameT 3) (op2 gNotIn (varM 3) (varM 1)) (varM 3) [3])) (nilL))))
def f__law_name_of : FM := fnM [0] 4 b__law_name_of
def b__law_number (r__law_number : FM) : SM :=
  seqM (asgM (nameT 3) (callO 2 f__law_draw 0 (consL (conM (.int 12)) (nilL)))) (seqM (ifM (orM (op2 gEq (varM 2) (conM (.int 0))) (op2 gLt (varM 3) (conM (.int 4)))) (seqM (ifM (andM (op2 gNe (varM 1) (opL gLst (nilL))) (op2 gEq (callO 2 f__law_draw 0 (consL (conM (.int 2)) (nilL))) (conM (.int 0)))) (retM (opL gTup (consL (conM (.str "name")) (consL (callO 2 f__law_pick 0 (consL (varM 1) (nilL))) (nilL))))) (nextM)) (retM (opL gTup (consL (conM (.str "numeral")) (consL (iteM (op2 gGt (callO 2 f__law_draw 0 (consL (conM (.int 9)) (nilL))) (conM (.int 0))) (callO 2 f__law_draw 0 (consL (conM (.int 10)) (nilL))) (callO 2 f__law_draw 0 (consL (op2 gPow (conM (.int 10)) (conM (.int 20))) (nilL)))) (nilL)))))) (nextM)) (seqM (asgM (nameT 4) (callO 3 r__law_number 0 (consL (varM 1) (consL (op2 gSub (varM 2) (conM (.int 1))) (nilL))))) (seqM (ifM (op2 gEq (varM 3) (conM (.int 4))) (retM (opL gTup (consL (conM (.str "minus")) (consL (varM 4) (nilL))))) (nextM)) (seqM (ifM (op2 gGt (varM 3) (conM (.int 9))) (seqM (ifM (op2 gEq (varM 3) (conM (.int 10))) (retM (opL gTup (consL (conM (.str "sqrt")) (consL (varM 4) (nilL))))) (nextM)) (seqM (asgM (nameT 5) (op2 gAdd (conM (.int 2)) (callO 2 f__law_draw 0 (consL (conM (.int 3)) (nilL))))) (retM (opL gTup (consL (conM (.str "root")) (consL (op2 gMulA (op2 gAdd (conM (.int 1)) (callO 2 f__law_draw 0 (consL (conM (.int 8)) (nilL)))) (op2 gSub (conM (.int 1)) (op2 gMulA (conM (.int 2)) (callO 2 f__law_draw 0 (consL (conM (.int 2)) (nilL)))))) (consL (opL gTuple (consL (frzE (lcM (rng1I (consL (varM 5) (nilL))) (nameT 6) (conM (.bool true)) (callO 3 r__law_number 0 (consL (varM 1) (consL (iteM (op2 gGt (varM 2) (conM (.int 2))) (op2 gSub (varM 2) (conM (.int 2))) (conM (.int 0))) (nilL)))) [6])) (nilL))) (nilL)))))))) (nextM)) (retM (opL gTup (consL (op2 gIx (opL gTup (consL (conM (.str "plus")) (consL (conM (.str "less")) (consL (conM (.str "times")) (consL (conM (.str "over")) (consL (conM (.str "plus")) (nilL))))))) (op2 gSub (varM 3) (conM (.int 5)))) (consL (varM 4) (consL (callO 3 r__law_number 0 (consL (varM 1) (consL (op2 gSub (varM 2) (conM (.int 1))) (nilL)))) (nilL))))))))))
def f__law_number : Nat → FM
  | 0 => fun _ => .stuck
  | n + 1 => fnM [0] 7 (b__law_number (f__law_number n))
def b__law_print (r__law_print : FM) (r__law_within : FM) : SM :=
  seqM (asgM (nameT 1) (op2 gIx (varM 0) (conM (.int 0)))) (seqM (ifM (op2 gIn (varM 1) (opL gTup (consL (conM (.str "numeral")) (consL (conM (.str "name")) (nilL))))) (retM (opL gTup (consL (opL gStr (consL (op2 gIx (varM 0) (conM (.int 1))) (nilL))) (consL (conM (.int 2)) (nilL))))) (nextM)) (seqM (ifM (op2 gIn (varM 1) (opL gTup (consL (conM (.str "x")) (consL (conM (.str "y")) (consL (conM (.str "dist")) (nilL)))))) (retM (opL gTup (consL (op2 gAdd (op2 gAdd (op2 gAdd (varM 1) (conM (.str "("))) (strM gJoin (conM (.str ", ")) (slM (varM 0) (partM (conM (.int 1))) (noPartM)))) (conM (.str ")"))) (consL (conM (.int 2)) (nilL))))) (nextM)) (seqM (ifM (op2 gEq (varM 1) (conM (.str "sqrt"))) (retM (opL gTup (consL (op2 gAdd (op2 gAdd (conM (.str "sqrt(")) (op2 gIx (callD 1 r__law_print (consL (op2 gIx (varM 0) (conM (.int 1))) (nilL))) (conM (.int 0)))) (conM (.str ")"))) (consL (conM (.int 2)) (nilL))))) (nextM)) (seqM (ifM (op2 gEq (varM 1) (conM (.str "root"))) (retM (opL gTup (consL (op2 gAdd (op2 gAdd (op2 gAdd (op2 gAdd (conM (.str "root ")) (opL gStr (consL (op2 gIx (varM 0) (conM (.int 1))) (nilL)))) (conM (.str " ("))) (strM gJoin (conM (.str ", ")) (frzE (lcM (seqI (op2 gIx (varM 0) (conM (.int 2)))) (nameT 4) (conM (.bool true)) (op2 gIx (callD 1 r__law_print (consL (varM 4) (nilL))) (conM (.int 0))) [4])))) (conM (.str ")"))) (consL (conM (.int 2)) (nilL))))) (nextM)) (seqM (ifM (op2 gEq (varM 1) (conM (.str "minus"))) (retM (opL gTup (consL (op2 gAdd (conM (.str "-")) (callD 2 r__law_within (consL (op2 gIx (varM 0) (conM (.int 1))) (consL (conM (.int 2)) (nilL))))) (consL (conM (.int 2)) (nilL))))) (nextM)) (seqM (asgM (nameT 2) (iteM (op2 gIn (varM 1) (opL gTup (consL (conM (.str "plus")) (consL (conM (.str "less")) (nilL))))) (conM (.int 0)) (conM (.int 1)))) (seqM (asgM (nameT 3) (dispM [("plus", " + "), ("less", " - "), ("times", " * "), ("over", " / ")] (varM 1))) (retM (opL gTup (consL (op2 gAdd (op2 gAdd (callD 2 r__law_within (consL (op2 gIx (varM 0) (conM (.int 1))) (consL (varM 2) (nilL)))) (varM 3)) (callD 2 r__law_within (consL (op2 gIx (varM 0) (conM (.int 2))) (consL (op2 gAdd (varM 2) (conM (.int 1))) (nilL))))) (consL (varM 2) (nilL))))))))))))
def b__law_within (r__law_print : FM) (r__law_within : FM) : SM :=
  seqM (asgM (tupT 2 (consT (nameT 2) (consT (nameT 3) (nilT)))) (callD 1 r__law_print (consL (varM 0) (nilL)))) (retM (iteM (op2 gGe (varM 3) (varM 1)) (varM 2) (op2 gAdd (op2 gAdd (conM (.str "(")) (varM 2)) (conM (.str ")")))))
def ff__law_print : Nat → FM × FM
  | 0 => (fun _ => .stuck, fun _ => .stuck)
  | n + 1 => (fnM [] 5 (b__law_print (ff__law_print n).1 (ff__law_print n).2), fnM [] 4 (b__law_within (ff__law_print n).1 (ff__law_print n).2))
def f__law_print (n : Nat) : FM := (ff__law_print n).1
def f__law_within (n : Nat) : FM := (ff__law_print n).2
def b__law_row_print : SM :=
  seqM (ifM (op2 gEq (op2 gIx (varM 0) (conM (.int 0))) (conM (.str "number"))) (retM (op2 gAdd (op2 gAdd (op2 gAdd (op2 gIx (varM 0) (conM (.int 1))) (conM (.str " = "))) (op2 gIx (callD 1 (f__law_print 12) (consL (op2 gIx (varM 0) (conM (.int 2))) (nilL))) (conM (.int 0)))) (conM (.str "\n")))) (nextM)) (seqM (ifM (op2 gEq (op2 gIx (varM 0) (conM (.int 0))) (conM (.str "tell"))) (retM (op2 gAdd (op2 gAdd (op2 gAdd (op2 gAdd (conM (.str "tell ")) (op2 gIx (callD 1 (f__law_print 12) (consL (op2 gIx (varM 0) (conM (.int 1))) (nilL))) (conM (.int 0)))) (conM (.str " by "))) (opL gStr (consL (op2 gIx (varM 0) (conM (.int 2))) (nilL)))) (conM (.str "\n")))) (nextM)) (seqM (ifM (op2 gEq (op2 gIx (varM 0) (conM (.int 0))) (conM (.str "poly"))) (retM (op2 gAdd (op2 gAdd (conM (.str "tell poly ")) (op2 gIx (callD 1 (f__law_print 12) (consL (op2 gIx (varM 0) (conM (.int 1))) (nilL))) (conM (.int 0)))) (conM (.str "\n")))) (nextM)) (seqM (ifM (op2 gEq (op2 gIx (varM 0) (conM (.int 0))) (conM (.str "ask"))) (seqM (asgM (nameT 1) (op2 gIx (varM 0) (conM (.int 1)))) (seqM (ifM (op2 gIn (op2 gIx (varM 1) (conM (.int 0))) (opL gTup (consL (conM (.str "<")) (consL (conM (.str "=")) (consL (conM (.str ">")) (nilL)))))) (retM (op2 gAdd (op2 gAdd (op2 gAdd (op2 gAdd (op2 gAdd (op2 gAdd (conM (.str "ask ")) (op2 gIx (callD 1 (f__law_print 12) (consL (op2 gIx (varM 1) (conM (.int 1))) (nilL))) (conM (.int 0)))) (conM (.str " "))) (op2 gIx (varM 1) (conM (.int 0)))) (conM (.str " "))) (op2 gIx (callD 1 (f__law_print 12) (consL (op2 gIx (varM 1) (conM (.int 2))) (nilL))) (conM (.int 0)))) (conM (.str "\n")))) (nextM)) (retM (op2 gAdd (op2 gAdd (op2 gAdd (op2 gAdd (conM (.str "ask ")) (op2 gIx (varM 1) (conM (.int 0)))) (conM (.str "("))) (strM gJoin (conM (.str ", ")) (slM (varM 1) (partM (conM (.int 1))) (noPartM)))) (conM (.str ")\n")))))) (nextM)) (seqM (asgM (nameT 2) (frzE (lcM (seqI (slM (varM 0) (partM (conM (.int 2))) (noPartM))) (nameT 3) (conM (.bool true)) (iteM (op1 (gIsi "str") (varM 3)) (varM 3) (iteM (callD 1 f__law_is_num (consL (varM 3) (nilL))) (opL gStr (consL (varM 3) (nilL))) (op2 gIx (callD 1 (f__law_print 12) (consL (varM 3) (nilL))) (conM (.int 0))))) [3]))) (retM (op2 gAdd (op2 gAdd (op2 gAdd (op2 gAdd (op2 gAdd (op2 gIx (varM 0) (conM (.int 1))) (conM (.str " = "))) (op2 gIx (varM 0) (conM (.int 0)))) (conM (.str "("))) (strM gJoin (conM (.str ", ")) (varM 2))) (conM (.str ")\n"))))))))
def f__law_row_print : FM := fnM [] 4 b__law_row_print
def b__law_text : SM :=
  retM (strM gJoin (conM (.str "")) (frzE (lcM (seqI (varM 0)) (nameT 1) (conM (.bool true)) (callD 1 f__law_row_print (consL (varM 1) (nilL))) [1])))
def f__law_text : FM := fnM [] 2 b__law_text
def b__law_row_of : SM :=
  seqM (parM 2 3 (consL (callO 2 f__law_draw 0 (consL (conM (.int 8)) (nilL))) (consL (callO 2 f__law_pick 0 (consL (varM 1) (nilL))) (nilL)))) (seqM (par3M 4 5 6 (consL (callO 2 f__law_pick 0 (consL (varM 1) (nilL))) (consL (callO 2 f__law_pick 0 (consL (varM 1) (nilL))) (consL (callO 2 f__law_pick 0 (consL (varM 1) (nilL))) (nilL))))) (seqM (ifM (op2 gLt (varM 2) (conM (.int 2))) (retM (opL gTup (consL (conM (.str "number")) (consL (varM 3) (consL (callO 3 (f__law_number 5) 0 (consL (varM 1) (consL (conM (.int 3)) (nilL)))) (nilL)))))) (nextM)) (seqM (ifM (op2 gEq (varM 2) (conM (.int 2))) (retM (callO 2 f__law_pick 0 (consL (opL gLst (consL (opL gTup (consL (conM (.str "tell")) (consL (callO 3 (f__law_number 5) 0 (consL (varM 1) (consL (conM (.int 2)) (nilL)))) (consL (callO 2 f__law_draw 0 (consL (conM (.int 41)) (nilL))) (nilL))))) (consL (opL gTup (consL (conM (.str "poly")) (consL (callO 3 (f__law_number 5) 0 (consL (varM 1) (consL (conM (.int 2)) (nilL)))) (nilL)))) (nilL)))) (nilL)))) (nextM)) (seqM (ifM (op2 gEq (varM 2) (conM (.int 3))) (retM (opL gTup (consL (conM (.str "ask")) (consL (opL gTup (consL (callO 2 f__law_pick 0 (consL (opL gLst (consL (conM (.str "<")) (consL (conM (.str "=")) (consL (conM (.str ">")) (nilL))))) (nilL))) (consL (callO 3 (f__law_number 5) 0 (consL (varM 1) (consL (conM (.int 2)) (nilL)))) (consL (callO 3 (f__law_number 5) 0 (consL (varM 1) (consL (conM (.int 2)) (nilL)))) (nilL))))) (nilL))))) (nextM)) (seqM (ifM (op2 gEq (varM 2) (conM (.int 4))) (seqM (asgM (nameT 7) (callO 2 f__law_pick 0 (consL (opL gLst (consL (conM (.str "on")) (consL (conM (.str "inside")) (consL (conM (.str "left")) (consL (conM (.str "same")) (consL (conM (.str "between")) (consL (conM (.str "parallel")) (consL (conM (.str "upright")) (consL (conM (.str "touch")) (nilL)))))))))) (nilL)))) (retM (opL gTup (consL (conM (.str "ask")) (consL (op2 gAdd (opL gTup (consL (varM 7) (consL (varM 4) (consL (varM 5) (nilL))))) (iteM (op2 gIn (varM 7) (opL gTup (consL (conM (.str "left")) (consL (conM (.str "between")) (nilL))))) (opL gTup (consL (varM 6) (nilL))) (opL gTup (nilL)))) (nilL)))))) (nextM)) (seqM (ifM (op2 gEq (varM 2) (conM (.int 5))) (retM (opL gTup (consL (conM (.str "point")) (consL (varM 3) (consL (callO 2 f__law_pick 0 (consL (opL gLst (consL (callO 3 (f__law_number 5) 0 (consL (varM 1) (consL (conM (.int 2)) (nilL)))) (consL (opL gTup (consL (callO 2 f__law_pick 0 (consL (opL gLst (consL (conM (.str "x")) (consL (conM (.str "y")) (nilL)))) (nilL))) (consL (varM 4) (nilL)))) (nilL)))) (nilL))) (consL (callO 2 f__law_pick 0 (consL (opL gLst (consL (callO 3 (f__law_number 5) 0 (consL (varM 1) (consL (conM (.int 2)) (nilL)))) (consL (opL gTup (consL (conM (.str "dist")) (consL (varM 4) (consL (varM 5) (nilL))))) (nilL)))) (nilL))) (nilL))))))) (nextM)) (seqM (asgM (nameT 7) (callO 2 f__law_pick 0 (consL (opL gLst (consL (conM (.str "line")) (consL (conM (.str "circle")) (consL (conM (.str "ring")) (consL (conM (.str "meet")) (consL (conM (.str "mid")) (consL (conM (.str "foot")) (consL (conM (.str "mirror")) (consL (conM (.str "parallel")) (consL (conM (.str "upright")) (nilL))))))))))) (nilL)))) (seqM (ifM (op2 gEq (varM 7) (conM (.str "circle"))) (retM (opL gTup (consL (conM (.str "circle")) (consL (varM 3) (consL (varM 4) (consL (callO 3 (f__law_number 5) 0 (consL (varM 1) (consL (conM (.int 2)) (nilL)))) (nilL))))))) (nextM)) (retM (op2 gAdd (opL gTup (consL (varM 7) (consL (varM 3) (consL (varM 4) (consL (varM 5) (nilL)))))) (iteM (op2 gEq (varM 7) (conM (.str "meet"))) (opL gTup (consL (op2 gAdd (conM (.int 1)) (callO 2 f__law_draw 0 (consL (conM (.int 2)) (nilL)))) (nilL))) (opL gTup (nilL)))))))))))))
def f__law_row_of : FM := fnM [0] 8 b__law_row_of
def b__law_any_plan : SM :=
  seqM (asgO 2 (lstO (nilL))) (seqM (forM (rng1I (consL (op2 gAdd (conM (.int 2)) (callO 2 f__law_draw 0 (consL (conM (.int 4)) (nilL)))) (nilL))) (nameT 3) (appM 2 (callOV f__law_name_of 0 2))) (forgetS 3 (frzS 2 (retM (opL gTuple (consL (frzE (lcM (rng1I (consL (callO 2 f__law_draw 0 (consL (op2 gAdd (varM 1) (conM (.int 1))) (nilL))) (nilL))) (nameT 3) (conM (.bool true)) (callO 2 f__law_row_of 0 (consL (varM 2) (nilL))) [3])) (nilL)))))))
def f__law_any_plan : FM := fnM [0] 4 b__law_any_plan
def b__law_turned : SM :=
  seqM (asgM (nameT 2) (callO 2 f__law_draw 0 (consL (op2 gAdd (opL gLen (consL (varM 1) (nilL))) (conM (.int 1))) (nilL)))) (seqM (asgM (nameT 3) (opL gLst (consL (conM (.str " ")) (consL (conM (.str "  ")) (consL (conM (.str "\n")) (consL (conM (.str "0")) (consL (conM (.str "00")) (consL (conM (.str "7")) (consL (conM (.str "a")) (consL (conM (.str "abcdefghijklm")) (consL (op2 gMulA (conM (.str "1")) (conM (.int 31))) (consL (conM (.str "9z")) (consL (conM (.str "A")) (consL (conM (.str "_")) (consL (conM (.str ".")) (consL (conM (.str "+")) (consL (conM (.str "=<>")) (consL (conM (.str "(")) (consL (conM (.str "\t")) (consL (conM (.str "x1")) (consL (conM (.str ";")) (consL (conM (.str "12")) (consL (conM (.str "*")) (nilL)))))))))))))))))))))))) (seqM (asgM (nameT 4) (callO 2 f__law_pick 0 (consL (varM 3) (nilL)))) (retM (callO 2 f__law_pick 0 (consL (opL gLst (consL (op2 gAdd (op2 gAdd (slM (varM 1) (noPartM) (partM (varM 2))) (varM 4)) (slM (varM 1) (partM (varM 2)) (noPartM))) (consL (op2 gAdd (op2 gAdd (slM (varM 1) (noPartM) (partM (varM 2))) (varM 4)) (slM (varM 1) (partM (op2 gAdd (varM 2) (conM (.int 1)))) (noPartM))) (consL (op2 gAdd (slM (varM 1) (noPartM) (partM (varM 2))) (slM (varM 1) (partM (op2 gAdd (varM 2) (conM (.int 1)))) (noPartM))) (consL (slM (varM 1) (noPartM) (partM (varM 2))) (consL (op2 gAdd (slM (varM 1) (partM (varM 2)) (noPartM)) (slM (varM 1) (noPartM) (partM (varM 2)))) (consL (varM 1) (nilL)))))))) (nilL))))))
def f__law_turned : FM := fnM [0] 5 b__law_turned
def b__law_told : SM :=
  tryA 2 "InvalidText" "index" (iteM (varM 1) (callD 1 f_tokens (consL (varM 0) (nilL))) (callD 1 f_tokens (consL (varM 0) (nilL))))
def f__law_told : FM := fnM [] 3 b__law_told
def b__law_due : SM :=
  seqM (asgM (nameT 1) (callD 1 f__law_tokens (consL (varM 0) (nilL)))) (seqM (asgM (nameT 2) (frzE (lcM (seqI (varM 1)) (tupT 2 (consT (nameT 3) (consT (nameT 4) (nilT)))) (op2 gIsN (varM 4) (conM .none)) (varM 3) [3, 4]))) (retM (iteM (op2 gNe (varM 2) (opL gLst (nilL))) (slM (varM 2) (noPartM) (partM (conM (.int 1)))) (opL gTuple (consL (frzE (lcM (seqI (varM 1)) (tupT 2 (consT (nameT 3) (consT (nameT 4) (nilT)))) (op2 gNe (varM 4) (conM (.str "\n"))) (opL gTup (consL (varM 3) (consL (varM 4) (nilL)))) [3, 4])) (nilL))))))
def f__law_due : FM := fnM [] 5 b__law_due
def b__law_right : SM :=
  seqM (forM (rng1I (consL (conM (.int 12)) (nilL))) (nameT 1) (seqM (asgM (nameT 2) (callD 1 f__law_text (consL (callO 2 f__law_any_plan 0 (consL (conM (.int 6)) (nilL))) (nilL)))) (forM (rng1I (consL (conM (.int 4)) (nilL))) (nameT 3) (seqM (ifM (op2 gNe (opL gRepr (consL (callD 2 f__law_told (consL (varM 2) (consL (op2 gEq (callO 2 f__law_draw 0 (consL (conM (.int 2)) (nilL))) (conM (.int 0))) (nilL)))) (nilL))) (opL gRepr (consL (callD 1 f__law_due (consL (varM 2) (nilL))) (nilL)))) (retM (conM (.bool false))) (nextM)) (asgM (nameT 2) (callO 2 f__law_turned 0 (consL (varM 2) (nilL)))))))) (seqM (forM (seqI (opL gLst (consL (conM .none) (consL (conM (.int 0)) (consL (opL gTup (nilL)) (consL (opL gLst (nilL)) (consL (emptyD) (consL (conM (.bool true)) (consL (opL gTup (consL (conM (.str "a = 1\n")) (nilL))) (nilL)))))))))) (nameT 4) (ifM (op2 gNe (callD 2 f__law_told (consL (varM 4) (consL (conM (.bool false)) (nilL)))) (opL gLst (consL (conM .none) (nilL)))) (retM (conM (.bool false))) (nextM))) (forgetS 2 (retM (op2 gEq (frzE (lcM (seqI (opL gLst (consL (conM (.str "a=1 +b\n")) (consL (conM (.str "")) (consL (conM (.str "a = 01\n")) (consL (conM (.str "ab9 C")) (consL (conM (.str "9a")) (nilL)))))))) (nameT 2) (conM (.bool true)) (callD 2 f__law_told (consL (varM 2) (consL (conM (.bool false)) (nilL)))) [2])) (opL gLst (consL (opL gTup (consL (opL gTup (consL (conM (.int 0)) (consL (conM (.str "a")) (nilL)))) (consL (opL gTup (consL (conM (.int 1)) (consL (conM (.str "=")) (nilL)))) (consL (opL gTup (consL (conM (.int 2)) (consL (conM (.str "1")) (nilL)))) (consL (opL gTup (consL (conM (.int 4)) (consL (conM (.str "+")) (nilL)))) (consL (opL gTup (consL (conM (.int 5)) (consL (conM (.str "b")) (nilL)))) (nilL))))))) (consL (opL gTup (nilL)) (consL (opL gLst (consL (conM (.int 4)) (nilL))) (consL (opL gLst (consL (conM (.int 4)) (nilL))) (consL (opL gLst (consL (conM (.int 0)) (nilL))) (nilL)))))))))))
def f__law_right : FM := fnM [0] 5 b__law_right
def b_law : SM :=
  seqM (forM (rng1I (consL (opL gMax (consL (conM (.int 2)) (consL (opL gMin (consL (opL gLen (consL (varM 0) (nilL))) (consL (conM (.int 3)) (nilL)))) (nilL)))) (nilL))) (nameT 1) (ifM (notM (callL f__law_right (callD 2 f__law_pool (consL (varM 0) (consL (varM 1) (nilL)))))) (retM (conM (.bool false))) (nextM))) (retM (conM (.bool true)))
def f_law : FM := fnM [] 2 b_law
end K01
end DL
set_option Elab.async false
set_option linter.all false
set_option maxRecDepth 100000
set_option maxHeartbeats 2000000
set_option autoImplicit false
/-! K01W: the defs against their mirrors (printed by gen.py). -/
namespace DL
namespace K01
open PySem PySem.Spec PyProof.Rows L2
abbrev s_are_figures : Stmt := PySem.Challenge.pw_rootplans_k01_whole_tokens.main.body.getD 9 (.Pass ⟨0, 0, 0, 0⟩)
abbrev s_is_numeral : Stmt := PySem.Challenge.pw_rootplans_k01_whole_tokens.main.body.getD 10 (.Pass ⟨0, 0, 0, 0⟩)
abbrev s_kind_of_run : Stmt := PySem.Challenge.pw_rootplans_k01_whole_tokens.main.body.getD 11 (.Pass ⟨0, 0, 0, 0⟩)
abbrev s_kind_of_sign : Stmt := PySem.Challenge.pw_rootplans_k01_whole_tokens.main.body.getD 12 (.Pass ⟨0, 0, 0, 0⟩)
abbrev s_run_end : Stmt := PySem.Challenge.pw_rootplans_k01_whole_tokens.main.body.getD 13 (.Pass ⟨0, 0, 0, 0⟩)
abbrev s_piece_at : Stmt := PySem.Challenge.pw_rootplans_k01_whole_tokens.main.body.getD 14 (.Pass ⟨0, 0, 0, 0⟩)
abbrev s_pieces_by : Stmt := PySem.Challenge.pw_rootplans_k01_whole_tokens.main.body.getD 15 (.Pass ⟨0, 0, 0, 0⟩)
abbrev s_tokens_by : Stmt := PySem.Challenge.pw_rootplans_k01_whole_tokens.main.body.getD 16 (.Pass ⟨0, 0, 0, 0⟩)
abbrev s_check_string : Stmt := PySem.Challenge.pw_rootplans_k01_whole_tokens.main.body.getD 21 (.Pass ⟨0, 0, 0, 0⟩)
abbrev s_tokens : Stmt := PySem.Challenge.pw_rootplans_k01_whole_tokens.main.body.getD 22 (.Pass ⟨0, 0, 0, 0⟩)
abbrev s__law_pool : Stmt := PySem.Challenge.pw_rootplans_k01_whole_tokens.main.body.getD 24 (.Pass ⟨0, 0, 0, 0⟩)
abbrev s__law_draw : Stmt := PySem.Challenge.pw_rootplans_k01_whole_tokens.main.body.getD 25 (.Pass ⟨0, 0, 0, 0⟩)
abbrev s__law_pick : Stmt := PySem.Challenge.pw_rootplans_k01_whole_tokens.main.body.getD 26 (.Pass ⟨0, 0, 0, 0⟩)
abbrev s__law_is_num : Stmt := PySem.Challenge.pw_rootplans_k01_whole_tokens.main.body.getD 27 (.Pass ⟨0, 0, 0, 0⟩)
abbrev s__law_only : Stmt := PySem.Challenge.pw_rootplans_k01_whole_tokens.main.body.getD 28 (.Pass ⟨0, 0, 0, 0⟩)
abbrev s__law_is_numeral : Stmt := PySem.Challenge.pw_rootplans_k01_whole_tokens.main.body.getD 29 (.Pass ⟨0, 0, 0, 0⟩)
abbrev s__law_is_word : Stmt := PySem.Challenge.pw_rootplans_k01_whole_tokens.main.body.getD 30 (.Pass ⟨0, 0, 0, 0⟩)
abbrev s__law_tokens : Stmt := PySem.Challenge.pw_rootplans_k01_whole_tokens.main.body.getD 31 (.Pass ⟨0, 0, 0, 0⟩)
abbrev s__law_name_of : Stmt := PySem.Challenge.pw_rootplans_k01_whole_tokens.main.body.getD 32 (.Pass ⟨0, 0, 0, 0⟩)
abbrev s__law_number : Stmt := PySem.Challenge.pw_rootplans_k01_whole_tokens.main.body.getD 33 (.Pass ⟨0, 0, 0, 0⟩)
abbrev s__law_print : Stmt := PySem.Challenge.pw_rootplans_k01_whole_tokens.main.body.getD 34 (.Pass ⟨0, 0, 0, 0⟩)
abbrev s__law_within : Stmt := PySem.Challenge.pw_rootplans_k01_whole_tokens.main.body.getD 35 (.Pass ⟨0, 0, 0, 0⟩)
abbrev s__law_row_print : Stmt := PySem.Challenge.pw_rootplans_k01_whole_tokens.main.body.getD 36 (.Pass ⟨0, 0, 0, 0⟩)
abbrev s__law_text : Stmt := PySem.Challenge.pw_rootplans_k01_whole_tokens.main.body.getD 37 (.Pass ⟨0, 0, 0, 0⟩)
abbrev s__law_row_of : Stmt := PySem.Challenge.pw_rootplans_k01_whole_tokens.main.body.getD 38 (.Pass ⟨0, 0, 0, 0⟩)
abbrev s__law_any_plan : Stmt := PySem.Challenge.pw_rootplans_k01_whole_tokens.main.body.getD 39 (.Pass ⟨0, 0, 0, 0⟩)
abbrev s__law_turned : Stmt := PySem.Challenge.pw_rootplans_k01_whole_tokens.main.body.getD 40 (.Pass ⟨0, 0, 0, 0⟩)
abbrev s__law_told : Stmt := PySem.Challenge.pw_rootplans_k01_whole_tokens.main.body.getD 41 (.Pass ⟨0, 0, 0, 0⟩)
abbrev s__law_due : Stmt := PySem.Challenge.pw_rootplans_k01_whole_tokens.main.body.getD 42 (.Pass ⟨0, 0, 0, 0⟩)
abbrev s__law_right : Stmt := PySem.Challenge.pw_rootplans_k01_whole_tokens.main.body.getD 43 (.Pass ⟨0, 0, 0, 0⟩)
abbrev s_law : Stmt := PySem.Challenge.pw_rootplans_k01_whole_tokens.main.body.getD 44 (.Pass ⟨0, 0, 0, 0⟩)
structure Txt (K : PySem.W.Frag) (mg : Str → Option Value) : Prop where
  d_are_figures : DefAt K mg "are_figures" s_are_figures ["run"]
  d_is_numeral : DefAt K mg "is_numeral" s_is_numeral ["run"]
  d_kind_of_run : DefAt K mg "kind_of_run" s_kind_of_run ["run"]
  d_kind_of_sign : DefAt K mg "kind_of_sign" s_kind_of_sign ["sign"]
  d_run_end : DefAt K mg "run_end" s_run_end ["text", "start"]
  d_piece_at : DefAt K mg "piece_at" s_piece_at ["text", "start"]
  d_pieces_by : DefAt K mg "pieces_by" s_pieces_by ["text"]
  d_tokens_by : DefAt K mg "tokens_by" s_tokens_by ["text"]
  d_check_string : DefAt K mg "check_string" s_check_string ["value"]
  d_tokens : DefAt K mg "tokens" s_tokens ["text"]
  d__law_pool : DefAt K mg "_law_pool" s__law_pool ["script", "turn"]
  d__law_draw : DefAt K mg "_law_draw" s__law_draw ["pool", "many"]
  d__law_pick : DefAt K mg "_law_pick" s__law_pick ["pool", "some"]
  d__law_is_num : DefAt K mg "_law_is_num" s__law_is_num ["value"]
  d__law_only : DefAt K mg "_law_only" s__law_only ["text", "signs"]
  d__law_is_numeral : DefAt K mg "_law_is_numeral" s__law_is_numeral ["word"]
  d__law_is_word : DefAt K mg "_law_is_word" s__law_is_word ["word"]
  d__law_tokens : DefAt K mg "_law_tokens" s__law_tokens ["text"]
  d__law_name_of : DefAt K mg "_law_name_of" s__law_name_of ["pool", "used"]
  d__law_number : DefAt K mg "_law_number" s__law_number ["pool", "names", "deep"]
  d__law_print : DefAt K mg "_law_print" s__law_print ["tree"]
  d__law_within : DefAt K mg "_law_within" s__law_within ["tree", "weak"]
  d__law_row_print : DefAt K mg "_law_row_print" s__law_row_print ["row"]
  d__law_text : DefAt K mg "_law_text" s__law_text ["plan"]
  d__law_row_of : DefAt K mg "_law_row_of" s__law_row_of ["pool", "names"]
  d__law_any_plan : DefAt K mg "_law_any_plan" s__law_any_plan ["pool", "most"]
  d__law_turned : DefAt K mg "_law_turned" s__law_turned ["pool", "text"]
  d__law_told : DefAt K mg "_law_told" s__law_told ["thing", "by_name"]
  d__law_due : DefAt K mg "_law_due" s__law_due ["text"]
  d__law_right : DefAt K mg "_law_right" s__law_right ["pool"]
  d_law : DefAt K mg "law" s_law ["script"]
  n_abs : mg "abs" = none
  n_all : mg "all" = none
  n_bool : mg "bool" = none
  n_divmod : mg "divmod" = none
  n_int : mg "int" = none
  n_isinstance : mg "isinstance" = none
  n_len : mg "len" = none
  n_max : mg "max" = none
  n_min : mg "min" = none
  n_range : mg "range" = none
  n_repr : mg "repr" = none
  n_str : mg "str" = none
  n_tuple : mg "tuple" = none
  g_BLANK : GlobD K mg "BLANK" g_BLANK
  g_FIGURES : GlobD K mg "FIGURES" g_FIGURES
  g_LINE_END : GlobD K mg "LINE_END" g_LINE_END
  g_MOST_FIGURES : GlobD K mg "MOST_FIGURES" g_MOST_FIGURES
  g_MOST_SIGNS : GlobD K mg "MOST_SIGNS" g_MOST_SIGNS
  g_RUN_SIGNS : GlobD K mg "RUN_SIGNS" g_RUN_SIGNS
  g_SIGNS : GlobD K mg "SIGNS" g_SIGNS
  g_WORDS : GlobD K mg "WORDS" g_WORDS
  x_InvalidText : ∃ C fI fd, ∀ P w base, XC P w K mg base "InvalidText" "index" C fI fd
  c_InvalidText : CatchC K mg "InvalidText" "PlanError" "index" "ValueError" "ValueError"
theorem ds_raiseX {X : Cx} {W : WX} {Pn : List Nat} {k : Nat} {x f : Str} {p p2 pos : Pos} {e : Expr} {m : EM} (T : ∃ C fI fd, ∀ P w base, XC P w X.K X.mg base x f C fI fd) (hh : Here X W k) (hk : 2 ≤ k) (h : PED X W Pn e m) (hg : Gl X x := by rfl) (hdb : (x == ("__debug__" : Str)) = false := by decide)
    (he : starEach (e :: []) X.env = (false, eval e X.env) :: starEach [] X.env := by rfl) (hpl : (backTo p2 (starEach [] X.env)).any (·.1) = false := by rfl) : PSD X W Pn (.Raise (some (.Call (.Name x p) [e] [] p2)) none pos) (raiseM x f m) := by
  obtain ⟨C, fI, fd, q⟩ := T
  exact ds_raise (q _ _ _) hh hk h hg hdb he hpl
variable {P : Program} {w : World} {K : PySem.W.Frag} {mg : Str → Option Value} {base : Heap}
theorem sc_are_figures : FnScope ["run", "sign"] ["run"] (defScope s_are_figures) := ⟨rfl, rfl, rfl, by decide +kernel, rfl, by decide +kernel, by decide +kernel⟩
theorem sc_is_numeral : FnScope ["run"] ["run"] (defScope s_is_numeral) := ⟨rfl, rfl, rfl, by decide +kernel, rfl, by decide +kernel, by decide +kernel⟩
theorem sc_kind_of_run : FnScope ["run"] ["run"] (defScope s_kind_of_run) := ⟨rfl, rfl, rfl, by decide +kernel, rfl, by decide +kernel, by decide +kernel⟩
theorem sc_kind_of_sign : FnScope ["sign"] ["sign"] (defScope s_kind_of_sign) := ⟨rfl, rfl, rfl, by decide +kernel, rfl, by decide +kernel, by decide +kernel⟩
theorem sc_run_end : FnScope ["text", "start", "at"] ["text", "start"] (defScope s_run_end) := ⟨rfl, rfl, rfl, by decide +kernel, rfl, by decide +kernel, by decide +kernel⟩
theorem sc_piece_at : FnScope ["text", "start", "run"] ["text", "start"] (defScope s_piece_at) := ⟨rfl, rfl, rfl, by decide +kernel, rfl, by decide +kernel, by decide +kernel⟩
theorem sc_pieces_by : FnScope ["text", "found", "at", "piece"] ["text"] (defScope s_pieces_by) := ⟨rfl, rfl, rfl, by decide +kernel, rfl, by decide +kernel, by decide +kernel⟩
theorem sc_tokens_by : FnScope ["text", "pieces", "index", "kind", "_", "part"] ["text"] (defScope s_tokens_by) := ⟨rfl, rfl, rfl, by decide +kernel, rfl, by decide +kernel, by decide +kernel⟩
theorem sc_check_string : FnScope ["value"] ["value"] (defScope s_check_string) := ⟨rfl, rfl, rfl, by decide +kernel, rfl, by decide +kernel, by decide +kernel⟩
theorem sc_tokens : FnScope ["text", "found", "index"] ["text"] (defScope s_tokens) := ⟨rfl, rfl, rfl, by decide +kernel, rfl, by decide +kernel, by decide +kernel⟩
theorem sc__law_pool : FnScope ["script", "turn", "own", "stirred", "cell"] ["script", "turn"] (defScope s__law_pool) := ⟨rfl, rfl, rfl, by decide +kernel, rfl, by decide +kernel, by decide +kernel⟩
theorem sc__law_draw : FnScope ["pool", "many", "figure", "held"] ["pool", "many"] (defScope s__law_draw) := ⟨rfl, rfl, rfl, by decide +kernel, rfl, by decide +kernel, by decide +kernel⟩
theorem sc__law_pick : FnScope ["pool", "some"] ["pool", "some"] (defScope s__law_pick) := ⟨rfl, rfl, rfl, by decide +kernel, rfl, by decide +kernel, by decide +kernel⟩
theorem sc__law_is_num : FnScope ["value"] ["value"] (defScope s__law_is_num) := ⟨rfl, rfl, rfl, by decide +kernel, rfl, by decide +kernel, by decide +kernel⟩
theorem sc__law_only : FnScope ["text", "signs", "sign"] ["text", "signs"] (defScope s__law_only) := ⟨rfl, rfl, rfl, by decide +kernel, rfl, by decide +kernel, by decide +kernel⟩
theorem sc__law_is_numeral : FnScope ["word"] ["word"] (defScope s__law_is_numeral) := ⟨rfl, rfl, rfl, by decide +kernel, rfl, by decide +kernel, by decide +kernel⟩
theorem sc__law_is_word : FnScope ["word"] ["word"] (defScope s__law_is_word) := ⟨rfl, rfl, rfl, by decide +kernel, rfl, by decide +kernel, by decide +kernel⟩
theorem sc__law_tokens : FnScope ["text", "found", "at", "runs", "signs", "step", "end", "run"] ["text"] (defScope s__law_tokens) := ⟨rfl, rfl, rfl, by decide +kernel, rfl, by decide +kernel, by decide +kernel⟩
theorem sc__law_name_of : FnScope ["pool", "used", "some", "name"] ["pool", "used"] (defScope s__law_name_of) := ⟨rfl, rfl, rfl, by decide +kernel, rfl, by decide +kernel, by decide +kernel⟩
theorem sc__law_number : FnScope ["pool", "names", "deep", "way", "one", "many", "part"] ["pool", "names", "deep"] (defScope s__law_number) := ⟨rfl, rfl, rfl, by decide +kernel, rfl, by decide +kernel, by decide +kernel⟩
theorem sc__law_print : FnScope ["tree", "word", "weak", "sign", "part"] ["tree"] (defScope s__law_print) := ⟨rfl, rfl, rfl, by decide +kernel, rfl, by decide +kernel, by decide +kernel⟩
theorem sc__law_within : FnScope ["tree", "weak", "text", "own"] ["tree", "weak"] (defScope s__law_within) := ⟨rfl, rfl, rfl, by decide +kernel, rfl, by decide +kernel, by decide +kernel⟩
theorem sc__law_row_print : FnScope ["row", "ask", "parts", "part"] ["row"] (defScope s__law_row_print) := ⟨rfl, rfl, rfl, by decide +kernel, rfl, by decide +kernel, by decide +kernel⟩
theorem sc__law_text : FnScope ["plan", "row"] ["plan"] (defScope s__law_text) := ⟨rfl, rfl, rfl, by decide +kernel, rfl, by decide +kernel, by decide +kernel⟩
theorem sc__law_row_of : FnScope ["pool", "names", "way", "name", "one", "two", "three", "word"] ["pool", "names"] (defScope s__law_row_of) := ⟨rfl, rfl, rfl, by decide +kernel, rfl, by decide +kernel, by decide +kernel⟩
theorem sc__law_any_plan : FnScope ["pool", "most", "names", "step"] ["pool", "most"] (defScope s__law_any_plan) := ⟨rfl, rfl, rfl, by decide +kernel, rfl, by decide +kernel, by decide +kernel⟩
theorem sc__law_turned : FnScope ["pool", "text", "at", "some", "part"] ["pool", "text"] (defScope s__law_turned) := ⟨rfl, rfl, rfl, by decide +kernel, rfl, by decide +kernel, by decide +kernel⟩
theorem sc__law_told : FnScope ["thing", "by_name", "e"] ["thing", "by_name"] (defScope s__law_told) := ⟨rfl, rfl, rfl, by decide +kernel, rfl, by decide +kernel, by decide +kernel⟩
theorem sc__law_due : FnScope ["text", "found", "wrong", "at", "word"] ["text"] (defScope s__law_due) := ⟨rfl, rfl, rfl, by decide +kernel, rfl, by decide +kernel, by decide +kernel⟩
theorem sc__law_right : FnScope ["pool", "turn", "text", "step", "thing"] ["pool"] (defScope s__law_right) := ⟨rfl, rfl, rfl, by decide +kernel, rfl, by decide +kernel, by decide +kernel⟩
theorem sc_law : FnScope ["script", "turn"] ["script"] (defScope s_law) := ⟨rfl, rfl, rfl, by decide +kernel, rfl, by decide +kernel, by decide +kernel⟩
theorem at_are_figures (T : Txt K mg) : FnAt P w K mg base 1 "are_figures" ["run"] f_are_figures :=
  fnAt_of (N := ["run", "sign"]) (pin := []) (m := b_are_figures) T.d_are_figures sc_are_figures fun f cdv A outer s H E h =>
    db_one (ds_ret (de_and (de_ne h (de_var 0) (de_str)) (de_one (de_all h T.n_all (da_cons (de_frz (de_lc [("sign", 1)] h sc_are_figures.nd (di_seq (de_var 0)) (blkOk_by rfl) (fun _ _ _ _ _ => dv_name 1 (by decide) (by decide) sc_are_figures.nd) (fun _ _ _ _ _ => dc_nil) (fun _ _ _ _ _ => de_in (de_var 1) (de_glob T.g_FIGURES)))) (da_nil))))))
theorem at_is_numeral (T : Txt K mg) : FnAt P w K mg base 2 "is_numeral" ["run"] f_is_numeral :=
  fnAt_of (N := ["run"]) (pin := []) (m := b_is_numeral) T.d_is_numeral sc_is_numeral fun f cdv A outer s H E h =>
    db_one (ds_ret (de_and (de_callD (at_are_figures (P := P) (w := w) (base := base) T) h (by omega) rfl (da_cons (de_var 0) (da_nil))) (de_and (de_le (de_len T.n_len (da_cons (de_var 0) (da_nil))) (de_glob T.g_MOST_FIGURES)) (de_one (de_or (de_eq h (de_var 0) (de_str)) (de_one (de_ne h (de_ix (de_var 0) (de_int)) (de_str))))))))
theorem at_kind_of_run (T : Txt K mg) : FnAt P w K mg base 3 "kind_of_run" ["run"] f_kind_of_run :=
  fnAt_of (N := ["run"]) (pin := []) (m := b_kind_of_run) T.d_kind_of_run sc_kind_of_run fun f cdv A outer s H E h =>
    db_cons (ds_if (dt_in (de_ix (de_var 0) (de_int)) (de_glob T.g_FIGURES)) (db_one (ds_ret (de_ifE (dt_val (de_callD (at_is_numeral (P := P) (w := w) (base := base) T) h (by omega) rfl (da_cons (de_var 0) (da_nil)))) (de_str) (de_str)))) (db_nil)) (db_cons (ds_if (dt_gt (de_len T.n_len (da_cons (de_var 0) (da_nil))) (de_glob T.g_MOST_SIGNS)) (db_one (ds_ret (de_str))) (db_nil)) (db_one (ds_ret (de_ifE (dt_in (de_var 0) (de_glob T.g_WORDS)) (de_str) (de_str)))))
theorem at_kind_of_sign (T : Txt K mg) : FnAt P w K mg base 1 "kind_of_sign" ["sign"] f_kind_of_sign :=
  fnAt_of (N := ["sign"]) (pin := []) (m := b_kind_of_sign) T.d_kind_of_sign sc_kind_of_sign fun f cdv A outer s H E h =>
    db_cons (ds_if (dt_eq h (de_var 0) (de_glob T.g_LINE_END)) (db_one (ds_ret (de_str))) (db_nil)) (db_one (ds_ret (de_ifE (dt_in (de_var 0) (de_glob T.g_SIGNS)) (de_str) (de_str))))
theorem at_run_end (T : Txt K mg) : FnAt P w K mg base 1 "run_end" ["text", "start"] f_run_end :=
  fnAt_of (N := ["text", "start", "at"]) (pin := []) (m := b_run_end) T.d_run_end sc_run_end fun f cdv A outer s H E h =>
    db_cons (ds_set 2 sc_run_end.nd (de_var 1)) (db_cons (ds_while (fuelText 0) h (dt_and (dt_lt (de_var 2) (de_len T.n_len (da_cons (de_var 0) (da_nil)))) (dw_and1 (dt_in (de_ix (de_var 0) (de_var 2)) (de_glob T.g_RUN_SIGNS)))) (db_one (ds_set 2 sc_run_end.nd (de_add (de_var 2) (de_int))))) (db_one (ds_ret (de_var 2))))
theorem at_piece_at (T : Txt K mg) : FnAt P w K mg base 4 "piece_at" ["text", "start"] f_piece_at :=
  fnAt_of (N := ["text", "start", "run"]) (pin := []) (m := b_piece_at) T.d_piece_at sc_piece_at fun f cdv A outer s H E h =>
    db_cons (ds_if (dt_notIn (de_ix (de_var 0) (de_var 1)) (de_glob T.g_RUN_SIGNS)) (db_one (ds_ret (de_tup (da_cons (de_var 1) (da_cons (de_callD (at_kind_of_sign (P := P) (w := w) (base := base) T) h (by omega) rfl (da_cons (de_ix (de_var 0) (de_var 1)) (da_nil))) (da_cons (de_ix (de_var 0) (de_var 1)) (da_nil))))))) (db_nil)) (db_cons (ds_set 2 sc_piece_at.nd (de_sl (de_var 0) (do_part (de_var 1)) (do_part (de_callD (at_run_end (P := P) (w := w) (base := base) T) h (by omega) rfl (da_cons (de_var 0) (da_cons (de_var 1) (da_nil))))))) (db_one (ds_ret (de_tup (da_cons (de_var 1) (da_cons (de_callD (at_kind_of_run (P := P) (w := w) (base := base) T) h (by omega) rfl (da_cons (de_var 2) (da_nil))) (da_cons (de_var 2) (da_nil))))))))
theorem at_pieces_by (T : Txt K mg) : FnAt P w K mg base 5 "pieces_by" ["text"] f_pieces_by :=
  fnAt_of (N := ["text", "found", "at", "piece"]) (pin := []) (m := b_pieces_by) T.d_pieces_by sc_pieces_by fun f cdv A outer s H E h =>
    db_cons (ds_par 1 2 h.calm sc_pieces_by.nd (da_cons (de_lstO (da_nil)) (da_cons (de_int) (da_nil)))) (db_cons (ds_while (fuelText 0) h (dt_lt (de_var 2) (de_len T.n_len (da_cons (de_var 0) (da_nil)))) (db_one (ds_if (dt_eq h (de_ix (de_var 0) (de_var 2)) (de_glob T.g_BLANK)) (db_one (ds_set 2 sc_pieces_by.nd (de_add (de_var 2) (de_int)))) (db_cons (ds_set 3 sc_pieces_by.nd (de_callD (at_piece_at (P := P) (w := w) (base := base) T) h (by omega) rfl (da_cons (de_var 0) (da_cons (de_var 2) (da_nil))))) (db_cons (ds_app 1 (de_var 3)) (db_one (ds_set 2 sc_pieces_by.nd (de_add (de_var 2) (de_len T.n_len (da_cons (de_ix (de_var 3) (de_int)) (da_nil))))))))))) (db_one (ds_frz 1 (ds_ret (de_var 1)))))
theorem at_tokens_by (T : Txt K mg) : FnAt P w K mg base 6 "tokens_by" ["text"] f_tokens_by :=
  fnAt_of (N := ["text", "pieces", "index", "kind", "_", "part"]) (pin := []) (m := b_tokens_by) T.d_tokens_by sc_tokens_by fun f cdv A outer s H E h =>
    db_cons (ds_set 1 sc_tokens_by.nd (de_callD (at_pieces_by (P := P) (w := w) (base := base) T) h (by omega) rfl (da_cons (de_var 0) (da_nil)))) (db_cons (ds_for h (di_seq (de_var 1)) (dg_tup h.calm (dg_cons (dg_name 2 (by decide) sc_tokens_by.nd) (dg_cons (dg_name 3 (by decide) sc_tokens_by.nd) (dg_cons (dg_name 4 (by decide) sc_tokens_by.nd) (dg_nil))))) (db_one (ds_if (dt_eq h (de_var 3) (de_str)) (db_one (ds_ret (de_tup (da_cons (de_none) (da_cons (de_var 2) (da_nil)))))) (db_nil)))) (db_one (ds_forget 3 (ds_forget 2 (ds_ret (de_tup (da_cons (de_tupC T.n_tuple (da_cons (de_frz (de_lc [("index", 2), ("kind", 3), ("part", 5)] h sc_tokens_by.nd (di_seq (de_var 1)) (blkOk_by rfl) (fun _ _ _ _ _ => dv_tupT h.blk.calm (dv_cons (dv_name 2 (by decide) (by decide) sc_tokens_by.nd) (dv_cons (dv_name 3 (by decide) (by decide) sc_tokens_by.nd) (dv_cons (dv_name 5 (by decide) (by decide) sc_tokens_by.nd) (dv_nil))))) (fun _ _ _ _ _ => dc_one (dt_ne h.blk (de_var 3) (de_str))) (fun _ _ _ _ _ => de_tup (da_cons (de_var 2) (da_cons (de_var 5) (da_nil)))))) (da_nil))) (da_cons (de_none) (da_nil)))))))))
theorem at_check_string (T : Txt K mg) : FnAt P w K mg base 3 "check_string" ["value"] f_check_string :=
  fnAt_of (N := ["value"]) (pin := []) (m := b_check_string) T.d_check_string sc_check_string fun f cdv A outer s H E h =>
    db_one (ds_if (dt_not (dt_val (de_isi (T := "str") (Tn := "str") (by decide +kernel) (by decide) T.n_isinstance T.n_str rfl (de_var 0)))) (db_one (ds_raiseX T.x_InvalidText h (by omega) (de_none))) (db_nil))
theorem at_tokens (T : Txt K mg) : FnAt P w K mg base 7 "tokens" ["text"] f_tokens :=
  fnAt_of (N := ["text", "found", "index"]) (pin := []) (m := b_tokens) T.d_tokens sc_tokens fun f cdv A outer s H E h =>
    db_cons (ds_expr (de_callD (at_check_string (P := P) (w := w) (base := base) T) h (by omega) rfl (da_cons (de_var 0) (da_nil)))) (db_cons (ds_asg (de_callD (at_tokens_by (P := P) (w := w) (base := base) T) h (by omega) rfl (da_cons (de_var 0) (da_nil))) (dg_tup h.calm (dg_cons (dg_name 1 (by decide) sc_tokens.nd) (dg_cons (dg_name 2 (by decide) sc_tokens.nd) (dg_nil))))) (db_cons (ds_if (dt_isN (de_var 1) (de_none)) (db_one (ds_raiseX T.x_InvalidText h (by omega) (de_var 2))) (db_nil)) (db_one (ds_ret (de_var 1)))))
theorem at__law_pool (T : Txt K mg) : FnAt P w K mg base 1 "_law_pool" ["script", "turn"] f__law_pool :=
  fnAt_of (N := ["script", "turn", "own", "stirred", "cell"]) (pin := []) (m := b__law_pool) T.d__law_pool sc__law_pool fun f cdv A outer s H E h =>
    db_cons (ds_par 2 3 h.calm sc__law_pool.nd (da_cons (de_ifE (dt_lt (de_var 1) (de_len T.n_len (da_cons (de_var 0) (da_nil)))) (de_intC T.n_int (da_cons (de_ix (de_var 0) (de_var 1)) (da_nil))) (de_add (de_mul (de_int) (de_var 1)) (de_int))) (da_cons (de_add (de_int) (de_mul (de_int) (de_var 1))) (da_nil)))) (db_cons (ds_for h (di_seq (de_sl (de_var 0) (do_no) (do_part (de_int)))) (dg_name 4 (by decide) sc__law_pool.nd) (db_one (ds_set 3 sc__law_pool.nd (de_mod (de_intC T.n_int (da_cons (de_add (de_add (de_mul (de_var 3) (de_int)) (de_mod (de_intC T.n_int (da_cons (de_var 4) (da_nil))) (de_int))) (de_int)) (da_nil))) (de_int))))) (db_one (ds_ret (de_lstO (da_cons (de_mod (de_intC T.n_int (da_cons (de_add (de_var 3) (de_mul (de_var 2) (de_int))) (da_nil))) (de_int)) (da_cons (de_ifE (dt_or (dt_lt (de_var 2) (de_int)) (dw_or1 (dt_ge (de_var 2) (de_pow (de_int) (de_int))))) (de_abs T.n_abs (da_cons (de_var 2) (da_nil))) (de_int)) (da_cons (de_int) (da_nil))))))))
theorem at__law_draw (T : Txt K mg) : FnAt P w K mg base 1 "_law_draw" ["pool", "many"] f__law_draw :=
  fnAt_of (N := ["pool", "many", "figure", "held"]) (pin := [0]) (m := b__law_draw) T.d__law_draw sc__law_draw fun f cdv A outer s H E h =>
    db_cons (ds_if (dt_gt (de_ixO 0 (de_int) (fun _ _ => rfl) rfl (by first | exact Or.inl rfl | exact Or.inr (Or.inl rfl) | exact Or.inr (Or.inr rfl)) (by decide) (by decide)) (de_int)) (db_cons (ds_asg (de_divmod T.n_divmod (da_cons (de_ixO 0 (de_int) (fun _ _ => rfl) rfl (by first | exact Or.inl rfl | exact Or.inr (Or.inl rfl) | exact Or.inr (Or.inr rfl)) (by decide) (by decide)) (da_cons (de_var 1) (da_nil)))) (dg_tup h.calm (dg_cons (dg_sub 0) (dg_cons (dg_name 2 (by decide) sc__law_draw.nd) (dg_nil))))) (db_one (ds_ret (de_var 2)))) (db_nil)) (db_cons (ds_asg (de_add (de_ixO 0 (de_int) (fun _ _ => rfl) rfl (by first | exact Or.inl rfl | exact Or.inr (Or.inl rfl) | exact Or.inr (Or.inr rfl)) (by decide) (by decide)) (de_int)) (dg_sub 0)) (db_cons (ds_set 3 sc__law_draw.nd (de_intC T.n_int (da_cons (de_ixO 0 (de_int) (fun _ _ => rfl) rfl (by first | exact Or.inl rfl | exact Or.inr (Or.inl rfl) | exact Or.inr (Or.inr rfl)) (by decide) (by decide)) (da_nil)))) (db_cons (ds_asg (de_mod (de_intC T.n_int (da_cons (de_add (de_add (de_mul (de_var 3) (de_add (de_mod (de_var 3) (de_int)) (de_int))) (de_mul (de_int) (de_ixO 0 (de_int) (fun _ _ => rfl) rfl (by first | exact Or.inl rfl | exact Or.inr (Or.inl rfl) | exact Or.inr (Or.inr rfl)) (by decide) (by decide)))) (de_int)) (da_nil))) (de_int)) (dg_sub 0)) (db_one (ds_ret (de_mod (de_intC T.n_int (da_cons (de_div (de_ixO 0 (de_int) (fun _ _ => rfl) rfl (by first | exact Or.inl rfl | exact Or.inr (Or.inl rfl) | exact Or.inr (Or.inr rfl)) (by decide) (by decide)) (de_int)) (da_nil))) (de_var 1)))))))
theorem at__law_pick (T : Txt K mg) : FnAt P w K mg base 2 "_law_pick" ["pool", "some"] f__law_pick :=
  fnAt_of (N := ["pool", "some"]) (pin := [0]) (m := b__law_pick) T.d__law_pick sc__law_pick fun f cdv A outer s H E h =>
    db_one (ds_ret (de_ix (de_var 1) (de_callO 0 (at__law_draw (P := P) (w := w) (base := base) T) h (by omega) rfl (da_cons (de_len T.n_len (da_cons (de_var 1) (da_nil))) (da_nil)))))
theorem at__law_is_num (T : Txt K mg) : FnAt P w K mg base 1 "_law_is_num" ["value"] f__law_is_num :=
  fnAt_of (N := ["value"]) (pin := []) (m := b__law_is_num) T.d__law_is_num sc__law_is_num fun f cdv A outer s H E h =>
    db_one (ds_ret (de_and (de_isi (T := "int") (Tn := "int") (by decide +kernel) (by decide) T.n_isinstance T.n_int rfl (de_var 0)) (de_one (de_not (de_isi (T := "bool") (Tn := "bool") (by decide +kernel) (by decide) T.n_isinstance T.n_bool rfl (de_var 0))))))
theorem at__law_only (T : Txt K mg) : FnAt P w K mg base 1 "_law_only" ["text", "signs"] f__law_only :=
  fnAt_of (N := ["text", "signs", "sign"]) (pin := []) (m := b__law_only) T.d__law_only sc__law_only fun f cdv A outer s H E h =>
    db_one (ds_ret (de_eq h (de_frz (de_lc [("sign", 2)] h sc__law_only.nd (di_seq (de_var 0)) (blkOk_by rfl) (fun _ _ _ _ _ => dv_name 2 (by decide) (by decide) sc__law_only.nd) (fun _ _ _ _ _ => dc_one (dt_notIn (de_var 2) (de_var 1))) (fun _ _ _ _ _ => de_var 2))) (de_lst (da_nil))))
theorem at__law_is_numeral (T : Txt K mg) : FnAt P w K mg base 2 "_law_is_numeral" ["word"] f__law_is_numeral :=
  fnAt_of (N := ["word"]) (pin := []) (m := b__law_is_numeral) T.d__law_is_numeral sc__law_is_numeral fun f cdv A outer s H E h =>
    db_one (ds_ret (de_and (de_ltle (de_int) (de_len T.n_len (da_cons (de_var 0) (da_nil))) (de_int)) (de_and (de_callD (at__law_only (P := P) (w := w) (base := base) T) h (by omega) rfl (da_cons (de_var 0) (da_cons (de_str) (da_nil)))) (de_one (de_or (de_ne h (de_ix (de_var 0) (de_int)) (de_str)) (de_one (de_eq h (de_var 0) (de_str))))))))
theorem at__law_is_word (T : Txt K mg) : FnAt P w K mg base 2 "_law_is_word" ["word"] f__law_is_word :=
  fnAt_of (N := ["word"]) (pin := []) (m := b__law_is_word) T.d__law_is_word sc__law_is_word fun f cdv A outer s H E h =>
    db_one (ds_ret (de_and (de_ltle (de_int) (de_len T.n_len (da_cons (de_var 0) (da_nil))) (de_int)) (de_and (de_callD (at__law_only (P := P) (w := w) (base := base) T) h (by omega) rfl (da_cons (de_var 0) (da_cons (de_str) (da_nil)))) (de_one (de_notIn (de_ix (de_var 0) (de_int)) (de_str))))))
theorem at__law_tokens (T : Txt K mg) : FnAt P w K mg base 3 "_law_tokens" ["text"] f__law_tokens :=
  fnAt_of (N := ["text", "found", "at", "runs", "signs", "step", "end", "run"]) (pin := []) (m := b__law_tokens) T.d__law_tokens sc__law_tokens fun f cdv A outer s H E h =>
    db_cons (ds_par 1 2 h.calm sc__law_tokens.nd (da_cons (de_lstO (da_nil)) (da_cons (de_int) (da_nil)))) (db_cons (ds_asg (de_tup (da_cons (de_str) (da_cons (de_str) (da_nil)))) (dg_tup h.calm (dg_cons (dg_name 3 (by decide) sc__law_tokens.nd) (dg_cons (dg_name 4 (by decide) sc__law_tokens.nd) (dg_nil))))) (db_cons (ds_for h (di_rng1 T.n_range (da_cons (de_add (de_len T.n_len (da_cons (de_var 0) (da_nil))) (de_int)) (da_nil))) (dg_name 5 (by decide) sc__law_tokens.nd) (db_one (ds_if (dt_lt (de_var 2) (de_len T.n_len (da_cons (de_var 0) (da_nil)))) (db_cons (ds_set 6 sc__law_tokens.nd (de_var 2)) (db_cons (ds_while (fuelText 0) h (dt_and (dt_lt (de_var 6) (de_len T.n_len (da_cons (de_var 0) (da_nil)))) (dw_and1 (dt_in (de_ix (de_var 0) (de_var 6)) (de_var 3)))) (db_one (ds_set 6 sc__law_tokens.nd (de_add (de_var 6) (de_int))))) (db_one (ds_if (dt_gt (de_var 6) (de_var 2)) (db_cons (ds_set 7 sc__law_tokens.nd (de_sl (de_var 0) (do_part (de_var 2)) (do_part (de_var 6)))) (db_cons (ds_app 1 (de_tup (da_cons (de_var 2) (da_cons (de_ifE (dt_or (dt_val (de_callD (at__law_is_numeral (P := P) (w := w) (base := base) T) h (by omega) rfl (da_cons (de_var 7) (da_nil)))) (dw_or1 (dt_val (de_callD (at__law_is_word (P := P) (w := w) (base := base) T) h (by omega) rfl (da_cons (de_var 7) (da_nil)))))) (de_var 7) (de_none)) (da_nil))))) (db_one (ds_set 2 sc__law_tokens.nd (de_var 6))))) (db_cons (ds_if (dt_ne h (de_ix (de_var 0) (de_var 2)) (de_str)) (db_one (ds_app 1 (de_tup (da_cons (de_var 2) (da_cons (de_ifE (dt_in (de_ix (de_var 0) (de_var 2)) (de_var 4)) (de_ix (de_var 0) (de_var 2)) (de_none)) (da_nil)))))) (db_nil)) (db_one (ds_set 2 sc__law_tokens.nd (de_add (de_var 2) (de_int))))))))) (db_nil)))) (db_one (ds_frz 1 (ds_ret (de_var 1))))))
theorem at__law_name_of (T : Txt K mg) : FnAt P w K mg base 3 "_law_name_of" ["pool", "used"] f__law_name_of :=
  fnAt_of (N := ["pool", "used", "some", "name"]) (pin := [0]) (m := b__law_name_of) T.d__law_name_of sc__law_name_of fun f cdv A outer s H E h =>
    db_cons (ds_set 2 sc__law_name_of.nd (de_lst (da_cons (de_str) (da_cons (de_str) (da_cons (de_str) (da_cons (de_str) (da_cons (de_str) (da_cons (de_str) (da_cons (de_str) (da_cons (de_str) (da_cons (de_str) (da_cons (de_str) (da_cons (de_str) (da_cons (de_str) (da_cons (de_str) (da_cons (de_str) (da_cons (de_str) (da_cons (de_str) (da_cons (de_str) (da_cons (de_str) (da_cons (de_str) (da_cons (de_str) (da_cons (de_str) (da_cons (de_str) (da_cons (de_str) (da_cons (de_str) (da_cons (de_str) (da_cons (de_str) (da_cons (de_str) (da_cons (de_str) (da_nil))))))))))))))))))))))))))))))) (db_one (ds_ret (de_callO 0 (at__law_pick (P := P) (w := w) (base := base) T) h (by omega) rfl (da_cons (de_frz (de_lc [("name", 3)] h sc__law_name_of.nd (di_seq (de_var 2)) (blkOk_by rfl) (fun _ _ _ _ _ => dv_name 3 (by decide) (by decide) sc__law_name_of.nd) (fun _ _ _ _ _ => dc_one (dt_notIn (de_var 3) (de_var 1))) (fun _ _ _ _ _ => de_var 3))) (da_nil)))))
theorem step__law_number {k : Nat} {r__law_number : FM} (T : Txt K mg) (hk : 2 ≤ k) (R__law_number : FnAt P w K mg base k "_law_number" ["pool", "names", "deep"] r__law_number) : FnAt P w K mg base (k + 1) "_law_number" ["pool", "names", "deep"] (fnM [0] 7 (b__law_number r__law_number)) :=
  fnAt_of (N := ["pool", "names", "deep", "way", "one", "many", "part"]) (pin := [0]) (m := b__law_number r__law_number) T.d__law_number sc__law_number fun f cdv A outer s H E h =>
    db_cons (ds_set 3 sc__law_number.nd (de_callO 0 (at__law_draw (P := P) (w := w) (base := base) T) h (by omega) rfl (da_cons (de_int) (da_nil)))) (db_cons (ds_if (dt_or (dt_eq h (de_var 2) (de_int)) (dw_or1 (dt_lt (de_var 3) (de_int)))) (db_cons (ds_if (dt_and (dt_ne h (de_var 1) (de_lst (da_nil))) (dw_and1 (dt_eq h (de_callO 0 (at__law_draw (P := P) (w := w) (base := base) T) h (by omega) rfl (da_cons (de_int) (da_nil))) (de_int)))) (db_one (ds_ret (de_tup (da_cons (de_str) (da_cons (de_callO 0 (at__law_pick (P := P) (w := w) (base := base) T) h (by omega) rfl (da_cons (de_var 1) (da_nil))) (da_nil)))))) (db_nil)) (db_one (ds_ret (de_tup (da_cons (de_str) (da_cons (de_ifE (dt_gt (de_callO 0 (at__law_draw (P := P) (w := w) (base := base) T) h (by omega) rfl (da_cons (de_int) (da_nil))) (de_int)) (de_callO 0 (at__law_draw (P := P) (w := w) (base := base) T) h (by omega) rfl (da_cons (de_int) (da_nil))) (de_callO 0 (at__law_draw (P := P) (w := w) (base := base) T) h (by omega) rfl (da_cons (de_pow (de_int) (de_int)) (da_nil)))) (da_nil))))))) (db_nil)) (db_cons (ds_set 4 sc__law_number.nd (de_callO 0 R__law_number h (by omega) rfl (da_cons (de_var 1) (da_cons (de_sub (de_var 2) (de_int)) (da_nil))))) (db_cons (ds_if (dt_eq h (de_var 3) (de_int)) (db_one (ds_ret (de_tup (da_cons (de_str) (da_cons (de_var 4) (da_nil)))))) (db_nil)) (db_cons (ds_if (dt_gt (de_var 3) (de_int)) (db_cons (ds_if (dt_eq h (de_var 3) (de_int)) (db_one (ds_ret (de_tup (da_cons (de_str) (da_cons (de_var 4) (da_nil)))))) (db_nil)) (db_cons (ds_set 5 sc__law_number.nd (de_add (de_int) (de_callO 0 (at__law_draw (P := P) (w := w) (base := base) T) h (by omega) rfl (da_cons (de_int) (da_nil))))) (db_one (ds_ret (de_tup (da_cons (de_str) (da_cons (de_mul (de_add (de_int) (de_callO 0 (at__law_draw (P := P) (w := w) (base := base) T) h (by omega) rfl (da_cons (de_int) (da_nil)))) (de_sub (de_int) (de_mul (de_int) (de_callO 0 (at__law_draw (P := P) (w := w) (base := base) T) h (by omega) rfl (da_cons (de_int) (da_nil)))))) (da_cons (de_tupC T.n_tuple (da_cons (de_frz (de_lc [("part", 6)] h sc__law_number.nd (di_rng1 T.n_range (da_cons (de_var 5) (da_nil))) (blkOk_by rfl) (fun _ _ _ _ _ => dv_name 6 (by decide) (by decide) sc__law_number.nd) (fun _ _ _ _ _ => dc_nil) (fun _ _ _ _ _ => de_callO 0 R__law_number h.blk (by omega) rfl (da_cons (de_var 1) (da_cons (de_ifE (dt_gt (de_var 2) (de_int)) (de_sub (de_var 2) (de_int)) (de_int)) (da_nil)))))) (da_nil))) (da_nil))))))))) (db_nil)) (db_one (ds_ret (de_tup (da_cons (de_ix (de_tup (da_cons (de_str) (da_cons (de_str) (da_cons (de_str) (da_cons (de_str) (da_cons (de_str) (da_nil))))))) (de_sub (de_var 3) (de_int))) (da_cons (de_var 4) (da_cons (de_callO 0 R__law_number h (by omega) rfl (da_cons (de_var 1) (da_cons (de_sub (de_var 2) (de_int)) (da_nil)))) (da_nil)))))))))))
theorem at__law_number (T : Txt K mg) : ∀ n : Nat, FnAt P w K mg base (2 + n) "_law_number" ["pool", "names", "deep"] (f__law_number n)
  | 0 => fnAt_stuck T.d__law_number
  | n + 1 => step__law_number T (Nat.le_add_right _ _) (at__law_number T n)
theorem step__law_print {k : Nat} {r__law_print r__law_within : FM} (T : Txt K mg) (hk : 0 ≤ k) (R__law_print : FnAt P w K mg base k "_law_print" ["tree"] r__law_print) (R__law_within : FnAt P w K mg base k "_law_within" ["tree", "weak"] r__law_within) : FnAt P w K mg base (k + 1) "_law_print" ["tree"] (fnM [] 5 (b__law_print r__law_print r__law_within)) :=
  fnAt_of (N := ["tree", "word", "weak", "sign", "part"]) (pin := []) (m := b__law_print r__law_print r__law_within) T.d__law_print sc__law_print fun f cdv A outer s H E h =>
    db_cons (ds_set 1 sc__law_print.nd (de_ix (de_var 0) (de_int))) (db_cons (ds_if (dt_in (de_var 1) (de_tup (da_cons (de_str) (da_cons (de_str) (da_nil))))) (db_one (ds_ret (de_tup (da_cons (de_strC T.n_str (da_cons (de_ix (de_var 0) (de_int)) (da_nil))) (da_cons (de_int) (da_nil)))))) (db_nil)) (db_cons (ds_if (dt_in (de_var 1) (de_tup (da_cons (de_str) (da_cons (de_str) (da_cons (de_str) (da_nil)))))) (db_one (ds_ret (de_tup (da_cons (de_add (de_add (de_add (de_var 1) (de_str)) (de_join (de_str) (de_sl (de_var 0) (do_part (de_int)) (do_no)))) (de_str)) (da_cons (de_int) (da_nil)))))) (db_nil)) (db_cons (ds_if (dt_eq h (de_var 1) (de_str)) (db_one (ds_ret (de_tup (da_cons (de_add (de_add (de_str) (de_ix (de_callD R__law_print h (by omega) rfl (da_cons (de_ix (de_var 0) (de_int)) (da_nil))) (de_int))) (de_str)) (da_cons (de_int) (da_nil)))))) (db_nil)) (db_cons (ds_if (dt_eq h (de_var 1) (de_str)) (db_one (ds_ret (de_tup (da_cons (de_add (de_add (de_add (de_add (de_str) (de_strC T.n_str (da_cons (de_ix (de_var 0) (de_int)) (da_nil)))) (de_str)) (de_join (de_str) (de_frz (de_lc [("part", 4)] h sc__law_print.nd (di_seq (de_ix (de_var 0) (de_int))) (blkOk_by rfl) (fun _ _ _ _ _ => dv_name 4 (by decide) (by decide) sc__law_print.nd) (fun _ _ _ _ _ => dc_nil) (fun _ _ _ _ _ => de_ix (de_callD R__law_print h.blk (by omega) rfl (da_cons (de_var 4) (da_nil))) (de_int)))))) (de_str)) (da_cons (de_int) (da_nil)))))) (db_nil)) (db_cons (ds_if (dt_eq h (de_var 1) (de_str)) (db_one (ds_ret (de_tup (da_cons (de_add (de_str) (de_callD R__law_within h (by omega) rfl (da_cons (de_ix (de_var 0) (de_int)) (da_cons (de_int) (da_nil))))) (da_cons (de_int) (da_nil)))))) (db_nil)) (db_cons (ds_set 2 sc__law_print.nd (de_ifE (dt_in (de_var 1) (de_tup (da_cons (de_str) (da_cons (de_str) (da_nil))))) (de_int) (de_int))) (db_cons (ds_set 3 sc__law_print.nd (de_disp [("plus", " + "), ("less", " - "), ("times", " * "), ("over", " / ")] h (pps_cons pe_str pe_str (pps_cons pe_str pe_str (pps_cons pe_str pe_str (pps_cons pe_str pe_str (pps_nil))))) (de_var 1))) (db_one (ds_ret (de_tup (da_cons (de_add (de_add (de_callD R__law_within h (by omega) rfl (da_cons (de_ix (de_var 0) (de_int)) (da_cons (de_var 2) (da_nil)))) (de_var 3)) (de_callD R__law_within h (by omega) rfl (da_cons (de_ix (de_var 0) (de_int)) (da_cons (de_add (de_var 2) (de_int)) (da_nil))))) (da_cons (de_var 2) (da_nil)))))))))))))
theorem step__law_within {k : Nat} {r__law_print r__law_within : FM} (T : Txt K mg) (hk : 0 ≤ k) (R__law_print : FnAt P w K mg base k "_law_print" ["tree"] r__law_print) (R__law_within : FnAt P w K mg base k "_law_within" ["tree", "weak"] r__law_within) : FnAt P w K mg base (k + 1) "_law_within" ["tree", "weak"] (fnM [] 4 (b__law_within r__law_print r__law_within)) :=
  fnAt_of (N := ["tree", "weak", "text", "own"]) (pin := []) (m := b__law_within r__law_print r__law_within) T.d__law_within sc__law_within fun f cdv A outer s H E h =>
    db_cons (ds_asg (de_callD R__law_print h (by omega) rfl (da_cons (de_var 0) (da_nil))) (dg_tup h.calm (dg_cons (dg_name 2 (by decide) sc__law_within.nd) (dg_cons (dg_name 3 (by decide) sc__law_within.nd) (dg_nil))))) (db_one (ds_ret (de_ifE (dt_ge (de_var 3) (de_var 1)) (de_var 2) (de_add (de_add (de_str) (de_var 2)) (de_str)))))
theorem both__law_print (T : Txt K mg) : ∀ n : Nat, FnAt P w K mg base (0 + n) "_law_print" ["tree"] (ff__law_print n).1 ∧ FnAt P w K mg base (0 + n) "_law_within" ["tree", "weak"] (ff__law_print n).2
  | 0 => ⟨fnAt_stuck T.d__law_print, fnAt_stuck T.d__law_within⟩
  | n + 1 => ⟨step__law_print T (Nat.le_add_right _ _) (both__law_print T n).1 (both__law_print T n).2, step__law_within T (Nat.le_add_right _ _) (both__law_print T n).1 (both__law_print T n).2⟩
theorem at__law_print (T : Txt K mg) (n : Nat) : FnAt P w K mg base (0 + n) "_law_print" ["tree"] (f__law_print n) := (both__law_print T n).1
theorem at__law_within (T : Txt K mg) (n : Nat) : FnAt P w K mg base (0 + n) "_law_within" ["tree", "weak"] (f__law_within n) := (both__law_print T n).2
theorem at__law_row_print (T : Txt K mg) : FnAt P w K mg base 25 "_law_row_print" ["row"] f__law_row_print :=
  fnAt_of (N := ["row", "ask", "parts", "part"]) (pin := []) (m := b__law_row_print) T.d__law_row_print sc__law_row_print fun f cdv A outer s H E h =>
    db_cons (ds_if (dt_eq h (de_ix (de_var 0) (de_int)) (de_str)) (db_one (ds_ret (de_add (de_add (de_add (de_ix (de_var 0) (de_int)) (de_str)) (de_ix (de_callD (at__law_print (P := P) (w := w) (base := base) T 12) h (by omega) rfl (da_cons (de_ix (de_var 0) (de_int)) (da_nil))) (de_int))) (de_str)))) (db_nil)) (db_cons (ds_if (dt_eq h (de_ix (de_var 0) (de_int)) (de_str)) (db_one (ds_ret (de_add (de_add (de_add (de_add (de_str) (de_ix (de_callD (at__law_print (P := P) (w := w) (base := base) T 12) h (by omega) rfl (da_cons (de_ix (de_var 0) (de_int)) (da_nil))) (de_int))) (de_str)) (de_strC T.n_str (da_cons (de_ix (de_var 0) (de_int)) (da_nil)))) (de_str)))) (db_nil)) (db_cons (ds_if (dt_eq h (de_ix (de_var 0) (de_int)) (de_str)) (db_one (ds_ret (de_add (de_add (de_str) (de_ix (de_callD (at__law_print (P := P) (w := w) (base := base) T 12) h (by omega) rfl (da_cons (de_ix (de_var 0) (de_int)) (da_nil))) (de_int))) (de_str)))) (db_nil)) (db_cons (ds_if (dt_eq h (de_ix (de_var 0) (de_int)) (de_str)) (db_cons (ds_set 1 sc__law_row_print.nd (de_ix (de_var 0) (de_int))) (db_cons (ds_if (dt_in (de_ix (de_var 1) (de_int)) (de_tup (da_cons (de_str) (da_cons (de_str) (da_cons (de_str) (da_nil)))))) (db_one (ds_ret (de_add (de_add (de_add (de_add (de_add (de_add (de_str) (de_ix (de_callD (at__law_print (P := P) (w := w) (base := base) T 12) h (by omega) rfl (da_cons (de_ix (de_var 1) (de_int)) (da_nil))) (de_int))) (de_str)) (de_ix (de_var 1) (de_int))) (de_str)) (de_ix (de_callD (at__law_print (P := P) (w := w) (base := base) T 12) h (by omega) rfl (da_cons (de_ix (de_var 1) (de_int)) (da_nil))) (de_int))) (de_str)))) (db_nil)) (db_one (ds_ret (de_add (de_add (de_add (de_add (de_str) (de_ix (de_var 1) (de_int))) (de_str)) (de_join (de_str) (de_sl (de_var 1) (do_part (de_int)) (do_no)))) (de_str)))))) (db_nil)) (db_cons (ds_setLc 2 [("part", 3)] h sc__law_row_print.nd (di_seq (de_sl (de_var 0) (do_part (de_int)) (do_no))) (blkOk_by rfl) (fun _ _ _ _ _ => dv_name 3 (by decide) (by decide) sc__law_row_print.nd) (fun _ _ _ _ _ => dc_nil) (fun _ _ _ _ _ => de_ifE (dt_val (de_isi (T := "str") (Tn := "str") (by decide +kernel) (by decide) T.n_isinstance T.n_str rfl (de_var 3))) (de_var 3) (de_ifE (dt_val (de_callD (at__law_is_num (P := P) (w := w) (base := base) T) h.blk (by omega) rfl (da_cons (de_var 3) (da_nil)))) (de_strC T.n_str (da_cons (de_var 3) (da_nil))) (de_ix (de_callD (at__law_print (P := P) (w := w) (base := base) T 12) h.blk (by omega) rfl (da_cons (de_var 3) (da_nil))) (de_int))))) (db_one (ds_ret (de_add (de_add (de_add (de_add (de_add (de_ix (de_var 0) (de_int)) (de_str)) (de_ix (de_var 0) (de_int))) (de_str)) (de_join (de_str) (de_var 2))) (de_str))))))))
theorem at__law_text (T : Txt K mg) : FnAt P w K mg base 26 "_law_text" ["plan"] f__law_text :=
  fnAt_of (N := ["plan", "row"]) (pin := []) (m := b__law_text) T.d__law_text sc__law_text fun f cdv A outer s H E h =>
    db_one (ds_ret (de_join (de_str) (de_frz (de_lc [("row", 1)] h sc__law_text.nd (di_seq (de_var 0)) (blkOk_by rfl) (fun _ _ _ _ _ => dv_name 1 (by decide) (by decide) sc__law_text.nd) (fun _ _ _ _ _ => dc_nil) (fun _ _ _ _ _ => de_callD (at__law_row_print (P := P) (w := w) (base := base) T) h.blk (by omega) rfl (da_cons (de_var 1) (da_nil)))))))
theorem at__law_row_of (T : Txt K mg) : FnAt P w K mg base 8 "_law_row_of" ["pool", "names"] f__law_row_of :=
  fnAt_of (N := ["pool", "names", "way", "name", "one", "two", "three", "word"]) (pin := [0]) (m := b__law_row_of) T.d__law_row_of sc__law_row_of fun f cdv A outer s H E h =>
    db_cons (ds_par 2 3 h.calm sc__law_row_of.nd (da_cons (de_callO 0 (at__law_draw (P := P) (w := w) (base := base) T) h (by omega) rfl (da_cons (de_int) (da_nil))) (da_cons (de_callO 0 (at__law_pick (P := P) (w := w) (base := base) T) h (by omega) rfl (da_cons (de_var 1) (da_nil))) (da_nil)))) (db_cons (ds_par3 4 5 6 h.calm sc__law_row_of.nd (da_cons (de_callO 0 (at__law_pick (P := P) (w := w) (base := base) T) h (by omega) rfl (da_cons (de_var 1) (da_nil))) (da_cons (de_callO 0 (at__law_pick (P := P) (w := w) (base := base) T) h (by omega) rfl (da_cons (de_var 1) (da_nil))) (da_cons (de_callO 0 (at__law_pick (P := P) (w := w) (base := base) T) h (by omega) rfl (da_cons (de_var 1) (da_nil))) (da_nil))))) (db_cons (ds_if (dt_lt (de_var 2) (de_int)) (db_one (ds_ret (de_tup (da_cons (de_str) (da_cons (de_var 3) (da_cons (de_callO 0 (at__law_number (P := P) (w := w) (base := base) T 5) h (by omega) rfl (da_cons (de_var 1) (da_cons (de_int) (da_nil)))) (da_nil))))))) (db_nil)) (db_cons (ds_if (dt_eq h (de_var 2) (de_int)) (db_one (ds_ret (de_callO 0 (at__law_pick (P := P) (w := w) (base := base) T) h (by omega) rfl (da_cons (de_lst (da_cons (de_tup (da_cons (de_str) (da_cons (de_callO 0 (at__law_number (P := P) (w := w) (base := base) T 5) h (by omega) rfl (da_cons (de_var 1) (da_cons (de_int) (da_nil)))) (da_cons (de_callO 0 (at__law_draw (P := P) (w := w) (base := base) T) h (by omega) rfl (da_cons (de_int) (da_nil))) (da_nil))))) (da_cons (de_tup (da_cons (de_str) (da_cons (de_callO 0 (at__law_number (P := P) (w := w) (base := base) T 5) h (by omega) rfl (da_cons (de_var 1) (da_cons (de_int) (da_nil)))) (da_nil)))) (da_nil)))) (da_nil))))) (db_nil)) (db_cons (ds_if (dt_eq h (de_var 2) (de_int)) (db_one (ds_ret (de_tup (da_cons (de_str) (da_cons (de_tup (da_cons (de_callO 0 (at__law_pick (P := P) (w := w) (base := base) T) h (by omega) rfl (da_cons (de_lst (da_cons (de_str) (da_cons (de_str) (da_cons (de_str) (da_nil))))) (da_nil))) (da_cons (de_callO 0 (at__law_number (P := P) (w := w) (base := base) T 5) h (by omega) rfl (da_cons (de_var 1) (da_cons (de_int) (da_nil)))) (da_cons (de_callO 0 (at__law_number (P := P) (w := w) (base := base) T 5) h (by omega) rfl (da_cons (de_var 1) (da_cons (de_int) (da_nil)))) (da_nil))))) (da_nil)))))) (db_nil)) (db_cons (ds_if (dt_eq h (de_var 2) (de_int)) (db_cons (ds_set 7 sc__law_row_of.nd (de_callO 0 (at__law_pick (P := P) (w := w) (base := base) T) h (by omega) rfl (da_cons (de_lst (da_cons (de_str) (da_cons (de_str) (da_cons (de_str) (da_cons (de_str) (da_cons (de_str) (da_cons (de_str) (da_cons (de_str) (da_cons (de_str) (da_nil)))))))))) (da_nil)))) (db_one (ds_ret (de_tup (da_cons (de_str) (da_cons (de_add (de_tup (da_cons (de_var 7) (da_cons (de_var 4) (da_cons (de_var 5) (da_nil))))) (de_ifE (dt_in (de_var 7) (de_tup (da_cons (de_str) (da_cons (de_str) (da_nil))))) (de_tup (da_cons (de_var 6) (da_nil))) (de_tup (da_nil)))) (da_nil))))))) (db_nil)) (db_cons (ds_if (dt_eq h (de_var 2) (de_int)) (db_one (ds_ret (de_tup (da_cons (de_str) (da_cons (de_var 3) (da_cons (de_callO 0 (at__law_pick (P := P) (w := w) (base := base) T) h (by omega) rfl (da_cons (de_lst (da_cons (de_callO 0 (at__law_number (P := P) (w := w) (base := base) T 5) h (by omega) rfl (da_cons (de_var 1) (da_cons (de_int) (da_nil)))) (da_cons (de_tup (da_cons (de_callO 0 (at__law_pick (P := P) (w := w) (base := base) T) h (by omega) rfl (da_cons (de_lst (da_cons (de_str) (da_cons (de_str) (da_nil)))) (da_nil))) (da_cons (de_var 4) (da_nil)))) (da_nil)))) (da_nil))) (da_cons (de_callO 0 (at__law_pick (P := P) (w := w) (base := base) T) h (by omega) rfl (da_cons (de_lst (da_cons (de_callO 0 (at__law_number (P := P) (w := w) (base := base) T 5) h (by omega) rfl (da_cons (de_var 1) (da_cons (de_int) (da_nil)))) (da_cons (de_tup (da_cons (de_str) (da_cons (de_var 4) (da_cons (de_var 5) (da_nil))))) (da_nil)))) (da_nil))) (da_nil)))))))) (db_nil)) (db_cons (ds_set 7 sc__law_row_of.nd (de_callO 0 (at__law_pick (P := P) (w := w) (base := base) T) h (by omega) rfl (da_cons (de_lst (da_cons (de_str) (da_cons (de_str) (da_cons (de_str) (da_cons (de_str) (da_cons (de_str) (da_cons (de_str) (da_cons (de_str) (da_cons (de_str) (da_cons (de_str) (da_nil))))))))))) (da_nil)))) (db_cons (ds_if (dt_eq h (de_var 7) (de_str)) (db_one (ds_ret (de_tup (da_cons (de_str) (da_cons (de_var 3) (da_cons (de_var 4) (da_cons (de_callO 0 (at__law_number (P := P) (w := w) (base := base) T 5) h (by omega) rfl (da_cons (de_var 1) (da_cons (de_int) (da_nil)))) (da_nil)))))))) (db_nil)) (db_one (ds_ret (de_add (de_tup (da_cons (de_var 7) (da_cons (de_var 3) (da_cons (de_var 4) (da_cons (de_var 5) (da_nil)))))) (de_ifE (dt_eq h (de_var 7) (de_str)) (de_tup (da_cons (de_add (de_int) (de_callO 0 (at__law_draw (P := P) (w := w) (base := base) T) h (by omega) rfl (da_cons (de_int) (da_nil)))) (da_nil))) (de_tup (da_nil))))))))))))))
theorem at__law_any_plan (T : Txt K mg) : FnAt P w K mg base 9 "_law_any_plan" ["pool", "most"] f__law_any_plan :=
  fnAt_of (N := ["pool", "most", "names", "step"]) (pin := [0]) (m := b__law_any_plan) T.d__law_any_plan sc__law_any_plan fun f cdv A outer s H E h =>
    db_cons (ds_setO 2 sc__law_any_plan.nd (de_lstO (da_nil))) (db_cons (ds_for h (di_rng1 T.n_range (da_cons (de_add (de_int) (de_callO 0 (at__law_draw (P := P) (w := w) (base := base) T) h (by omega) rfl (da_cons (de_int) (da_nil)))) (da_nil))) (dg_name 3 (by decide) sc__law_any_plan.nd) (db_one (ds_app 2 (de_callOV 0 2 (at__law_name_of (P := P) (w := w) (base := base) T) h (by omega) rfl)))) (db_one (ds_forget 3 (ds_frz 2 (ds_ret (de_tupC T.n_tuple (da_cons (de_frz (de_lc [("step", 3)] h sc__law_any_plan.nd (di_rng1 T.n_range (da_cons (de_callO 0 (at__law_draw (P := P) (w := w) (base := base) T) h (by omega) rfl (da_cons (de_add (de_var 1) (de_int)) (da_nil))) (da_nil))) (blkOk_by rfl) (fun _ _ _ _ _ => dv_name 3 (by decide) (by decide) sc__law_any_plan.nd) (fun _ _ _ _ _ => dc_nil) (fun _ _ _ _ _ => de_callO 0 (at__law_row_of (P := P) (w := w) (base := base) T) h.blk (by omega) rfl (da_cons (de_var 2) (da_nil))))) (da_nil))))))))
theorem at__law_turned (T : Txt K mg) : FnAt P w K mg base 3 "_law_turned" ["pool", "text"] f__law_turned :=
  fnAt_of (N := ["pool", "text", "at", "some", "part"]) (pin := [0]) (m := b__law_turned) T.d__law_turned sc__law_turned fun f cdv A outer s H E h =>
    db_cons (ds_set 2 sc__law_turned.nd (de_callO 0 (at__law_draw (P := P) (w := w) (base := base) T) h (by omega) rfl (da_cons (de_add (de_len T.n_len (da_cons (de_var 1) (da_nil))) (de_int)) (da_nil)))) (db_cons (ds_set 3 sc__law_turned.nd (de_lst (da_cons (de_str) (da_cons (de_str) (da_cons (de_str) (da_cons (de_str) (da_cons (de_str) (da_cons (de_str) (da_cons (de_str) (da_cons (de_str) (da_cons (de_mul (de_str) (de_int)) (da_cons (de_str) (da_cons (de_str) (da_cons (de_str) (da_cons (de_str) (da_cons (de_str) (da_cons (de_str) (da_cons (de_str) (da_cons (de_str) (da_cons (de_str) (da_cons (de_str) (da_cons (de_str) (da_cons (de_str) (da_nil)))))))))))))))))))))))) (db_cons (ds_set 4 sc__law_turned.nd (de_callO 0 (at__law_pick (P := P) (w := w) (base := base) T) h (by omega) rfl (da_cons (de_var 3) (da_nil)))) (db_one (ds_ret (de_callO 0 (at__law_pick (P := P) (w := w) (base := base) T) h (by omega) rfl (da_cons (de_lst (da_cons (de_add (de_add (de_sl (de_var 1) (do_no) (do_part (de_var 2))) (de_var 4)) (de_sl (de_var 1) (do_part (de_var 2)) (do_no))) (da_cons (de_add (de_add (de_sl (de_var 1) (do_no) (do_part (de_var 2))) (de_var 4)) (de_sl (de_var 1) (do_part (de_add (de_var 2) (de_int))) (do_no))) (da_cons (de_add (de_sl (de_var 1) (do_no) (do_part (de_var 2))) (de_sl (de_var 1) (do_part (de_add (de_var 2) (de_int))) (do_no))) (da_cons (de_sl (de_var 1) (do_no) (do_part (de_var 2))) (da_cons (de_add (de_sl (de_var 1) (do_part (de_var 2)) (do_no)) (de_sl (de_var 1) (do_no) (do_part (de_var 2)))) (da_cons (de_var 1) (da_nil)))))))) (da_nil)))))))
theorem at__law_told (T : Txt K mg) : FnAt P w K mg base 8 "_law_told" ["thing", "by_name"] f__law_told :=
  fnAt_of (N := ["thing", "by_name", "e"]) (pin := []) (m := b__law_told) T.d__law_told sc__law_told fun f cdv A outer s H E h =>
    db_one (by refine ds_tryA 2 T.c_InvalidText h rfl rfl sc__law_told.nd rfl rfl ?hb ?hP ?vis; (case hb => exact fun W' pn xe h' => de_ifE (dt_val (de_var 1)) (de_callK (at_tokens (P := P) (w := w) (base := base) T) h' (by omega) rfl (dk_cons (de_var 0) (dk_nil))) (de_callD (at_tokens (P := P) (w := w) (base := base) T) h' (by omega) rfl (da_cons (de_var 0) (da_nil)))); (case hP => decide); (case vis => first | exact Or.inl rfl | exact Or.inr (Or.inl rfl)))
theorem at__law_due (T : Txt K mg) : FnAt P w K mg base 4 "_law_due" ["text"] f__law_due :=
  fnAt_of (N := ["text", "found", "wrong", "at", "word"]) (pin := []) (m := b__law_due) T.d__law_due sc__law_due fun f cdv A outer s H E h =>
    db_cons (ds_set 1 sc__law_due.nd (de_callD (at__law_tokens (P := P) (w := w) (base := base) T) h (by omega) rfl (da_cons (de_var 0) (da_nil)))) (db_cons (ds_setLc 2 [("at", 3), ("word", 4)] h sc__law_due.nd (di_seq (de_var 1)) (blkOk_by rfl) (fun _ _ _ _ _ => dv_tupT h.blk.calm (dv_cons (dv_name 3 (by decide) (by decide) sc__law_due.nd) (dv_cons (dv_name 4 (by decide) (by decide) sc__law_due.nd) (dv_nil)))) (fun _ _ _ _ _ => dc_one (dt_isN (de_var 4) (de_none))) (fun _ _ _ _ _ => de_var 3)) (db_one (ds_ret (de_ifE (dt_ne h (de_var 2) (de_lst (da_nil))) (de_sl (de_var 2) (do_no) (do_part (de_int))) (de_tupC T.n_tuple (da_cons (de_frz (de_lc [("at", 3), ("word", 4)] h sc__law_due.nd (di_seq (de_var 1)) (blkOk_by rfl) (fun _ _ _ _ _ => dv_tupT h.blk.calm (dv_cons (dv_name 3 (by decide) (by decide) sc__law_due.nd) (dv_cons (dv_name 4 (by decide) (by decide) sc__law_due.nd) (dv_nil)))) (fun _ _ _ _ _ => dc_one (dt_ne h.blk (de_var 4) (de_str))) (fun _ _ _ _ _ => de_tup (da_cons (de_var 3) (da_cons (de_var 4) (da_nil)))))) (da_nil)))))))
theorem at__law_right (T : Txt K mg) : FnAt P w K mg base 27 "_law_right" ["pool"] f__law_right :=
  fnAt_of (N := ["pool", "turn", "text", "step", "thing"]) (pin := [0]) (m := b__law_right) T.d__law_right sc__law_right fun f cdv A outer s H E h =>
    db_cons (ds_for h (di_rng1 T.n_range (da_cons (de_int) (da_nil))) (dg_name 1 (by decide) sc__law_right.nd) (db_cons (ds_set 2 sc__law_right.nd (de_callD (at__law_text (P := P) (w := w) (base := base) T) h (by omega) rfl (da_cons (de_callO 0 (at__law_any_plan (P := P) (w := w) (base := base) T) h (by omega) rfl (da_cons (de_int) (da_nil))) (da_nil)))) (db_one (ds_for h (di_rng1 T.n_range (da_cons (de_int) (da_nil))) (dg_name 3 (by decide) sc__law_right.nd) (db_cons (ds_if (dt_ne h (de_repr h T.n_repr (da_cons (de_callD (at__law_told (P := P) (w := w) (base := base) T) h (by omega) rfl (da_cons (de_var 2) (da_cons (de_eq h (de_callO 0 (at__law_draw (P := P) (w := w) (base := base) T) h (by omega) rfl (da_cons (de_int) (da_nil))) (de_int)) (da_nil)))) (da_nil))) (de_repr h T.n_repr (da_cons (de_callD (at__law_due (P := P) (w := w) (base := base) T) h (by omega) rfl (da_cons (de_var 2) (da_nil))) (da_nil)))) (db_one (ds_ret (de_bool))) (db_nil)) (db_one (ds_set 2 sc__law_right.nd (de_callO 0 (at__law_turned (P := P) (w := w) (base := base) T) h (by omega) rfl (da_cons (de_var 2) (da_nil)))))))))) (db_cons (ds_for h (di_seq (de_lst (da_cons (de_none) (da_cons (de_int) (da_cons (de_tup (da_nil)) (da_cons (de_lst (da_nil)) (da_cons (de_dnew) (da_cons (de_bool) (da_cons (de_tup (da_cons (de_str) (da_nil))) (da_nil)))))))))) (dg_name 4 (by decide) sc__law_right.nd) (db_one (ds_if (dt_ne h (de_callD (at__law_told (P := P) (w := w) (base := base) T) h (by omega) rfl (da_cons (de_var 4) (da_cons (de_bool) (da_nil)))) (de_lst (da_cons (de_none) (da_nil)))) (db_one (ds_ret (de_bool))) (db_nil)))) (db_one (ds_forget 2 (ds_ret (de_eq h (de_frz (de_lc [("text", 2)] h sc__law_right.nd (di_seq (de_lst (da_cons (de_str) (da_cons (de_str) (da_cons (de_str) (da_cons (de_str) (da_cons (de_str) (da_nil)))))))) (blkOk_by rfl) (fun _ _ _ _ _ => dv_name 2 (by decide) (by decide) sc__law_right.nd) (fun _ _ _ _ _ => dc_nil) (fun _ _ _ _ _ => de_callD (at__law_told (P := P) (w := w) (base := base) T) h.blk (by omega) rfl (da_cons (de_var 2) (da_cons (de_bool) (da_nil)))))) (de_lst (da_cons (de_tup (da_cons (de_tup (da_cons (de_int) (da_cons (de_str) (da_nil)))) (da_cons (de_tup (da_cons (de_int) (da_cons (de_str) (da_nil)))) (da_cons (de_tup (da_cons (de_int) (da_cons (de_str) (da_nil)))) (da_cons (de_tup (da_cons (de_int) (da_cons (de_str) (da_nil)))) (da_cons (de_tup (da_cons (de_int) (da_cons (de_str) (da_nil)))) (da_nil))))))) (da_cons (de_tup (da_nil)) (da_cons (de_lst (da_cons (de_int) (da_nil))) (da_cons (de_lst (da_cons (de_int) (da_nil))) (da_cons (de_lst (da_cons (de_int) (da_nil))) (da_nil))))))))))))
theorem at_law (T : Txt K mg) : FnAt P w K mg base 28 "law" ["script"] f_law :=
  fnAt_of (N := ["script", "turn"]) (pin := []) (m := b_law) T.d_law sc_law fun f cdv A outer s H E h =>
    db_cons (ds_for h (di_rng1 T.n_range (da_cons (de_max h T.n_max (da_cons (de_int) (da_cons (de_min h T.n_min (da_cons (de_len T.n_len (da_cons (de_var 0) (da_nil))) (da_cons (de_int) (da_nil)))) (da_nil)))) (da_nil))) (dg_name 1 (by decide) sc_law.nd) (db_one (ds_if (dt_not (dt_val (de_callL (at__law_right (P := P) (w := w) (base := base) T) h (by omega) rfl (de_callD (at__law_pool (P := P) (w := w) (base := base) T) h (by omega) rfl (da_cons (de_var 0) (da_cons (de_var 1) (da_nil))))))) (db_one (ds_ret (de_bool))) (db_nil)))) (db_one (ds_ret (de_bool)))
end K01
end DL
set_option Elab.async false
set_option linter.all false
set_option maxRecDepth 100000
set_option maxHeartbeats 2000000
set_option autoImplicit false
/-! K01H: what the top has written (printed by gen.py). -/
namespace DL
namespace K01
open PySem PySem.Spec PyProof.Rows L2
abbrev i_InvalidText : Stmt := match PySem.Challenge.pw_rootplans_k01_whole_tokens.main.body.getD 19 (.Pass ⟨0, 0, 0, 0⟩) with
  | .ClassDef _ _ _ (st :: _) _ _ _ _ _ _ _ => st
  | st => st
theorem all_mk {K : PySem.W.Frag} {h : Heap} {mg : Str → Option Value} (X : K.In h) (G : h.Ns mainGlobals mg)
    {f0 : Addr} {od0 an0 : Option Addr} {sl0 : Array (Option Value)} {oc0 kV0 dc0 pm0 cd0 ct0 : Value}
    {f1 : Addr} {od1 an1 : Option Addr} {sl1 : Array (Option Value)} {oc1 kV1 dc1 pm1 cd1 ct1 : Value}
    {f2 : Addr} {od2 an2 : Option Addr} {sl2 : Array (Option Value)} {oc2 kV2 dc2 pm2 cd2 ct2 : Value}
    {f3 : Addr} {od3 an3 : Option Addr} {sl3 : Array (Option Value)} {oc3 kV3 dc3 pm3 cd3 ct3 : Value}
    {f4 : Addr} {od4 an4 : Option Addr} {sl4 : Array (Option Value)} {oc4 kV4 dc4 pm4 cd4 ct4 : Value}
    {f5 : Addr} {od5 an5 : Option Addr} {sl5 : Array (Option Value)} {oc5 kV5 dc5 pm5 cd5 ct5 : Value}
    {f6 : Addr} {od6 an6 : Option Addr} {sl6 : Array (Option Value)} {oc6 kV6 dc6 pm6 cd6 ct6 : Value}
    {f7 : Addr} {od7 an7 : Option Addr} {sl7 : Array (Option Value)} {oc7 kV7 dc7 pm7 cd7 ct7 : Value}
    {f8 : Addr} {od8 an8 : Option Addr} {sl8 : Array (Option Value)} {oc8 kV8 dc8 pm8 cd8 ct8 : Value}
    {f9 : Addr} {od9 an9 : Option Addr} {sl9 : Array (Option Value)} {oc9 kV9 dc9 pm9 cd9 ct9 : Value}
    {f10 : Addr} {od10 an10 : Option Addr} {sl10 : Array (Option Value)} {oc10 kV10 dc10 pm10 cd10 ct10 : Value}
    {f11 : Addr} {od11 an11 : Option Addr} {sl11 : Array (Option Value)} {oc11 kV11 dc11 pm11 cd11 ct11 : Value}
    {f12 : Addr} {od12 an12 : Option Addr} {sl12 : Array (Option Value)} {oc12 kV12 dc12 pm12 cd12 ct12 : Value}
    {f13 : Addr} {od13 an13 : Option Addr} {sl13 : Array (Option Value)} {oc13 kV13 dc13 pm13 cd13 ct13 : Value}
    {f14 : Addr} {od14 an14 : Option Addr} {sl14 : Array (Option Value)} {oc14 kV14 dc14 pm14 cd14 ct14 : Value}
    {f15 : Addr} {od15 an15 : Option Addr} {sl15 : Array (Option Value)} {oc15 kV15 dc15 pm15 cd15 ct15 : Value}
    {f16 : Addr} {od16 an16 : Option Addr} {sl16 : Array (Option Value)} {oc16 kV16 dc16 pm16 cd16 ct16 : Value}
    {f17 : Addr} {od17 an17 : Option Addr} {sl17 : Array (Option Value)} {oc17 kV17 dc17 pm17 cd17 ct17 : Value}
    {f18 : Addr} {od18 an18 : Option Addr} {sl18 : Array (Option Value)} {oc18 kV18 dc18 pm18 cd18 ct18 : Value}
    {f19 : Addr} {od19 an19 : Option Addr} {sl19 : Array (Option Value)} {oc19 kV19 dc19 pm19 cd19 ct19 : Value}
    {f20 : Addr} {od20 an20 : Option Addr} {sl20 : Array (Option Value)} {oc20 kV20 dc20 pm20 cd20 ct20 : Value}
    {f21 : Addr} {od21 an21 : Option Addr} {sl21 : Array (Option Value)} {oc21 kV21 dc21 pm21 cd21 ct21 : Value}
    {f22 : Addr} {od22 an22 : Option Addr} {sl22 : Array (Option Value)} {oc22 kV22 dc22 pm22 cd22 ct22 : Value}
    {f23 : Addr} {od23 an23 : Option Addr} {sl23 : Array (Option Value)} {oc23 kV23 dc23 pm23 cd23 ct23 : Value}
    {f24 : Addr} {od24 an24 : Option Addr} {sl24 : Array (Option Value)} {oc24 kV24 dc24 pm24 cd24 ct24 : Value}
    {f25 : Addr} {od25 an25 : Option Addr} {sl25 : Array (Option Value)} {oc25 kV25 dc25 pm25 cd25 ct25 : Value}
    {f26 : Addr} {od26 an26 : Option Addr} {sl26 : Array (Option Value)} {oc26 kV26 dc26 pm26 cd26 ct26 : Value}
    {f27 : Addr} {od27 an27 : Option Addr} {sl27 : Array (Option Value)} {oc27 kV27 dc27 pm27 cd27 ct27 : Value}
    {f28 : Addr} {od28 an28 : Option Addr} {sl28 : Array (Option Value)} {oc28 kV28 dc28 pm28 cd28 ct28 : Value}
    {f29 : Addr} {od29 an29 : Option Addr} {sl29 : Array (Option Value)} {oc29 kV29 dc29 pm29 cd29 ct29 : Value}
    {f30 : Addr} {od30 an30 : Option Addr} {sl30 : Array (Option Value)} {oc30 kV30 dc30 pm30 cd30 ct30 : Value}
    {t_BLANK : Nat}
    {t_FIGURES : Nat}
    {t_LINE_END : Nat}
    {t_MOST_FIGURES : Nat}
    {t_MOST_SIGNS : Nat}
    {t_RUN_SIGNS : Nat}
    {t_SIGNS : Nat}
    {t_WORDS_0 t_WORDS_1 t_WORDS_2 t_WORDS_3 t_WORDS_4 t_WORDS_5 t_WORDS_6 t_WORDS_7 t_WORDS_8 t_WORDS_9 t_WORDS_10 t_WORDS_11 t_WORDS_12 t_WORDS_13 t_WORDS_14 t_WORDS_15 t_WORDS_16 t_WORDS_17 t_WORDS_18 t_WORDS_19 t_WORDS_20 t_WORDS_21 t_WORDS_22 t_WORDS_23 t_WORDS_24 : Nat} {q_WORDS : Addr} {dq_WORDS : Option Addr} {nq_WORDS : Nat} {sq_WORDS : Array (Option Value)}
    {C_InvalidText I_InvalidText B_InvalidText N_InvalidText : Addr} {nm_InvalidText qn_InvalidText : Str} {bs_InvalidText sub_InvalidText : List Value} {sn_InvalidText : List Str} {ab_InvalidText : Bool} {col_InvalidText : Option Bool} {dd_InvalidText : Option Addr} {m0_InvalidText m1_InvalidText m2_InvalidText m3_InvalidText m5_InvalidText : Option Value} {odi_InvalidText ani_InvalidText : Option Addr} {sli_InvalidText : Array (Option Value)} {oci_InvalidText kVi_InvalidText dci_InvalidText pmi_InvalidText cdi_InvalidText cti_InvalidText : Value}
    (a0 : PySem.W.nsIn K mainGlobals "are_figures" = some (some (.ref f0)))
    (l0 : K.lookup f0 = some ⟨oc0, od0, .func (PySem.W.fnOf "are_figures" "are_figures" (defArgs s_are_figures) (defBody s_are_figures) (defScope s_are_figures) .none kV0 dc0 pm0 an0 cd0 ct0), sl0⟩)
    (c0 : PySem.W.codeIn K cd0 "are_figures" = true)
    (k0 : PySem.W.keepIn K (.ref f0) = true)
    (a1 : PySem.W.nsIn K mainGlobals "is_numeral" = some (some (.ref f1)))
    (l1 : K.lookup f1 = some ⟨oc1, od1, .func (PySem.W.fnOf "is_numeral" "is_numeral" (defArgs s_is_numeral) (defBody s_is_numeral) (defScope s_is_numeral) .none kV1 dc1 pm1 an1 cd1 ct1), sl1⟩)
    (c1 : PySem.W.codeIn K cd1 "is_numeral" = true)
    (k1 : PySem.W.keepIn K (.ref f1) = true)
    (a2 : PySem.W.nsIn K mainGlobals "kind_of_run" = some (some (.ref f2)))
    (l2 : K.lookup f2 = some ⟨oc2, od2, .func (PySem.W.fnOf "kind_of_run" "kind_of_run" (defArgs s_kind_of_run) (defBody s_kind_of_run) (defScope s_kind_of_run) .none kV2 dc2 pm2 an2 cd2 ct2), sl2⟩)
    (c2 : PySem.W.codeIn K cd2 "kind_of_run" = true)
    (k2 : PySem.W.keepIn K (.ref f2) = true)
    (a3 : PySem.W.nsIn K mainGlobals "kind_of_sign" = some (some (.ref f3)))
    (l3 : K.lookup f3 = some ⟨oc3, od3, .func (PySem.W.fnOf "kind_of_sign" "kind_of_sign" (defArgs s_kind_of_sign) (defBody s_kind_of_sign) (defScope s_kind_of_sign) .none kV3 dc3 pm3 an3 cd3 ct3), sl3⟩)
    (c3 : PySem.W.codeIn K cd3 "kind_of_sign" = true)
    (k3 : PySem.W.keepIn K (.ref f3) = true)
    (a4 : PySem.W.nsIn K mainGlobals "run_end" = some (some (.ref f4)))
    (l4 : K.lookup f4 = some ⟨oc4, od4, .func (PySem.W.fnOf "run_end" "run_end" (defArgs s_run_end) (defBody s_run_end) (defScope s_run_end) .none kV4 dc4 pm4 an4 cd4 ct4), sl4⟩)
    (c4 : PySem.W.codeIn K cd4 "run_end" = true)
    (k4 : PySem.W.keepIn K (.ref f4) = true)
    (a5 : PySem.W.nsIn K mainGlobals "piece_at" = some (some (.ref f5)))
    (l5 : K.lookup f5 = some ⟨oc5, od5, .func (PySem.W.fnOf "piece_at" "piece_at" (defArgs s_piece_at) (defBody s_piece_at) (defScope s_piece_at) .none kV5 dc5 pm5 an5 cd5 ct5), sl5⟩)
    (c5 : PySem.W.codeIn K cd5 "piece_at" = true)
    (k5 : PySem.W.keepIn K (.ref f5) = true)
    (a6 : PySem.W.nsIn K mainGlobals "pieces_by" = some (some (.ref f6)))
    (l6 : K.lookup f6 = some ⟨oc6, od6, .func (PySem.W.fnOf "pieces_by" "pieces_by" (defArgs s_pieces_by) (defBody s_pieces_by) (defScope s_pieces_by) .none kV6 dc6 pm6 an6 cd6 ct6), sl6⟩)
    (c6 : PySem.W.codeIn K cd6 "pieces_by" = true)
    (k6 : PySem.W.keepIn K (.ref f6) = true)
    (a7 : PySem.W.nsIn K mainGlobals "tokens_by" = some (some (.ref f7)))
    (l7 : K.lookup f7 = some ⟨oc7, od7, .func (PySem.W.fnOf "tokens_by" "tokens_by" (defArgs s_tokens_by) (defBody s_tokens_by) (defScope s_tokens_by) .none kV7 dc7 pm7 an7 cd7 ct7), sl7⟩)
    (c7 : PySem.W.codeIn K cd7 "tokens_by" = true)
    (k7 : PySem.W.keepIn K (.ref f7) = true)
    (a8 : PySem.W.nsIn K mainGlobals "check_string" = some (some (.ref f8)))
    (l8 : K.lookup f8 = some ⟨oc8, od8, .func (PySem.W.fnOf "check_string" "check_string" (defArgs s_check_string) (defBody s_check_string) (defScope s_check_string) .none kV8 dc8 pm8 an8 cd8 ct8), sl8⟩)
    (c8 : PySem.W.codeIn K cd8 "check_string" = true)
    (k8 : PySem.W.keepIn K (.ref f8) = true)
    (a9 : PySem.W.nsIn K mainGlobals "tokens" = some (some (.ref f9)))
    (l9 : K.lookup f9 = some ⟨oc9, od9, .func (PySem.W.fnOf "tokens" "tokens" (defArgs s_tokens) (defBody s_tokens) (defScope s_tokens) .none kV9 dc9 pm9 an9 cd9 ct9), sl9⟩)
    (c9 : PySem.W.codeIn K cd9 "tokens" = true)
    (k9 : PySem.W.keepIn K (.ref f9) = true)
    (a10 : PySem.W.nsIn K mainGlobals "_law_pool" = some (some (.ref f10)))
    (l10 : K.lookup f10 = some ⟨oc10, od10, .func (PySem.W.fnOf "_law_pool" "_law_pool" (defArgs s__law_pool) (defBody s__law_pool) (defScope s__law_pool) .none kV10 dc10 pm10 an10 cd10 ct10), sl10⟩)
    (c10 : PySem.W.codeIn K cd10 "_law_pool" = true)
    (k10 : PySem.W.keepIn K (.ref f10) = true)
    (a11 : PySem.W.nsIn K mainGlobals "_law_draw" = some (some (.ref f11)))
    (l11 : K.lookup f11 = some ⟨oc11, od11, .func (PySem.W.fnOf "_law_draw" "_law_draw" (defArgs s__law_draw) (defBody s__law_draw) (defScope s__law_draw) .none kV11 dc11 pm11 an11 cd11 ct11), sl11⟩)
    (c11 : PySem.W.codeIn K cd11 "_law_draw" = true)
    (k11 : PySem.W.keepIn K (.ref f11) = true)
    (a12 : PySem.W.nsIn K mainGlobals "_law_pick" = some (some (.ref f12)))
    (l12 : K.lookup f12 = some ⟨oc12, od12, .func (PySem.W.fnOf "_law_pick" "_law_pick" (defArgs s__law_pick) (defBody s__law_pick) (defScope s__law_pick) .none kV12 dc12 pm12 an12 cd12 ct12), sl12⟩)
    (c12 : PySem.W.codeIn K cd12 "_law_pick" = true)
    (k12 : PySem.W.keepIn K (.ref f12) = true)
    (a13 : PySem.W.nsIn K mainGlobals "_law_is_num" = some (some (.ref f13)))
    (l13 : K.lookup f13 = some ⟨oc13, od13, .func (PySem.W.fnOf "_law_is_num" "_law_is_num" (defArgs s__law_is_num) (defBody s__law_is_num) (defScope s__law_is_num) .none kV13 dc13 pm13 an13 cd13 ct13), sl13⟩)
    (c13 : PySem.W.codeIn K cd13 "_law_is_num" = true)
    (k13 : PySem.W.keepIn K (.ref f13) = true)
    (a14 : PySem.W.nsIn K mainGlobals "_law_only" = some (some (.ref f14)))
    (l14 : K.lookup f14 = some ⟨oc14, od14, .func (PySem.W.fnOf "_law_only" "_law_only" (defArgs s__law_only) (defBody s__law_only) (defScope s__law_only) .none kV14 dc14 pm14 an14 cd14 ct14), sl14⟩)
    (c14 : PySem.W.codeIn K cd14 "_law_only" = true)
    (k14 : PySem.W.keepIn K (.ref f14) = true)
    (a15 : PySem.W.nsIn K mainGlobals "_law_is_numeral" = some (some (.ref f15)))
    (l15 : K.lookup f15 = some ⟨oc15, od15, .func (PySem.W.fnOf "_law_is_numeral" "_law_is_numeral" (defArgs s__law_is_numeral) (defBody s__law_is_numeral) (defScope s__law_is_numeral) .none kV15 dc15 pm15 an15 cd15 ct15), sl15⟩)
    (c15 : PySem.W.codeIn K cd15 "_law_is_numeral" = true)
    (k15 : PySem.W.keepIn K (.ref f15) = true)
    (a16 : PySem.W.nsIn K mainGlobals "_law_is_word" = some (some (.ref f16)))
    (l16 : K.lookup f16 = some ⟨oc16, od16, .func (PySem.W.fnOf "_law_is_word" "_law_is_word" (defArgs s__law_is_word) (defBody s__law_is_word) (defScope s__law_is_word) .none kV16 dc16 pm16 an16 cd16 ct16), sl16⟩)
    (c16 : PySem.W.codeIn K cd16 "_law_is_word" = true)
    (k16 : PySem.W.keepIn K (.ref f16) = true)
    (a17 : PySem.W.nsIn K mainGlobals "_law_tokens" = some (some (.ref f17)))
    (l17 : K.lookup f17 = some ⟨oc17, od17, .func (PySem.W.fnOf "_law_tokens" "_law_tokens" (defArgs s__law_tokens) (defBody s__law_tokens) (defScope s__law_tokens) .none kV17 dc17 pm17 an17 cd17 ct17), sl17⟩)
    (c17 : PySem.W.codeIn K cd17 "_law_tokens" = true)
    (k17 : PySem.W.keepIn K (.ref f17) = true)
    (a18 : PySem.W.nsIn K mainGlobals "_law_name_of" = some (some (.ref f18)))
    (l18 : K.lookup f18 = some ⟨oc18, od18, .func (PySem.W.fnOf "_law_name_of" "_law_name_of" (defArgs s__law_name_of) (defBody s__law_name_of) (defScope s__law_name_of) .none kV18 dc18 pm18 an18 cd18 ct18), sl18⟩)
    (c18 : PySem.W.codeIn K cd18 "_law_name_of" = true)
    (k18 : PySem.W.keepIn K (.ref f18) = true)
    (a19 : PySem.W.nsIn K mainGlobals "_law_number" = some (some (.ref f19)))
    (l19 : K.lookup f19 = some ⟨oc19, od19, .func (PySem.W.fnOf "_law_number" "_law_number" (defArgs s__law_number) (defBody s__law_number) (defScope s__law_number) .none kV19 dc19 pm19 an19 cd19 ct19), sl19⟩)
    (c19 : PySem.W.codeIn K cd19 "_law_number" = true)
    (k19 : PySem.W.keepIn K (.ref f19) = true)
    (a20 : PySem.W.nsIn K mainGlobals "_law_print" = some (some (.ref f20)))
    (l20 : K.lookup f20 = some ⟨oc20, od20, .func (PySem.W.fnOf "_law_print" "_law_print" (defArgs s__law_print) (defBody s__law_print) (defScope s__law_print) .none kV20 dc20 pm20 an20 cd20 ct20), sl20⟩)
    (c20 : PySem.W.codeIn K cd20 "_law_print" = true)
    (k20 : PySem.W.keepIn K (.ref f20) = true)
    (a21 : PySem.W.nsIn K mainGlobals "_law_within" = some (some (.ref f21)))
    (l21 : K.lookup f21 = some ⟨oc21, od21, .func (PySem.W.fnOf "_law_within" "_law_within" (defArgs s__law_within) (defBody s__law_within) (defScope s__law_within) .none kV21 dc21 pm21 an21 cd21 ct21), sl21⟩)
    (c21 : PySem.W.codeIn K cd21 "_law_within" = true)
    (k21 : PySem.W.keepIn K (.ref f21) = true)
    (a22 : PySem.W.nsIn K mainGlobals "_law_row_print" = some (some (.ref f22)))
    (l22 : K.lookup f22 = some ⟨oc22, od22, .func (PySem.W.fnOf "_law_row_print" "_law_row_print" (defArgs s__law_row_print) (defBody s__law_row_print) (defScope s__law_row_print) .none kV22 dc22 pm22 an22 cd22 ct22), sl22⟩)
    (c22 : PySem.W.codeIn K cd22 "_law_row_print" = true)
    (k22 : PySem.W.keepIn K (.ref f22) = true)
    (a23 : PySem.W.nsIn K mainGlobals "_law_text" = some (some (.ref f23)))
    (l23 : K.lookup f23 = some ⟨oc23, od23, .func (PySem.W.fnOf "_law_text" "_law_text" (defArgs s__law_text) (defBody s__law_text) (defScope s__law_text) .none kV23 dc23 pm23 an23 cd23 ct23), sl23⟩)
    (c23 : PySem.W.codeIn K cd23 "_law_text" = true)
    (k23 : PySem.W.keepIn K (.ref f23) = true)
    (a24 : PySem.W.nsIn K mainGlobals "_law_row_of" = some (some (.ref f24)))
    (l24 : K.lookup f24 = some ⟨oc24, od24, .func (PySem.W.fnOf "_law_row_of" "_law_row_of" (defArgs s__law_row_of) (defBody s__law_row_of) (defScope s__law_row_of) .none kV24 dc24 pm24 an24 cd24 ct24), sl24⟩)
    (c24 : PySem.W.codeIn K cd24 "_law_row_of" = true)
    (k24 : PySem.W.keepIn K (.ref f24) = true)
    (a25 : PySem.W.nsIn K mainGlobals "_law_any_plan" = some (some (.ref f25)))
    (l25 : K.lookup f25 = some ⟨oc25, od25, .func (PySem.W.fnOf "_law_any_plan" "_law_any_plan" (defArgs s__law_any_plan) (defBody s__law_any_plan) (defScope s__law_any_plan) .none kV25 dc25 pm25 an25 cd25 ct25), sl25⟩)
    (c25 : PySem.W.codeIn K cd25 "_law_any_plan" = true)
    (k25 : PySem.W.keepIn K (.ref f25) = true)
    (a26 : PySem.W.nsIn K mainGlobals "_law_turned" = some (some (.ref f26)))
    (l26 : K.lookup f26 = some ⟨oc26, od26, .func (PySem.W.fnOf "_law_turned" "_law_turned" (defArgs s__law_turned) (defBody s__law_turned) (defScope s__law_turned) .none kV26 dc26 pm26 an26 cd26 ct26), sl26⟩)
    (c26 : PySem.W.codeIn K cd26 "_law_turned" = true)
    (k26 : PySem.W.keepIn K (.ref f26) = true)
    (a27 : PySem.W.nsIn K mainGlobals "_law_told" = some (some (.ref f27)))
    (l27 : K.lookup f27 = some ⟨oc27, od27, .func (PySem.W.fnOf "_law_told" "_law_told" (defArgs s__law_told) (defBody s__law_told) (defScope s__law_told) .none kV27 dc27 pm27 an27 cd27 ct27), sl27⟩)
    (c27 : PySem.W.codeIn K cd27 "_law_told" = true)
    (k27 : PySem.W.keepIn K (.ref f27) = true)
    (a28 : PySem.W.nsIn K mainGlobals "_law_due" = some (some (.ref f28)))
    (l28 : K.lookup f28 = some ⟨oc28, od28, .func (PySem.W.fnOf "_law_due" "_law_due" (defArgs s__law_due) (defBody s__law_due) (defScope s__law_due) .none kV28 dc28 pm28 an28 cd28 ct28), sl28⟩)
    (c28 : PySem.W.codeIn K cd28 "_law_due" = true)
    (k28 : PySem.W.keepIn K (.ref f28) = true)
    (a29 : PySem.W.nsIn K mainGlobals "_law_right" = some (some (.ref f29)))
    (l29 : K.lookup f29 = some ⟨oc29, od29, .func (PySem.W.fnOf "_law_right" "_law_right" (defArgs s__law_right) (defBody s__law_right) (defScope s__law_right) .none kV29 dc29 pm29 an29 cd29 ct29), sl29⟩)
    (c29 : PySem.W.codeIn K cd29 "_law_right" = true)
    (k29 : PySem.W.keepIn K (.ref f29) = true)
    (a30 : PySem.W.nsIn K mainGlobals "law" = some (some (.ref f30)))
    (l30 : K.lookup f30 = some ⟨oc30, od30, .func (PySem.W.fnOf "law" "law" (defArgs s_law) (defBody s_law) (defScope s_law) .none kV30 dc30 pm30 an30 cd30 ct30), sl30⟩)
    (c30 : PySem.W.codeIn K cd30 "law" = true)
    (k30 : PySem.W.keepIn K (.ref f30) = true)
    (z_abs : PySem.W.nsIn K mainGlobals "abs" = some none)
    (z_all : PySem.W.nsIn K mainGlobals "all" = some none)
    (z_bool : PySem.W.nsIn K mainGlobals "bool" = some none)
    (z_divmod : PySem.W.nsIn K mainGlobals "divmod" = some none)
    (z_int : PySem.W.nsIn K mainGlobals "int" = some none)
    (z_isinstance : PySem.W.nsIn K mainGlobals "isinstance" = some none)
    (z_len : PySem.W.nsIn K mainGlobals "len" = some none)
    (z_max : PySem.W.nsIn K mainGlobals "max" = some none)
    (z_min : PySem.W.nsIn K mainGlobals "min" = some none)
    (z_range : PySem.W.nsIn K mainGlobals "range" = some none)
    (z_repr : PySem.W.nsIn K mainGlobals "repr" = some none)
    (z_str : PySem.W.nsIn K mainGlobals "str" = some none)
    (z_tuple : PySem.W.nsIn K mainGlobals "tuple" = some none)
    (g_BLANK_ : PySem.W.nsIn K mainGlobals "BLANK" = some (some (.str " " t_BLANK)))
    (g_FIGURES_ : PySem.W.nsIn K mainGlobals "FIGURES" = some (some (.str "0123456789" t_FIGURES)))
    (g_LINE_END_ : PySem.W.nsIn K mainGlobals "LINE_END" = some (some (.str "\n" t_LINE_END)))
    (g_MOST_FIGURES_ : PySem.W.nsIn K mainGlobals "MOST_FIGURES" = some (some (.int 30 t_MOST_FIGURES)))
    (g_MOST_SIGNS_ : PySem.W.nsIn K mainGlobals "MOST_SIGNS" = some (some (.int 12 t_MOST_SIGNS)))
    (g_RUN_SIGNS_ : PySem.W.nsIn K mainGlobals "RUN_SIGNS" = some (some (.str "abcdefghijklmnopqrstuvwxyz0123456789" t_RUN_SIGNS)))
    (g_SIGNS_ : PySem.W.nsIn K mainGlobals "SIGNS" = some (some (.str "=<>+-*/()," t_SIGNS)))
    (g_WORDS_ : PySem.W.nsIn K mainGlobals "WORDS" = some (some (.ref q_WORDS)))
    (gl_WORDS : K.lookup q_WORDS = some ⟨.type "tuple", dq_WORDS, .seq #[.str "ask" t_WORDS_0, .str "tell" t_WORDS_1, .str "by" t_WORDS_2, .str "poly" t_WORDS_3, .str "root" t_WORDS_4, .str "sqrt" t_WORDS_5, .str "dist" t_WORDS_6, .str "x" t_WORDS_7, .str "y" t_WORDS_8, .str "point" t_WORDS_9, .str "line" t_WORDS_10, .str "circle" t_WORDS_11, .str "ring" t_WORDS_12, .str "meet" t_WORDS_13, .str "mid" t_WORDS_14, .str "foot" t_WORDS_15, .str "mirror" t_WORDS_16, .str "parallel" t_WORDS_17, .str "upright" t_WORDS_18, .str "on" t_WORDS_19, .str "inside" t_WORDS_20, .str "left" t_WORDS_21, .str "same" t_WORDS_22, .str "between" t_WORDS_23, .str "touch" t_WORDS_24] nq_WORDS, sq_WORDS⟩)
    (aC_InvalidText : PySem.W.nsIn K mainGlobals "InvalidText" = some (some (.ref C_InvalidText)))
    (aB_InvalidText : PySem.W.nsIn K mainGlobals "PlanError" = some (some (.ref B_InvalidText)))
    (xL_InvalidText : K.lookup C_InvalidText = some (excClassObj nm_InvalidText qn_InvalidText C_InvalidText N_InvalidText bs_InvalidText [.ref B_InvalidText, .type "ValueError", .type "Exception", .type "BaseException", .type "object"] true sn_InvalidText sub_InvalidText ab_InvalidText col_InvalidText dd_InvalidText m0_InvalidText m1_InvalidText m2_InvalidText m3_InvalidText m5_InvalidText "ValueError.__new__"))
    (sa_InvalidText : PySem.W.findIn K (.ref C_InvalidText) "__setattr__" = some (some (.builtin "object.__setattr__")))
    (ga_InvalidText : PySem.W.findIn K (.ref C_InvalidText) "__getattribute__" = some (some (.builtin "BaseException.__getattribute__")))
    (gg_InvalidText : PySem.W.findIn K (.ref C_InvalidText) "__getattr__" = some none)
    (nf_InvalidText : PySem.W.findIn K (.ref C_InvalidText) "index" = some none)
    (ii_InvalidText : PySem.W.findIn K (.ref C_InvalidText) "__init__" = some (some (.ref I_InvalidText)))
    (ti_InvalidText : PySem.W.typeIn K (.ref I_InvalidText) = some (.type "function"))
    (li_InvalidText : K.lookup I_InvalidText = some ⟨oci_InvalidText, odi_InvalidText, .func (PySem.W.fnOf "__init__" "InvalidText.__init__" (defArgs i_InvalidText) (defBody i_InvalidText) (defScope i_InvalidText) .none kVi_InvalidText dci_InvalidText pmi_InvalidText ani_InvalidText cdi_InvalidText cti_InvalidText), sli_InvalidText⟩)
    (ci_InvalidText : PySem.W.codeIn K cdi_InvalidText "InvalidText.__init__" = true)
    (ki_InvalidText : PySem.W.keepIn K (.ref I_InvalidText) = true)
    (kC_InvalidText : PySem.W.keepIn K (.ref C_InvalidText) = true)
    (eC_InvalidText : PySem.W.subIn K (.ref C_InvalidText) (.type "BaseException") = some true)
    (tC_InvalidText : PySem.W.typeIn K (.ref C_InvalidText) = some (.type "type"))
    (hC_InvalidText : PySem.W.hasDictIn K C_InvalidText = true)
    (iC_InvalidText : PySem.W.isClsIn K C_InvalidText = true)
    (sC_InvalidText : PySem.W.subIn K (.ref C_InvalidText) (.ref C_InvalidText) = some true)
    (cc_InvalidText : PySem.W.findIn K (.ref C_InvalidText) "__class__" = some (some (.builtin "object.__class__")))
    (sg_InvalidText : PySem.W.specialIn K (.builtin "object.__class__") "__get__" = some (some (.builtin "getset_descriptor.__get__")))
    (tk_InvalidText : PySem.W.takesIn K (.builtin "object.__class__") = some true)
    (mo_InvalidText : PySem.W.mroIn K C_InvalidText (.type "object") = some true)
    (kb1_InvalidText : PySem.W.isClsIn K B_InvalidText = true)
    (kb2_InvalidText : PySem.W.typeIn K (.ref B_InvalidText) = some (.type "type"))
    (kb3_InvalidText : PySem.W.subIn K (.ref C_InvalidText) (.ref B_InvalidText) = some true)
    (kv_InvalidText : PySem.W.subIn K (.ref C_InvalidText) (.type "ValueError") = some true)
    (zV : PySem.W.nsIn K mainGlobals "ValueError" = some none) :
    Txt K mg where
  d_are_figures := def_mk X G a0 l0 c0 k0 (fun _ _ _ _ _ _ us hl => match us, hl with | [_], _ => rfl) (fun _ _ _ _ _ _ us hl => match us, hl with | [_], _ => rfl)
  d_is_numeral := def_mk X G a1 l1 c1 k1 (fun _ _ _ _ _ _ us hl => match us, hl with | [_], _ => rfl) (fun _ _ _ _ _ _ us hl => match us, hl with | [_], _ => rfl)
  d_kind_of_run := def_mk X G a2 l2 c2 k2 (fun _ _ _ _ _ _ us hl => match us, hl with | [_], _ => rfl) (fun _ _ _ _ _ _ us hl => match us, hl with | [_], _ => rfl)
  d_kind_of_sign := def_mk X G a3 l3 c3 k3 (fun _ _ _ _ _ _ us hl => match us, hl with | [_], _ => rfl) (fun _ _ _ _ _ _ us hl => match us, hl with | [_], _ => rfl)
  d_run_end := def_mk X G a4 l4 c4 k4 (fun _ _ _ _ _ _ us hl => match us, hl with | [_, _], _ => rfl) (fun _ _ _ _ _ _ us hl => match us, hl with | [_, _], _ => rfl)
  d_piece_at := def_mk X G a5 l5 c5 k5 (fun _ _ _ _ _ _ us hl => match us, hl with | [_, _], _ => rfl) (fun _ _ _ _ _ _ us hl => match us, hl with | [_, _], _ => rfl)
  d_pieces_by := def_mk X G a6 l6 c6 k6 (fun _ _ _ _ _ _ us hl => match us, hl with | [_], _ => rfl) (fun _ _ _ _ _ _ us hl => match us, hl with | [_], _ => rfl)
  d_tokens_by := def_mk X G a7 l7 c7 k7 (fun _ _ _ _ _ _ us hl => match us, hl with | [_], _ => rfl) (fun _ _ _ _ _ _ us hl => match us, hl with | [_], _ => rfl)
  d_check_string := def_mk X G a8 l8 c8 k8 (fun _ _ _ _ _ _ us hl => match us, hl with | [_], _ => rfl) (fun _ _ _ _ _ _ us hl => match us, hl with | [_], _ => rfl)
  d_tokens := def_mk X G a9 l9 c9 k9 (fun _ _ _ _ _ _ us hl => match us, hl with | [_], _ => rfl) (fun _ _ _ _ _ _ us hl => match us, hl with | [_], _ => rfl)
  d__law_pool := def_mk X G a10 l10 c10 k10 (fun _ _ _ _ _ _ us hl => match us, hl with | [_, _], _ => rfl) (fun _ _ _ _ _ _ us hl => match us, hl with | [_, _], _ => rfl)
  d__law_draw := def_mk X G a11 l11 c11 k11 (fun _ _ _ _ _ _ us hl => match us, hl with | [_, _], _ => rfl) (fun _ _ _ _ _ _ us hl => match us, hl with | [_, _], _ => rfl)
  d__law_pick := def_mk X G a12 l12 c12 k12 (fun _ _ _ _ _ _ us hl => match us, hl with | [_, _], _ => rfl) (fun _ _ _ _ _ _ us hl => match us, hl with | [_, _], _ => rfl)
  d__law_is_num := def_mk X G a13 l13 c13 k13 (fun _ _ _ _ _ _ us hl => match us, hl with | [_], _ => rfl) (fun _ _ _ _ _ _ us hl => match us, hl with | [_], _ => rfl)
  d__law_only := def_mk X G a14 l14 c14 k14 (fun _ _ _ _ _ _ us hl => match us, hl with | [_, _], _ => rfl) (fun _ _ _ _ _ _ us hl => match us, hl with | [_, _], _ => rfl)
  d__law_is_numeral := def_mk X G a15 l15 c15 k15 (fun _ _ _ _ _ _ us hl => match us, hl with | [_], _ => rfl) (fun _ _ _ _ _ _ us hl => match us, hl with | [_], _ => rfl)
  d__law_is_word := def_mk X G a16 l16 c16 k16 (fun _ _ _ _ _ _ us hl => match us, hl with | [_], _ => rfl) (fun _ _ _ _ _ _ us hl => match us, hl with | [_], _ => rfl)
  d__law_tokens := def_mk X G a17 l17 c17 k17 (fun _ _ _ _ _ _ us hl => match us, hl with | [_], _ => rfl) (fun _ _ _ _ _ _ us hl => match us, hl with | [_], _ => rfl)
  d__law_name_of := def_mk X G a18 l18 c18 k18 (fun _ _ _ _ _ _ us hl => match us, hl with | [_, _], _ => rfl) (fun _ _ _ _ _ _ us hl => match us, hl with | [_, _], _ => rfl)
  d__law_number := def_mk X G a19 l19 c19 k19 (fun _ _ _ _ _ _ us hl => match us, hl with | [_, _, _], _ => rfl) (fun _ _ _ _ _ _ us hl => match us, hl with | [_, _, _], _ => rfl)
  d__law_print := def_mk X G a20 l20 c20 k20 (fun _ _ _ _ _ _ us hl => match us, hl with | [_], _ => rfl) (fun _ _ _ _ _ _ us hl => match us, hl with | [_], _ => rfl)
  d__law_within := def_mk X G a21 l21 c21 k21 (fun _ _ _ _ _ _ us hl => match us, hl with | [_, _], _ => rfl) (fun _ _ _ _ _ _ us hl => match us, hl with | [_, _], _ => rfl)
  d__law_row_print := def_mk X G a22 l22 c22 k22 (fun _ _ _ _ _ _ us hl => match us, hl with | [_], _ => rfl) (fun _ _ _ _ _ _ us hl => match us, hl with | [_], _ => rfl)
  d__law_text := def_mk X G a23 l23 c23 k23 (fun _ _ _ _ _ _ us hl => match us, hl with | [_], _ => rfl) (fun _ _ _ _ _ _ us hl => match us, hl with | [_], _ => rfl)
  d__law_row_of := def_mk X G a24 l24 c24 k24 (fun _ _ _ _ _ _ us hl => match us, hl with | [_, _], _ => rfl) (fun _ _ _ _ _ _ us hl => match us, hl with | [_, _], _ => rfl)
  d__law_any_plan := def_mk X G a25 l25 c25 k25 (fun _ _ _ _ _ _ us hl => match us, hl with | [_, _], _ => rfl) (fun _ _ _ _ _ _ us hl => match us, hl with | [_, _], _ => rfl)
  d__law_turned := def_mk X G a26 l26 c26 k26 (fun _ _ _ _ _ _ us hl => match us, hl with | [_, _], _ => rfl) (fun _ _ _ _ _ _ us hl => match us, hl with | [_, _], _ => rfl)
  d__law_told := def_mk X G a27 l27 c27 k27 (fun _ _ _ _ _ _ us hl => match us, hl with | [_, _], _ => rfl) (fun _ _ _ _ _ _ us hl => match us, hl with | [_, _], _ => rfl)
  d__law_due := def_mk X G a28 l28 c28 k28 (fun _ _ _ _ _ _ us hl => match us, hl with | [_], _ => rfl) (fun _ _ _ _ _ _ us hl => match us, hl with | [_], _ => rfl)
  d__law_right := def_mk X G a29 l29 c29 k29 (fun _ _ _ _ _ _ us hl => match us, hl with | [_], _ => rfl) (fun _ _ _ _ _ _ us hl => match us, hl with | [_], _ => rfl)
  d_law := def_mk X G a30 l30 c30 k30 (fun _ _ _ _ _ _ us hl => match us, hl with | [_], _ => rfl) (fun _ _ _ _ _ _ us hl => match us, hl with | [_], _ => rfl)
  n_abs := PySem.W.mg_none_of X G z_abs
  n_all := PySem.W.mg_none_of X G z_all
  n_bool := PySem.W.mg_none_of X G z_bool
  n_divmod := PySem.W.mg_none_of X G z_divmod
  n_int := PySem.W.mg_none_of X G z_int
  n_isinstance := PySem.W.mg_none_of X G z_isinstance
  n_len := PySem.W.mg_none_of X G z_len
  n_max := PySem.W.mg_none_of X G z_max
  n_min := PySem.W.mg_none_of X G z_min
  n_range := PySem.W.mg_none_of X G z_range
  n_repr := PySem.W.mg_none_of X G z_repr
  n_str := PySem.W.mg_none_of X G z_str
  n_tuple := PySem.W.mg_none_of X G z_tuple
  g_BLANK := glob_str X G g_BLANK_
  g_FIGURES := glob_str X G g_FIGURES_
  g_LINE_END := glob_str X G g_LINE_END_
  g_MOST_FIGURES := glob_int X G g_MOST_FIGURES_
  g_MOST_SIGNS := glob_int X G g_MOST_SIGNS_
  g_RUN_SIGNS := glob_str X G g_RUN_SIGNS_
  g_SIGNS := glob_str X G g_SIGNS_
  g_WORDS := glob_tups X G g_WORDS_ gl_WORDS [("ask", _), ("tell", _), ("by", _), ("poly", _), ("root", _), ("sqrt", _), ("dist", _), ("x", _), ("y", _), ("point", _), ("line", _), ("circle", _), ("ring", _), ("meet", _), ("mid", _), ("foot", _), ("mirror", _), ("parallel", _), ("upright", _), ("on", _), ("inside", _), ("left", _), ("same", _), ("between", _), ("touch", _)] rfl rfl (by simp)
  x_InvalidText := xc_mk X G aC_InvalidText ⟨⟨nm_InvalidText, qn_InvalidText, N_InvalidText, bs_InvalidText, _, sn_InvalidText, sub_InvalidText, ab_InvalidText, col_InvalidText, dd_InvalidText, m0_InvalidText, m1_InvalidText, m2_InvalidText, m3_InvalidText, m5_InvalidText, xL_InvalidText, rfl⟩, sa_InvalidText, eC_InvalidText, tC_InvalidText, kC_InvalidText⟩ ii_InvalidText ti_InvalidText nf_InvalidText (fun_mk (st := i_InvalidText) li_InvalidText ci_InvalidText ki_InvalidText) ⟨rfl, rfl, rfl, by decide +kernel, rfl, by decide +kernel, by decide +kernel⟩ (fun _ _ _ _ _ _ us hl => match us, hl with | [_, _], _ => rfl) (fun _ _ _ _ _ _ _ _ _ => pss_one (ps_ost (pv 0) (pv 1)))
  c_InvalidText := ⟨⟨C_InvalidText, B_InvalidText, PySem.W.mg_of X G aC_InvalidText, PySem.W.mg_of X G aB_InvalidText, exm_me eC_InvalidText iC_InvalidText tC_InvalidText sC_InvalidText, ⟨ga_InvalidText, gg_InvalidText, eC_InvalidText, hC_InvalidText⟩, ⟨ga_InvalidText, gg_InvalidText, eC_InvalidText, hC_InvalidText, cc_InvalidText, sg_InvalidText, tk_InvalidText, mo_InvalidText⟩, nf_InvalidText, kit_own kb1_InvalidText kb2_InvalidText kb3_InvalidText, kit_blt (by decide +kernel) kv_InvalidText⟩, PySem.W.mg_none_of X G zV, rfl, PySem.W.mg_none_of X G z_isinstance⟩
end K01
end DL
set_option Elab.async false
set_option linter.all false
set_option maxRecDepth 100000
set_option maxHeartbeats 2000000
set_option autoImplicit false
/-! K01B: the draws, in plain Lean. -/
namespace DL
open PySem PySem.Spec PyProof.Rows L2
@[simp] theorem gAdd_i {a b : Int} : gAdd (.int a) (.int b) = some (.int (a + b)) := rfl
theorem gAdd_s {a b : Str} : gAdd (.str a) (.str b) = if a.length + b.length ≤ 16777216 then some (.str (a ++ b)) else none := rfl
@[simp] theorem gAdd_t {a b : List D} : gAdd (.tuple a) (.tuple b) = if a.length + b.length ≤ 100000 then some (.tuple (a ++ b)) else none := rfl
@[simp] theorem gSub_i {a b : Int} : gSub (.int a) (.int b) = some (.int (a - b)) := rfl
@[simp] theorem gMul_i {a b : Int} : gMulA (.int a) (.int b) = if (-(2 ^ 64) < a ∧ a < 2 ^ 64) ∨ (-(2 ^ 64) < b ∧ b < 2 ^ 64) then some (.int (a * b)) else none := rfl
@[simp] theorem gMul_s {a : Str} {b : Int} : gMulA (.str a) (.int b) = if a.length ≤ 16 ∧ 0 ≤ b ∧ b ≤ 1048576 then some (.str (Txt.mul a b)) else none := rfl
@[simp] theorem gDiv_i {a b : Int} : gDiv (.int a) (.int b) = if 0 < b ∧ b < 2 ^ 4000 then some (.int (a / b)) else none := rfl
@[simp] theorem gMod_i {a b : Int} : gMod (.int a) (.int b) = if 0 < b then some (.int (a % b)) else none := rfl
@[simp] theorem gPow_i {a b : Int} : gPow (.int a) (.int b) = if 0 ≤ b ∧ b ≤ 1000000 ∧ a.natAbs < 2 ^ 64 then some (.int (a ^ b.toNat)) else none := rfl
@[simp] theorem gLt_i {a b : Int} : gLt (.int a) (.int b) = some (.bool (decide (a < b))) := rfl
@[simp] theorem gLe_i {a b : Int} : gLe (.int a) (.int b) = some (.bool (decide (a ≤ b))) := rfl
@[simp] theorem gGt_i {a b : Int} : gGt (.int a) (.int b) = some (.bool (decide (b < a))) := rfl
@[simp] theorem gGe_i {a b : Int} : gGe (.int a) (.int b) = some (.bool (decide (b ≤ a))) := rfl
@[simp] theorem gEq_i {a b : Int} : gEq (.int a) (.int b) = some (.bool (decide (a = b))) := by
  show (eqB (.int a) (.int b)).map PyData.bool = _
  unfold eqB
  rw [if_pos (by rfl)]
  simp [vOf]
@[simp] theorem gEq_s {a b : Str} : gEq (.str a) (.str b) = some (.bool (decide (a = b))) := by
  show (eqB (.str a) (.str b)).map PyData.bool = _
  unfold eqB
  rw [if_pos (by rfl)]
  simp [vOf]
@[simp] theorem gNe_s {a b : Str} : gNe (.str a) (.str b) = some (.bool (!decide (a = b))) := by
  show (eqB (.str a) (.str b)).map (fun k => PyData.bool (!k)) = _
  unfold eqB
  rw [if_pos (by rfl)]
  simp [vOf]
@[simp] theorem gInt_i {a : Int} : gInt [.int a] = some (.int a) := rfl
@[simp] theorem gAbs_i {a : Int} : gAbs [.int a] = some (.int (if a < 0 then -a else a)) := rfl
@[simp] theorem gMax_i {a b : Int} : gMax [.int a, .int b] = some (.int (if b > a then b else a)) := rfl
@[simp] theorem gMin_i {a b : Int} : gMin [.int a, .int b] = some (.int (if b < a then b else a)) := rfl
@[simp] theorem gDivmod_i {a b : Int} : gDivmod [.int a, .int b] = if 0 < b ∧ b < 2 ^ 4000 then some (.tuple [.int (a / b), .int (a % b)]) else none := rfl
@[simp] theorem gLen_l {a : List D} : gLen [.list a] = some (.int (a.length : Nat)) := rfl
@[simp] theorem gLen_t {a : List D} : gLen [.tuple a] = some (.int (a.length : Nat)) := rfl
@[simp] theorem gLen_s {z : Str} : gLen [.str z] = if z.length ≤ 16777216 then some (.int (z.length : Nat)) else none := rfl
@[simp] theorem gTup_i {a : List D} : gTup a = if a.length ≤ 100000 then some (.tuple a) else none := rfl
@[simp] theorem gLst_i {a : List D} : gLst a = if a.length ≤ 100000 then some (.list a) else none := rfl
@[simp] theorem gIx_l {a : List D} {i : Int} : gIx (.list a) (.int i) = atI a i := rfl
@[simp] theorem gIx_t {a : List D} {i : Int} : gIx (.tuple a) (.int i) = atI a i := rfl
@[simp] theorem gTuple_l {a : List D} : gTuple [.list a] = some (.tuple a) := rfl
@[simp] theorem subT_0 {ρ : Rh} {ds : List D} {k : Int} {d : D} {P : Rh → Prop} : oP (subT 0 k d (some (.own ds) :: ρ)) P ↔ oP (ixN ds.length k) fun j => P (some (.own (ds.set j d)) :: ρ) := by
  show oP ((ixN ds.length k).map fun j => (some (.own ds) :: ρ).set 0 (some (.own (ds.set j d)))) P ↔ _
  rw [oP_map]
  rfl
@[simp] theorem nameT_i {i : Nat} {d : D} {ρ : Rh} : nameT i d ρ = some (ρ.set i (some (.dat d))) := rfl
@[simp] theorem tupT_i {n : Nat} {ds : List D} {f : List D → Rh → Option Rh} {ρ : Rh} {P : Rh → Prop} : oP (tupT n f (.tuple ds) ρ) P ↔ ds.length = n ∧ oP (f ds ρ) P := by
  show oP (if ds.length = n then f ds ρ else none) P ↔ _
  by_cases h : ds.length = n <;> simp [h]
@[simp] theorem consT_i {m : TGM} {d : D} {r : List D} {f : List D → Rh → Option Rh} {ρ : Rh} : consT m f (d :: r) ρ = (m d ρ).bind fun ρ1 => f r ρ1 := rfl
@[simp] theorem nilT_i {ρ : Rh} : nilT [] ρ = some ρ := rfl
namespace K01
/-- a pool of draws -/
def Good (ps : List D) : Prop := ∃ a b c : Int, ps = [.int a, .int b, .int c] ∧ 0 ≤ a ∧ 0 ≤ b
@[simp] theorem ixN_30 : ixN 3 0 = some 0 := rfl
@[simp] theorem ixN_31 : ixN 3 1 = some 1 := rfl
@[simp] theorem ixN_32 : ixN 3 2 = some 2 := rfl
@[simp] theorem at_30 {a b c : D} : atI [a, b, c] 0 = some a := rfl
@[simp] theorem at_31 {a b c : D} : atI [a, b, c] 1 = some b := rfl
@[simp] theorem at_32 {a b c : D} : atI [a, b, c] 2 = some c := rfl
theorem draw {ps : List D} {n : Int} {Φ : Val → List Slot → Prop} (G : Good ps) (h0 : 0 < n) (h1 : n < 2 ^ 4000) (k : ∀ (r : Int) (ps' : List D), 0 ≤ r → r < n → Good ps' → Φ (.d (.int r)) [.own ps', .dat (.int n)]) : pF f__law_draw [.own ps, .dat (.int n)] Φ := by
  obtain ⟨a, b, c, rfl, ha, hb⟩ := G
  refine pf_fn ?_
  unfold b__law_draw
  simp only [List.map_cons, List.map_nil, List.length_cons, List.length_nil, argsRh]
  rw [wS_seq]
  refine ws_if ?_
  simp
  by_cases hb0 : 0 < b
  · rw [if_pos hb0]
    refine ws_asg ?_
    simp [h0, h1]
    refine ws_ret ?_
    simp
    exact k _ _ (Int.emod_nonneg _ (by omega)) (Int.emod_lt_of_pos _ h0) ⟨_, _, _, rfl, ha, Int.ediv_nonneg hb (by omega)⟩
  · rw [if_neg hb0]
    refine ws_asg ?_
    simp
    refine ws_asg ?_
    simp
    refine ws_asg ?_
    simp
    refine ⟨?_, ?_⟩
    · have := Int.emod_nonneg a (b := 20011) (by omega)
      have := Int.emod_lt_of_pos a (b := 20011) (by omega)
      omega
    · refine ws_ret ?_
      simp [h0]
      exact ⟨by omega, k _ _ (Int.emod_nonneg _ (by omega)) (Int.emod_lt_of_pos _ h0) ⟨_, _, _, rfl, Int.emod_nonneg _ (by decide : (2147483549 : Int) ≠ 0), hb⟩⟩
theorem pick {ps xs : List D} {Φ : Val → List Slot → Prop} (G : Good ps) (h0 : 0 < xs.length) (h1 : xs.length < 2 ^ 100) (k : ∀ (d : D) (ps' : List D), d ∈ xs → Good ps' → Φ (.d d) [.own ps', .dat (.list xs)]) : pF f__law_pick [.own ps, .dat (.list xs)] Φ := by
  refine pf_fn ?_
  unfold b__law_pick
  refine ws_ret ?_
  simp
  refine draw G (by omega) (by omega) fun r ps' r0 r1 G' => ?_
  simp
  have hr : r.toNat < xs.length := by omega
  have e : r = ((r.toNat : Nat) : Int) := by omega
  rw [e, atI_nat (v := xs[r.toNat]) (List.getElem?_eq_getElem hr)]
  simp
  exact k _ _ (List.getElem_mem hr) G'
end K01
end DL
set_option Elab.async false
set_option linter.all false
set_option maxRecDepth 100000
set_option maxHeartbeats 2000000
set_option autoImplicit false
/-! K01T: texts of bounded length; trees of numbers. -/
namespace DL
open PySem PySem.Spec PyProof.Rows L2
/-- a text of at most n signs -/
def Tx (n : Nat) (z : Str) : Prop := z.length ≤ n ∧ ∀ c ∈ z.cps.toList, c < 1114112
instance {n : Nat} {z : Str} : Decidable (Tx n z) := inferInstanceAs (Decidable (_ ∧ _))
theorem Tx.mono {m n : Nat} {z : Str} (h : Tx m z) (k : m ≤ n) : Tx n z := ⟨Nat.le_trans h.1 k, h.2⟩
theorem len_app (a b : Str) : (a ++ b).length = a.length + b.length := by
  show (a.cps ++ b.cps).size = _
  rw [Array.size_append] <;> rfl
theorem Tx.app {m n : Nat} {a b : Str} (h : Tx m a) (k : Tx n b) : Tx (m + n) (a ++ b) := by
  refine ⟨by rw [len_app]; exact Nat.add_le_add h.1 k.1, fun c hc => ?_⟩
  have hc' : c ∈ (a.cps ++ b.cps).toList := hc
  rw [Array.toList_append, List.mem_append] at hc'
  exact hc'.elim (h.2 c) (k.2 c)
theorem Tx.cut {n : Nat} {z : Str} {lo hi : Option Int} (h : Tx n z) : Tx n (cutS z lo hi) := by
  have e : (cutS z lo hi).cps.toList = (z.cps.toList.drop (HT.sIx z.length 0 lo)).take (HT.sIx z.length z.length hi - HT.sIx z.length 0 lo) := by simp [cutS]
  refine ⟨?_, fun c hc => ?_⟩
  · have q : (cutS z lo hi).length = (cutS z lo hi).cps.toList.length := by simp [Str.length]
    rw [q, e, List.length_take, List.length_drop]
    have h1 := h.1
    have h2 : z.cps.toList.length = z.length := by simp [Str.length]
    omega
  · rw [e] at hc
    exact h.2 c (List.mem_of_mem_drop (List.mem_of_mem_take hc))
theorem Tx.int {i : Int} (h0 : 0 ≤ i) (h : i < 10 ^ 20) : Tx 20 (Str.ofString (toString i)) := by
  refine ⟨toString_length_le h0 (by decide) h, fun c hc => ?_⟩
  rw [Str.ofString_eq_toList] at hc
  simp only [List.mem_map] at hc
  obtain ⟨ch, _, rfl⟩ := hc
  have := ch.valid
  show ch.val.toNat < 1114112
  have v := ch.valid
  simp only [UInt32.isValidChar, Nat.isValidChar] at v
  omega
theorem tx_ofString {n : Nat} {s : String} (h : s.toList.length ≤ n) : Tx n (Str.ofString s) := by
  refine ⟨by rw [PySem.ofString_length, ← String.length_toList]; exact h, fun c hc => ?_⟩
  rw [Str.ofString_eq_toList] at hc
  simp only [List.mem_map] at hc
  obtain ⟨ch, _, rfl⟩ := hc
  show ch.val.toNat < 1114112
  have v := ch.valid
  simp only [UInt32.isValidChar, Nat.isValidChar] at v
  omega
theorem Tx.int8 {i : Int} (h0 : -9 ≤ i) (h : i ≤ 9) : Tx 20 (Str.ofString (toString i)) := tx_ofString (by
  have q := int_text_length_le10 (a := i) (k := 2) (by decide) (by omega)
  rw [← String.length_toList] at q
  omega)
theorem mem_join {y : Str} {c : Nat} : ∀ {ys : List Str}, c ∈ (Str.join y ys).cps.toList → c ∈ y.cps.toList ∨ ∃ z ∈ ys, c ∈ z.cps.toList
  | [], h => by simp [Str.join, Str.empty] at h
  | [z], h => .inr ⟨z, by simp, h⟩
  | z :: w :: r, h => by
    have h' : c ∈ (z.cps ++ y.cps ++ (Str.join y (w :: r)).cps).toList := h
    simp only [Array.toList_append, List.mem_append] at h'
    rcases h' with (h' | h') | h'
    · exact .inr ⟨z, by simp, h'⟩
    · exact .inl h'
    · rcases mem_join h' with q | ⟨u, hu, q⟩
      · exact .inl q
      · exact .inr ⟨u, List.mem_cons_of_mem _ hu, q⟩
theorem sum_le {n : Nat} : ∀ {ys : List Str}, (∀ y ∈ ys, y.length ≤ n) → (ys.map (·.length)).sum ≤ ys.length * n
  | [], _ => by simp
  | y :: r, h => by
    have q := sum_le (ys := r) fun z hz => h z (List.mem_cons_of_mem _ hz)
    have q1 := h y List.mem_cons_self
    simp only [List.map_cons, List.sum_cons, List.length_cons]
    rw [Nat.add_mul]
    omega
theorem Tx.join {n m k : Nat} {y : Str} {ys : List Str} (hy : Tx m y) (h : ∀ z ∈ ys, Tx n z) (hk : ys.length ≤ k) : Tx (k * n + k * m) (Txt.join y ys) := by
  refine ⟨?_, fun c hc => ?_⟩
  · show (PySem.Builtin.Str.glued y ys).length ≤ _
    rw [size_glued]
    have q := sum_le (fun z hz => (h z hz).1)
    have q1 : (ys.length - 1) * y.length ≤ k * m := Nat.mul_le_mul (by omega) hy.1
    have q2 : ys.length * n ≤ k * n := Nat.mul_le_mul_right _ hk
    omega
  · rw [show Txt.join y ys = Str.join y ys from StrLaws.glued_eq_join y ys] at hc
    rcases mem_join hc with q | ⟨z, hz, q⟩
    · exact hy.2 c q
    · exact (h z hz).2 c q
theorem join_fits {n m k : Nat} {y : Str} {ys : List Str} (hy : Tx m y) (h : ∀ z ∈ ys, Tx n z) (hk : ys.length ≤ k) : (ys.map (·.length)).sum + ys.length * y.length ≤ k * n + k * m := by
  have q := sum_le (fun z hz => (h z hz).1)
  have q1 : ys.length * y.length ≤ k * m := Nat.mul_le_mul hk hy.1
  have q2 : ys.length * n ≤ k * n := Nat.mul_le_mul_right _ hk
  omega
@[simp] theorem gStr_i {i : Int} : gStr [.int i] = if i.natAbs.log2 < 1920 then some (.str (Str.ofString (toString i))) else none := rfl
@[simp] theorem gStr_s {z : Str} : gStr [.str z] = some (.str z) := rfl
@[simp] theorem gSl_s {z : Str} {l h : Option Int} : gSl (.str z) l h = if z.length ≤ 16777216 then some (.str (cutS z l h)) else none := rfl
theorem strsD_map : ∀ zs : List Str, strsD (zs.map PyData.str) = some zs
  | [] => rfl
  | z :: r => by simp [strsD, strsD_map r]
theorem log_small {i : Int} (h0 : -(10 ^ 20) < i) (h : i < 10 ^ 20) : i.natAbs.log2 < 1920 := by
  have q : i.natAbs < 2 ^ 1920 := by
    have : i.natAbs < 10 ^ 20 := by omega
    exact Nat.lt_of_lt_of_le this (by decide +kernel)
  by_cases z : i.natAbs = 0
  · rw [z]; decide +kernel
  · exact (Nat.log2_lt z).mpr q
/-! names in a list -/
theorem inB_list {x : Str} {zs : List Str} : inB (.str x) (.list (zs.map PyData.str)) = some (decide (x ∈ zs)) := by
  have e1 : (zs.map PyData.str).all flatD = true := by simp [flatD]
  show (if flatD (.str x) && (zs.map PyData.str).all flatD then some (inV (vOf (.str x)) ((zs.map PyData.str).map vOf)) else none) = _
  rw [if_pos (by rw [e1]; rfl)]
  congr 1
  rw [List.map_map]
  show (zs.map (vOf ∘ PyData.str)).any (fun y => eqV y (.str x)) = _
  rw [List.any_map, Bool.eq_iff_iff]
  simp only [List.any_eq_true, decide_eq_true_eq, Function.comp]
  constructor
  · rintro ⟨z, hz, e⟩
    have e' : (z == x) = true := e
    rw [← eq_of_beq e']
    exact hz
  · intro h
    exact ⟨x, h, beq_self_eq_true x⟩
@[simp] theorem gIn_list {x : Str} {zs : List Str} : gIn (.str x) (.list (zs.map PyData.str)) = some (.bool (decide (x ∈ zs))) := by
  show (inB _ _).map _ = _
  rw [inB_list] <;> rfl
@[simp] theorem gNotIn_list {x : Str} {zs : List Str} : gNotIn (.str x) (.list (zs.map PyData.str)) = some (.bool (!decide (x ∈ zs))) := by
  show (inB _ _).map _ = _
  rw [inB_list] <;> rfl
theorem inB_tup {x : Str} {zs : List Str} : inB (.str x) (.tuple (zs.map PyData.str)) = some (decide (x ∈ zs)) := by
  have q := @inB_list x zs
  exact q
@[simp] theorem gIn_tup {x : Str} {zs : List Str} : gIn (.str x) (.tuple (zs.map PyData.str)) = some (.bool (decide (x ∈ zs))) := by
  show (inB _ _).map _ = _
  rw [inB_tup] <;> rfl
theorem lay_strs : ∀ {zs : List Str} {n : Nat}, (∀ z ∈ zs, Tx n z) → PyData.canLayAll0 (zs.map PyData.str) = true ∧ PyData.depthAll (zs.map PyData.str) = 0
  | [], _, _ => ⟨rfl, rfl⟩
  | z :: r, n, h => by
    obtain ⟨a, b⟩ := lay_strs (zs := r) fun x hx => h x (List.mem_cons_of_mem _ hx)
    have q : PyData.strOk z = true := by
      show z.cps.all (· < 0x110000) = true
      rw [Array.all_eq_true_iff_forall_mem]
      intro c hc
      have := (h z List.mem_cons_self).2 c (by simpa using hc)
      simpa using this
    refine ⟨?_, ?_⟩
    · show (PyData.strOk z && PyData.canLayAll0 (r.map PyData.str)) = true
      rw [q, a] <;> rfl
    · show max (PyData.depth (.str z)) (PyData.depthAll (r.map PyData.str)) = 0
      rw [b] <;> rfl
theorem gNe_nil {zs : List Str} {n : Nat} (h : ∀ z ∈ zs, Tx n z) (hz : zs ≠ []) : gNe (.list (zs.map PyData.str)) (.list []) = some (.bool true) := by
  obtain ⟨a, b⟩ := lay_strs h
  have sh : SeqAt.shaped (.list (zs.map PyData.str)) = true := by
    show (PyData.canLayAll0 (zs.map PyData.str) && decide (PyData.depthAll (zs.map PyData.str) + 1 ≤ 64)) = true
    rw [a, b] <;> rfl
  show (eqB _ _).map _ = _
  unfold eqB
  rw [if_neg (by simp [flatD]), if_pos (by rw [sh]; rfl)]
  cases zs with
  | nil => exact absurd rfl hz
  | cons z r => rfl
namespace K01
/-- the names of a plan -/
def Names (zs : List Str) : Prop := zs ≠ [] ∧ zs.length ≤ 1000 ∧ ∀ z ∈ zs, Tx 12 z
/-- a number's tree -/
inductive NT : Nat → D → Prop where
  | name {k : Nat} {z : Str} (h : Tx 12 z) : NT k (.tuple [.str "name", .str z])
  | num {k : Nat} {i : Int} (h0 : 0 ≤ i) (h1 : i < 10 ^ 20) : NT k (.tuple [.str "numeral", .int i])
  | minus {k : Nat} {a : D} (h : NT k a) : NT (k + 1) (.tuple [.str "minus", a])
  | sqrt {k : Nat} {a : D} (h : NT k a) : NT (k + 1) (.tuple [.str "sqrt", a])
  | root {k : Nat} {i : Int} {ds : List D} (h0 : -9 ≤ i) (h1 : i ≤ 9) (hl : ds.length ≤ 4) (h : ∀ d ∈ ds, NT k d) : NT (k + 1) (.tuple [.str "root", .int i, .tuple ds])
  | bin {k : Nat} {o : Str} {a b : D} (ho : o ∈ (["plus", "less", "times", "over"] : List Str)) (ha : NT k a) (hb : NT k b) : NT (k + 1) (.tuple [.str o, a, b])
theorem NT.mono {j k : Nat} {d : D} (h : NT j d) (q : j ≤ k) : NT k d := by
  induction h generalizing k with
  | name h => exact .name h
  | num h0 h1 => exact .num h0 h1
  | minus h ih =>
    obtain ⟨k', rfl⟩ : ∃ k', k = k' + 1 := ⟨k - 1, by omega⟩
    exact .minus (ih (by omega))
  | sqrt h ih =>
    obtain ⟨k', rfl⟩ : ∃ k', k = k' + 1 := ⟨k - 1, by omega⟩
    exact .sqrt (ih (by omega))
  | root h0 h1 hl h ih =>
    obtain ⟨k', rfl⟩ : ∃ k', k = k' + 1 := ⟨k - 1, by omega⟩
    exact .root h0 h1 hl fun d hd => ih d hd (by omega)
  | bin ho ha hb i1 i2 =>
    obtain ⟨k', rfl⟩ : ∃ k', k = k' + 1 := ⟨k - 1, by omega⟩
    exact .bin ho (i1 (by omega)) (i2 (by omega))
end K01
end DL
set_option Elab.async false
set_option linter.all false
set_option maxRecDepth 100000
set_option maxHeartbeats 2000000
set_option autoImplicit false
/-! K01N: numbers drawn. -/
namespace DL
namespace K01
open PySem PySem.Spec PyProof.Rows L2
theorem pick_strs {ps : List D} {zs : List Str} {Φ : Val → List Slot → Prop} (G : Good ps) (h0 : zs ≠ []) (h1 : zs.length ≤ 1000) (k : ∀ (z : Str) (ps' : List D), z ∈ zs → Good ps' → Φ (.d (.str z)) [.own ps', .dat (.list (zs.map PyData.str))]) :
    pF f__law_pick [.own ps, .dat (.list (zs.map PyData.str))] Φ := by
  have hp : 0 < zs.length := List.length_pos_iff.mpr h0
  refine pick G (by rw [List.length_map]; exact hp) (by rw [List.length_map]; exact Nat.lt_of_le_of_lt h1 (by decide +kernel)) fun d ps' hd G' => ?_
  obtain ⟨z, hz, rfl⟩ := List.mem_map.mp hd
  exact k z ps' hz G'
theorem rangeD_length {lo : Int} {n : Nat} : (rangeD lo n).length = n := by simp [rangeD]
theorem five {r : Int} (h0 : 5 ≤ r) (h1 : r ≤ 9) : ∃ o : Str, o ∈ (["plus", "less", "times", "over"] : List Str) ∧ atI [PyData.str "plus", .str "less", .str "times", .str "over", .str "plus"] (r - 5) = some (.str o) := by
  obtain rfl | rfl | rfl | rfl | rfl : r = 5 ∨ r = 6 ∨ r = 7 ∨ r = 8 ∨ r = 9 := by omega
  · exact ⟨"plus", by simp, rfl⟩
  · exact ⟨"less", by simp, rfl⟩
  · exact ⟨"times", by simp, rfl⟩
  · exact ⟨"over", by simp, rfl⟩
  · exact ⟨"plus", by simp, rfl⟩
theorem number_step {r : FM} {k : Nat} {ps : List D} {zs : List Str} {Φ : Val → List Slot → Prop} (G : Good ps) (N : Names zs)
    (IH : ∀ (j : Nat) (ps : List D) (Φ : Val → List Slot → Prop), j < k → Good ps → (∀ (t : D) (ps' : List D), NT j t → Good ps' → Φ (.d t) [.own ps', .dat (.list (zs.map PyData.str)), .dat (.int j)]) → pF r [.own ps, .dat (.list (zs.map PyData.str)), .dat (.int j)] Φ)
    (q : ∀ (t : D) (ps' : List D), NT k t → Good ps' → Φ (.d t) [.own ps', .dat (.list (zs.map PyData.str)), .dat (.int k)]) : pF (fnM [0] 7 (b__law_number r)) [.own ps, .dat (.list (zs.map PyData.str)), .dat (.int k)] Φ := by
  refine pf_fn ?_
  unfold b__law_number
  simp
  refine ws_asg ?_
  simp
  refine draw G (by decide) (by omega) fun way ps1 w0 w1 G1 => ?_
  simp
  refine ws_if ?_
  simp
  have leaf : ∀ {Ψ : Out → Prop}, (∀ (t : D) (ps' : List D), NT k t → Good ps' → Ψ (.ret (.d t) [some (.own ps'), some (.dat (.list (zs.map PyData.str))), some (.dat (.int k)), some (.dat (.int way)), none, none, none])) → 
     wS (seqM (ifM (andM (op2 gNe (varM 1) (opL gLst (nilL))) (op2 gEq (callO 2 f__law_draw 0 (consL (conM (.int 2)) (nilL))) (conM (.int 0)))) (retM (opL gTup (consL (conM (.str "name")) (consL (callO 2 f__law_pick 0 (consL (varM 1) (nilL))) (nilL))))) (nextM)) (retM (opL gTup (consL (conM (.str "numeral")) (consL (iteM (op2 gGt (callO 2 f__law_draw 0 (consL (conM (.int 9)) (nilL))) (conM (.int 0))) (callO 2 f__law_draw 0 (consL (conM (.int 10)) (nilL))) (callO 2 f__law_draw 0 (consL (op2 gPow (conM (.int 10)) (conM (.int 20))) (nilL)))) (nilL))))))
       [some (.own ps1), some (.dat (.list (zs.map PyData.str))), some (.dat (.int k)), some (.dat (.int way)), none, none, none] Ψ := by
    intro Ψ q
    simp
    refine ws_if ?_
    simp
    rw [gNe_nil N.2.2 N.1]
    simp
    refine draw G1 (by decide) (by omega) fun r1 ps2 a0 a1 G2 => ?_
    simp
    by_cases h : r1 = 0
    · rw [if_pos h]
      refine ws_ret ?_
      simp
      refine pick_strs G2 N.1 N.2.1 fun z ps3 hz G3 => ?_
      simp
      exact q _ _ (.name (N.2.2 z hz)) G3
    · rw [if_neg h]
      refine ws_ret ?_
      simp
      refine draw G2 (by decide) (by omega) fun r2 ps3 b0 b1 G3 => ?_
      simp
      by_cases h2 : 0 < r2
      · rw [if_pos h2]
        refine draw G3 (by decide) (by omega) fun r3 ps4 c0 c1 G4 => ?_
        simp
        exact q _ _ (.num c0 (by omega)) G4
      · rw [if_neg h2]
        refine draw G3 (by decide) (by omega) fun r3 ps4 c0 c1 G4 => ?_
        simp
        exact q _ _ (.num c0 (by omega)) G4
  by_cases hk : k = 0
  · rw [if_pos hk]
    refine wS_seq.mp (leaf fun t ps' ht G' => ?_)
    simp
    exact q t ps' ht G'
  rw [if_neg hk]
  by_cases hw : way < 4
  · rw [if_pos hw]
    refine wS_seq.mp (leaf fun t ps' ht G' => ?_)
    simp
    exact q t ps' ht G'
  rw [if_neg hw]
  obtain ⟨j, rfl⟩ : ∃ j, k = j + 1 := ⟨k - 1, by omega⟩
  refine ws_asg ?_
  simp
  refine IH j _ _ (by omega) G1 fun one ps2 hone G2 => ?_
  simp
  refine ws_if ?_
  simp
  by_cases hw4 : way = 4
  · rw [if_pos hw4]
    refine ws_ret ?_
    simp
    exact q _ _ (.minus hone) G2
  rw [if_neg hw4]
  refine ws_if ?_
  simp
  by_cases hw9 : 9 < way
  · rw [if_pos hw9]
    refine ws_if ?_
    simp
    by_cases hw10 : way = 10
    · rw [if_pos hw10]
      refine ws_ret ?_
      simp
      exact q _ _ (.sqrt hone) G2
    rw [if_neg hw10]
    refine ws_asg ?_
    simp
    refine draw G2 (by decide) (by omega) fun many ps3 m0 m1 G3 => ?_
    simp
    refine ws_ret ?_
    simp
    refine draw G3 (by decide) (by omega) fun u ps4 u0 u1 G4 => ?_
    simp
    refine draw G4 (by decide) (by omega) fun v ps5 v0 v1 G5 => ?_
    simp
    refine ⟨.inl (by omega), we_lc (wi_rng1 ?_)⟩
    simp
    refine ⟨by omega, rfl, ?_⟩
    refine wc_ind (J := fun ds ρ acc => ds.length + acc.length ≤ 4 ∧ (∀ t ∈ acc, NT j t) ∧ ∃ ps, Good ps ∧ ρ = [some (.own ps), some (.dat (.list (zs.map PyData.str))), some (.dat (.int (j + 1))), some (.dat (.int way)), some (.dat one), some (.dat (.int (2 + many))), none])
      (fun d t ρ acc hJ => ?_) (fun ρ acc hJ => ?_) _ _ _ ⟨by rw [rangeD_length]; simp only [List.length_nil]; omega, (fun t ht => nomatch ht), ps5, G5, rfl⟩
    · obtain ⟨h1, h2, ps, Gp, rfl⟩ := hJ
      simp only [List.length_cons] at h1
      have fin : ∀ (i : Nat), i < j + 1 → pF r [.own ps, .dat (.list (zs.map PyData.str)), .dat (.int i)] (bK 0 [some (.own ps), some (.dat (.list (zs.map PyData.str))), some (.dat (.int (j + 1))), some (.dat (.int way)), some (.dat one), some (.dat (.int (2 + many))), some (.dat d)] fun y ρ3 => vD y fun y =>
          t.length + (acc ++ [y]).length ≤ 4 ∧ (∀ u ∈ acc ++ [y], NT j u) ∧ ∃ ps, Good ps ∧ wipeR ρ3 [6] = [some (.own ps), some (.dat (.list (zs.map PyData.str))), some (.dat (.int (j + 1))), some (.dat (.int way)), some (.dat one), some (.dat (.int (2 + many))), none]) := by
        intro i hi
        refine IH i _ _ hi Gp fun y ps' hy G' => ?_
        simp
        refine ⟨by omega, ?_, ps', G', rfl⟩
        intro u hu
        rcases hu with hu | rfl
        · exact h2 u hu
        · exact hy.mono (by omega)
      simp
      refine ⟨by omega, ?_⟩
      by_cases h3 : (2 : Int) < j + 1
      · rw [if_pos h3]
        have := fin (j - 1) (by omega)
        rw [show ((j - 1 : Nat) : Int) = (j : Int) + 1 - 2 by omega] at this
        simpa using this
      · rw [if_neg h3]
        have := fin 0 (by omega)
        simpa using this
    · obtain ⟨h1, h2, ps, Gp, rfl⟩ := hJ
      simp
      simp only [List.length_nil] at h1
      obtain rfl | rfl : v = 0 ∨ v = 1 := by omega
      · exact q _ _ (.root (by omega) (by omega) (by omega) h2) Gp
      · exact q _ _ (.root (by omega) (by omega) (by omega) h2) Gp
  rw [if_neg hw9]
  refine ws_ret ?_
  simp
  obtain ⟨o, ho, e⟩ := five (r := way) (by omega) (by omega)
  rw [e]
  simp
  refine IH j _ _ (by omega) G2 fun two ps3 htwo G3 => ?_
  simp
  exact q _ _ (.bin ho hone htwo) G3
theorem number : ∀ (n k : Nat) {ps : List D} {zs : List Str} {Φ : Val → List Slot → Prop}, Good ps → Names zs → k ≤ n →
    (∀ (t : D) (ps' : List D), NT k t → Good ps' → Φ (.d t) [.own ps', .dat (.list (zs.map PyData.str)), .dat (.int k)]) → pF (f__law_number (n + 1)) [.own ps, .dat (.list (zs.map PyData.str)), .dat (.int k)] Φ
  | 0, k, ps, zs, Φ, G, N, hk, q => number_step G N (fun j _ _ hj => by omega) q
  | n + 1, k, ps, zs, Φ, G, N, hk, q => number_step G N (fun j ps' Φ' hj G' q' => number n j G' N (by omega) q') q
end K01
end DL
set_option Elab.async false
set_option linter.all false
set_option maxRecDepth 100000
set_option maxHeartbeats 2000000
set_option autoImplicit false
/-! K01P: numbers printed. -/
namespace DL
open PySem PySem.Spec PyProof.Rows L2
@[simp] theorem ofS_inj {a b : String} : Str.ofString a = Str.ofString b ↔ a = b := by
  constructor
  · intro h
    rw [Str.ofString_eq_toList, Str.ofString_eq_toList] at h
    have h1 : (a.toList.map Char.toNat) = b.toList.map Char.toNat := by simpa using congrArg (fun z : Str => z.cps.toList) h
    have h2 : a.toList = b.toList := (List.map_inj_right (fun x y e => Char.ext (UInt32.toNat_inj.mp e))).mp h1
    exact String.toList_inj.mp h2
  · intro h; rw [h]
@[simp] theorem gIn_t2 {x a b : Str} : gIn (.str x) (.tuple [.str a, .str b]) = some (.bool (decide (x = a ∨ x = b))) := by
  have q := @gIn_tup x [a, b]
  simpa using q
@[simp] theorem gIn_t3 {x a b c : Str} : gIn (.str x) (.tuple [.str a, .str b, .str c]) = some (.bool (decide (x = a ∨ x = b ∨ x = c))) := by
  have q := @gIn_tup x [a, b, c]
  simpa using q
@[simp] theorem at_0 {α : Type} {a : α} {r : List α} : atI (a :: r) 0 = some a := atI_nat (j := 0) rfl
@[simp] theorem at_1 {α : Type} {a b : α} {r : List α} : atI (a :: b :: r) 1 = some b := atI_nat (j := 1) rfl
@[simp] theorem at_2 {α : Type} {a b c : α} {r : List α} : atI (a :: b :: c :: r) 2 = some c := atI_nat (j := 2) rfl
theorem cat {m n : Nat} {a b : Str} {P : D → Prop} (ha : Tx m a) (hb : Tx n b) (h : m + n ≤ 16777216) (k : Tx (m + n) (a ++ b) → P (.str (a ++ b))) : oP (gAdd (.str a) (.str b)) P := by
  rw [gAdd_s, oP_if]
  have := ha.1
  have := hb.1
  exact ⟨by omega, k (ha.app hb)⟩
theorem lit {n : Nat} {s : String} (h : s.toList.length ≤ n := by decide) : Tx n (Str.ofString s) := tx_ofString h
@[simp] theorem gSl_t {ds : List D} {l h : Option Int} : gSl (.tuple ds) l h = some (.tuple (cutD ds l h)) := rfl
@[simp] theorem itemsD_t {ds : List D} : itemsD (.tuple ds) = some ds := rfl
@[simp] theorem itemsD_l {ds : List D} : itemsD (.list ds) = some ds := rfl
@[simp] theorem gJoin_l {a : Str} {zs : List Str} : gJoin (.str a) (.list (zs.map PyData.str)) = if (zs.map (·.length)).sum + zs.length * a.length ≤ 16777216 then some (.str (Txt.join a zs)) else none := by
  show (strsD (zs.map PyData.str)).bind _ = _
  rw [strsD_map]
  rfl
@[simp] theorem gJoin_t {a : Str} {zs : List Str} : gJoin (.str a) (.tuple (zs.map PyData.str)) = if (zs.map (·.length)).sum + zs.length * a.length ≤ 16777216 then some (.str (Txt.join a zs)) else none := by
  show (strsD (zs.map PyData.str)).bind _ = _
  rw [strsD_map]
  rfl
namespace K01
def B : Nat → Nat
  | 0 => 40
  | k + 1 => 4 * B k + 40
theorem B_ge (k : Nat) : 40 ≤ B k := by cases k <;> simp [B]
def PrOk (f : FM) (n : Nat) (t : D) : Prop := ∀ Φ : Val → List Slot → Prop, (∀ (z : Str) (w : Int), Tx n z → 0 ≤ w → w ≤ 2 → Φ (.d (.tuple [.str z, .int w])) [.dat t]) → pF f [.dat t] Φ
def WiOk (f : FM) (n : Nat) (t : D) : Prop := ∀ (w : Int) (Φ : Val → List Slot → Prop), (∀ z : Str, Tx (n + 2) z → Φ (.d (.str z)) [.dat t, .dat (.int w)]) → pF f [.dat t, .dat (.int w)] Φ
theorem within {r r' : FM} {n : Nat} {t : D} (h : PrOk r n t) (hn : n ≤ 1000000) : WiOk (fnM [] 4 (b__law_within r r')) n t := by
  intro w Φ q
  refine pf_fn ?_
  unfold b__law_within
  simp
  refine ws_asg ?_
  simp
  refine h _ fun z w' hz h0 h1 => ?_
  simp
  refine ws_ret ?_
  simp
  by_cases hw : w ≤ w'
  · rw [if_pos hw]
    exact q _ (hz.mono (by omega))
  · rw [if_neg hw]
    refine cat (lit (n := 1)) hz (by omega) fun h1 => ?_
    refine cat h1 (lit (n := 1)) (by omega) fun h2 => ?_
    exact q _ (h2.mono (by omega))
theorem print_step {r r' : FM} {k : Nat} {t : D} (hB : B (k + 1) ≤ 1000000) (h : NT (k + 1) t) (P : ∀ u, NT k u → PrOk r (B k) u) (W : ∀ u, NT k u → WiOk r' (B k) u) : PrOk (fnM [] 5 (b__law_print r r')) (B (k + 1)) t := by
  have hB1 : B (k + 1) = 4 * B k + 40 := rfl
  intro Φ q
  refine pf_fn ?_
  unfold b__law_print
  simp
  refine ws_asg ?_
  cases h with
  | name h =>
    simp
    refine ws_if ?_
    simp
    refine ws_ret ?_
    simp
    exact q _ _ (h.mono (by omega)) (by omega) (by omega)
  | num h0 h1 =>
    simp
    refine ws_if ?_
    simp
    refine ws_ret ?_
    simp
    exact ⟨log_small (by omega) h1, q _ _ ((Tx.int h0 h1).mono (by omega)) (by omega) (by omega)⟩
  | minus h =>
    simp
    refine ws_if ?_
    simp
    refine ws_if ?_
    simp
    refine ws_if ?_
    simp
    refine ws_if ?_
    simp
    refine ws_if ?_
    simp
    refine ws_ret ?_
    simp
    refine W _ h _ _ fun z hz => ?_
    simp
    refine cat (lit (n := 1)) hz (by omega) fun h2 => ?_
    exact q _ _ (h2.mono (by omega)) (by omega) (by omega)
  | sqrt h =>
    simp
    refine ws_if ?_
    simp
    refine ws_if ?_
    simp
    refine ws_if ?_
    simp
    refine ws_ret ?_
    simp
    refine P _ h _ fun z w hz w0 w1 => ?_
    simp
    refine cat (lit (n := 5)) hz (by omega) fun h1 => ?_
    try simp
    refine cat h1 (lit (n := 1)) (by omega) fun h2 => ?_
    exact q _ _ (h2.mono (by omega)) (by omega) (by omega)
  | root h0 h1 hl h =>
    simp
    refine ws_if ?_
    simp
    refine ws_if ?_
    simp
    refine ws_if ?_
    simp
    refine ws_if ?_
    simp
    refine ws_ret ?_
    simp
    refine ⟨log_small (by omega) (by omega), ?_⟩
    refine cat (lit (n := 5)) (Tx.int8 h0 h1) (by omega) fun h2 => ?_
    try simp
    refine cat h2 (lit (n := 2)) (by omega) fun h3 => ?_
    try simp
    refine we_lc ?_
    simp
    refine ⟨rfl, ?_⟩
    rename_i i ds
    refine wc_ind (J := fun es ρ acc => (∀ d ∈ es, NT k d) ∧ ∃ zs : List Str, acc = zs.map PyData.str ∧ (∀ z ∈ zs, Tx (B k) z) ∧ es.length + zs.length ≤ 4 ∧ ρ = [some (.dat (.tuple [.str "root", .int i, .tuple ds])), some (.dat (.str "root")), none, none, none])
      (fun d es ρ acc hJ => ?_) (fun ρ acc hJ => ?_) _ _ _ ⟨h, [], rfl, (fun z hz => nomatch hz), by simpa using hl, rfl⟩
    · obtain ⟨hd, zs, rfl, hz, hlen, rfl⟩ := hJ
      simp only [List.length_cons] at hlen
      simp
      refine ⟨by omega, P _ (hd d List.mem_cons_self) _ fun z w tz w0 w1 => ?_⟩
      simp
      refine ⟨fun u hu => hd u (List.mem_cons_of_mem _ hu), zs ++ [z], by simp, ?_, by simp; omega, rfl⟩
      intro u hu
      rcases List.mem_append.mp hu with hu | hu
      · exact hz u hu
      · simp at hu
        subst hu
        exact tz
    · obtain ⟨_, zs, rfl, hz, hlen, rfl⟩ := hJ
      simp only [List.length_nil, Nat.zero_add] at hlen
      simp
      have f1 := join_fits (y := Str.ofString ", ") (lit (n := 2)) hz hlen
      have f2 := Tx.join (y := Str.ofString ", ") (lit (n := 2)) hz hlen
      refine ⟨by omega, ?_⟩
      refine cat h3 f2 (by omega) fun h4 => ?_
      try simp
      refine cat h4 (lit (n := 1)) (by omega) fun h5 => ?_
      exact q _ _ (h5.mono (by omega)) (by omega) (by omega)
  | bin ho ha hb =>
    simp
    refine ws_if ?_
    rename_i o a b
    have e1 : ∀ s : String, s ∉ ["plus", "less", "times", "over"] → o ≠ Str.ofString s := by
      intro s hs e
      simp at ho
      rcases ho with rfl | rfl | rfl | rfl <;> simp at e <;> simp [← e] at hs
    simp [e1]
    refine ws_if ?_
    simp [e1]
    refine ws_if ?_
    simp [e1]
    refine ws_if ?_
    simp [e1]
    refine ws_if ?_
    simp [e1]
    refine ws_asg ?_
    simp
    have fin : ∀ (w : Int), 0 ≤ w → w ≤ 1 → wS (asgM (nameT 3) (dispM [("plus", " + "), ("less", " - "), ("times", " * "), ("over", " / ")] (varM 1)))
        [some (.dat (.tuple [.str o, a, b])), some (.dat (.str o)), some (.dat (.int w)), none, none]
        (seqK (retM (opL gTup (consL (op2 gAdd (op2 gAdd (callD 2 r' (consL (op2 gIx (varM 0) (conM (.int 1))) (consL (varM 2) nilL))) (varM 3)) (callD 2 r' (consL (op2 gIx (varM 0) (conM (.int 2))) (consL (op2 gAdd (varM 2) (conM (.int 1))) nilL)))) (consL (varM 2) nilL))))
          (retK [] [.dat (.tuple [.str o, a, b])] Φ)) := by
      intro w w0 w1
      refine ws_asg ?_
      obtain ⟨s, es, hs⟩ : ∃ s, lookS [("plus", " + "), ("less", " - "), ("times", " * "), ("over", " / ")] o = some s ∧ Tx 3 s := by
        simp at ho
        rcases ho with rfl | rfl | rfl | rfl <;> simp [lookS] <;> exact lit
      simp [es]
      refine ws_ret ?_
      simp
      refine W _ ha _ _ fun z hz => ?_
      simp
      refine cat hz hs (by omega) fun h1 => ?_
      try simp
      refine W _ hb _ _ fun z2 hz2 => ?_
      simp
      refine cat h1 hz2 (by omega) fun h2 => ?_
      exact q _ _ (h2.mono (by omega)) w0 (by omega)
    by_cases c : o = Str.ofString "plus" ∨ o = Str.ofString "less"
    · rw [if_pos c]
      exact fin 0 (by omega) (by omega)
    · rw [if_neg c]
      exact fin 1 (by omega) (by omega)
end K01
end DL
set_option Elab.async false
set_option linter.all false
set_option maxRecDepth 100000
set_option maxHeartbeats 2000000
set_option autoImplicit false
/-! K01R: rows and plans. -/
namespace DL
namespace K01
open PySem PySem.Spec PyProof.Rows L2
theorem print_leaf {r r' : FM} {t : D} (h : NT 0 t) : PrOk (fnM [] 5 (b__law_print r r')) (B 0) t := by
  intro Φ q
  refine pf_fn ?_
  unfold b__law_print
  simp
  refine ws_asg ?_
  cases h with
  | name h =>
    simp
    refine ws_if ?_
    simp
    refine ws_ret ?_
    simp
    exact q _ _ (h.mono (by decide)) (by omega) (by omega)
  | num h0 h1 =>
    simp
    refine ws_if ?_
    simp
    refine ws_ret ?_
    simp
    exact ⟨log_small (by omega) h1, q _ _ ((Tx.int h0 h1).mono (by decide)) (by omega) (by omega)⟩
theorem B_le {j k : Nat} (h : j ≤ k) : B j ≤ B k := by
  induction k with
  | zero => obtain rfl : j = 0 := by omega
            exact Nat.le_refl _
  | succ k ih =>
    have e : B (k + 1) = 4 * B k + 40 := rfl
    by_cases c : j = k + 1
    · subst c; exact Nat.le_refl _
    · have := ih (by omega)
      omega
theorem print_all : ∀ (k m : Nat) (t : D), B k ≤ 1000000 → NT k t → 2 * k + 1 ≤ m → PrOk (f__law_print m) (B k) t
  | 0, m, t, hB, h, hm => by
    obtain ⟨m, rfl⟩ : ∃ m', m = m' + 1 := ⟨m - 1, by omega⟩
    exact print_leaf h
  | k + 1, m, t, hB, h, hm => by
    obtain ⟨m, rfl⟩ : ∃ m', m = m' + 2 := ⟨m - 2, by omega⟩
    have hb : B k ≤ 1000000 := Nat.le_trans (B_le (by omega)) hB
    refine print_step (r := (ff__law_print (m + 1)).1) (r' := (ff__law_print (m + 1)).2) hB h (fun u hu => print_all k (m + 1) u hb hu (by omega)) fun u hu => ?_
    exact within (r := (ff__law_print m).1) (r' := (ff__law_print m).2) (print_all k m u hb hu (by omega)) hb
theorem print3 {t : D} {Φ : Val → List Slot → Prop} (h : NT 3 t) (q : ∀ (z : Str) (w : Int), Tx 4000 z → Φ (.d (.tuple [.str z, .int w])) [.dat t]) : pF (f__law_print 12) [.dat t] Φ :=
  print_all 3 12 t (by decide) h (by decide) Φ fun z w hz _ _ => q z w (hz.mono (by decide))
theorem print2 {t : D} {Φ : Val → List Slot → Prop} (h : NT 2 t) (q : ∀ (z : Str) (w : Int), Tx 900 z → Φ (.d (.tuple [.str z, .int w])) [.dat t]) : pF (f__law_print 12) [.dat t] Φ :=
  print_all 2 12 t (by decide) h (by decide) Φ fun z w hz _ _ => q z w (hz.mono (by decide))
/-- what stands behind a row's name -/
inductive Part : D → Prop where
  | name {z : Str} (h : Tx 12 z) : Part (.str z)
  | many {i : Int} (h0 : 0 ≤ i) (h1 : i < 1000) : Part (.int i)
  | num {t : D} (h : NT 2 t) : Part t
  | sign {z : Str} {zs : List Str} (hz : z ∈ (["x", "y", "dist"] : List Str)) (hl : zs.length ≤ 2) (h : ∀ z ∈ zs, Tx 12 z) : Part (.tuple (.str z :: zs.map PyData.str))
inductive RowT : D → Prop where
  | number {z : Str} {t : D} (hz : Tx 12 z) (h : NT 3 t) : RowT (.tuple [.str "number", .str z, t])
  | tell {t : D} {i : Int} (h : NT 2 t) (h0 : 0 ≤ i) (h1 : i < 1000) : RowT (.tuple [.str "tell", t, .int i])
  | poly {t : D} (h : NT 2 t) : RowT (.tuple [.str "poly", t])
  | cmp {o : Str} {t u : D} (ho : o ∈ (["<", "=", ">"] : List Str)) (h : NT 2 t) (h' : NT 2 u) : RowT (.tuple [.str "ask", .tuple [.str o, t, u]])
  | ask {o : Str} {zs : List Str} (ho : o ∈ (["on", "inside", "left", "same", "between", "parallel", "upright", "touch"] : List Str)) (hl : zs.length ≤ 3) (h : ∀ z ∈ zs, Tx 12 z) : RowT (.tuple [.str "ask", .tuple (.str o :: zs.map PyData.str)])
  | other {o : Str} {z : Str} {ps : List D} (ho : o ∈ (["point", "line", "circle", "ring", "meet", "mid", "foot", "mirror", "parallel", "upright"] : List Str)) (hz : Tx 12 z) (hl : ps.length ≤ 3) (h : ∀ p ∈ ps, Part p) : RowT (.tuple (.str o :: .str z :: ps))
@[simp] theorem cutD_1 {a : D} {r : List D} : cutD (a :: r) (some 1) none = r := by
  have e1 : HT.sIx (a :: r).length 0 (some 1) = 1 := (HT.sIx_nat _ _ 1).trans (by simp)
  unfold cutD
  rw [e1]
  show (r.take (r.length + 1 - 1)) = r
  simp
@[simp] theorem cutD_2 {a b : D} {r : List D} : cutD (a :: b :: r) (some 2) none = r := by
  have e1 : HT.sIx (a :: b :: r).length 0 (some 2) = 2 := (HT.sIx_nat _ _ 2).trans (by simp)
  unfold cutD
  rw [e1]
  show (r.take (r.length + 1 + 1 - 2)) = r
  simp
@[simp] theorem gIsi_str_s {z : Str} : gIsi "str" (.str z) = some (.bool true) := rfl
@[simp] theorem gIsi_str_i {z : Int} : gIsi "str" (.int z) = some (.bool false) := rfl
@[simp] theorem gIsi_str_t {z : List D} : gIsi "str" (.tuple z) = some (.bool false) := rfl
@[simp] theorem gIsi_int_i {z : Int} : gIsi "int" (.int z) = some (.bool true) := rfl
@[simp] theorem gIsi_int_t {z : List D} : gIsi "int" (.tuple z) = some (.bool false) := rfl
@[simp] theorem gIsi_bool_i {z : Int} : gIsi "bool" (.int z) = some (.bool false) := rfl
@[simp] theorem gIsi_bool_t {z : List D} : gIsi "bool" (.tuple z) = some (.bool false) := rfl
theorem is_num_i {i : Int} {Φ : Val → List Slot → Prop} (q : Φ (.d (.bool true)) [.dat (.int i)]) : pF f__law_is_num [.dat (.int i)] Φ := by
  refine pf_fn (ws_ret ?_)
  simp
  exact q
theorem is_num_t {i : List D} {Φ : Val → List Slot → Prop} (q : Φ (.d (.bool false)) [.dat (.tuple i)]) : pF f__law_is_num [.dat (.tuple i)] Φ := by
  refine pf_fn (ws_ret ?_)
  simp
  exact q
theorem sign_print {z : Str} {zs : List Str} {Φ : Val → List Slot → Prop} (hz : z ∈ (["x", "y", "dist"] : List Str)) (hl : zs.length ≤ 2) (h : ∀ z ∈ zs, Tx 12 z) (q : ∀ (y : Str) (w : Int), Tx 900 y → Φ (.d (.tuple [.str y, .int w])) [.dat (.tuple (.str z :: zs.map PyData.str))]) :
    pF (f__law_print 12) [.dat (.tuple (.str z :: zs.map PyData.str))] Φ := by
  refine pf_fn ?_
  unfold b__law_print
  simp
  refine ws_asg ?_
  simp
  refine ws_if ?_
  simp at hz
  have tz : Tx 4 z := by rcases hz with rfl | rfl | rfl <;> exact lit
  have e : ¬ (z = Str.ofString "numeral" ∨ z = Str.ofString "name") := by rcases hz with rfl | rfl | rfl <;> simp
  simp [e]
  refine ws_if ?_
  simp [hz]
  refine ws_ret ?_
  simp
  refine cat tz (lit (n := 1)) (by omega) fun h1 => ?_
  try simp
  have f1 := join_fits (y := Str.ofString ", ") (lit (n := 2)) h hl
  have f2 := Tx.join (y := Str.ofString ", ") (lit (n := 2)) h hl
  refine ⟨by omega, ?_⟩
  refine cat h1 f2 (by omega) fun h2 => ?_
  try simp
  refine cat h2 (lit (n := 1)) (by omega) fun h3 => ?_
  exact q _ _ (h3.mono (by omega))
theorem nt_tuple {k : Nat} {t : D} (h : NT k t) : ∃ o ds, t = .tuple (.str o :: ds) := by
  cases h <;> exact ⟨_, _, rfl⟩
theorem row_print {t : D} {Φ : Val → List Slot → Prop} (h : RowT t) (q : ∀ (z : Str), Tx 5000 z → Φ (.d (.str z)) [.dat t]) : pF f__law_row_print [.dat t] Φ := by
  refine pf_fn ?_
  unfold b__law_row_print
  simp
  refine ws_if ?_
  cases h with
  | number hz h =>
    simp
    refine ws_ret ?_
    simp
    refine cat hz (lit (n := 3)) (by omega) fun h1 => ?_
    try simp
    refine print3 h fun z w hw => ?_
    try simp
    refine cat h1 hw (by omega) fun h2 => ?_
    try simp
    refine cat h2 (lit (n := 1)) (by omega) fun h3 => ?_
    exact q _ (h3.mono (by omega))
  | tell h h0 h1 =>
    simp
    refine ws_if ?_
    simp
    refine ws_ret ?_
    simp
    refine print2 h fun z w hw => ?_
    try simp
    refine cat (lit (n := 5)) hw (by omega) fun h2 => ?_
    try simp
    refine cat h2 (lit (n := 4)) (by omega) fun h3 => ?_
    try simp
    refine ⟨log_small (by omega) (by omega), ?_⟩
    refine cat h3 (Tx.int h0 (by omega)) (by omega) fun h4 => ?_
    try simp
    refine cat h4 (lit (n := 1)) (by omega) fun h5 => ?_
    exact q _ (h5.mono (by omega))
  | poly h =>
    simp
    refine ws_if ?_
    simp
    refine ws_if ?_
    simp
    refine ws_ret ?_
    simp
    refine print2 h fun z w hw => ?_
    try simp
    refine cat (lit (n := 10)) hw (by omega) fun h2 => ?_
    try simp
    refine cat h2 (lit (n := 1)) (by omega) fun h3 => ?_
    exact q _ (h3.mono (by omega))
  | cmp ho h h' =>
    simp
    refine ws_if ?_
    simp
    refine ws_if ?_
    simp
    refine ws_if ?_
    simp
    refine ws_asg ?_
    simp
    refine ws_if ?_
    simp at ho
    simp [ho]
    refine ws_ret ?_
    simp
    refine print2 h fun z w hw => ?_
    rename_i o t u
    have to : Tx 1 o := by rcases ho with rfl | rfl | rfl <;> exact lit
    try simp
    refine cat (lit (n := 4)) hw (by omega) fun h2 => ?_
    try simp
    refine cat h2 (lit (n := 1)) (by omega) fun h3 => ?_
    try simp
    refine cat h3 to (by omega) fun h4 => ?_
    try simp
    refine cat h4 (lit (n := 1)) (by omega) fun h5 => ?_
    try simp
    refine print2 h' fun z2 w2 hw2 => ?_
    try simp
    refine cat h5 hw2 (by omega) fun h6 => ?_
    try simp
    refine cat h6 (lit (n := 1)) (by omega) fun h7 => ?_
    exact q _ (h7.mono (by omega))
  | ask ho hl h =>
    simp
    refine ws_if ?_
    simp
    refine ws_if ?_
    simp
    refine ws_if ?_
    simp
    refine ws_asg ?_
    simp
    refine ws_if ?_
    rename_i o zs
    simp at ho
    have to : Tx 8 o := by rcases ho with rfl | rfl | rfl | rfl | rfl | rfl | rfl | rfl <;> exact lit
    have e : ¬ (o = Str.ofString "<" ∨ o = Str.ofString "=" ∨ o = Str.ofString ">") := by rcases ho with rfl | rfl | rfl | rfl | rfl | rfl | rfl | rfl <;> simp
    simp [e]
    refine ws_ret ?_
    simp
    refine cat (lit (n := 4)) to (by omega) fun h2 => ?_
    try simp
    refine cat h2 (lit (n := 1)) (by omega) fun h3 => ?_
    try simp
    have f1 := join_fits (y := Str.ofString ", ") (lit (n := 2)) h hl
    have f2 := Tx.join (y := Str.ofString ", ") (lit (n := 2)) h hl
    refine ⟨by omega, ?_⟩
    refine cat h3 f2 (by omega) fun h4 => ?_
    try simp
    refine cat h4 (lit (n := 2)) (by omega) fun h5 => ?_
    exact q _ (h5.mono (by omega))
  | other ho hz hl h =>
    rename_i o z ps
    simp at ho
    have to : Tx 8 o := by rcases ho with rfl | rfl | rfl | rfl | rfl | rfl | rfl | rfl | rfl | rfl <;> exact lit
    have e : ∀ s : String, s ∈ ["number", "tell", "poly", "ask"] → o ≠ Str.ofString s := by
      intro s hs e
      simp at hs
      rcases hs with rfl | rfl | rfl | rfl <;> rcases ho with rfl | rfl | rfl | rfl | rfl | rfl | rfl | rfl | rfl | rfl <;> simp at e
    simp [e]
    refine ws_if ?_
    simp [e]
    refine ws_if ?_
    simp [e]
    refine ws_if ?_
    simp [e]
    refine ws_asg ?_
    simp
    refine we_lc ?_
    simp
    refine ⟨rfl, ?_⟩
    refine wc_ind (J := fun es ρ acc => (∀ d ∈ es, Part d) ∧ ∃ zs : List Str, acc = zs.map PyData.str ∧ (∀ z ∈ zs, Tx 900 z) ∧ es.length + zs.length ≤ 3 ∧ ρ = [some (.dat (.tuple (.str o :: .str z :: ps))), none, none, none])
      (fun d es ρ acc hJ => ?_) (fun ρ acc hJ => ?_) _ _ _ ⟨h, [], rfl, (fun z hz => nomatch hz), by simpa using hl, rfl⟩
    · obtain ⟨hd, zs, rfl, hzs, hlen, rfl⟩ := hJ
      simp only [List.length_cons] at hlen
      have done : ∀ y : Str, Tx 900 y → (∀ u ∈ es, Part u) ∧ ∃ zs' : List Str, zs.map PyData.str ++ [PyData.str y] = zs'.map PyData.str ∧ (∀ z ∈ zs', Tx 900 z) ∧ es.length + zs'.length ≤ 3 ∧ wipeR [some (.dat (.tuple (.str o :: .str z :: ps))), none, none, some (.dat d)] [3] = [some (.dat (.tuple (.str o :: .str z :: ps))), none, none, none] := by
        intro y hy
        refine ⟨fun u hu => hd u (List.mem_cons_of_mem _ hu), zs ++ [y], by simp, ?_, by simp; omega, rfl⟩
        intro u hu
        rcases List.mem_append.mp hu with hu | hu
        · exact hzs u hu
        · simp at hu
          subst hu
          exact hy
      have hp := hd d List.mem_cons_self
      simp
      refine ⟨by omega, ?_⟩
      cases hp with
      | name h =>
        simp
        simpa using done _ (h.mono (by omega))
      | many h0 h1 =>
        simp
        refine is_num_i ?_
        simp
        refine ⟨log_small (by omega) (by omega), ?_⟩
        simpa using done _ ((Tx.int h0 (by omega)).mono (by omega))
      | num h =>
        obtain ⟨o', ds, rfl⟩ := nt_tuple h
        simp
        refine is_num_t ?_
        simp
        refine print2 h fun z' w hw => ?_
        simp
        simpa using done _ hw
      | sign hz' hl' h' =>
        simp
        refine is_num_t ?_
        simp
        refine sign_print hz' hl' h' fun z' w hw => ?_
        simp
        simpa using done _ hw
    · obtain ⟨_, zs, rfl, hzs, hlen, rfl⟩ := hJ
      simp only [List.length_nil, Nat.zero_add] at hlen
      simp
      refine ws_ret ?_
      simp
      refine cat hz (lit (n := 3)) (by omega) fun h1 => ?_
      try simp
      refine cat h1 to (by omega) fun h2 => ?_
      try simp
      refine cat h2 (lit (n := 1)) (by omega) fun h3 => ?_
      try simp
      have f1 := join_fits (y := Str.ofString ", ") (lit (n := 2)) hzs hlen
      have f2 := Tx.join (y := Str.ofString ", ") (lit (n := 2)) hzs hlen
      refine ⟨by omega, ?_⟩
      refine cat h3 f2 (by omega) fun h4 => ?_
      try simp
      refine cat h4 (lit (n := 2)) (by omega) fun h5 => ?_
      exact q _ (h5.mono (by omega))
end K01
end DL
set_option Elab.async false
set_option linter.all false
set_option maxRecDepth 100000
set_option maxHeartbeats 4000000
set_option autoImplicit false
/-! K01G: plans and texts drawn. -/
namespace DL
open PySem PySem.Spec PyProof.Rows L2
theorem we_callOV {ρ : Rh} {Φ : Val → Rh → Prop} {f : FM} {i j : Nat} {os es : List D} (hi : ρ[i]? = some (some (.own os))) (hj : ρ[j]? = some (some (.own es))) (hij : i ≠ j)
    (h : pF f [.own os, .dat (.list es)] fun v ss => vD v fun d => ∃ os' r, ss = .own os' :: r ∧ flatD d = true ∧ os'.all flatD = true ∧ allDat r = true ∧ Φ (.d d) (ρ.set i (some (.own os')))) : wE (callOV f i j) ρ Φ := by
  unfold wE callOV
  rw [hi, hj]
  dsimp only
  rw [if_neg hij]
  unfold pF at h
  cases e : f [.own os, .dat (.list es)] with
  | exc x ss => rw [e] at h; exact h.elim
  | stuck => rw [e] at h; exact h.elim
  | ok v ss =>
    rw [e] at h
    cases v with
    | l ds => exact h.elim
    | d d =>
      obtain ⟨os', r, rfl, h1, h2, h3, h4⟩ := h
      simp [flatBack, h1, h2, h3]
      exact h4
theorem nodup_sub : ∀ {l m : List Str}, l.Nodup → (∀ x ∈ l, x ∈ m) → l.length ≤ m.length
  | [], _, _, _ => Nat.zero_le _
  | x :: l, m, hn, h => by
    rw [List.nodup_cons] at hn
    have q := nodup_sub (l := l) (m := m.erase x) hn.2 fun y hy => by
      have ne : y ≠ x := fun e => hn.1 (e ▸ hy)
      exact (List.mem_erase_of_ne ne).mpr (h y (List.mem_cons_of_mem _ hy))
    have hx := h x List.mem_cons_self
    rw [List.length_erase_of_mem hx] at q
    have : 0 < m.length := List.length_pos_of_mem hx
    simp only [List.length_cons]
    omega
namespace K01
theorem Good.flat {ps : List D} (h : Good ps) : ps.all flatD = true := by
  obtain ⟨a, b, c, rfl, _, _⟩ := h
  rfl
def all28 : List Str := ["a", "b", "c", "d", "e", "f", "g", "h", "p", "q", "u", "v", "w", "far", "near", "mass", "gate1", "z9", "centre", "abcdefghijkl", "sum", "k", "m", "n", "o", "r", "s", "t"]
theorem all28_nd : all28.Nodup := by decide +kernel
theorem all28_tx : ∀ z ∈ all28, Tx 12 z := by decide +kernel
theorem name_of {ps : List D} {us : List Str} {Φ : Val → List Slot → Prop} (G : Good ps) (hu : us.length ≤ 20) (q : ∀ (z : Str) (ps' : List D), Tx 12 z → Good ps' → Φ (.d (.str z)) [.own ps', .dat (.list (us.map PyData.str))]) :
    pF f__law_name_of [.own ps, .dat (.list (us.map PyData.str))] Φ := by
  refine pf_fn ?_
  unfold b__law_name_of
  simp
  refine ws_asg ?_
  simp
  refine ws_ret ?_
  simp
  refine we_lc ?_
  simp
  refine ⟨rfl, ?_⟩
  refine wc_ind (J := fun es ρ acc => ∃ pre post : List Str, all28 = pre ++ post ∧ es = post.map PyData.str ∧ acc = (pre.filter fun z => !decide (z ∈ us)).map PyData.str ∧ ρ = [some (.own ps), some (.dat (.list (us.map PyData.str))), some (.dat (.list (all28.map PyData.str))), none])
    (fun d es ρ acc hJ => ?_) (fun ρ acc hJ => ?_) _ _ _ ⟨[], all28, rfl, rfl, rfl, rfl⟩
  · obtain ⟨pre, post, h1, h2, rfl, rfl⟩ := hJ
    cases post with
    | nil => cases h2
    | cons z post =>
      simp only [List.map_cons, List.cons.injEq] at h2
      obtain ⟨rfl, rfl⟩ := h2
      have hlen : pre.length < 28 := by
        have := congrArg List.length h1
        simp only [List.length_append, List.length_cons] at this
        have e : all28.length = 28 := rfl
        omega
      have hf : (pre.filter fun z => !decide (z ∈ us)).length ≤ pre.length := List.length_filter_le _ _
      simp
      by_cases c : z ∈ us
      · rw [if_pos c]
        exact ⟨pre ++ [z], post, by simp [h1], rfl, by simp [List.filter_append, c], rfl⟩
      · rw [if_neg c]
        refine ⟨by omega, pre ++ [z], post, by simp [h1], rfl, by simp [List.filter_append, c], rfl⟩
  · obtain ⟨pre, post, h1, h2, rfl, rfl⟩ := hJ
    have e : post = [] := by cases post with
      | nil => rfl
      | cons z r => cases h2
    subst e
    rw [List.append_nil] at h1
    subst h1
    simp
    refine pick_strs G ?_ ?_ fun z ps' hz G' => ?_
    · intro e
      have : ∀ z ∈ all28, z ∈ us := by
        intro z hz
        rcases Decidable.em (z ∈ us) with c | c
        · exact c
        · have : z ∈ all28.filter (fun z => !decide (z ∈ us)) := List.mem_filter.mpr ⟨hz, by simpa using c⟩
          rw [e] at this
          exact nomatch this
      have := nodup_sub all28_nd this
      have e : all28.length = 28 := rfl
      omega
    · have := List.length_filter_le (fun z => !decide (z ∈ us)) all28
      have e : all28.length = 28 := rfl
      omega
    · simp
      exact q _ _ (all28_tx z (List.mem_filter.mp hz).1) G'
theorem row_of {ps : List D} {zs : List Str} {Φ : Val → List Slot → Prop} (G : Good ps) (N : Names zs) (q : ∀ (t : D) (ps' : List D), RowT t → Good ps' → Φ (.d t) [.own ps', .dat (.list (zs.map PyData.str))]) :
    pF f__law_row_of [.own ps, .dat (.list (zs.map PyData.str))] Φ := by
  refine pf_fn ?_
  unfold b__law_row_of
  simp
  refine ws_par ?_
  simp
  refine draw G (by decide) (by omega) fun way ps1 w0 w1 G1 => ?_
  simp
  refine pick_strs G1 N.1 N.2.1 fun name ps2 hname G2 => ?_
  simp
  refine ws_par3 ?_
  simp
  refine pick_strs G2 N.1 N.2.1 fun one ps3 hone G3 => ?_
  simp
  refine pick_strs G3 N.1 N.2.1 fun two ps4 htwo G4 => ?_
  simp
  refine pick_strs G4 N.1 N.2.1 fun three ps5 hthree G5 => ?_
  simp
  have t0 := N.2.2 _ hname
  have t1 := N.2.2 _ hone
  have t2 := N.2.2 _ htwo
  have t3 := N.2.2 _ hthree
  refine ws_if ?_
  simp
  by_cases c0 : way < 2
  · rw [if_pos c0]
    refine ws_ret ?_
    simp
    refine number 4 3 G5 N (by decide) fun t ps6 ht G6 => ?_
    simp
    exact q _ _ (.number t0 ht) G6
  rw [if_neg c0]
  refine ws_if ?_
  simp
  by_cases c1 : way = 2
  · rw [if_pos c1]
    refine ws_ret ?_
    simp
    refine number 4 2 G5 N (by decide) fun t ps6 ht G6 => ?_
    simp
    refine draw G6 (by decide) (by omega) fun m ps7 m0 m1 G7 => ?_
    simp
    refine number 4 2 G7 N (by decide) fun u ps8 hu G8 => ?_
    simp
    refine pick G8 (by simp) (by simp) fun d ps9 hd G9 => ?_
    simp
    simp at hd
    rcases hd with rfl | rfl
    · exact q _ _ (.tell ht m0 (by omega)) G9
    · exact q _ _ (.poly hu) G9
  rw [if_neg c1]
  refine ws_if ?_
  simp
  by_cases c2 : way = 3
  · rw [if_pos c2]
    refine ws_ret ?_
    simp
    refine pick_strs (zs := ["<", "=", ">"]) G5 (by simp) (by simp) fun o ps6 ho G6 => ?_
    simp
    refine number 4 2 G6 N (by decide) fun t ps7 ht G7 => ?_
    simp
    refine number 4 2 G7 N (by decide) fun u ps8 hu G8 => ?_
    simp
    exact q _ _ (.cmp ho ht hu) G8
  rw [if_neg c2]
  refine ws_if ?_
  simp
  by_cases c3 : way = 4
  · rw [if_pos c3]
    refine ws_asg ?_
    simp
    refine pick_strs (zs := ["on", "inside", "left", "same", "between", "parallel", "upright", "touch"]) G5 (by simp) (by simp) fun o ps6 ho G6 => ?_
    simp
    refine ws_ret ?_
    simp
    by_cases c : o = Str.ofString "left" ∨ o = Str.ofString "between"
    · rw [if_pos c]
      try simp
      refine q _ _ (RowT.ask (zs := [one, two, three]) ho (by simp) ?_) G6
      simp [t1, t2, t3]
    · rw [if_neg c]
      try simp
      refine q _ _ (RowT.ask (zs := [one, two]) ho (by simp) ?_) G6
      simp [t1, t2]
  rw [if_neg c3]
  refine ws_if ?_
  simp
  by_cases c4 : way = 5
  · rw [if_pos c4]
    refine ws_ret ?_
    simp
    refine number 4 2 G5 N (by decide) fun t ps6 ht G6 => ?_
    simp
    refine pick_strs (zs := ["x", "y"]) G6 (by simp) (by simp) fun o ps7 ho G7 => ?_
    simp
    refine pick G7 (by simp) (by simp) fun d ps8 hd G8 => ?_
    simp
    refine number 4 2 G8 N (by decide) fun u ps9 hu G9 => ?_
    simp
    refine pick G9 (by simp) (by simp) fun e ps10 he G10 => ?_
    simp
    simp at hd he ho
    have p1 : Part d := by
      rcases hd with rfl | rfl
      · exact .num ht
      · exact Part.sign (zs := [one]) (by simp; rcases ho with rfl | rfl <;> simp) (by simp) (by simp [t1])
    have p2 : Part e := by
      rcases he with rfl | rfl
      · exact .num hu
      · exact Part.sign (zs := [one, two]) (by simp) (by simp) (by simp [t1, t2])
    refine q _ _ (RowT.other (ps := [d, e]) (by simp) t0 (by simp) ?_) G10
    simp [p1, p2]
  rw [if_neg c4]
  refine ws_asg ?_
  simp
  refine pick_strs (zs := ["line", "circle", "ring", "meet", "mid", "foot", "mirror", "parallel", "upright"]) G5 (by simp) (by simp) fun o ps6 ho G6 => ?_
  simp
  have ho' : o ∈ (["point", "line", "circle", "ring", "meet", "mid", "foot", "mirror", "parallel", "upright"] : List Str) := List.mem_cons_of_mem _ ho
  refine ws_if ?_
  simp
  by_cases c5 : o = Str.ofString "circle"
  · rw [if_pos c5]
    refine ws_ret ?_
    simp
    refine number 4 2 G6 N (by decide) fun t ps7 ht G7 => ?_
    simp
    refine q _ _ (RowT.other (ps := [.str one, t]) (by simp) t0 (by simp) ?_) G7
    intro p hp
    simp at hp
    rcases hp with rfl | rfl
    · exact .name t1
    · exact .num ht
  rw [if_neg c5]
  refine ws_ret ?_
  simp
  by_cases c6 : o = Str.ofString "meet"
  · rw [if_pos c6]
    refine draw G6 (by decide) (by omega) fun m ps7 m0 m1 G7 => ?_
    simp
    refine q _ _ (RowT.other (ps := [.str one, .str two, .int (1 + m)]) ho' t0 (by simp) ?_) G7
    intro p hp
    simp at hp
    rcases hp with rfl | rfl | rfl
    · exact .name t1
    · exact .name t2
    · exact .many (by omega) (by omega)
  · rw [if_neg c6]
    try simp
    refine q _ _ (RowT.other (ps := [.str one, .str two]) ho' t0 (by simp) ?_) G6
    intro p hp
    simp at hp
    rcases hp with rfl | rfl
    · exact .name t1
    · exact .name t2
end K01
end DL
set_option Elab.async false
set_option linter.all false
set_option maxRecDepth 100000
set_option maxHeartbeats 4000000
set_option autoImplicit false
/-! K01Q: plans, texts, turns, pools. -/
namespace DL
open PySem PySem.Spec PyProof.Rows L2
namespace K01
theorem any_plan {ps : List D} {Φ : Val → List Slot → Prop} (G : Good ps) (q : ∀ (rows : List D) (ps' : List D), rows.length ≤ 6 → (∀ r ∈ rows, RowT r) → Good ps' → Φ (.d (.tuple rows)) [.own ps', .dat (.int 6)]) :
    pF f__law_any_plan [.own ps, .dat (.int 6)] Φ := by
  refine pf_fn ?_
  unfold b__law_any_plan
  simp
  refine ws_asgO ?_
  simp
  refine ws_for (wi_rng1 ?_)
  simp
  refine draw G (by decide) (by omega) fun m ps1 m0 m1 G1 => ?_
  simp
  refine ⟨by omega, ?_⟩
  refine ws_forN (J := fun es ρ => ∃ (ps : List D) (us : List Str) (x : Option Slot), Good ps ∧ es.length + us.length = (2 + m).toNat ∧ (∀ z ∈ us, Tx 12 z) ∧ ρ = [some (.own ps), some (.dat (.int 6)), some (.own (us.map PyData.str)), x])
    (fun d es ρ hJ => ?_) (fun ρ hJ => ?_) _ _ ⟨ps1, [], none, G1, by rw [rangeD_length]; simp, (fun z hz => nomatch hz), rfl⟩
  · obtain ⟨ps, us, x, Gp, hl, hu, rfl⟩ := hJ
    simp only [List.length_cons] at hl
    simp
    refine ws_app ?_
    simp
    refine we_callOV rfl rfl (by decide) ?_
    refine name_of Gp (by omega) fun z ps' hz G' => ?_
    simp
    refine ⟨ps', _, ⟨rfl, rfl⟩, rfl, by simpa using G'.flat, rfl, by omega, ps', G', us ++ [z], by simp; omega, ?_, rfl, by simp⟩
    intro u hu'
    rcases List.mem_append.mp hu' with hu' | hu'
    · exact hu u hu'
    · simp at hu'
      subst hu'
      exact hz
  · obtain ⟨ps, us, x, Gp, hl, hu, rfl⟩ := hJ
    simp only [List.length_nil] at hl
    have N : Names us := by
      refine ⟨fun e => ?_, by omega, hu⟩
      subst e
      simp at hl
      omega
    simp
    refine ws_forget (ws_frz ?_)
    simp
    refine ws_ret ?_
    simp
    refine we_lc (wi_rng1 ?_)
    simp
    refine draw Gp (by decide) (by omega) fun k ps2 k0 k1 G2 => ?_
    simp
    refine ⟨by omega, rfl, ?_⟩
    refine wc_ind (J := fun es ρ acc => es.length + acc.length ≤ 6 ∧ (∀ t ∈ acc, RowT t) ∧ ∃ ps, Good ps ∧ ρ = [some (.own ps), some (.dat (.int 6)), some (.dat (.list (us.map PyData.str))), none])
      (fun d es ρ acc hJ => ?_) (fun ρ acc hJ => ?_) _ _ _ ⟨by rw [rangeD_length]; simp only [List.length_nil]; omega, (fun t ht => nomatch ht), ps2, G2, rfl⟩
    · obtain ⟨h1, h2, ps, Gp, rfl⟩ := hJ
      simp only [List.length_cons] at h1
      simp
      refine ⟨by omega, ?_⟩
      refine row_of Gp N fun t ps' ht G' => ?_
      simp
      refine ⟨by omega, ?_, ps', G', rfl⟩
      intro u hu
      rcases hu with hu | rfl
      · exact h2 u hu
      · exact ht
    · obtain ⟨h1, h2, ps, Gp, rfl⟩ := hJ
      simp only [List.length_nil] at h1
      simp
      exact q _ _ (by omega) h2 Gp
theorem text_of {rows : List D} {Φ : Val → List Slot → Prop} (hl : rows.length ≤ 6) (h : ∀ r ∈ rows, RowT r) (q : ∀ z : Str, Tx 30000 z → Φ (.d (.str z)) [.dat (.tuple rows)]) : pF f__law_text [.dat (.tuple rows)] Φ := by
  refine pf_fn (ws_ret ?_)
  simp
  refine we_lc ?_
  simp
  refine ⟨rfl, ?_⟩
  refine wc_ind (J := fun es ρ acc => (∀ d ∈ es, RowT d) ∧ ∃ zs : List Str, acc = zs.map PyData.str ∧ (∀ z ∈ zs, Tx 5000 z) ∧ es.length + zs.length ≤ 6 ∧ ρ = [some (.dat (.tuple rows)), none])
      (fun d es ρ acc hJ => ?_) (fun ρ acc hJ => ?_) _ _ _ ⟨h, [], rfl, (fun z hz => nomatch hz), by simpa using hl, rfl⟩
  · obtain ⟨hd, zs, rfl, hzs, hlen, rfl⟩ := hJ
    simp only [List.length_cons] at hlen
    simp
    refine ⟨by omega, ?_⟩
    refine row_print (hd d List.mem_cons_self) fun y hy => ?_
    simp
    refine ⟨fun u hu => hd u (List.mem_cons_of_mem _ hu), zs ++ [y], by simp, ?_, by simp; omega, rfl⟩
    intro u hu
    rcases List.mem_append.mp hu with hu | hu
    · exact hzs u hu
    · simp at hu
      subst hu
      exact hy
  · obtain ⟨_, zs, rfl, hzs, hlen, rfl⟩ := hJ
    simp only [List.length_nil, Nat.zero_add] at hlen
    simp
    have f1 := join_fits (y := Str.ofString "") (lit (n := 0)) hzs hlen
    have f2 := Tx.join (y := Str.ofString "") (lit (n := 0)) hzs hlen
    exact ⟨by omega, q _ (f2.mono (by omega))⟩
theorem cut_len {z : Str} {lo hi : Option Int} : (cutS z lo hi).length = min (HT.sIx z.length z.length hi - HT.sIx z.length 0 lo) (z.length - HT.sIx z.length 0 lo) := by
  simp [cutS, Str.length]
theorem tx_hi {z : Str} {n : Nat} {m : Int} (h : Tx n z) (h0 : 0 ≤ m) : Tx m.toNat (cutS z none (some m)) := by
  refine ⟨?_, h.cut.2⟩
  obtain ⟨k, rfl⟩ : ∃ k : Nat, m = (k : Int) := ⟨m.toNat, by omega⟩
  rw [cut_len, HT.sIx_nat, HT.sIx_none]
  omega
theorem tx_lo {z : Str} {n : Nat} {m : Int} (h : Tx n z) (h0 : 0 ≤ m) : Tx (z.length - m.toNat) (cutS z (some m) none) := by
  refine ⟨?_, h.cut.2⟩
  obtain ⟨k, rfl⟩ : ∃ k : Nat, m = (k : Int) := ⟨m.toNat, by omega⟩
  rw [cut_len, HT.sIx_nat, HT.sIx_none]
  omega
theorem turned {ps : List D} {z : Str} {n : Nat} {Φ : Val → List Slot → Prop} (G : Good ps) (hz : Tx n z) (hn : n ≤ 100000) (q : ∀ (y : Str) (ps' : List D), Tx (n + 31) y → Good ps' → Φ (.d (.str y)) [.own ps', .dat (.str z)]) :
    pF f__law_turned [.own ps, .dat (.str z)] Φ := by
  have hz1 := hz.1
  refine pf_fn ?_
  unfold b__law_turned
  simp
  refine ws_asg ?_
  simp
  refine ⟨by omega, ?_⟩
  refine draw G (by omega) (by omega) fun m ps1 m0 m1 G1 => ?_
  simp
  refine ws_asg ?_
  simp
  refine ⟨by decide +kernel, ?_⟩
  refine ws_asg ?_
  simp
  refine pick G1 (by simp) (by simp) fun d ps2 hd G2 => ?_
  obtain ⟨p, rfl, hp⟩ : ∃ p : Str, d = .str p ∧ Tx 31 p := by
    simp only [List.mem_cons, List.not_mem_nil, or_false] at hd
    rcases hd with rfl | rfl | rfl | rfl | rfl | rfl | rfl | rfl | rfl | rfl | rfl | rfl | rfl | rfl | rfl | rfl | rfl | rfl | rfl | rfl | rfl <;> first | exact ⟨_, rfl, lit⟩ | exact ⟨_, rfl, by decide +kernel⟩
  simp
  refine ws_ret ?_
  have a1 := tx_hi (m := m) hz m0
  have a2 := tx_lo (m := m) hz m0
  have a3 := tx_lo (m := m + 1) hz (by omega)
  have e : (m + 1).toNat = m.toNat + 1 := by omega
  rw [e] at a3
  simp
  refine ⟨by omega, ?_⟩
  refine cat a1 hp (by omega) fun b1 => ?_
  try simp
  refine ⟨by omega, ?_⟩
  refine cat b1 a2 (by omega) fun b2 => ?_
  try simp
  refine ⟨by omega, ?_⟩
  refine cat a1 hp (by omega) fun _ => ?_
  try simp
  refine ⟨by omega, ?_⟩
  refine cat b1 a3 (by omega) fun b3 => ?_
  try simp
  refine ⟨by omega, ?_⟩
  refine cat a1 a3 (by omega) fun b4 => ?_
  try simp
  refine ⟨by omega, ?_⟩
  refine cat a2 a1 (by omega) fun b5 => ?_
  try simp
  refine pick G2 (by simp) (by simp) fun d ps3 hd G3 => ?_
  simp
  simp only [List.mem_cons, List.not_mem_nil, or_false] at hd
  rcases hd with rfl | rfl | rfl | rfl | rfl | rfl
  · exact q _ _ (b2.mono (by omega)) G3
  · exact q _ _ (b3.mono (by omega)) G3
  · exact q _ _ (b4.mono (by omega)) G3
  · exact q _ _ (a1.mono (by omega)) G3
  · exact q _ _ (b5.mono (by omega)) G3
  · exact q _ _ (hz.mono (by omega)) G3
end K01
end DL
set_option Elab.async false
set_option linter.all false
set_option maxRecDepth 100000
set_option maxHeartbeats 4000000
set_option autoImplicit false
/-! K01K: runs and kinds. -/
namespace DL
open PySem PySem.Spec PyProof.Rows L2
def mkS (l : List Nat) : Str := ⟨l.toArray⟩
@[simp] theorem mkS_len {l : List Nat} : (mkS l).length = l.length := by simp [mkS, Str.length]
@[simp] theorem mkS_list {l : List Nat} : (mkS l).cps.toList = l := by simp [mkS]
theorem mkS_of (z : Str) : z = mkS z.cps.toList := by
  cases z
  simp [mkS]
theorem mkS_inj {a b : List Nat} (h : mkS a = mkS b) : a = b := by
  have := congrArg (fun z : Str => z.cps.toList) h
  simpa using this
abbrev chr (c : Nat) : Str := mkS [c]
theorem mk_lit {l : List Nat} {s : String} (k : List Nat) (h : s.toList.map Char.toNat = k) : mkS l = Str.ofString s ↔ l = k := by
  have e : Str.ofString s = mkS k := by
    rw [mkS_of (Str.ofString s)]
    congr 1
    rw [Str.ofString_eq_toList]
    simpa using h
  rw [e]
  exact ⟨mkS_inj, fun h => by rw [h]⟩
@[simp] theorem mk_blank {l : List Nat} : mkS l = Str.ofString " " ↔ l = [32] := mk_lit _ (by decide +kernel)
@[simp] theorem mk_end {l : List Nat} : mkS l = Str.ofString "\n" ↔ l = [10] := mk_lit _ (by decide +kernel)
@[simp] theorem mk_zero {l : List Nat} : mkS l = Str.ofString "0" ↔ l = [48] := mk_lit _ (by decide +kernel)
@[simp] theorem mk_empty {l : List Nat} : mkS l = Str.ofString "" ↔ l = [] := mk_lit _ (by decide +kernel)
theorem gIx_mk {l : List Nat} {k : Nat} {c : Nat} (hl : l.length ≤ 16777216) (h : l[k]? = some c) : gIx (.str (mkS l)) (.int k) = some (.str (chr c)) := by
  show (if (mkS l).length ≤ 16777216 then (atI (mkS l).cps.toList (k : Int)).map (fun c => PyData.str ⟨#[c]⟩) else none) = _
  rw [if_pos (by simpa using hl), mkS_list, atI_nat h]
  rfl
theorem gIx_mk0 {c : Nat} {r : List Nat} (hl : (c :: r).length ≤ 16777216) : gIx (.str (mkS (c :: r))) (.int 0) = some (.str (chr c)) := gIx_mk (k := 0) hl rfl
theorem inB_chr {c : Nat} {z : Str} : inB (.str (chr c)) (.str z) = some (decide (c ∈ z.cps.toList)) := by
  show (match (chr c).cps.toList with
    | [k] => some (decide (k ∈ z.cps.toList))
    | _ => none) = _
  rw [mkS_list]
@[simp] theorem gIn_chr {c : Nat} {z : Str} : gIn (.str (chr c)) (.str z) = some (.bool (decide (c ∈ z.cps.toList))) := by
  show (inB _ _).map _ = _
  rw [inB_chr] <;> rfl
@[simp] theorem gNotIn_chr {c : Nat} {z : Str} : gNotIn (.str (chr c)) (.str z) = some (.bool (!decide (c ∈ z.cps.toList))) := by
  show (inB _ _).map _ = _
  rw [inB_chr] <;> rfl
@[simp] theorem itemsD_s {l : List Nat} : itemsD (.str (mkS l)) = some (l.map fun c => .str (chr c)) := by
  show some (signsD (mkS l)) = _
  unfold signsD
  rw [mkS_list] <;> rfl
/-- two lists told apart where one is empty -/
theorem lay_chrs : ∀ {l : List Nat}, (∀ c ∈ l, c < 1114112) → PyData.canLayAll0 (l.map fun c => .str (chr c)) = true ∧ PyData.depthAll (l.map fun c => PyData.str (chr c)) = 0
  | [], _ => ⟨rfl, rfl⟩
  | c :: r, h => by
    obtain ⟨a, b⟩ := lay_chrs (l := r) fun x hx => h x (List.mem_cons_of_mem _ hx)
    have q : PyData.strOk (chr c) = true := by
      show (#[c] : Array Nat).all (· < 0x110000) = true
      have := h c List.mem_cons_self
      simpa using this
    refine ⟨?_, ?_⟩
    · show (PyData.strOk (chr c) && PyData.canLayAll0 (r.map fun c => .str (chr c))) = true
      rw [q, a] <;> rfl
    · show max (PyData.depth (.str (chr c))) (PyData.depthAll (r.map fun c => .str (chr c))) = 0
      rw [b] <;> rfl
theorem eq_empty {ds : List D} (h1 : PyData.canLayAll0 ds = true) (h2 : PyData.depthAll ds ≤ 10) : eqB (.list ds) (.list []) = some (decide (ds = [])) := by
  have sh : SeqAt.shaped (.list ds) = true := by
    show (PyData.canLayAll0 ds && decide (PyData.depthAll ds + 1 ≤ 64)) = true
    rw [h1]
    simp
    omega
  unfold eqB
  rw [if_neg (by simp [flatD]), if_pos (by rw [sh]; rfl)]
  cases ds with
  | nil => rfl
  | cons d r => rfl
theorem gEq_empty {ds : List D} (h1 : PyData.canLayAll0 ds = true) (h2 : PyData.depthAll ds ≤ 10) : gEq (.list ds) (.list []) = some (.bool (decide (ds = []))) := by
  show (eqB _ _).map _ = _
  rw [eq_empty h1 h2] <;> rfl
theorem gNe_empty {ds : List D} (h1 : PyData.canLayAll0 ds = true) (h2 : PyData.depthAll ds ≤ 10) : gNe (.list ds) (.list []) = some (.bool (!decide (ds = []))) := by
  show (eqB _ _).map _ = _
  rw [eq_empty h1 h2] <;> rfl
theorem gAll_map {l : List Nat} {f : Nat → Bool} : gAll [.list (l.map fun c => .bool (f c))] = some (.bool (l.all f)) := by
  have e : boolsD (l.map fun c => PyData.bool (f c)) = some (l.map f) := by
    induction l with
    | nil => rfl
    | cons c r ih => simp [boolsD, ih]
  show (boolsD _).map _ = _
  rw [e]
  simp [List.all_map]
namespace K01
def RS : List Nat := (Str.ofString "abcdefghijklmnopqrstuvwxyz0123456789").cps.toList
def FS : List Nat := (Str.ofString "0123456789").cps.toList
def SG : List Nat := (Str.ofString "=<>+-*/(),").cps.toList
def SN : List Nat := (Str.ofString "=<>+-*/(),\n").cps.toList
@[simp] theorem rs_arr {c : Nat} : c ∈ (Str.ofString "abcdefghijklmnopqrstuvwxyz0123456789").cps ↔ c ∈ RS := Array.mem_toList_iff.symm
@[simp] theorem fs_arr {c : Nat} : c ∈ (Str.ofString "0123456789").cps ↔ c ∈ FS := Array.mem_toList_iff.symm
@[simp] theorem sg_arr {c : Nat} : c ∈ (Str.ofString "=<>+-*/(),").cps ↔ c ∈ SG := Array.mem_toList_iff.symm
@[simp] theorem sn_arr {c : Nat} : c ∈ (Str.ofString "=<>+-*/(),\n").cps ↔ c ∈ SN := Array.mem_toList_iff.symm
theorem fs_rs : ∀ c ∈ FS, c ∈ RS := by decide +kernel
theorem sn_sg {c : Nat} : c ∈ SN ↔ c ∈ SG ∨ c = 10 := by
  have e : SN = SG ++ [10] := by decide +kernel
  rw [e]
  simp
theorem no32 : (32 : Nat) ∉ RS := by decide +kernel
theorem no10 : (10 : Nat) ∉ RS := by decide +kernel
/-- a good run of signs -/
def okR (l : List Nat) : Bool := match l with
  | [] => false
  | c :: r => if c ∈ FS then l.all (fun c => decide (c ∈ FS)) && decide (l.length ≤ 30) && (decide (l = [48]) || decide (c ≠ 48)) else decide (l.length ≤ 12)
theorem are_figures {l : List Nat} {Φ : Val → List Slot → Prop} (hl : l.length ≤ 50000) (q : Φ (.d (.bool (decide (l ≠ []) && l.all fun c => decide (c ∈ FS)))) [.dat (.str (mkS l))]) : pF f_are_figures [.dat (.str (mkS l))] Φ := by
  refine pf_fn (ws_ret ?_)
  simp
  by_cases h : l = []
  · subst h
    simpa using q
  · rw [if_neg h]
    refine we_lc ?_
    simp
    refine ⟨rfl, ?_⟩
    refine wc_ind (J := fun es ρ acc => ∃ pre post : List Nat, l = pre ++ post ∧ es = post.map (fun c => PyData.str (chr c)) ∧ acc = pre.map (fun c => PyData.bool (decide (c ∈ FS))) ∧ ρ = [some (.dat (.str (mkS l))), none])
      (fun d es ρ acc hJ => ?_) (fun ρ acc hJ => ?_) _ _ _ ⟨[], l, rfl, rfl, rfl, rfl⟩
    · obtain ⟨pre, post, h1, h2, rfl, rfl⟩ := hJ
      cases post with
      | nil => cases h2
      | cons c post =>
        simp only [List.map_cons, List.cons.injEq] at h2
        obtain ⟨rfl, rfl⟩ := h2
        have hlen := congrArg List.length h1
        simp only [List.length_append, List.length_cons] at hlen
        simp [g_FIGURES]
        exact ⟨by omega, pre ++ [c], post, by simp [h1], rfl, by simp, rfl⟩
    · obtain ⟨pre, post, h1, h2, rfl, rfl⟩ := hJ
      have e : post = [] := by cases post with
        | nil => rfl
        | cons z r => cases h2
      subst e
      rw [List.append_nil] at h1
      subst h1
      simp [gAll_map]
      simpa [h] using q
theorem is_numeral {c : Nat} {r : List Nat} {Φ : Val → List Slot → Prop} (hl : (c :: r).length ≤ 50000)
    (q : Φ (.d (.bool ((c :: r).all (fun c => decide (c ∈ FS)) && decide ((c :: r).length ≤ 30) && (decide ((c :: r) = [48]) || decide (c ≠ 48))))) [.dat (.str (mkS (c :: r)))]) : pF f_is_numeral [.dat (.str (mkS (c :: r)))] Φ := by
  refine pf_fn (ws_ret ?_)
  simp [g_MOST_FIGURES]
  refine are_figures hl ?_
  simp [gIx_mk0 (c := c) (r := r) (by omega)]
  have hl' : r.length + 1 ≤ 50000 := hl
  have qq : ∀ b, b = ((c :: r).all (fun c => decide (c ∈ FS)) && decide ((c :: r).length ≤ 30) && (decide ((c :: r) = [48]) || decide (c ≠ 48))) → Φ (.d (.bool b)) [.dat (.str (mkS (c :: r)))] := fun b e => e ▸ q
  by_cases h1 : c ∈ FS ∧ ∀ x ∈ r, x ∈ FS
  · rw [if_pos h1]
    refine ⟨by omega, ?_⟩
    have e1 : ((c :: r).all fun c => decide (c ∈ FS)) = true := by simpa using h1
    by_cases h2 : (r.length : Int) + 1 ≤ 30
    · rw [if_pos h2]
      have e2 : decide ((c :: r).length ≤ 30) = true := by simp; omega
      by_cases h3 : c = 48 ∧ r = []
      · rw [if_pos h3]
        exact qq _ (by rw [e1, e2]; simp [h3])
      · rw [if_neg h3]
        exact qq _ (by rw [e1, e2]; simp [h3])
    · rw [if_neg h2]
      have e2 : decide ((c :: r).length ≤ 30) = false := by simp; omega
      exact qq _ (by rw [e1, e2]; simp)
  · rw [if_neg h1]
    have e1 : ((c :: r).all fun c => decide (c ∈ FS)) = false := by
      cases h : ((c :: r).all fun c => decide (c ∈ FS)) with
      | false => rfl
      | true => exact absurd (by simpa using h) h1
    exact qq _ (by rw [e1]; simp)
theorem kind_of_run {c : Nat} {r : List Nat} {Φ : Val → List Slot → Prop} (hl : (c :: r).length ≤ 50000) (q : ∀ kd : Str, (kd = Str.ofString "wrong" ↔ okR (c :: r) = false) → kd ≠ Str.ofString "end" → Φ (.d (.str kd)) [.dat (.str (mkS (c :: r)))]) :
    pF f_kind_of_run [.dat (.str (mkS (c :: r)))] Φ := by
  have hl' : r.length + 1 ≤ 50000 := hl
  refine pf_fn ?_
  unfold b_kind_of_run
  simp
  refine ws_if ?_
  simp [gIx_mk0 (c := c) (r := r) (by omega), g_FIGURES]
  by_cases h : c ∈ FS
  · rw [if_pos h]
    refine ws_ret ?_
    simp
    refine is_numeral hl ?_
    have e : okR (c :: r) = ((c :: r).all (fun c => decide (c ∈ FS)) && decide ((c :: r).length ≤ 30) && (decide ((c :: r) = [48]) || decide (c ≠ 48))) := by
      show (if c ∈ FS then _ else _) = _
      rw [if_pos h]
    rw [← e]
    rw [dB_b]
    cases e2 : okR (c :: r) with
    | true =>
      simp
      exact q _ (by simp [e2]) (by simp)
    | false =>
      simp
      exact q _ (by simp [e2]) (by simp)
  · rw [if_neg h]
    have e : okR (c :: r) = decide ((c :: r).length ≤ 12) := by
      show (if c ∈ FS then _ else _) = _
      rw [if_neg h]
    refine ws_if ?_
    simp [g_MOST_SIGNS]
    refine ⟨by omega, ?_⟩
    by_cases h2 : (12 : Int) < r.length + 1
    · rw [if_pos h2]
      refine ws_ret ?_
      simp
      exact q _ (by rw [e]; simp; omega) (by simp)
    · rw [if_neg h2]
      refine ws_ret ?_
      have e2 : okR (c :: r) = true := by rw [e]; simp; omega
      simp [g_WORDS]
      refine oP_of (gIn_tup (x := mkS (c :: r)) (zs := ["ask", "tell", "by", "poly", "root", "sqrt", "dist", "x", "y", "point", "line", "circle", "ring", "meet", "mid", "foot", "mirror", "parallel", "upright", "on", "inside", "left", "same", "between", "touch"])) ?_
      rw [dB_b]
      split
      · exact q _ (by simp [e2]) (by simp)
      · exact q _ (by simp [e2]) (by simp)
/-- a run or a sign -/
def okP (l : List Nat) : Bool := match l with
  | [] => false
  | c :: r => if c ∈ RS then okR (c :: r) else decide (c ∈ SG ∨ c = 10)
theorem kind_of_sign {c : Nat} {Φ : Val → List Slot → Prop} (hc : c ∉ RS) (q : ∀ kd : Str, (kd = Str.ofString "wrong" ↔ okP [c] = false) → (kd = Str.ofString "end" ↔ c = 10) → Φ (.d (.str kd)) [.dat (.str (chr c))]) : pF f_kind_of_sign [.dat (.str (chr c))] Φ := by
  refine pf_fn ?_
  unfold b_kind_of_sign
  have e : okP [c] = decide (c ∈ SG ∨ c = 10) := by simp [okP, hc]
  simp
  refine ws_if ?_
  simp [g_LINE_END]
  by_cases h : c = 10
  · rw [if_pos h]
    refine ws_ret ?_
    simp
    exact q _ (by rw [e]; simp [h]) (by simp [h])
  · rw [if_neg h]
    refine ws_ret ?_
    simp [g_SIGNS]
    by_cases h2 : c ∈ SG
    · rw [if_pos h2]
      exact q _ (by rw [e]; simp [h2]) (by simp [h])
    · rw [if_neg h2]
      exact q _ (by rw [e]; simp [h, h2]) (by simp [h])
end K01
end DL
set_option Elab.async false
set_option linter.all false
set_option maxRecDepth 100000
set_option maxHeartbeats 4000000
set_option autoImplicit false
/-! K01S: scans. -/
namespace DL
open PySem PySem.Spec PyProof.Rows L2
theorem drop_cons {cs l : List Nat} {k c : Nat} (h : cs.drop k = c :: l) : cs[k]? = some c ∧ cs.drop (k + 1) = l ∧ k < cs.length := by
  have h1 : k < cs.length := by
    rcases Nat.lt_or_ge k cs.length with q | q
    · exact q
    · rw [List.drop_eq_nil_of_le q] at h
      cases h
  have h2 := List.drop_eq_getElem_cons h1
  rw [h] at h2
  injection h2 with h3 h4
  exact ⟨by rw [List.getElem?_eq_getElem h1, ← h3], h4.symm, h1⟩
theorem drop_nil {cs : List Nat} {k : Nat} (h : cs.drop k = []) (hk : k ≤ cs.length) : k = cs.length := by
  have := congrArg List.length h
  simp only [List.length_drop, List.length_nil] at this
  omega
namespace K01
def tw (l : List Nat) : List Nat := l.takeWhile fun c => decide (c ∈ RS)
theorem tw_nil : tw [] = [] := rfl
theorem tw_in {c : Nat} {r : List Nat} (h : c ∈ RS) : tw (c :: r) = c :: tw r := by simp [tw, h]
theorem tw_out {c : Nat} {r : List Nat} (h : c ∉ RS) : tw (c :: r) = [] := by simp [tw, h]
theorem tw_take : ∀ l : List Nat, l.take (tw l).length = tw l
  | [] => rfl
  | c :: r => by
    by_cases h : c ∈ RS
    · rw [tw_in h]
      simp [tw_take r]
    · rw [tw_out h]
      rfl
theorem tw_all : ∀ l : List Nat, ∀ c ∈ tw l, c ∈ RS
  | [], _, h => nomatch h
  | a :: r, c, h => by
    by_cases ha : a ∈ RS
    · rw [tw_in ha] at h
      rcases List.mem_cons.mp h with rfl | h
      · exact ha
      · exact tw_all r c h
    · rw [tw_out ha] at h
      cases h
theorem tw_len (l : List Nat) : (tw l).length ≤ l.length := by
  have := congrArg List.length (tw_take l)
  rw [List.length_take] at this
  omega
/-- the end of a run -/
theorem run_loop {cs : List Nat} (hcs : cs.length ≤ 50000) {Ψ : Out → Prop} {s : Int} : ∀ (l : List Nat) (k n : Nat), cs.drop k = l → k ≤ cs.length → l.length < n → Ψ (.nx [some (.dat (.str (mkS cs))), some (.dat (.int s)), some (.dat (.int ((k + (tw l).length : Nat) : Int)))]) →
    wS (whileN (andM (op2 gLt (varM 2) (opL gLen (consL (varM 0) (nilL)))) (op2 gIn (op2 gIx (varM 0) (varM 2)) (conM g_RUN_SIGNS))) (asgM (nameT 2) (op2 gAdd (varM 2) (conM (.int 1)))) n) [some (.dat (.str (mkS cs))), some (.dat (.int s)), some (.dat (.int (k : Int)))] Ψ
  | [], k, 0, _, _, h, _ => by simp at h
  | _ :: _, k, 0, _, _, h, _ => by simp at h
  | [], k, n + 1, hd, hk, _, q => by
    have e := drop_nil hd hk
    refine ws_while_step ?_
    simp
    refine ⟨by omega, ?_⟩
    rw [if_neg (by omega)]
    simpa [tw_nil] using q
  | c :: r, k, n + 1, hd, hk, hn, q => by
    obtain ⟨h1, h2, h3⟩ := drop_cons hd
    refine ws_while_step ?_
    simp
    refine ⟨by omega, ?_⟩
    rw [if_pos (by omega), gIx_mk (by omega) h1]
    simp [g_RUN_SIGNS]
    by_cases hc : c ∈ RS
    · rw [if_pos hc]
      refine ws_asg ?_
      simp
      simp only [List.length_cons] at hn
      have := run_loop hcs (Ψ := Ψ) (s := s) r (k + 1) n h2 (by omega) (by omega)
      rw [tw_in hc] at q
      simp only [List.length_cons] at q
      rw [show k + ((tw r).length + 1) = k + 1 + (tw r).length by omega] at q
      exact this q
    · rw [if_neg hc]
      rw [tw_out hc] at q
      simpa using q
theorem run_end {cs : List Nat} {k : Nat} {Φ : Val → List Slot → Prop} (hcs : cs.length ≤ 50000) (hk : k ≤ cs.length) (q : Φ (.d (.int ((k + (tw (cs.drop k)).length : Nat) : Int))) [.dat (.str (mkS cs)), .dat (.int k)]) : pF f_run_end [.dat (.str (mkS cs)), .dat (.int k)] Φ := by
  refine pf_fn ?_
  unfold b_run_end
  simp
  refine ws_asg ?_
  simp
  refine ws_whileM ?_
  refine run_loop hcs _ k _ rfl hk ?_ ?_
  · simp [fuelText]
    omega
  · simp
    refine ws_ret ?_
    simp
    simpa using q
theorem cut_run {cs : List Nat} {k : Nat} (hk : k ≤ cs.length) {n : Nat} (hn : k + n ≤ cs.length) : cutS (mkS cs) (some (k : Int)) (some ((k : Int) + (n : Int))) = mkS ((cs.drop k).take n) := by
  rw [show (k : Int) + (n : Int) = ((k + n : Nat) : Int) from (Int.natCast_add k n).symm]
  unfold cutS
  rw [HT.sIx_nat, HT.sIx_nat, mkS_len, mkS_list, Nat.min_eq_left hk, Nat.min_eq_left hn]
  rw [show k + n - k = n by omega]
  rfl
/-- how the signs fall into pieces -/
inductive Scan : Nat → List Nat → List (Nat × List Nat) → Prop where
  | nil {k : Nat} : Scan k [] []
  | blank {k : Nat} {r : List Nat} {ps : List (Nat × List Nat)} (h : Scan (k + 1) r ps) : Scan k (32 :: r) ps
  | run {k c : Nat} {r : List Nat} {ps : List (Nat × List Nat)} (hc : c ∈ RS) (h : Scan (k + (tw (c :: r)).length) ((c :: r).drop (tw (c :: r)).length) ps) : Scan k (c :: r) ((k, tw (c :: r)) :: ps)
  | sign {k c : Nat} {r : List Nat} {ps : List (Nat × List Nat)} (hb : c ≠ 32) (hc : c ∉ RS) (h : Scan (k + 1) r ps) : Scan k (c :: r) ((k, [c]) :: ps)
theorem scan_ex : ∀ (n k : Nat) (l : List Nat), l.length ≤ n → ∃ ps, Scan k l ps
  | _, k, [], _ => ⟨[], .nil⟩
  | 0, k, c :: r, h => by simp at h
  | n + 1, k, c :: r, h => by
    simp only [List.length_cons] at h
    by_cases hc : c ∈ RS
    · obtain ⟨ps, q⟩ := scan_ex n (k + (tw (c :: r)).length) ((c :: r).drop (tw (c :: r)).length) (by
        rw [List.length_drop, tw_in hc]
        simp only [List.length_cons]
        omega)
      exact ⟨_, .run hc q⟩
    · obtain ⟨ps, q⟩ := scan_ex n (k + 1) r (by omega)
      by_cases hb : c = 32
      · subst hb
        exact ⟨_, .blank q⟩
      · exact ⟨_, .sign hb hc q⟩
/-- a piece of the program's -/
def PP (p : Nat × List Nat) (d : D) : Prop := ∃ kd : Str, d = .tuple [.int p.1, .str kd, .str (mkS p.2)] ∧ (kd = Str.ofString "wrong" ↔ okP p.2 = false) ∧ (kd = Str.ofString "end" ↔ p.2 = [10])
inductive All2 {α β : Type} (R : α → β → Prop) : List α → List β → Prop where
  | nil : All2 R [] []
  | cons {a : α} {b : β} {as : List α} {bs : List β} (h : R a b) (t : All2 R as bs) : All2 R (a :: as) (b :: bs)
theorem piece_run {cs : List Nat} {k c : Nat} {r : List Nat} {Φ : Val → List Slot → Prop} (hcs : cs.length ≤ 50000) (hd : cs.drop k = c :: r) (hc : c ∈ RS)
    (q : ∀ d, PP (k, tw (c :: r)) d → Φ (.d d) [.dat (.str (mkS cs)), .dat (.int k)]) : pF f_piece_at [.dat (.str (mkS cs)), .dat (.int k)] Φ := by
  obtain ⟨h1, h2, h3⟩ := drop_cons hd
  refine pf_fn ?_
  unfold b_piece_at
  simp
  refine ws_if ?_
  simp
  rw [gIx_mk (by omega) h1]
  simp [g_RUN_SIGNS]
  rw [if_pos hc]
  refine ws_asg ?_
  simp
  refine run_end hcs (by omega) ?_
  simp only [dI_i]
  have e : k + (tw (c :: r)).length ≤ cs.length := by
    have := tw_len (c :: r)
    have q2 := congrArg List.length hd
    simp only [List.length_drop] at q2
    omega
  rw [hd]
  simp
  rw [cut_run (by omega) e, hd, tw_take]
  refine ⟨by omega, ?_⟩
  refine ws_ret ?_
  simp
  have e2 : tw (c :: r) = c :: tw r := tw_in hc
  rw [e2]
  refine kind_of_run ?_ fun kd k1 k2 => ?_
  · rw [e2] at e
    omega
  · simp
    refine q _ ⟨kd, by rw [e2], ?_, ?_⟩
    · rw [k1, e2]
      have : okP (c :: tw r) = okR (c :: tw r) := by simp [okP, hc]
      rw [this]
    · constructor
      · intro z; exact absurd z k2
      · intro z
        simp only [e2, List.cons.injEq] at z
        exact absurd (z.1 ▸ hc) no10
theorem piece_sign {cs : List Nat} {k c : Nat} {r : List Nat} {Φ : Val → List Slot → Prop} (hcs : cs.length ≤ 50000) (hd : cs.drop k = c :: r) (hc : c ∉ RS)
    (q : ∀ d, PP (k, [c]) d → Φ (.d d) [.dat (.str (mkS cs)), .dat (.int k)]) : pF f_piece_at [.dat (.str (mkS cs)), .dat (.int k)] Φ := by
  obtain ⟨h1, h2, h3⟩ := drop_cons hd
  refine pf_fn ?_
  unfold b_piece_at
  simp
  refine ws_if ?_
  simp
  rw [gIx_mk (by omega) h1]
  simp [g_RUN_SIGNS]
  rw [if_neg hc]
  refine ws_ret ?_
  simp
  rw [gIx_mk (by omega) h1]
  simp
  refine kind_of_sign hc fun kd k1 k2 => ?_
  simp
  exact q _ ⟨kd, rfl, k1, by simp [k2]⟩
theorem pieces_loop {cs : List Nat} (hcs : cs.length ≤ 50000) {k : Nat} {l : List Nat} {ps : List (Nat × List Nat)} (h : Scan k l ps) : ∀ (n : Nat) (found : List D) (x : Option Slot) (Ψ : Out → Prop), cs.drop k = l → k ≤ cs.length → l.length < n → found.length ≤ k →
    (∀ (ds : List D) (x' : Option Slot) (e : Int), All2 PP ps ds → Ψ (.nx [some (.dat (.str (mkS cs))), some (.own (found ++ ds)), some (.dat (.int e)), x'])) →
    wS (whileN (op2 gLt (varM 2) (opL gLen (consL (varM 0) (nilL)))) (ifM (op2 gEq (op2 gIx (varM 0) (varM 2)) (conM g_BLANK)) (asgM (nameT 2) (op2 gAdd (varM 2) (conM (.int 1)))) (seqM (asgM (nameT 3) (callD 2 f_piece_at (consL (varM 0) (consL (varM 2) (nilL))))) (seqM (appM 1 (varM 3)) (asgM (nameT 2) (op2 gAdd (varM 2) (opL gLen (consL (op2 gIx (varM 3) (conM (.int 2))) (nilL)))))))) n)
      [some (.dat (.str (mkS cs))), some (.own found), some (.dat (.int (k : Int))), x] Ψ := by
  induction h with
  | nil =>
    rename_i k
    intro n found x Ψ hd hk hn hf q
    obtain ⟨n, rfl⟩ : ∃ m, n = m + 1 := ⟨n - 1, by simp at hn; omega⟩
    have e := drop_nil hd hk
    refine ws_while_step ?_
    simp
    refine ⟨by omega, ?_⟩
    rw [if_neg (by omega)]
    have := q [] x (k : Int) All2.nil
    rw [List.append_nil] at this
    exact this
  | blank h ih =>
    intro n found x Ψ hd hk hn hf q
    obtain ⟨n, rfl⟩ : ∃ m, n = m + 1 := ⟨n - 1, by omega⟩
    obtain ⟨h1, h2, h3⟩ := drop_cons hd
    simp only [List.length_cons] at hn
    refine ws_while_step ?_
    simp
    refine ⟨by omega, ?_⟩
    rw [if_pos (by omega)]
    refine ws_if ?_
    simp
    rw [gIx_mk (by omega) h1]
    simp [g_BLANK]
    refine ws_asg ?_
    simp
    exact ih n found x Ψ h2 (by omega) (by omega) (by omega) q
  | run hc h ih =>
    rename_i k c r ps
    intro n found x Ψ hd hk hn hf q
    obtain ⟨n, rfl⟩ : ∃ m, n = m + 1 := ⟨n - 1, by omega⟩
    obtain ⟨h1, h2, h3⟩ := drop_cons hd
    have hb : c ≠ 32 := fun e => no32 (e ▸ hc)
    have tl := tw_len (c :: r)
    have el := congrArg List.length hd
    simp only [List.length_drop, List.length_cons] at el
    simp only [List.length_cons] at hn tl
    have tp : 1 ≤ (tw (c :: r)).length := by rw [tw_in hc]; simp
    refine ws_while_step ?_
    simp
    refine ⟨by omega, ?_⟩
    rw [if_pos (by omega)]
    refine ws_if ?_
    simp
    rw [gIx_mk (by omega) h1]
    simp [g_BLANK, hb]
    refine ws_asg ?_
    simp
    refine piece_run hcs hd hc fun d hp => ?_
    obtain ⟨kd, rfl, hp1, hp2⟩ := hp
    simp
    refine ws_app ?_
    simp
    refine ⟨by omega, ?_⟩
    refine ws_asg ?_
    simp
    refine ⟨by omega, ?_⟩
    refine ih n (found ++ [_]) _ Ψ ?_ (by omega) ?_ (by simp; omega) fun ds x' e hds => ?_
    · rw [← hd, List.drop_drop]
    · rw [List.length_drop]
      simp only [List.length_cons]
      omega
    · rw [List.append_assoc]
      exact q (_ :: ds) x' e (.cons ⟨kd, rfl, hp1, hp2⟩ hds)
  | sign hb hc h ih =>
    rename_i k c r ps
    intro n found x Ψ hd hk hn hf q
    obtain ⟨n, rfl⟩ : ∃ m, n = m + 1 := ⟨n - 1, by omega⟩
    obtain ⟨h1, h2, h3⟩ := drop_cons hd
    simp only [List.length_cons] at hn
    refine ws_while_step ?_
    simp
    refine ⟨by omega, ?_⟩
    rw [if_pos (by omega)]
    refine ws_if ?_
    simp
    rw [gIx_mk (by omega) h1]
    simp [g_BLANK, hb]
    refine ws_asg ?_
    simp
    refine piece_sign hcs hd hc fun d hp => ?_
    obtain ⟨kd, rfl, hp1, hp2⟩ := hp
    simp
    refine ws_app ?_
    simp
    refine ⟨by omega, ?_⟩
    refine ws_asg ?_
    simp
    refine ih n (found ++ [_]) _ Ψ h2 (by omega) (by omega) (by simp; omega) fun ds x' e hds => ?_
    rw [List.append_assoc]
    exact q (_ :: ds) x' e (.cons ⟨kd, rfl, hp1, hp2⟩ hds)
theorem pieces_by {cs : List Nat} {ps : List (Nat × List Nat)} {Φ : Val → List Slot → Prop} (hcs : cs.length ≤ 50000) (h : Scan 0 cs ps) (q : ∀ ds, All2 PP ps ds → Φ (.d (.list ds)) [.dat (.str (mkS cs))]) : pF f_pieces_by [.dat (.str (mkS cs))] Φ := by
  refine pf_fn ?_
  unfold b_pieces_by
  simp
  refine ws_par ?_
  simp
  refine ws_whileM ?_
  refine pieces_loop hcs h _ [] none _ rfl (by omega) ?_ (by simp) fun ds x' e hds => ?_
  · simp [fuelText]
  · simp
    refine ws_frz ?_
    simp
    refine ws_ret ?_
    simp
    exact q ds hds
end K01
end DL
set_option Elab.async false
set_option linter.all false
set_option maxRecDepth 100000
set_option maxHeartbeats 4000000
set_option autoImplicit false
/-! K01U: the program's tokens. -/
namespace DL
open PySem PySem.Spec PyProof.Rows L2
section
variable {ρ : Rh} {Ψ : Out → Prop} {a : SM} {m : EM}
theorem ws_raise {c f : Str} (h : wE m ρ fun v ρ' => vD v fun d => Ψ (.exc ⟨c, some (f, d)⟩ ρ')) : wS (raiseM c f m) ρ Ψ := by
  refine wS_bind (wE_mono h fun v ρ' q => ?_)
  cases v with
  | l d => exact q.elim
  | d d => exact q
/-- a def that may raise -/
def retX (P : List Nat) (ss : List Slot) (Φ : R (List Slot) → Prop) (o : Out) : Prop := match o with
  | .ret v ρ' => oP (backS P 0 ss ρ') fun ss' => Φ (.ok v ss')
  | .nx ρ' => oP (backS P 0 ss ρ') fun ss' => Φ (.ok (.d .none) ss')
  | .exc x ρ' => oP (backS P 0 ss ρ') fun ss' => Φ (.exc x ss')
  | _ => False
@[simp] theorem retX_ret {P : List Nat} {ss : List Slot} {Φ : R (List Slot) → Prop} {v : Val} : retX P ss Φ (.ret v ρ) ↔ oP (backS P 0 ss ρ) fun ss' => Φ (.ok v ss') := Iff.rfl
@[simp] theorem retX_exc {P : List Nat} {ss : List Slot} {Φ : R (List Slot) → Prop} {x : Xn} : retX P ss Φ (.exc x ρ) ↔ oP (backS P 0 ss ρ) fun ss' => Φ (.exc x ss') := Iff.rfl
theorem px_fn {P : List Nat} {ss : List Slot} {Φ : R (List Slot) → Prop} {N : Nat} (h : wS a (argsRh ss ++ List.replicate (N - ss.length) none) (retX P ss Φ)) : Φ (fnM P N a ss) := by
  unfold fnM
  unfold wS retX at h
  cases e : a (argsRh ss ++ List.replicate (N - ss.length) none) with
  | ret v ρ' =>
    rw [e] at h
    dsimp only at h ⊢
    cases e2 : backS P 0 ss ρ' <;> rw [e2] at h
    · exact h.elim
    · exact h
  | nx ρ' =>
    rw [e] at h
    dsimp only at h ⊢
    cases e2 : backS P 0 ss ρ' <;> rw [e2] at h
    · exact h.elim
    · exact h
  | exc x ρ' =>
    rw [e] at h
    dsimp only at h ⊢
    cases e2 : backS P 0 ss ρ' <;> rw [e2] at h
    · exact h.elim
    · exact h
  | brk ρ' => rw [e] at h; exact h.elim
  | ct ρ' => rw [e] at h; exact h.elim
  | stuck => rw [e] at h; exact h.elim
end
@[simp] theorem gIsN_n {a : D} : gIsN a .none = some (.bool (isNoneD a)) := rfl
namespace K01
abbrev Ps := List (Nat × List Nat)
def bad (ps : Ps) : Option Nat := (ps.find? fun p => !okP p.2).map (·.1)
def fine (ps : Ps) : Ps := ps.filter fun p => !decide (p.2 = [10])
def tok (p : Nat × List Nat) : D := .tuple [.int p.1, .str (mkS p.2)]
def toks (ps : Ps) : List D := (fine ps).map tok
theorem bad_ok {p : Nat × List Nat} {ps : Ps} (h : okP p.2 = true) : bad (p :: ps) = bad ps := by simp [bad, h]
theorem bad_no {p : Nat × List Nat} {ps : Ps} (h : okP p.2 = false) : bad (p :: ps) = some p.1 := by simp [bad, h]
theorem wrong_loop {z l : D} {Ψ : Out → Prop} : ∀ {ps : Ps} {ds : List D}, All2 PP ps ds → ∀ (x2 x3 x4 : Option Slot), (∀ k y2 y3 y4, bad ps = some k → Ψ (.ret (.d (.tuple [.none, .int (k : Int)])) [some (.dat z), some (.dat l), y2, y3, y4, none])) →
    (∀ y2 y3 y4, bad ps = none → Ψ (.nx [some (.dat z), some (.dat l), y2, y3, y4, none])) →
    wS (forN (tupT 3 (consT (nameT 2) (consT (nameT 3) (consT (nameT 4) (nilT))))) (ifM (op2 gEq (varM 3) (conM (.str "wrong"))) (retM (opL gTup (consL (conM .none) (consL (varM 2) (nilL))))) (nextM)) ds) [some (.dat z), some (.dat l), x2, x3, x4, none] Ψ
  | [], [], .nil, x2, x3, x4, _, q => q x2 x3 x4 rfl
  | p :: ps, d :: ds, .cons h t, x2, x3, x4, q1, q2 => by
    obtain ⟨kd, rfl, h1, h2⟩ := h
    refine ws_forN_cons ?_
    simp
    refine ws_if ?_
    simp
    by_cases c : kd = Str.ofString "wrong"
    · rw [if_pos c]
      refine ws_ret ?_
      simp
      exact q1 _ _ _ _ (bad_no (h1.mp c))
    · rw [if_neg c]
      have e : okP p.2 = true := by
        cases e : okP p.2 with
        | true => rfl
        | false => exact absurd (h1.mpr e) c
      refine wrong_loop t _ _ _ (fun k y2 y3 y4 hb => q1 k y2 y3 y4 (by rw [bad_ok e]; exact hb)) fun y2 y3 y4 hb => q2 y2 y3 y4 (by rw [bad_ok e]; exact hb)
theorem all2_get {ps : Ps} {ds : List D} (h : All2 PP ps ds) : ps.length = ds.length := by
  induction h with
  | nil => rfl
  | cons _ _ ih => simp [ih]
theorem tokens_by {cs : List Nat} {ps : Ps} {Φ : Val → List Slot → Prop} (hcs : cs.length ≤ 50000) (hp : ps.length ≤ 50000) (h : Scan 0 cs ps) (q1 : ∀ k, bad ps = some k → Φ (.d (.tuple [.none, .int (k : Int)])) [.dat (.str (mkS cs))])
    (q2 : bad ps = none → Φ (.d (.tuple [.tuple (toks ps), .none])) [.dat (.str (mkS cs))]) : pF f_tokens_by [.dat (.str (mkS cs))] Φ := by
  refine pf_fn ?_
  unfold b_tokens_by
  simp
  refine ws_asg ?_
  simp
  refine pieces_by hcs h fun ds hds => ?_
  simp
  refine ws_for ?_
  simp
  refine wrong_loop hds none none none (fun k y2 y3 y4 hb => ?_) fun y2 y3 y4 hb => ?_
  · simp
    exact q1 k hb
  · simp
    refine ws_forget (ws_forget ?_)
    simp
    refine ws_ret ?_
    simp
    refine we_lc ?_
    simp
    refine ⟨rfl, ?_⟩
    have hl := all2_get hds
    refine wc_ind (J := fun es ρ acc => ∃ pre post : Ps, ps = pre ++ post ∧ All2 PP post es ∧ acc = toks pre ∧ ρ = [some (.dat (.str (mkS cs))), some (.dat (.list ds)), none, none, y4, none])
      (fun d es ρ acc hJ => ?_) (fun ρ acc hJ => ?_) _ _ _ ⟨[], ps, rfl, hds, rfl, rfl⟩
    · obtain ⟨pre, post, h1, h2, rfl, rfl⟩ := hJ
      cases h2 with
      | cons hd ht =>
        rename_i p post
        obtain ⟨kd, rfl, k1, k2⟩ := hd
        have hlen : (toks pre).length ≤ 50000 := by
          have e1 : (fine pre).length ≤ pre.length := List.length_filter_le _ _
          have e2 := congrArg List.length h1
          simp only [List.length_append, List.length_cons] at e2
          simp only [toks, List.length_map]
          omega
        simp
        by_cases c : kd = Str.ofString "end"
        · rw [if_pos c]
          exact ⟨pre ++ [p], post, by simp [h1], ht, by simp [toks, fine, List.filter_append, k2.mp c], rfl⟩
        · rw [if_neg c]
          have c' : p.2 ≠ [10] := fun e => c (k2.mpr e)
          exact ⟨by omega, pre ++ [p], post, by simp [h1], ht, by simp [toks, fine, List.filter_append, c', tok], rfl⟩
    · obtain ⟨pre, post, h1, h2, rfl, rfl⟩ := hJ
      cases h2
      rw [List.append_nil] at h1
      subst h1
      try simp
      exact q2 hb
theorem tokens {cs : List Nat} {ps : Ps} {Φ : R (List Slot) → Prop} (hcs : cs.length ≤ 50000) (hp : ps.length ≤ 50000) (h : Scan 0 cs ps) (q1 : ∀ k ss, bad ps = some k → Φ (.exc ⟨"InvalidText", some ("index", .int (k : Int))⟩ ss))
    (q2 : ∀ ss, bad ps = none → Φ (.ok (.d (.tuple (toks ps))) ss)) : Φ (f_tokens [.dat (.str (mkS cs))]) := by
  refine px_fn ?_
  unfold b_tokens
  simp
  refine ws_expr ?_
  simp
  refine pf_fn ?_
  unfold b_check_string
  refine ws_if ?_
  simp
  refine ws_asg ?_
  simp
  refine tokens_by hcs hp h (fun k hb => ?_) fun hb => ?_
  · simp
    refine ws_if ?_
    simp [isNoneD]
    refine ws_raise ?_
    simp
    exact q1 k _ hb
  · simp
    refine ws_if ?_
    simp [isNoneD]
    refine ws_ret ?_
    simp
    exact q2 _ hb
theorem told_ok {d v : D} {b : Bool} {ss : List Slot} (h : f_tokens [.dat d] = .ok (.d v) ss) : f__law_told [.dat d, .dat (.bool b)] = .ok (.d v) [.dat d, .dat (.bool b)] := by
  unfold f__law_told fnM b__law_told tryA
  cases b <;> simp [iteM, bindE, varM, callD, consL, nilL, datL, h, backS, argsRh]
theorem told_exc {d v : D} {b : Bool} {ss : List Slot} (h : f_tokens [.dat d] = .exc ⟨"InvalidText", some ("index", v)⟩ ss) : f__law_told [.dat d, .dat (.bool b)] = .ok (.d (.list [v])) [.dat d, .dat (.bool b)] := by
  unfold f__law_told fnM b__law_told tryA
  cases b <;> simp [iteM, bindE, varM, callD, consL, nilL, datL, h, backS, argsRh]
/-- what is told of a text -/
def due (ps : Ps) : D := match bad ps with
  | some k => .list [.int (k : Int)]
  | none => .tuple (toks ps)
theorem told {cs : List Nat} {ps : Ps} {b : Bool} (hcs : cs.length ≤ 50000) (hp : ps.length ≤ 50000) (h : Scan 0 cs ps) : f__law_told [.dat (.str (mkS cs)), .dat (.bool b)] = .ok (.d (due ps)) [.dat (.str (mkS cs)), .dat (.bool b)] := by
  obtain ⟨r, hr⟩ : ∃ r, f_tokens [.dat (.str (mkS cs))] = r := ⟨_, rfl⟩
  have q := tokens (Φ := fun x => x = r → f__law_told [.dat (.str (mkS cs)), .dat (.bool b)] = .ok (.d (due ps)) [.dat (.str (mkS cs)), .dat (.bool b)]) hcs hp h (fun k ss hb e => ?_) (fun ss hb e => ?_)
  · exact q hr
  · rw [← hr] at e
    rw [told_exc e.symm]
    simp [due, hb]
  · rw [← hr] at e
    rw [told_ok e.symm]
    simp [due, hb]
end K01
end DL
set_option Elab.async false
set_option linter.all false
set_option maxRecDepth 100000
set_option maxHeartbeats 4000000
set_option autoImplicit false
/-! K01V: the law's own tokens. -/
namespace DL
open PySem PySem.Spec PyProof.Rows L2
namespace K01
theorem only {l : List Nat} {S : Str} {Φ : Val → List Slot → Prop} (hl : l.length ≤ 50000) (hc : ∀ c ∈ l, c < 1114112) (q : Φ (.d (.bool (l.all fun c => decide (c ∈ S.cps.toList)))) [.dat (.str (mkS l)), .dat (.str S)]) : pF f__law_only [.dat (.str (mkS l)), .dat (.str S)] Φ := by
  refine pf_fn (ws_ret ?_)
  simp
  refine we_lc ?_
  simp
  refine ⟨rfl, ?_⟩
  refine wc_ind (J := fun es ρ acc => ∃ pre post : List Nat, l = pre ++ post ∧ es = post.map (fun c => PyData.str (chr c)) ∧ acc = (pre.filter fun c => !decide (c ∈ S.cps.toList)).map (fun c => PyData.str (chr c)) ∧ ρ = [some (.dat (.str (mkS l))), some (.dat (.str S)), none])
    (fun d es ρ acc hJ => ?_) (fun ρ acc hJ => ?_) _ _ _ ⟨[], l, rfl, rfl, rfl, rfl⟩
  · obtain ⟨pre, post, h1, h2, rfl, rfl⟩ := hJ
    cases post with
    | nil => cases h2
    | cons c post =>
      simp only [List.map_cons, List.cons.injEq] at h2
      obtain ⟨rfl, rfl⟩ := h2
      have hlen := congrArg List.length h1
      simp only [List.length_append, List.length_cons] at hlen
      have hf : (pre.filter fun c => !decide (c ∈ S.cps)).length ≤ pre.length := List.length_filter_le _ _
      simp
      by_cases k : c ∈ S.cps
      · rw [if_pos k]
        exact ⟨pre ++ [c], post, by simp [h1], rfl, by simp [List.filter_append, k], rfl⟩
      · rw [if_neg k]
        exact ⟨by omega, pre ++ [c], post, by simp [h1], rfl, by simp [List.filter_append, k], rfl⟩
  · obtain ⟨pre, post, h1, h2, rfl, rfl⟩ := hJ
    have e : post = [] := by cases post with
      | nil => rfl
      | cons z r => cases h2
    subst e
    rw [List.append_nil] at h1
    subst h1
    simp
    obtain ⟨a, b⟩ := lay_chrs (l := l.filter fun c => !decide (c ∈ S.cps)) fun c h => hc c (List.mem_filter.mp h).1
    rw [gEq_empty a (by omega)]
    simp
    have e : (decide (∀ a ∈ l, a ∈ S.cps)) = (l.all fun c => decide (c ∈ S.cps.toList)) := by
      rw [Bool.eq_iff_iff]
      simp
    rw [e]
    exact q
theorem is_num_law {c : Nat} {r : List Nat} {Φ : Val → List Slot → Prop} (hl : (c :: r).length ≤ 50000) (hc : ∀ x ∈ c :: r, x < 1114112)
    (q : Φ (.d (.bool ((c :: r).all (fun c => decide (c ∈ FS)) && decide ((c :: r).length ≤ 30) && (decide ((c :: r) = [48]) || decide (c ≠ 48))))) [.dat (.str (mkS (c :: r)))]) : pF f__law_is_numeral [.dat (.str (mkS (c :: r)))] Φ := by
  have hl' : r.length + 1 ≤ 50000 := hl
  have qq : ∀ b, b = ((c :: r).all (fun c => decide (c ∈ FS)) && decide ((c :: r).length ≤ 30) && (decide ((c :: r) = [48]) || decide (c ≠ 48))) → Φ (.d (.bool b)) [.dat (.str (mkS (c :: r)))] := fun b e => e ▸ q
  refine pf_fn (ws_ret ?_)
  simp
  refine ⟨by omega, ?_⟩
  by_cases h2 : (r.length : Int) + 1 ≤ 30
  · rw [if_pos h2]
    have e2 : decide ((c :: r).length ≤ 30) = true := by simp; omega
    refine only hl hc ?_
    rw [dB_b]
    have ee : ((c :: r).all fun c => decide (c ∈ (Str.ofString "0123456789").cps.toList)) = ((c :: r).all fun c => decide (c ∈ FS)) := rfl
    rw [ee]
    cases e1 : ((c :: r).all fun c => decide (c ∈ FS)) with
    | true =>
      simp [gIx_mk0 (c := c) (r := r) (by omega)]
      by_cases h3 : c = 48
      · subst h3
        simp
        exact qq _ (by rw [e1, e2]; simp)
      · rw [if_neg h3]
        exact qq _ (by rw [e1, e2]; simp [h3])
    | false =>
      simp
      exact qq _ (by rw [e1]; simp)
  · rw [if_neg h2]
    have e2 : decide ((c :: r).length ≤ 30) = false := by simp; omega
    exact qq _ (by rw [e2]; simp)
theorem is_word_law {c : Nat} {r : List Nat} {Φ : Val → List Slot → Prop} (hl : (c :: r).length ≤ 50000) (hc : ∀ x ∈ c :: r, x < 1114112) (ha : ∀ x ∈ c :: r, x ∈ RS)
    (q : Φ (.d (.bool (decide ((c :: r).length ≤ 12) && decide (c ∉ FS)))) [.dat (.str (mkS (c :: r)))]) : pF f__law_is_word [.dat (.str (mkS (c :: r)))] Φ := by
  have hl' : r.length + 1 ≤ 50000 := hl
  have qq : ∀ b, b = (decide ((c :: r).length ≤ 12) && decide (c ∉ FS)) → Φ (.d (.bool b)) [.dat (.str (mkS (c :: r)))] := fun b e => e ▸ q
  refine pf_fn (ws_ret ?_)
  simp
  refine ⟨by omega, ?_⟩
  by_cases h2 : (r.length : Int) + 1 ≤ 12
  · rw [if_pos h2]
    have e2 : decide ((c :: r).length ≤ 12) = true := by simp; omega
    refine only hl hc ?_
    rw [dB_b]
    have ee : ((c :: r).all fun c => decide (c ∈ (Str.ofString "abcdefghijklmnopqrstuvwxyz0123456789").cps.toList)) = true := by
      have : ((c :: r).all fun c => decide (c ∈ RS)) = true := by
        rw [List.all_eq_true]
        intro x hx
        simpa using ha x hx
      exact this
    rw [ee]
    simp [gIx_mk0 (c := c) (r := r) (by omega)]
    exact qq _ (by rw [e2]; simp)
  · rw [if_neg h2]
    have e2 : decide ((c :: r).length ≤ 12) = false := by simp; omega
    exact qq _ (by rw [e2]; simp)
theorem is_ok {c : Nat} {r : List Nat} {ρ : Rh} {i : Nat} {Φ : Val → Rh → Prop} (hl : (c :: r).length ≤ 50000) (hc : ∀ x ∈ c :: r, x < 1114112) (ha : ∀ x ∈ c :: r, x ∈ RS) (hi : ρ[i]? = some (some (.dat (.str (mkS (c :: r))))))
    (q : Φ (.d (if okR (c :: r) = true then .str (mkS (c :: r)) else .none)) ρ) : wE (iteM (orM (callD 1 f__law_is_numeral (consL (varM i) (nilL))) (callD 1 f__law_is_word (consL (varM i) (nilL)))) (varM i) (conM .none)) ρ Φ := by
  have rd : ∀ P : D → Prop, P (.str (mkS (c :: r))) → rD ρ i P := by
    intro P h
    unfold rD
    rw [hi]
    exact h
  rw [wE_ite, wE_or, wE_callD, wL_cons, wE_var]
  refine rd _ ?_
  rw [wL_nil]
  simp
  refine is_num_law hl hc ?_
  rw [dB_b]
  have word : ∀ {Ψ : Val → Prop}, Ψ (.d (.bool (decide ((c :: r).length ≤ 12) && decide (c ∉ FS)))) → rD ρ i fun a => pF f__law_is_word [.dat a] fun v ss => Ψ v := by
    intro Ψ h
    exact rd _ (is_word_law hl hc ha h)
  by_cases h : c ∈ FS
  · have e : okR (c :: r) = ((c :: r).all (fun c => decide (c ∈ FS)) && decide ((c :: r).length ≤ 30) && (decide ((c :: r) = [48]) || decide (c ≠ 48))) := by
      show (if c ∈ FS then _ else _) = _
      rw [if_pos h]
    rw [← e]
    cases e2 : okR (c :: r) with
    | true =>
      rw [e2] at q
      simp
      exact rd _ (by simpa using q)
    | false =>
      rw [e2] at q
      simp
      refine word ?_
      simp [h]
      simpa using q
  · have e : okR (c :: r) = decide ((c :: r).length ≤ 12) := by
      show (if c ∈ FS then _ else _) = _
      rw [if_neg h]
    have e1 : ((c :: r).all fun c => decide (c ∈ FS)) = false := by simp [h]
    rw [e1]
    simp
    refine word ?_
    cases e2 : okR (c :: r) with
    | true =>
      rw [e2] at q
      rw [e] at e2
      rw [e2]
      simp [h]
      exact rd _ (by simpa using q)
    | false =>
      rw [e2] at q
      rw [e] at e2
      rw [e2]
      simp
      simpa using q
end K01
end DL
set_option Elab.async false
set_option linter.all false
set_option maxRecDepth 100000
set_option maxHeartbeats 4000000
set_option autoImplicit false
/-! K01X: the law's tokens, and what is due. -/
namespace DL
open PySem PySem.Spec PyProof.Rows L2
namespace K01
abbrev cW : EM := andM (op2 gLt (varM 6) (opL gLen (consL (varM 0) (nilL)))) (op2 gIn (op2 gIx (varM 0) (varM 6)) (varM 3))
abbrev bW : SM := asgM (nameT 6) (op2 gAdd (varM 6) (conM (.int 1)))
abbrev sR : D := .str "abcdefghijklmnopqrstuvwxyz0123456789"
abbrev sS : D := .str "=<>+-*/(),\n"
abbrev bF : SM := (ifM (op2 gLt (varM 2) (opL gLen (consL (varM 0) (nilL)))) (seqM (asgM (nameT 6) (varM 2)) (seqM (whileM (fuelText 0) cW bW) (ifM (op2 gGt (varM 6) (varM 2)) (seqM (asgM (nameT 7) (slM (varM 0) (partM (varM 2)) (partM (varM 6)))) (seqM (appM 1 (opL gTup (consL (varM 2) (consL (iteM (orM (callD 1 f__law_is_numeral (consL (varM 7) (nilL))) (callD 1 f__law_is_word (consL (varM 7) (nilL)))) (varM 7) (conM .none)) (nilL))))) (asgM (nameT 2) (varM 6)))) (seqM (ifM (op2 gNe (op2 gIx (varM 0) (varM 2)) (conM (.str " "))) (appM 1 (opL gTup (consL (varM 2) (consL (iteM (op2 gIn (op2 gIx (varM 0) (varM 2)) (varM 4)) (op2 gIx (varM 0) (varM 2)) (conM .none)) (nilL))))) (nextM)) (asgM (nameT 2) (op2 gAdd (varM 2) (conM (.int 1)))))))) (nextM))
theorem law_run {cs : List Nat} (hcs : cs.length ≤ 50000) {Ψ : Out → Prop} {f : List D} {s : Int} {x5 x7 : Option Slot} : ∀ (l : List Nat) (k n : Nat), cs.drop k = l → k ≤ cs.length → l.length < n → Ψ (.nx [some (.dat (.str (mkS cs))), some (.own f), some (.dat (.int s)), some (.dat sR), some (.dat sS), x5, some (.dat (.int ((k + (tw l).length : Nat) : Int))), x7]) →
    wS (whileN cW bW n) [some (.dat (.str (mkS cs))), some (.own f), some (.dat (.int s)), some (.dat sR), some (.dat sS), x5, some (.dat (.int (k : Int))), x7] Ψ
  | [], k, 0, _, _, h, _ => by simp at h
  | _ :: _, k, 0, _, _, h, _ => by simp at h
  | [], k, n + 1, hd, hk, _, q => by
    have e := drop_nil hd hk
    refine ws_while_step ?_
    simp
    refine ⟨by omega, ?_⟩
    rw [if_neg (by omega)]
    simpa [tw_nil] using q
  | c :: r, k, n + 1, hd, hk, hn, q => by
    obtain ⟨h1, h2, h3⟩ := drop_cons hd
    refine ws_while_step ?_
    simp
    refine ⟨by omega, ?_⟩
    rw [if_pos (by omega), gIx_mk (by omega) h1]
    simp
    by_cases hc : c ∈ RS
    · rw [if_pos hc]
      refine ws_asg ?_
      simp
      simp only [List.length_cons] at hn
      have := law_run hcs (Ψ := Ψ) (f := f) (s := s) (x5 := x5) (x7 := x7) r (k + 1) n h2 (by omega) (by omega)
      rw [tw_in hc] at q
      simp only [List.length_cons] at q
      rw [show k + ((tw r).length + 1) = k + 1 + (tw r).length by omega] at q
      exact this q
    · rw [if_neg hc]
      rw [tw_out hc] at q
      simpa using q
/-- a piece of the law's -/
def lp (p : Nat × List Nat) : D := .tuple [.int p.1, if okP p.2 = true then .str (mkS p.2) else .none]
theorem law_loop {cs : List Nat} (hcs : cs.length ≤ 50000) (hcp : ∀ c ∈ cs, c < 1114112) {k : Nat} {l : List Nat} {ps : Ps} (h : Scan k l ps) : ∀ (es : List D) (found : List D) (x5 x6 x7 : Option Slot) (Ψ : Out → Prop), cs.drop k = l → k ≤ cs.length → l.length ≤ es.length → found.length ≤ k →
    (∀ (e : Int) (y5 y6 y7 : Option Slot), Ψ (.nx [some (.dat (.str (mkS cs))), some (.own (found ++ ps.map lp)), some (.dat (.int e)), some (.dat sR), some (.dat sS), y5, y6, y7])) →
    wS (forN (nameT 5) bF es) [some (.dat (.str (mkS cs))), some (.own found), some (.dat (.int (k : Int))), some (.dat sR), some (.dat sS), x5, x6, x7] Ψ := by
  induction h with
  | nil =>
    rename_i k
    intro es found x5 x6 x7 Ψ hd hk hn hf q
    have e := drop_nil hd hk
    refine ws_forN (J := fun es ρ => ∃ x5, ρ = [some (.dat (.str (mkS cs))), some (.own found), some (.dat (.int (k : Int))), some (.dat sR), some (.dat sS), x5, x6, x7]) (fun d r ρ hJ => ?_) (fun ρ hJ => ?_) _ _ ⟨x5, rfl⟩
    · obtain ⟨x5, rfl⟩ := hJ
      simp
      refine ws_if ?_
      simp
      refine ⟨by omega, fun hk' => ?_⟩
      omega
    · obtain ⟨x5, rfl⟩ := hJ
      have := q k x5 x6 x7
      simpa using this
  | blank h ih =>
    intro es found x5 x6 x7 Ψ hd hk hn hf q
    obtain ⟨h1, h2, h3⟩ := drop_cons hd
    cases es with
    | nil => simp at hn
    | cons e es =>
      simp only [List.length_cons] at hn
      refine ws_forN_cons ?_
      simp
      refine ws_if ?_
      simp
      refine ⟨by omega, ?_⟩
      rw [if_pos (by omega)]
      refine ws_asg ?_
      simp
      refine ws_whileM ?_
      refine law_run hcs _ _ _ hd hk ?_ ?_
      · have el := congrArg List.length hd
        simp only [List.length_drop, List.length_cons] at el
        simp [fuelText]
        omega
      · rw [tw_out no32]
        simp
        refine ws_if ?_
        simp
        refine ws_if ?_
        simp
        rw [gIx_mk (by omega) h1]
        simp
        refine ws_asg ?_
        simp
        exact ih es found _ _ _ Ψ h2 (by omega) (by omega) (by omega) q
  | run hc h ih =>
    rename_i k c r ps
    intro es found x5 x6 x7 Ψ hd hk hn hf q
    obtain ⟨h1, h2, h3⟩ := drop_cons hd
    have tl := tw_len (c :: r)
    have el := congrArg List.length hd
    simp only [List.length_drop, List.length_cons] at el
    simp only [List.length_cons] at tl
    have tp : tw (c :: r) = c :: tw r := tw_in hc
    have tp1 : 1 ≤ (tw (c :: r)).length := by rw [tp]; simp
    cases es with
    | nil => simp at hn
    | cons e es =>
      simp only [List.length_cons] at hn
      refine ws_forN_cons ?_
      simp
      refine ws_if ?_
      simp
      refine ⟨by omega, ?_⟩
      rw [if_pos (by omega)]
      refine ws_asg ?_
      simp
      refine ws_whileM ?_
      refine law_run hcs _ _ _ hd hk ?_ ?_
      · simp [fuelText]
        omega
      · simp
        refine ws_if ?_
        simp
        rw [if_pos (by omega)]
        refine ws_asg ?_
        simp
        rw [cut_run (by omega) (by omega), hd, tw_take]
        refine ⟨by omega, ?_⟩
        refine ws_app ?_
        simp [-wE_ite]
        rw [tp]
        refine is_ok (c := c) (r := tw r) (i := 7) ?_ ?_ ?_ rfl ?_
        · rw [← tp]; omega
        · rw [← tp]
          intro x hx
          refine hcp x ?_
          have : x ∈ c :: r := List.takeWhile_subset _ hx
          rw [← hd] at this
          exact List.mem_of_mem_drop this
        · rw [← tp]
          exact tw_all _
        · simp
          refine ⟨by omega, ?_⟩
          refine ws_asg ?_
          simp
          have fin := ih es (found ++ [lp (k, tw (c :: r))]) (some (.dat e)) (some (.dat (.int ((k : Int) + ((tw (c :: r)).length : Int))))) (some (.dat (.str (mkS (tw (c :: r)))))) Ψ (by rw [← hd, List.drop_drop]) (by omega) (by
            rw [List.length_drop]
            simp only [List.length_cons]
            omega) (by simp; omega) (fun e' y5 y6 y7 => by
            rw [List.append_assoc]
            exact q e' y5 y6 y7)
          have eo : okP (tw (c :: r)) = okR (c :: tw r) := by
            rw [tp]
            simp [okP, hc]
          rw [show lp (k, tw (c :: r)) = .tuple [.int k, if okR (c :: tw r) = true then .str (mkS (c :: tw r)) else .none] from by
            unfold lp
            dsimp only
            rw [eo, tp]] at fin
          rw [tp] at fin
          simpa using fin
  | sign hb hc h ih =>
    rename_i k c r ps
    intro es found x5 x6 x7 Ψ hd hk hn hf q
    obtain ⟨h1, h2, h3⟩ := drop_cons hd
    cases es with
    | nil => simp at hn
    | cons e es =>
      simp only [List.length_cons] at hn
      refine ws_forN_cons ?_
      simp
      refine ws_if ?_
      simp
      refine ⟨by omega, ?_⟩
      rw [if_pos (by omega)]
      refine ws_asg ?_
      simp
      refine ws_whileM ?_
      refine law_run hcs _ _ _ hd hk ?_ ?_
      · have el := congrArg List.length hd
        simp only [List.length_drop, List.length_cons] at el
        simp [fuelText]
        omega
      · rw [tw_out hc]
        simp
        refine ws_if ?_
        simp
        refine ws_if ?_
        simp
        rw [gIx_mk (by omega) h1]
        simp [hb]
        refine ws_app ?_
        simp
        rw [gIx_mk (by omega) h1]
        simp
        have fin : wS (asgM (nameT 2) (op2 gAdd (varM 2) (conM (.int 1)))) [some (.dat (.str (mkS cs))), some (.own (found ++ [lp (k, [c])])), some (.dat (.int (k : Int))), some (.dat sR), some (.dat sS), some (.dat e), some (.dat (.int (k : Int))), x7] (goK (fun ρ2 => wS (forN (nameT 5) bF es) ρ2 Ψ) Ψ) := by
          refine ws_asg ?_
          simp
          exact ih es (found ++ [lp (k, [c])]) _ _ _ Ψ h2 (by omega) (by omega) (by simp; omega) (fun e' y5 y6 y7 => by
            rw [List.append_assoc]
            exact q e' y5 y6 y7)
        have eo : okP [c] = decide (c ∈ SN) := by
          have : okP [c] = decide (c ∈ SG ∨ c = 10) := by simp [okP, hc]
          rw [this]
          rw [Bool.eq_iff_iff]
          simp [sn_sg]
        by_cases hs : c ∈ SN
        · rw [if_pos hs]
          refine ⟨by omega, ?_⟩
          simpa [lp, eo, hs] using fin
        · rw [if_neg hs]
          refine ⟨by omega, ?_⟩
          simpa [lp, eo, hs] using fin
theorem law_tokens {cs : List Nat} {ps : Ps} {Φ : Val → List Slot → Prop} (hcs : cs.length ≤ 50000) (hcp : ∀ c ∈ cs, c < 1114112) (h : Scan 0 cs ps) (q : Φ (.d (.list (ps.map lp))) [.dat (.str (mkS cs))]) : pF f__law_tokens [.dat (.str (mkS cs))] Φ := by
  refine pf_fn ?_
  unfold b__law_tokens
  simp
  refine ws_par ?_
  simp
  refine ws_asg ?_
  simp
  refine ws_for (wi_rng1 ?_)
  simp
  refine ⟨by omega, by omega, ?_⟩
  refine law_loop hcs hcp h _ [] none none none _ rfl (by omega) (by rw [rangeD_length]; omega) (by simp) fun e y5 y6 y7 => ?_
  simp
  refine ws_frz ?_
  simp
  refine ws_ret ?_
  simp
  exact q
end K01
end DL
set_option Elab.async false
set_option linter.all false
set_option maxRecDepth 100000
set_option maxHeartbeats 4000000
set_option autoImplicit false
/-! K01Y: what is due. -/
namespace DL
open PySem PySem.Spec PyProof.Rows L2
@[simp] theorem gSl_l {ds : List D} {l h : Option Int} : gSl (.list ds) l h = some (.list (cutD ds l h)) := rfl
@[simp] theorem cutD_h1 {a : D} {r : List D} : cutD (a :: r) none (some 1) = [a] := by
  have e1 : HT.sIx (a :: r).length (a :: r).length (some 1) = 1 := (HT.sIx_nat _ _ 1).trans (by simp)
  have e0 : HT.sIx (a :: r).length 0 none = 0 := rfl
  unfold cutD
  rw [e1, e0]
  rfl
theorem lay_ints : ∀ {l : List Nat}, PyData.canLayAll0 (l.map fun (c : Nat) => PyData.int (c : Int)) = true ∧ PyData.depthAll (l.map fun (c : Nat) => PyData.int (c : Int)) = 0
  | [] => ⟨rfl, rfl⟩
  | c :: r => by
    obtain ⟨a, b⟩ := lay_ints (l := r)
    refine ⟨a, ?_⟩
    show max (PyData.depth (.int c)) (PyData.depthAll (r.map fun (c : Nat) => PyData.int (c : Int))) = 0
    rw [b] <;> rfl
namespace K01
def wr (ps : Ps) : List Nat := (ps.filter fun p => !okP p.2).map (·.1)
theorem bad_wr (ps : Ps) : bad ps = (wr ps).head? := by
  unfold bad wr
  rw [List.head?_map, List.head?_filter]
theorem bad_none {ps : Ps} (h : bad ps = none) : ∀ p ∈ ps, okP p.2 = true := by
  intro p hp
  have : ps.find? (fun p => !okP p.2) = none := by
    unfold bad at h
    simpa using h
  have := List.find?_eq_none.mp this p hp
  simpa using this
theorem scan_small {k : Nat} {l : List Nat} {ps : Ps} (h : Scan k l ps) : ps.length ≤ l.length := by
  induction h with
  | nil => exact Nat.le_refl _
  | blank h ih => simp; omega
  | run hc h ih =>
    rename_i k c r ps
    rw [List.length_drop] at ih
    have : 1 ≤ (tw (c :: r)).length := by rw [tw_in hc]; simp
    simp only [List.length_cons] at ih ⊢
    omega
  | sign hb hc h ih => simp; omega
theorem due_of {cs : List Nat} {ps : Ps} {Φ : Val → List Slot → Prop} (hcs : cs.length ≤ 50000) (hcp : ∀ c ∈ cs, c < 1114112) (h : Scan 0 cs ps) (q : Φ (.d (due ps)) [.dat (.str (mkS cs))]) : pF f__law_due [.dat (.str (mkS cs))] Φ := by
  have hps := scan_small h
  refine pf_fn ?_
  unfold b__law_due
  simp
  refine ws_asg ?_
  simp
  refine law_tokens hcs hcp h ?_
  simp
  refine ws_asg ?_
  simp
  refine we_lc ?_
  simp
  refine ⟨rfl, ?_⟩
  refine wc_ind (J := fun es ρ acc => ∃ pre post : Ps, ps = pre ++ post ∧ es = post.map lp ∧ acc = (wr pre).map (fun (c : Nat) => PyData.int (c : Int)) ∧ ρ = [some (.dat (.str (mkS cs))), some (.dat (.list (ps.map lp))), none, none, none])
    (fun d es ρ acc hJ => ?_) (fun ρ acc hJ => ?_) _ _ _ ⟨[], ps, rfl, rfl, rfl, rfl⟩
  · obtain ⟨pre, post, h1, h2, rfl, rfl⟩ := hJ
    cases post with
    | nil => cases h2
    | cons p post =>
      simp only [List.map_cons, List.cons.injEq] at h2
      obtain ⟨rfl, rfl⟩ := h2
      have hlen := congrArg List.length h1
      simp only [List.length_append, List.length_cons] at hlen
      have hf : (wr pre).length ≤ pre.length := by
        unfold wr
        rw [List.length_map]
        exact List.length_filter_le _ _
      simp [lp]
      cases e : okP p.2 with
      | true =>
        simp [isNoneD]
        exact ⟨pre ++ [p], post, by simp [h1], rfl, by simp [wr, List.filter_append, e], rfl⟩
      | false =>
        simp [isNoneD]
        exact ⟨by omega, pre ++ [p], post, by simp [h1], rfl, by simp [wr, List.filter_append, e], rfl⟩
  · obtain ⟨pre, post, h1, h2, rfl, rfl⟩ := hJ
    have e : post = [] := by cases post with
      | nil => rfl
      | cons z r => cases h2
    subst e
    rw [List.append_nil] at h1
    subst h1
    simp
    refine ws_ret ?_
    simp
    obtain ⟨l1, l2⟩ := lay_ints (l := wr ps)
    rw [gNe_empty l1 (by omega)]
    have hb := bad_wr ps
    simp
    cases e : wr ps with
    | cons k r =>
      rw [e] at hb
      simp
      simp [due, hb] at q
      exact q
    | nil =>
      rw [e] at hb
      have hb' : bad ps = none := hb
      have ok := bad_none hb'
      simp
      refine we_lc ?_
      simp
      refine ⟨rfl, ?_⟩
      refine wc_ind (J := fun es ρ acc => ∃ pre post : Ps, ps = pre ++ post ∧ es = post.map lp ∧ acc = toks pre ∧ ρ = [some (.dat (.str (mkS cs))), some (.dat (.list (ps.map lp))), some (.dat (.list [])), none, none])
        (fun d es ρ acc hJ => ?_) (fun ρ acc hJ => ?_) _ _ _ ⟨[], ps, rfl, rfl, rfl, rfl⟩
      · obtain ⟨pre, post, h1, h2, rfl, rfl⟩ := hJ
        cases post with
        | nil => cases h2
        | cons p post =>
          simp only [List.map_cons, List.cons.injEq] at h2
          obtain ⟨rfl, rfl⟩ := h2
          have hlen := congrArg List.length h1
          simp only [List.length_append, List.length_cons] at hlen
          have hf : (toks pre).length ≤ pre.length := by
            unfold toks fine
            rw [List.length_map]
            exact List.length_filter_le _ _
          have okp := ok p (by rw [h1]; simp)
          simp [lp, okp]
          by_cases c : p.2 = [10]
          · rw [if_pos c]
            exact ⟨pre ++ [p], post, by simp [h1], rfl, by simp [toks, fine, List.filter_append, c], rfl⟩
          · rw [if_neg c]
            exact ⟨by omega, pre ++ [p], post, by simp [h1], rfl, by simp [toks, fine, List.filter_append, c, tok], rfl⟩
      · obtain ⟨pre, post, h1, h2, rfl, rfl⟩ := hJ
        have e : post = [] := by cases post with
          | nil => rfl
          | cons z r => cases h2
        subst e
        rw [List.append_nil] at h1
        subst h1
        try simp
        simp [due, hb'] at q
        exact q
end K01
end DL
set_option Elab.async false
set_option linter.all false
set_option maxRecDepth 100000
set_option maxHeartbeats 4000000
set_option autoImplicit false
/-! K01Z: what is due can be shown; the pool. -/
namespace DL
open PySem PySem.Spec PyProof.Rows L2
theorem we_callL {ρ : Rh} {Φ : Val → Rh → Prop} {f : FM} {m : EM} (h : wE m ρ fun v ρ1 => lV v fun ds => pF f [.own ds] fun v _ => vD v fun d => Φ (.d d) ρ1) : wE (callL f m) ρ Φ := by
  unfold wE callL
  unfold wE at h
  cases e : m ρ with
  | exc x ρ1 => rw [e] at h; exact h.elim
  | stuck => rw [e] at h; exact h.elim
  | ok v ρ1 =>
    rw [e] at h
    cases v with
    | d d => exact h.elim
    | l ds =>
      dsimp only [lV_l] at h ⊢
      have h' : pF f [.own ds] fun v _ => vD v fun d => Φ (.d d) ρ1 := h
      unfold pF at h'
      cases e2 : f [.own ds] with
      | exc x s => rw [e2] at h'; exact h'.elim
      | stuck => rw [e2] at h'; exact h'.elim
      | ok v s =>
        rw [e2] at h'
        cases v with
        | l d => exact h'.elim
        | d d => exact h'
namespace K01
theorem int_weight {i : Nat} (h : i ≤ 50000) : PyData.weight (.int (i : Int)) ≤ 16 := by
  show (if (i : Int) == 0 then 0 else (i : Int).natAbs.log2 + 1) ≤ 16
  split
  · omega
  · rename_i z
    have h1 : (i : Int).natAbs = i := by omega
    rw [h1]
    have h2 : i ≠ 0 := by
      intro e
      subst e
      exact z rfl
    have : i.log2 < 16 := (Nat.log2_lt h2).mpr (by omega)
    omega
theorem int_short {i : Nat} (h : i ≤ 50000) : (Str.ofString (toString (i : Int))).length ≤ 13 := toString_length_le (by omega) (by decide) (by omega)
structure TP (p : Nat × List Nat) : Prop where
  at_ : p.1 ≤ 50000
  big : 1 ≤ p.2.length
  cps : ∀ c ∈ p.2, c < 1114112
def tot (ps : Ps) : Nat := (ps.map fun p => p.2.length).sum
theorem scan_tp {k : Nat} {l : List Nat} {ps : Ps} (h : Scan k l ps) : k + l.length ≤ 50000 → (∀ c ∈ l, c < 1114112) → (∀ p ∈ ps, TP p) ∧ tot ps ≤ l.length := by
  induction h with
  | nil => intro _ _; exact ⟨(fun p hp => nomatch hp), Nat.le_refl _⟩
  | blank h ih =>
    intro h1 h2
    simp only [List.length_cons] at h1
    obtain ⟨a, b⟩ := ih (by omega) fun c hc => h2 c (List.mem_cons_of_mem _ hc)
    exact ⟨a, by simp only [List.length_cons]; omega⟩
  | run hc h ih =>
    rename_i k c r ps
    intro h1 h2
    have tl := tw_len (c :: r)
    have tp : 1 ≤ (tw (c :: r)).length := by rw [tw_in hc]; simp
    obtain ⟨a, b⟩ := ih (by rw [List.length_drop]; omega) fun x hx => h2 x (List.mem_of_mem_drop hx)
    refine ⟨fun p hp => ?_, ?_⟩
    · rcases List.mem_cons.mp hp with rfl | hp
      · exact ⟨by omega, tp, fun x hx => by
          have q : tw (c :: r) ⊆ c :: r := List.takeWhile_subset _
          exact h2 x (q hx)⟩
      · exact a p hp
    · rw [List.length_drop] at b
      simp only [tot, List.map_cons, List.sum_cons] at b ⊢
      omega
  | sign hb hc h ih =>
    rename_i k c r ps
    intro h1 h2
    simp only [List.length_cons] at h1
    obtain ⟨a, b⟩ := ih (by omega) fun x hx => h2 x (List.mem_cons_of_mem _ hx)
    refine ⟨fun p hp => ?_, ?_⟩
    · rcases List.mem_cons.mp hp with rfl | hp
      · exact ⟨by omega, Nat.le_refl _, fun x hx => by
          rw [List.mem_singleton] at hx
          subst hx
          exact h2 _ List.mem_cons_self⟩
      · exact a p hp
    · simp only [tot, List.map_cons, List.sum_cons, List.length_cons, List.length_nil] at b ⊢
      omega
theorem strOk_mk {l : List Nat} (h : ∀ c ∈ l, c < 1114112) : PyData.strOk (mkS l) = true := by
  show (mkS l).cps.all (· < 0x110000) = true
  rw [Array.all_eq_true_iff_forall_mem]
  intro c hc
  have := h c (by simpa [mkS] using hc)
  simpa using this
theorem small_log {i : Nat} (h : i ≤ 50000) : decide ((i : Int).natAbs.log2 < 1920) = true := decide_eq_true (log_small (by omega) (by omega))
theorem toks_facts : ∀ {ps : Ps}, (∀ p ∈ ps, TP p) → PyData.canLayAll0 (ps.map tok) = true ∧ PyData.showableAll (ps.map tok) = true ∧ PyData.depthAll (ps.map tok) ≤ 1 ∧ PyData.intsShortAll 13 (ps.map tok) = true ∧ PyData.weightAll (ps.map tok) ≤ 20 * tot ps
  | [], _ => ⟨rfl, rfl, Nat.zero_le _, rfl, Nat.zero_le _⟩
  | p :: ps, h => by
    obtain ⟨a, b, c, d, e⟩ := toks_facts (ps := ps) fun q hq => h q (List.mem_cons_of_mem _ hq)
    obtain ⟨t1, t2, t3⟩ := h p List.mem_cons_self
    refine ⟨?_, ?_, ?_, ?_, ?_⟩
    · show (PyData.canLay0 (tok p) && PyData.canLayAll0 (ps.map tok)) = true
      rw [a]
      show ((true && (PyData.strOk (mkS p.2) && true)) && true) = true
      rw [strOk_mk t3] <;> rfl
    · show (PyData.showable (tok p) && PyData.showableAll (ps.map tok)) = true
      rw [b]
      show ((decide ((p.1 : Int).natAbs.log2 < 1920) && (true && true)) && true) = true
      rw [small_log t1] <;> rfl
    · show max (PyData.depth (tok p)) (PyData.depthAll (ps.map tok)) ≤ 1
      have : PyData.depth (tok p) = 1 := rfl
      omega
    · show (PyData.intsShort 13 (tok p) && PyData.intsShortAll 13 (ps.map tok)) = true
      rw [d]
      show ((decide ((Str.ofString (toString (p.1 : Int))).length ≤ 13) && (true && true)) && true) = true
      rw [decide_eq_true (int_short t1)] <;> rfl
    · show PyData.weight (tok p) + 1 + PyData.weightAll (ps.map tok) ≤ 20 * tot (p :: ps)
      have w : PyData.weight (tok p) = PyData.weight (.int (p.1 : Int)) + 1 + ((mkS p.2).length + 1 + 0) := rfl
      have w1 := int_weight t1
      simp only [tot, List.map_cons, List.sum_cons] at e ⊢
      rw [w, mkS_len]
      omega
theorem fine_tp {ps : Ps} (h : ∀ p ∈ ps, TP p) : ∀ p ∈ fine ps, TP p := fun p hp => h p (List.mem_filter.mp hp).1
theorem fine_tot : ∀ ps : Ps, tot (fine ps) ≤ tot ps
  | [] => Nat.le_refl _
  | p :: ps => by
    have ih := fine_tot ps
    by_cases c : p.2 = [10]
    · simp [fine, c, tot] at ih ⊢
      omega
    · simp [fine, c, tot] at ih ⊢
      omega
theorem repr_due {cs : List Nat} {ps : Ps} (hcs : cs.length ≤ 50000) (hcp : ∀ c ∈ cs, c < 1114112) (h : Scan 0 cs ps) : ∃ z, gRepr [due ps] = some (.str z) := by
  obtain ⟨tp, tt⟩ := scan_tp h (by omega) hcp
  have go : ∀ d : D, d.canLay0 = true → d.showable = true → d.depth ≤ 64 → d.intsShort 13 = true → d.weight ≤ 2 ^ 20 → ∃ z, gRepr [d] = some (.str z) := by
    intro d h1 h2 h3 h4 h5
    have hl : d.layable0 = true := by
      show (d.canLay0 && decide (d.depth ≤ 64) && decide (d.weight ≤ 2 ^ 20)) = true
      rw [h1, decide_eq_true h3, decide_eq_true h5] <;> rfl
    have := shown_le13 hl h4
    refine ⟨d.shown, ?_⟩
    show (if d.canLay0 && d.showable && decide (d.depth ≤ 64) && decide (d.shown.length ≤ 16777216) then some (PyData.str d.shown) else none) = _
    rw [if_pos (by rw [h1, h2, decide_eq_true h3, decide_eq_true (by omega)]; rfl)]
  unfold due
  cases e : bad ps with
  | some k =>
    have hk : k ≤ 50000 := by
      unfold bad at e
      rw [Option.map_eq_some_iff] at e
      obtain ⟨p, hp, rfl⟩ := e
      exact (tp p (List.mem_of_find?_eq_some hp)).at_
    refine go _ rfl ?_ (by show 0 + 1 ≤ 64; omega) ?_ ?_
    · show (decide ((k : Int).natAbs.log2 < 1920) && true) = true
      rw [small_log hk] <;> rfl
    · show (decide ((Str.ofString (toString (k : Int))).length ≤ 13) && true) = true
      rw [decide_eq_true (int_short hk)] <;> rfl
    · show PyData.weight (.int (k : Int)) + 1 + 0 ≤ 2 ^ 20
      have := int_weight hk
      omega
  | none =>
    obtain ⟨a, b, c, d, w⟩ := toks_facts (fine_tp tp)
    have ft := fine_tot ps
    refine go _ a b ?_ d ?_
    · show PyData.depthAll (toks ps) + 1 ≤ 64
      have : PyData.depthAll (toks ps) ≤ 1 := c
      omega
    · show PyData.weightAll (toks ps) ≤ 2 ^ 20
      have : PyData.weightAll (toks ps) ≤ 20 * tot (fine ps) := w
      omega
@[simp] theorem gLen_scr {ns : List Int} : gLen [scr ns] = some (.int (ns.length : Nat)) := by
  show some (PyData.int (((ns.map fun n => (PyData.int n, PyData.none)).length : Nat) : Int)) = _
  rw [List.length_map]
theorem roInts_scr {ns : List Int} : roInts (ns.map fun n => (PyData.int n, PyData.none)) = ns.map PyData.int := by simp [roInts]
theorem gIx_scr {ns : List Int} {i : Nat} (h : i < ns.length) : gIx (scr ns) (.int i) = some (.int ns[i]) := by
  show atI (roInts (ns.map fun n => (PyData.int n, PyData.none))) (i : Int) = _
  rw [roInts_scr]
  exact atI_nat (by rw [List.getElem?_map, List.getElem?_eq_getElem h] <;> rfl)
theorem gSl_scr {ns : List Int} {l h : Option Int} : gSl (scr ns) l h = some (.list (cutD (ns.map PyData.int) l h)) := by
  show some (PyData.list (cutD (roInts (ns.map fun n => (PyData.int n, PyData.none))) l h)) = _
  rw [roInts_scr]
theorem pool {ns : List Int} {t : Nat} {Φ : Val → List Slot → Prop} (ht : t ≤ 100) (q : ∀ ps, Good ps → Φ (.l ps) [.dat (scr ns), .dat (.int t)]) : pF f__law_pool [.dat (scr ns), .dat (.int t)] Φ := by
  refine pf_fn ?_
  unfold b__law_pool
  simp
  refine ws_par ?_
  have tail : ∀ (own : Int), wS (seqM (forM (seqI (slM (varM 0) (noPartM) (partM (conM (.int 63))))) (nameT 4) (asgM (nameT 3) (op2 gMod (opL gInt (consL (op2 gAdd (op2 gAdd (op2 gMulA (varM 3) (conM (.int 48271))) (op2 gMod (opL gInt (consL (varM 4) (nilL))) (conM (.int 2147483549)))) (conM (.int 551))) (nilL))) (conM (.int 2147483549))))) (retM (lstO (consL (op2 gMod (opL gInt (consL (op2 gAdd (varM 3) (op2 gMulA (varM 2) (conM (.int 1013)))) (nilL))) (conM (.int 2147483549))) (consL (iteM (orM (op2 gLt (varM 2) (conM (.int 0))) (op2 gGe (varM 2) (op2 gPow (conM (.int 10)) (conM (.int 18))))) (opL gAbs (consL (varM 2) (nilL))) (conM (.int 0))) (consL (conM (.int 0)) (nilL))))))) [some (.dat (scr ns)), some (.dat (.int t)), some (.dat (.int own)), some (.dat (.int (1032204 + 5087 * (t : Int)))), none]
      (retK [] [.dat (scr ns), .dat (.int t)] Φ) := by
    intro own
    simp
    refine ws_for ?_
    simp [gSl_scr]
    refine ws_forN (J := fun es ρ => (∀ d ∈ es, ∃ i : Int, d = .int i) ∧ ∃ (s : Int) (x : Option Slot), ρ = [some (.dat (scr ns)), some (.dat (.int t)), some (.dat (.int own)), some (.dat (.int s)), x])
      (fun d r ρ hJ => ?_) (fun ρ hJ => ?_) _ _ ⟨fun d hd => ?_, _, _, rfl⟩
    · obtain ⟨hd, s, x, rfl⟩ := hJ
      obtain ⟨i, rfl⟩ := hd d List.mem_cons_self
      simp
      refine ws_asg ?_
      simp
      exact fun d hd' => hd d (List.mem_cons_of_mem _ hd')
    · obtain ⟨_, s, x, rfl⟩ := hJ
      simp
      refine ws_ret ?_
      simp
      have h1 : (0 : Int) ≤ (s + own * 1013) % 2147483549 := Int.emod_nonneg _ (by decide)
      split
      · exact q _ ⟨_, _, _, rfl, h1, by first | omega | (split <;> omega)⟩
      · split
        · exact q _ ⟨_, _, _, rfl, h1, by first | omega | (split <;> omega)⟩
        · exact q _ ⟨_, _, _, rfl, h1, by omega⟩
    · have hd' : d ∈ ns.map PyData.int := List.mem_of_mem_drop (List.mem_of_mem_take hd)
      obtain ⟨i, _, rfl⟩ := List.mem_map.mp hd'
      exact ⟨i, rfl⟩
  simp
  by_cases c : t < ns.length
  · rw [if_pos c, gIx_scr (by omega)]
    simp
    simpa using tail _
  · rw [if_neg c]
    simpa using tail _
end K01
end DL
set_option Elab.async false
set_option linter.all false
set_option maxRecDepth 100000
set_option maxHeartbeats 4000000
set_option autoImplicit false
/-! K01L: the law. -/
namespace DL
open PySem PySem.Spec PyProof.Rows L2
@[simp] theorem gRepr_of {d : D} {z : Str} {P : D → Prop} (h : gRepr [d] = some (.str z)) : oP (gRepr [d]) P ↔ P (.str z) := by rw [h]; rfl
theorem pF_of {f : FM} {ss ss' : List Slot} {v : Val} {Φ : Val → List Slot → Prop} (h : f ss = .ok v ss') (q : Φ v ss') : pF f ss Φ := by
  unfold pF
  rw [h]
  exact q
namespace K01
def scanF : Nat → Nat → List Nat → Ps
  | 0, _, _ => []
  | _ + 1, _, [] => []
  | n + 1, k, c :: r => if c = 32 then scanF n (k + 1) r else if c ∈ RS then (k, tw (c :: r)) :: scanF n (k + (tw (c :: r)).length) ((c :: r).drop (tw (c :: r)).length) else (k, [c]) :: scanF n (k + 1) r
theorem scanF_ok : ∀ (n k : Nat) (l : List Nat), l.length ≤ n → Scan k l (scanF n k l)
  | 0, k, [], _ => .nil
  | n + 1, k, [], _ => .nil
  | 0, k, c :: r, h => by simp at h
  | n + 1, k, c :: r, h => by
    simp only [List.length_cons] at h
    unfold scanF
    by_cases hb : c = 32
    · subst hb
      rw [if_pos rfl]
      exact .blank (scanF_ok n (k + 1) r (by omega))
    · rw [if_neg hb]
      by_cases hc : c ∈ RS
      · rw [if_pos hc]
        exact .run hc (scanF_ok n _ _ (by
          rw [List.length_drop, tw_in hc]
          simp only [List.length_cons]
          omega))
      · rw [if_neg hc]
        exact .sign hb hc (scanF_ok n (k + 1) r (by omega))
def dueOf (z : Str) : D := due (scanF z.cps.toList.length 0 z.cps.toList)
theorem told_of {z : Str} {b : Bool} (hz : z.length ≤ 50000) : f__law_told [.dat (.str z), .dat (.bool b)] = .ok (.d (dueOf z)) [.dat (.str z), .dat (.bool b)] := by
  have h := scanF_ok _ 0 z.cps.toList (Nat.le_refl _)
  have hl : z.cps.toList.length ≤ 50000 := by simpa [Str.length] using hz
  have q := told (b := b) hl (Nat.le_trans (scan_small h) hl) h
  rw [← mkS_of z] at q
  exact q
theorem due_text {z : Str} {Φ : Val → List Slot → Prop} (hz : Tx 50000 z) (q : Φ (.d (dueOf z)) [.dat (.str z)]) : pF f__law_due [.dat (.str z)] Φ := by
  have h := scanF_ok _ 0 z.cps.toList (Nat.le_refl _)
  have hl : z.cps.toList.length ≤ 50000 := by simpa [Str.length] using hz.1
  have e := mkS_of z
  have q' := due_of (Φ := Φ) hl hz.2 h (by rw [← e]; exact q)
  rw [← e] at q'
  exact q'
theorem repr_text {z : Str} (hz : Tx 50000 z) : ∃ y, gRepr [dueOf z] = some (.str y) := by
  have h := scanF_ok _ 0 z.cps.toList (Nat.le_refl _)
  have hl : z.cps.toList.length ≤ 50000 := by simpa [Str.length] using hz.1
  exact repr_due hl hz.2 h
def things : List D := [.none, .int 0, .tuple [], .list [], .dict [], .bool true, .tuple [.str "a = 1\n"]]
theorem things_told : ∀ d ∈ things, f__law_told [.dat d, .dat (.bool false)] = .ok (.d (.list [.none])) [.dat d, .dat (.bool false)] := by
  intro d hd
  simp only [things, List.mem_cons, List.not_mem_nil, or_false] at hd
  rcases hd with rfl | rfl | rfl | rfl | rfl | rfl | rfl <;> exact told_exc (ss := [.dat _]) rfl
def texts : List Str := ["a=1 +b\n", "", "a = 01\n", "ab9 C", "9a"]
def wanted : List D := [.tuple [.tuple [.int 0, .str "a"], .tuple [.int 1, .str "="], .tuple [.int 2, .str "1"], .tuple [.int 4, .str "+"], .tuple [.int 5, .str "b"]], .tuple [], .list [.int 4], .list [.int 4], .list [.int 0]]
theorem texts_due : eqB (.list (texts.map dueOf)) (.list wanted) = some true := by decide +kernel
theorem texts_len : ∀ z ∈ texts, z.length ≤ 50000 := by decide +kernel
theorem right {ps : List D} {Φ : Val → List Slot → Prop} (G : Good ps) (q : ∀ ps', Φ (.d (.bool true)) [.own ps']) : pF f__law_right [.own ps] Φ := by
  refine pf_fn ?_
  unfold b__law_right
  simp
  refine ws_for (wi_rng1 ?_)
  simp
  refine ws_forN (J := fun es ρ => ∃ (ps : List D) (x1 x2 x3 : Option Slot), Good ps ∧ ρ = [some (.own ps), x1, x2, x3, none]) (fun d r ρ hJ => ?_) (fun ρ hJ => ?_) _ _ ⟨ps, none, none, none, G, rfl⟩
  · obtain ⟨ps, x1, x2, x3, Gp, rfl⟩ := hJ
    simp
    refine ws_asg ?_
    simp
    refine any_plan Gp fun rows ps1 hl hr G1 => ?_
    simp
    refine text_of hl hr fun z hz => ?_
    simp
    refine ws_for (wi_rng1 ?_)
    simp
    refine ws_forN (J := fun es ρ => ∃ (ps : List D) (z : Str) (x1 x3 : Option Slot), Good ps ∧ es.length ≤ 4 ∧ Tx (30000 + 31 * (4 - es.length)) z ∧ ρ = [some (.own ps), x1, some (.dat (.str z)), x3, none]) (fun d r ρ hJ => ?_) (fun ρ hJ => ?_) _ _ ⟨ps1, z, _, x3, G1, by rw [rangeD_length]; omega, hz.mono (by omega), rfl⟩
    · obtain ⟨ps, z, x1, x3, Gp, he, hz, rfl⟩ := hJ
      simp only [List.length_cons] at he hz
      have hz' : Tx 50000 z := hz.mono (by omega)
      obtain ⟨y, hy⟩ := repr_text hz'
      simp
      refine ws_if ?_
      simp
      refine draw Gp (by decide) (by omega) fun m ps2 m0 m1 G2 => ?_
      simp
      refine pF_of (told_of hz'.1) ?_
      simp
      rw [hy]
      simp
      refine due_text hz' ?_
      simp
      rw [hy]
      simp
      refine ws_asg ?_
      simp
      refine turned G2 hz (by omega) fun y ps3 ty G3 => ?_
      simp
      exact ⟨ps3, G3, by omega, ty.mono (by omega), rfl⟩
    · obtain ⟨ps, z, x1, x3, Gp, he, hz, rfl⟩ := hJ
      simp
      exact Gp
  · obtain ⟨ps, x1, x2, x3, Gp, rfl⟩ := hJ
    simp
    refine ws_for ?_
    simp
    refine ws_forN (J := fun es ρ => (∀ d ∈ es, d ∈ things) ∧ ∃ x4, ρ = [some (.own ps), x1, x2, x3, x4]) (fun d r ρ hJ => ?_) (fun ρ hJ => ?_) _ _ ⟨fun d hd => hd, none, rfl⟩
    · obtain ⟨hd, x4, rfl⟩ := hJ
      simp
      refine ws_if ?_
      simp
      refine pF_of (things_told d (hd d List.mem_cons_self)) ?_
      simp
      refine oP_of (a := .bool false) (by rfl) ?_
      simp
      exact fun d hd' => hd d (List.mem_cons_of_mem _ hd')
    · obtain ⟨_, x4, rfl⟩ := hJ
      simp
      refine ws_forget ?_
      simp
      refine ws_ret ?_
      simp
      refine we_lc ?_
      simp
      refine ⟨rfl, ?_⟩
      refine wc_ind (J := fun es ρ acc => ∃ pre post : List Str, texts = pre ++ post ∧ es = post.map PyData.str ∧ acc = pre.map dueOf ∧ ρ = [some (.own ps), x1, none, x3, x4])
        (fun d es ρ acc hJ => ?_) (fun ρ acc hJ => ?_) _ _ _ ⟨[], texts, rfl, rfl, rfl, rfl⟩
      · obtain ⟨pre, post, h1, h2, rfl, rfl⟩ := hJ
        cases post with
        | nil => cases h2
        | cons z post =>
          simp only [List.map_cons, List.cons.injEq] at h2
          obtain ⟨rfl, rfl⟩ := h2
          have hlen := congrArg List.length h1
          simp only [List.length_append, List.length_cons] at hlen
          have e5 : texts.length = 5 := rfl
          simp
          refine ⟨by omega, pF_of (told_of (texts_len z (by rw [h1]; simp))) ?_⟩
          simp
          exact ⟨pre ++ [z], post, by simp [h1], rfl, by simp, rfl⟩
      · obtain ⟨pre, post, h1, h2, rfl, rfl⟩ := hJ
        have e : post = [] := by cases post with
          | nil => rfl
          | cons z r => cases h2
        subst e
        rw [List.append_nil] at h1
        subst h1
        simp
        refine oP_of (a := .bool true) (by
          show (eqB (.list (texts.map dueOf)) (.list wanted)).map PyData.bool = _
          rw [texts_due] <;> rfl) ?_
        exact q _
theorem truth : ∀ ns : List Int, ns.length ≤ 63 → ∃ ss, f_law [.dat (scr ns)] = .ok (.d (.bool true)) ss := by
  intro ns hns
  have main : pF f_law [.dat (scr ns)] fun v _ => v = .d (.bool true) := by
    refine pf_fn ?_
    unfold b_law
    simp
    refine ws_for (wi_rng1 ?_)
    simp
    refine ⟨?_, ?_⟩
    · split <;> split <;> omega
    · refine ws_forN (J := fun es ρ => (∀ d ∈ es, ∃ t : Nat, d = .int t ∧ t ≤ 100) ∧ ∃ x, ρ = [some (.dat (scr ns)), x]) (fun d r ρ hJ => ?_) (fun ρ hJ => ?_) _ _ ⟨fun d hd => ?_, none, rfl⟩
      · obtain ⟨hd, x, rfl⟩ := hJ
        obtain ⟨t, rfl, ht⟩ := hd d List.mem_cons_self
        simp
        refine ws_if ?_
        simp
        refine we_callL ?_
        simp
        refine pool ht fun ps Gp => ?_
        simp
        refine right Gp fun ps' => ?_
        simp
        exact fun d hd' => hd d (List.mem_cons_of_mem _ hd')
      · obtain ⟨_, x, rfl⟩ := hJ
        simp
        refine ws_ret ?_
        simp
      · unfold rangeD at hd
        obtain ⟨k, hk, rfl⟩ := List.mem_map.mp hd
        refine ⟨k, by simp, ?_⟩
        have hk' := List.mem_range.mp hk
        revert hk'
        split <;> split <;> intro hk' <;> omega
  unfold pF at main
  cases e : f_law [.dat (scr ns)] with
  | ok v ss =>
    rw [e] at main
    exact ⟨ss, by rw [main]⟩
  | exc x ss => rw [e] at main; exact main.elim
  | stuck => rw [e] at main; exact main.elim
end K01
end DL
set_option Elab.async false
set_option linter.all false
set_option maxRecDepth 100000
set_option maxHeartbeats 2000000
open PySem PySem.W PyProof.Rows
set_option maxRecDepth 100000 in
set_option maxHeartbeats 0 in
theorem PySem.Challenge.cw_rootplans_k01_whole_tokens_holds : PySem.Challenge.rw_rootplans_k01_whole_tokens.Holds := by
  w_on; o_law; k_head; (case hw => w_witness2)
  k_fill
  refine DL.walkD (l := PySem.Challenge.rw_rootplans_k01_whole_tokens) (n := 63) (k := 28) (x := "script") (m := DL.K01.f_law) rfl (by decide) rfl ⟨rfl, by decide, by decide⟩ (fun w h Y => PySem.W.kIn_of Y) DL.K01.truth ?F
  case F =>
    intro w mg h KX G base _ _
    refine DL.K01.at_law ?_
    refine' DL.K01.all_mk KX G ?a0 ?l0 ?c0 ?k0 ?a1 ?l1 ?c1 ?k1 ?a2 ?l2 ?c2 ?k2 ?a3 ?l3 ?c3 ?k3 ?a4 ?l4 ?c4 ?k4 ?a5 ?l5 ?c5 ?k5 ?a6 ?l6 ?c6 ?k6 ?a7 ?l7 ?c7 ?k7 ?a8 ?l8 ?c8 ?k8 ?a9 ?l9 ?c9 ?k9 ?a10 ?l10 ?c10 ?k10 ?a11 ?l11 ?c11 ?k11 ?a12 ?l12 ?c12 ?k12 ?a13 ?l13 ?c13 ?k13 ?a14 ?l14 ?c14 ?k14 ?a15 ?l15 ?c15 ?k15 ?a16 ?l16 ?c16 ?k16 ?a17 ?l17 ?c17 ?k17 ?a18 ?l18 ?c18 ?k18 ?a19 ?l19 ?c19 ?k19 ?a20 ?l20 ?c20 ?k20 ?a21 ?l21 ?c21 ?k21 ?a22 ?l22 ?c22 ?k22 ?a23 ?l23 ?c23 ?k23 ?a24 ?l24 ?c24 ?k24 ?a25 ?l25 ?c25 ?k25 ?a26 ?l26 ?c26 ?k26 ?a27 ?l27 ?c27 ?k27 ?a28 ?l28 ?c28 ?k28 ?a29 ?l29 ?c29 ?k29 ?a30 ?l30 ?c30 ?k30 ?z_abs ?z_all ?z_bool ?z_divmod ?z_int ?z_isinstance ?z_len ?z_max ?z_min ?z_range ?z_repr ?z_str ?z_tuple ?g_BLANK_ ?g_FIGURES_ ?g_LINE_END_ ?g_MOST_FIGURES_ ?g_MOST_SIGNS_ ?g_RUN_SIGNS_ ?g_SIGNS_ ?g_WORDS_ ?gl_WORDS ?aC_InvalidText ?aB_InvalidText ?xL_InvalidText ?sa_InvalidText ?ga_InvalidText ?gg_InvalidText ?nf_InvalidText ?ii_InvalidText ?ti_InvalidText ?li_InvalidText ?ci_InvalidText ?ki_InvalidText ?kC_InvalidText ?eC_InvalidText ?tC_InvalidText ?hC_InvalidText ?iC_InvalidText ?sC_InvalidText ?cc_InvalidText ?sg_InvalidText ?tk_InvalidText ?mo_InvalidText ?kb1_InvalidText ?kb2_InvalidText ?kb3_InvalidText ?kv_InvalidText ?zV
    (case a0 => k_is)
    (case l0 => k_is)
    (case c0 => k_is)
    (case k0 => k_is)
    (case a1 => k_is)
    (case l1 => k_is)
    (case c1 => k_is)
    (case k1 => k_is)
    (case a2 => k_is)
    (case l2 => k_is)
    (case c2 => k_is)
    (case k2 => k_is)
    (case a3 => k_is)
    (case l3 => k_is)
    (case c3 => k_is)
    (case k3 => k_is)
    (case a4 => k_is)
    (case l4 => k_is)
    (case c4 => k_is)
    (case k4 => k_is)
    (case a5 => k_is)
    (case l5 => k_is)
    (case c5 => k_is)
    (case k5 => k_is)
    (case a6 => k_is)
    (case l6 => k_is)
    (case c6 => k_is)
    (case k6 => k_is)
    (case a7 => k_is)
    (case l7 => k_is)
    (case c7 => k_is)
    (case k7 => k_is)
    (case a8 => k_is)
    (case l8 => k_is)
    (case c8 => k_is)
    (case k8 => k_is)
    (case a9 => k_is)
    (case l9 => k_is)
    (case c9 => k_is)
    (case k9 => k_is)
    (case a10 => k_is)
    (case l10 => k_is)
    (case c10 => k_is)
    (case k10 => k_is)
    (case a11 => k_is)
    (case l11 => k_is)
    (case c11 => k_is)
    (case k11 => k_is)
    (case a12 => k_is)
    (case l12 => k_is)
    (case c12 => k_is)
    (case k12 => k_is)
    (case a13 => k_is)
    (case l13 => k_is)
    (case c13 => k_is)
    (case k13 => k_is)
    (case a14 => k_is)
    (case l14 => k_is)
    (case c14 => k_is)
    (case k14 => k_is)
    (case a15 => k_is)
    (case l15 => k_is)
    (case c15 => k_is)
    (case k15 => k_is)
    (case a16 => k_is)
    (case l16 => k_is)
    (case c16 => k_is)
    (case k16 => k_is)
    (case a17 => k_is)
    (case l17 => k_is)
    (case c17 => k_is)
    (case k17 => k_is)
    (case a18 => k_is)
    (case l18 => k_is)
    (case c18 => k_is)
    (case k18 => k_is)
    (case a19 => k_is)
    (case l19 => k_is)
    (case c19 => k_is)
    (case k19 => k_is)
    (case a20 => k_is)
    (case l20 => k_is)
    (case c20 => k_is)
    (case k20 => k_is)
    (case a21 => k_is)
    (case l21 => k_is)
    (case c21 => k_is)
    (case k21 => k_is)
    (case a22 => k_is)
    (case l22 => k_is)
    (case c22 => k_is)
    (case k22 => k_is)
    (case a23 => k_is)
    (case l23 => k_is)
    (case c23 => k_is)
    (case k23 => k_is)
    (case a24 => k_is)
    (case l24 => k_is)
    (case c24 => k_is)
    (case k24 => k_is)
    (case a25 => k_is)
    (case l25 => k_is)
    (case c25 => k_is)
    (case k25 => k_is)
    (case a26 => k_is)
    (case l26 => k_is)
    (case c26 => k_is)
    (case k26 => k_is)
    (case a27 => k_is)
    (case l27 => k_is)
    (case c27 => k_is)
    (case k27 => k_is)
    (case a28 => k_is)
    (case l28 => k_is)
    (case c28 => k_is)
    (case k28 => k_is)
    (case a29 => k_is)
    (case l29 => k_is)
    (case c29 => k_is)
    (case k29 => k_is)
    (case a30 => k_is)
    (case l30 => k_is)
    (case c30 => k_is)
    (case k30 => k_is)
    (case z_abs => k_is)
    (case z_all => k_is)
    (case z_bool => k_is)
    (case z_divmod => k_is)
    (case z_int => k_is)
    (case z_isinstance => k_is)
    (case z_len => k_is)
    (case z_max => k_is)
    (case z_min => k_is)
    (case z_range => k_is)
    (case z_repr => k_is)
    (case z_str => k_is)
    (case z_tuple => k_is)
    (case g_BLANK_ => k_is)
    (case g_FIGURES_ => k_is)
    (case g_LINE_END_ => k_is)
    (case g_MOST_FIGURES_ => k_is)
    (case g_MOST_SIGNS_ => k_is)
    (case g_RUN_SIGNS_ => k_is)
    (case g_SIGNS_ => k_is)
    (case g_WORDS_ => k_is)
    (case gl_WORDS => k_is)
    (case aC_InvalidText => k_is)
    (case aB_InvalidText => k_is)
    (case xL_InvalidText => k_is)
    (case sa_InvalidText => k_is)
    (case ga_InvalidText => k_is)
    (case gg_InvalidText => k_is)
    (case nf_InvalidText => k_is)
    (case ii_InvalidText => k_is)
    (case ti_InvalidText => k_is)
    (case li_InvalidText => k_is)
    (case ci_InvalidText => k_is)
    (case ki_InvalidText => k_is)
    (case kC_InvalidText => k_is)
    (case eC_InvalidText => k_is)
    (case tC_InvalidText => k_is)
    (case hC_InvalidText => k_is)
    (case iC_InvalidText => k_is)
    (case sC_InvalidText => first | rfl | k_is)
    (case cc_InvalidText => k_is)
    (case sg_InvalidText => k_is)
    (case tk_InvalidText => k_is)
    (case mo_InvalidText => k_is)
    (case kb1_InvalidText => k_is)
    (case kb2_InvalidText => k_is)
    (case kb3_InvalidText => k_is)
    (case kv_InvalidText => k_is)
    (case zV => k_is)
#print axioms PySem.Challenge.cw_rootplans_k01_whole_tokens_holds
