import PyProof.Rows.All
import HandS.ForMost
import HandS.Wide
import HandS.IsInst
import HandS.Zip
import HandS.Conv
import HandS.TupAny
import KE.GoesEnum
import HandS.SortInts
import HandS.DictComp
import HandS.SetFor
import HandS.Strs
import PySem.Challenge.RW_mapwalked_k01_misfits_late
set_option Elab.async false
set_option linter.all false
set_option maxRecDepth 100000
set_option maxHeartbeats 4000000
noncomputable section
namespace Pw
open PySem PySem.Spec L2
open PyProof.Rows hiding St
/-! Pw: plain values over the hand layer. A def's body has a denotation, a function on plain values that Lean can run; each rule says that a piece of syntax does what its denotation tells. -/
/-- plain values -/
inductive PV where
  | non | bl (b : Bool) | int (i : Int) | str (s : Str) | ty (n : String) | tup (xs : List PV) | lst (xs : List PV) | scr (ns : List Int)
mutual
def Rep (K : PySem.W.Frag) (G : Hp) : V → PV → Prop
  | v, .non => v = .non
  | v, .bl b => v = .bl b
  | v, .int i => v = .int i
  | v, .str s => v = .str s
  | v, .ty n => v = .ty n
  | v, .tup xs => ∃ a vs, v = .ref a ∧ SqT K G a vs ∧ Reps K G vs xs
  | v, .lst xs => ∃ a vs, v = .ref a ∧ G a = some (.lst vs) ∧ Reps K G vs xs
  | v, .scr ns => ∃ a, v = .ref a ∧ SqL K G a (ns.map V.int)
def Reps (K : PySem.W.Frag) (G : Hp) : List V → List PV → Prop
  | vs, [] => vs = []
  | vs, x :: xs => ∃ v r, vs = v :: r ∧ Rep K G v x ∧ Reps K G r xs
end
theorem Same.seqT {K : PySem.W.Frag} {H H' : Hp} {a : Addr} {xs : List V} (e : Same H H') (h : SqT K H a xs) : SqT K H' a xs := by
  rcases h with (h | ⟨o, h⟩) | h
  · exact .inl (.inl (e _ _ h))
  · exact .inl (.inr ⟨o, e _ _ h⟩)
  · exact .inr h
mutual
theorem Rep.mono {K : PySem.W.Frag} {G G' : Hp} (s : Same G G') : ∀ {p : PV} {v : V}, Rep K G v p → Rep K G' v p
  | .non, v, h => h
  | .bl _, v, h => h
  | .int _, v, h => h
  | .str _, v, h => h
  | .ty _, v, h => h
  | .tup xs, v, h => by
    obtain ⟨a, vs, e, q, r⟩ := h
    exact ⟨a, vs, e, Same.seqT s q, Reps.mono s r⟩
  | .lst xs, v, h => by
    obtain ⟨a, vs, e, q, r⟩ := h
    exact ⟨a, vs, e, s _ _ q, Reps.mono s r⟩
  | .scr ns, v, h => by
    obtain ⟨a, e, q⟩ := h
    exact ⟨a, e, s.seq q⟩
theorem Reps.mono {K : PySem.W.Frag} {G G' : Hp} (s : Same G G') : ∀ {ps : List PV} {vs : List V}, Reps K G vs ps → Reps K G' vs ps
  | [], vs, h => h
  | p :: ps, vs, h => by
    obtain ⟨v, r, e, a, b⟩ := h
    exact ⟨v, r, e, Rep.mono s a, Reps.mono s b⟩
end
section
variable {K : PySem.W.Frag} {G : Hp}
theorem Reps.nil : Reps K G [] [] := rfl
theorem Reps.cons {v : V} {p : PV} {vs : List V} {ps : List PV} (a : Rep K G v p) (b : Reps K G vs ps) : Reps K G (v :: vs) (p :: ps) := ⟨v, vs, rfl, a, b⟩
theorem Reps.length : ∀ {ps : List PV} {vs : List V}, Reps K G vs ps → vs.length = ps.length
  | [], vs, h => by
    have e : vs = [] := h
    rw [e]
    rfl
  | p :: ps, vs, h => by
    obtain ⟨v, r, e, _, b⟩ := h
    rw [e, List.length_cons, List.length_cons, Reps.length b]
theorem Reps.get : ∀ {ps : List PV} {vs : List V} {i : Nat} {p : PV}, Reps K G vs ps → ps[i]? = some p → ∃ v, vs[i]? = some v ∧ Rep K G v p
  | [], _, _, _, _, e => by simp at e
  | q :: ps, vs, 0, p, h, e => by
    obtain ⟨v, r, rfl, a, _⟩ := h
    simp at e
    subst e
    exact ⟨v, rfl, a⟩
  | q :: ps, vs, i + 1, p, h, e => by
    obtain ⟨v, r, rfl, _, b⟩ := h
    obtain ⟨u, h1, h2⟩ := Reps.get (i := i) (p := p) b (by simpa using e)
    exact ⟨u, by simpa using h1, h2⟩
theorem Reps.getV {ps : List PV} {vs : List V} {i : Nat} {v : V} (h : Reps K G vs ps) (e : vs[i]? = some v) : ∃ p, ps[i]? = some p ∧ Rep K G v p := by
  have hl := h.length
  have hi : i < ps.length := by
    have := (List.getElem?_eq_some_iff.mp e).1
    omega
  obtain ⟨u, h1, h2⟩ := h.get (List.getElem?_eq_getElem hi)
  rw [e] at h1
  cases h1
  exact ⟨_, List.getElem?_eq_getElem hi, h2⟩
theorem Reps.append : ∀ {ps qs : List PV} {vs us : List V}, Reps K G vs ps → Reps K G us qs → Reps K G (vs ++ us) (ps ++ qs)
  | [], qs, vs, us, h, k => by
    have e : vs = [] := h
    rw [e]
    exact k
  | p :: ps, qs, vs, us, h, k => by
    obtain ⟨v, r, rfl, a, b⟩ := h
    exact ⟨v, r ++ us, rfl, a, Reps.append b k⟩
theorem Reps.take : ∀ {ps : List PV} {vs : List V} (n : Nat), Reps K G vs ps → Reps K G (vs.take n) (ps.take n)
  | [], vs, n, h => by
    have e : vs = [] := h
    rw [e]
    simp
    rfl
  | p :: ps, vs, 0, h => by
    simp
    rfl
  | p :: ps, vs, n + 1, h => by
    obtain ⟨v, r, rfl, a, b⟩ := h
    exact ⟨v, r.take n, rfl, a, Reps.take n b⟩
theorem Reps.drop : ∀ {ps : List PV} {vs : List V} (n : Nat), Reps K G vs ps → Reps K G (vs.drop n) (ps.drop n)
  | [], vs, n, h => by
    have e : vs = [] := h
    rw [e]
    simp
    rfl
  | p :: ps, vs, 0, h => h
  | p :: ps, vs, n + 1, h => by
    obtain ⟨v, r, rfl, a, b⟩ := h
    exact Reps.drop n b
theorem Reps.set : ∀ {ps : List PV} {vs : List V} {v : V} {p : PV} (n : Nat), Reps K G vs ps → Rep K G v p → Reps K G (vs.set n v) (ps.set n p)
  | [], vs, v, p, n, h, k => by
    have e : vs = [] := h
    rw [e]
    rfl
  | q :: ps, vs, v, p, 0, h, k => by
    obtain ⟨u, r, rfl, a, b⟩ := h
    exact ⟨v, r, rfl, k, b⟩
  | q :: ps, vs, v, p, n + 1, h, k => by
    obtain ⟨u, r, rfl, a, b⟩ := h
    exact ⟨u, r.set n v, rfl, a, Reps.set n b k⟩
theorem Reps.one {v : V} {p : PV} (h : Rep K G v p) : Reps K G [v] [p] := .cons h .nil
theorem Reps.reverse : ∀ {ps : List PV} {vs : List V}, Reps K G vs ps → Reps K G vs.reverse ps.reverse
  | [], vs, h => by
    have e : vs = [] := h
    rw [e]
    rfl
  | p :: ps, vs, h => by
    obtain ⟨v, r, rfl, a, b⟩ := h
    rw [List.reverse_cons, List.reverse_cons]
    exact (Reps.reverse b).append (.one a)
theorem Reps.dropLast {ps : List PV} {vs : List V} (h : Reps K G vs ps) : Reps K G vs.dropLast ps.dropLast := by
  rw [List.dropLast_eq_take, List.dropLast_eq_take, h.length]
  exact h.take _
theorem Reps.eraseIdx : ∀ {ps : List PV} {vs : List V} (n : Nat), Reps K G vs ps → Reps K G (vs.eraseIdx n) (ps.eraseIdx n)
  | [], vs, n, h => by
    have e : vs = [] := h
    rw [e]
    rfl
  | p :: ps, vs, 0, h => by
    obtain ⟨v, r, rfl, a, b⟩ := h
    exact b
  | p :: ps, vs, n + 1, h => by
    obtain ⟨v, r, rfl, a, b⟩ := h
    exact ⟨v, r.eraseIdx n, rfl, a, Reps.eraseIdx n b⟩
end
/-- what a mutable object holds -/
def Ob (K : PySem.W.Frag) (G H : Hp) (a : Addr) : PV → Prop
  | .lst xs => ∃ vs, H a = some (.lst vs) ∧ Reps K G vs xs
  | _ => False
/-- kinds of a slot that holds a mutable object: made here, given by the caller, held while it is walked -/
inductive Kd where
  | own | par | lck
  deriving DecidableEq
inductive Sl where
  | un | val (p : PV) | mu (k : Kd) (p : PV)
abbrev Ev := List Sl
/-- the slot i holds the mutable object at a -/
def At (Γ : Ev) (σ : St) (i : Nat) (k : Kd) (a : Addr) : Prop := ∃ p, Γ[i]? = some (.mu k p) ∧ σ[i]? = some (some (.ref a))
/-- what may be changed: the objects of slots that are not locked -/
def Foot (Γ : Ev) (σ : St) (a : Addr) : Prop := ∃ i k, k ≠ .lck ∧ At Γ σ i k a
def FootP (Γ : Ev) (σ : St) (a : Addr) : Prop := ∃ i, At Γ σ i .par a
/-- the plain slots stand for the slots -/
structure ER (K : PySem.W.Frag) (π : Nat → Addr) (G : Hp) (σ : St) (H : Hp) (Γ : Ev) : Prop where
  sub : Same G H
  len : Γ.length = σ.length
  val : ∀ (i : Nat) p, Γ[i]? = some (.val p) → ∃ v, σ[i]? = some (some v) ∧ Rep K G v p
  mu : ∀ (i : Nat) k p, Γ[i]? = some (.mu k p) → ∃ a, σ[i]? = some (some (.ref a)) ∧ G a = none ∧ Ob K G H a p ∧ (k = .par → a = π i)
  inj : ∀ i j k l a, At Γ σ i k a → At Γ σ j l a → i = j
/-- what has become of the heap: F may be changed or locked for good -/
structure Gr (F : Addr → Prop) (G H G' H' : Hp) : Prop where
  g : Same G G'
  h : ∀ a o, H a = some o → ¬ F a → H' a = some o
  f : ∀ a o, H a = some o → ¬ F a → G a = none → G' a = none
  k : ∀ a o, H a = some o → ∃ o', H' a = some o'
theorem Gr.refl {F : Addr → Prop} {G H : Hp} : Gr F G H G H := ⟨Same.refl _, fun _ _ e _ => e, fun _ _ _ _ e => e, fun _ o e => ⟨o, e⟩⟩
theorem Gr.trans {F F' : Addr → Prop} {G H G1 H1 G2 H2 : Hp} (a : Gr F G H G1 H1) (b : Gr F' G1 H1 G2 H2) (h : ∀ x, F' x → F x ∨ H x = none) : Gr F G H G2 H2 where
  g := a.g.trans b.g
  h := fun x o e n => b.h x o (a.h x o e n) fun z => (h x z).elim n fun q => by rw [e] at q; cases q
  f := fun x o e n q => b.f x o (a.h x o e n) (fun z => (h x z).elim n fun q => by rw [e] at q; cases q) (a.f x o e n q)
  k := fun x o e => by
    obtain ⟨o1, e1⟩ := a.k x o e
    exact b.k x o1 e1
theorem Gr.mono {F F' : Addr → Prop} {G H G1 H1 : Hp} (a : Gr F G H G1 H1) (h : ∀ x, F x → F' x) : Gr F' G H G1 H1 :=
  ⟨a.g, fun x o e n => a.h x o e fun z => n (h x z), fun x o e n => a.f x o e fun z => n (h x z), a.k⟩
theorem Gr.nothing {F : Addr → Prop} {G H G1 H1 : Hp} (a : Gr F G H G1 H1) {x : Addr} (h : H1 x = Option.none) : H x = Option.none := by
  cases q : H x with
  | none => rfl
  | some o =>
    obtain ⟨o', e⟩ := a.k x o q
    rw [h] at e
    cases e
/-- the objects that may be changed come from the earlier ones -/
structure Ft (Γ : Ev) (σ : St) (H : Hp) (Γ' : Ev) (σ' : St) : Prop where
  a : ∀ x, Foot Γ' σ' x → Foot Γ σ x ∨ H x = none
  p : ∀ x, FootP Γ' σ' x → FootP Γ σ x
theorem Ft.refl {Γ : Ev} {σ : St} {H : Hp} : Ft Γ σ H Γ σ := ⟨fun _ h => .inl h, fun _ h => h⟩
theorem Ft.trans {Γ Γ1 Γ2 : Ev} {σ σ1 σ2 : St} {H H1 : Hp} (a : Ft Γ σ H Γ1 σ1) (b : Ft Γ1 σ1 H1 Γ2 σ2) (h : ∀ x, H1 x = none → H x = none) : Ft Γ σ H Γ2 σ2 :=
  ⟨fun x z => (b.a x z).elim (a.a x) fun q => .inr (h x q), fun x z => a.p x (b.p x z)⟩
/-- results: a plain value, or a new object that nobody else holds -/
inductive Rs where
  | val (p : PV) | new (p : PV)
def Rs.pv : Rs → PV
  | .val p => p
  | .new p => p
def RR (K : PySem.W.Frag) (G H' : Hp) (ok : Addr → Prop) : V → Rs → Prop
  | v, .val p => Rep K G v p
  | v, .new p => ∃ a, v = .ref a ∧ ok a ∧ G a = none ∧ Ob K G H' a p
section
variable {K : PySem.W.Frag} {π : Nat → Addr} {G H G' H' : Hp} {σ : St} {Γ : Ev}
theorem Ob.mono {a : Addr} {p : PV} (h : Ob K G H a p) (s : Same G G') (e : H' a = H a) : Ob K G' H' a p := by
  cases p with
  | lst xs =>
    obtain ⟨vs, h1, h2⟩ := h
    exact ⟨vs, by rw [e, h1], h2.mono s⟩
  | _ => exact h.elim
theorem Ob.there {a : Addr} {p : PV} (h : Ob K G H a p) : ∃ o, H a = some o := by
  cases p with
  | lst xs =>
    obtain ⟨vs, h1, h2⟩ := h
    exact ⟨_, h1⟩
  | _ => exact h.elim
theorem ER.foot (E : ER K π G σ H Γ) {i : Nat} {k : Kd} {a : Addr} (h : At Γ σ i k a) : G a = none ∧ ∃ o, H a = some o := by
  obtain ⟨p, e, s⟩ := h
  obtain ⟨b, s', g, o, _⟩ := E.mu i k p e
  rw [s] at s'
  cases s'
  exact ⟨g, o.there⟩
/-- the heap grows, nothing of ours is touched -/
theorem ER.grow (E : ER K π G σ H Γ) {F : Addr → Prop} (g : Gr F G H G' H') (s : Same G' H') (hF : ∀ a i k, At Γ σ i k a → ¬ F a) : ER K π G' σ H' Γ where
  sub := s
  len := E.len
  val := fun i p e => by
    obtain ⟨v, h1, h2⟩ := E.val i p e
    exact ⟨v, h1, h2.mono g.g⟩
  mu := fun i k p e => by
    obtain ⟨a, h1, h2, h3, h4⟩ := E.mu i k p e
    obtain ⟨o, ho⟩ := h3.there
    have hn := hF a i k ⟨p, e, h1⟩
    exact ⟨a, h1, g.f a o ho hn h2, h3.mono g.g (by rw [g.h a o ho hn, ho]), h4⟩
  inj := E.inj
/-- a new object laid, locked for good -/
theorem gr_laid {F : Addr → Prop} {p : Addr} {o : HO} (s : Same G H) (n : H p = none) : Gr F G H (upd G p o) (upd H p o) ∧ Same (upd G p o) (upd H p o) := by
  have gn : G p = none := s.free n
  refine ⟨⟨fun a x e => ?_, fun a x e _ => ?_, fun a x e _ q => ?_, fun a x e => ⟨x, ?_⟩⟩, fun a x e => ?_⟩
  · rw [upd_ne (ne_of_none e gn)]
    exact e
  · rw [upd_ne (ne_of_none e n)]
    exact e
  · rw [upd_ne (ne_of_none e n)]
    exact q
  · rw [upd_ne (ne_of_none e n)]
    exact e
  · by_cases h : a = p
    · subst h
      rw [upd_same] at e ⊢
      exact e
    · rw [upd_ne h] at e ⊢
      exact s a x e
/-- a new object laid, still changeable -/
theorem gr_made {F : Addr → Prop} {p : Addr} {o : HO} (s : Same G H) (n : H p = none) : Gr F G H G (upd H p o) ∧ Same G (upd H p o) ∧ G p = none := by
  have gn : G p = none := s.free n
  refine ⟨⟨Same.refl _, fun a x e _ => ?_, fun a x e _ q => q, fun a x e => ⟨x, ?_⟩⟩, fun a x e => ?_, gn⟩
  · rw [upd_ne (ne_of_none e n)]
    exact e
  · rw [upd_ne (ne_of_none e n)]
    exact e
  · rw [upd_ne (ne_of_none e gn)]
    exact s a x e
/-- an object is locked for good -/
theorem gr_lock {F : Addr → Prop} {p : Addr} {o : HO} (s : Same G H) (h : H p = some o) (hF : F p) (gn : G p = none) : Gr F G H (upd G p o) H ∧ Same (upd G p o) H := by
  refine ⟨⟨fun a x e => ?_, fun a x e _ => e, fun a x e n q => ?_, fun a x e => ⟨x, e⟩⟩, fun a x e => ?_⟩
  · rw [upd_ne (ne_of_none e gn)]
    exact e
  · rw [upd_ne (fun z => by subst z; exact n hF)]
    exact q
  · by_cases z : a = p
    · subst z
      rw [upd_same] at e
      cases e
      exact h
    · rw [upd_ne z] at e
      exact s a x e
theorem Ob.rep {a : Addr} {p : PV} (h : Ob K G H a p) (gn : G a = none) : ∃ o, H a = some o ∧ Rep K (upd G a o) (.ref a) p := by
  cases p with
  | lst xs =>
    obtain ⟨vs, h1, h2⟩ := h
    refine ⟨_, h1, a, vs, rfl, upd_same, h2.mono fun b x e => ?_⟩
    rw [upd_ne (ne_of_none e gn)]
    exact e
  | _ => exact h.elim
theorem set_get {α : Type} {l : List α} {i j : Nat} {x y : α} (h : (l.set i x)[j]? = some y) : (i = j ∧ x = y) ∨ (i ≠ j ∧ l[j]? = some y) := by
  by_cases e : i = j
  · subst e
    by_cases hl : i < l.length
    · rw [List.getElem?_set_self hl] at h
      exact .inl ⟨rfl, Option.some.inj h⟩
    · rw [List.getElem?_eq_none (by simp; omega)] at h
      cases h
  · rw [List.getElem?_set_ne e] at h
    exact .inr ⟨e, h⟩
end
abbrev D (α : Type) := Ev → Option (α × Ev)
@[simp] def bnd {α β : Type} (f : D α) (k : α → D β) (Γ : Ev) : Option (β × Ev) := match f Γ with
  | some (x, Γ1) => k x Γ1
  | none => none
@[simp] def ret {α : Type} (x : α) (Γ : Ev) : Option (α × Ev) := some (x, Γ)
/-- a plain function that may fail -/
@[simp] def opt {α : Type} (o : Option α) (Γ : Ev) : Option (α × Ev) := match o with
  | some x => some (x, Γ)
  | none => none
theorem bnd_some {α β : Type} {f : D α} {k : α → D β} {Γ Γ2 : Ev} {y : β} (h : bnd f k Γ = some (y, Γ2)) : ∃ x Γ1, f Γ = some (x, Γ1) ∧ k x Γ1 = some (y, Γ2) := by
  unfold bnd at h
  cases e : f Γ with
  | none => rw [e] at h; cases h
  | some z =>
    obtain ⟨x, Γ1⟩ := z
    rw [e] at h
    exact ⟨x, Γ1, rfl, h⟩
theorem opt_some {α : Type} {o : Option α} {Γ Γ1 : Ev} {x : α} (h : opt o Γ = some (x, Γ1)) : o = some x ∧ Γ1 = Γ := by
  unfold opt at h
  cases o with
  | none => cases h
  | some z => cases h; exact ⟨rfl, rfl⟩
theorem ret_some {α : Type} {z x : α} {Γ Γ1 : Ev} (h : ret z Γ = some (x, Γ1)) : x = z ∧ Γ1 = Γ := by
  unfold ret at h
  cases h
  exact ⟨rfl, rfl⟩
/-- a step of an expression -/
structure Ste (K : PySem.W.Frag) (π : Nat → Addr) (σ : St) (G H : Hp) (Γ : Ev) (G' H' : Hp) (Γ' : Ev) : Prop where
  e : ER K π G' σ H' Γ'
  g : Gr (Foot Γ σ) G H G' H'
  f : ∀ i k a, At Γ' σ i k a → At Γ σ i k a
section
variable {K : PySem.W.Frag} {π : Nat → Addr} {σ : St} {G H G1 H1 G2 H2 : Hp} {Γ Γ1 Γ2 : Ev}
theorem Ste.refl (E : ER K π G σ H Γ) : Ste K π σ G H Γ G H Γ := ⟨E, .refl, fun _ _ _ h => h⟩
theorem Ste.trans (a : Ste K π σ G H Γ G1 H1 Γ1) (b : Ste K π σ G1 H1 Γ1 G2 H2 Γ2) : Ste K π σ G H Γ G2 H2 Γ2 :=
  ⟨b.e, a.g.trans b.g fun x ⟨i, k, n, h⟩ => .inl ⟨i, k, n, a.f i k x h⟩, fun i k x h => a.f i k x (b.f i k x h)⟩
/-- the heap grows, the slots stay -/
theorem Ste.grow (E : ER K π G σ H Γ) (g : Gr (fun _ => False) G H G1 H1) (s : Same G1 H1) : Ste K π σ G H Γ G1 H1 Γ :=
  ⟨E.grow g s fun _ _ _ _ z => z, g.mono fun _ z => z.elim, fun _ _ _ h => h⟩
end
def tV (K : PySem.W.Frag) (f : D PV) : TE := fun σ H Q => ∃ π G Γ v Γ', ER K π G σ H Γ ∧ f Γ = some (v, Γ') ∧ ∀ x G' H', Ste K π σ G H Γ G' H' Γ' → Rep K G' x v → Q x H'
def tR (K : PySem.W.Frag) (f : D Rs) : TE := fun σ H Q => ∃ π G Γ r Γ', ER K π G σ H Γ ∧ f Γ = some (r, Γ') ∧ ∀ x G' H', Ste K π σ G H Γ G' H' Γ' → RR K G' H' (fun a => H a = none) x r → Q x H'
/-- a value that is looked at and let go -/
def Pk (K : PySem.W.Frag) (G H : Hp) (x : V) (p : PV) : Prop := Rep K G x p ∨ ∃ a, x = .ref a ∧ Ob K G H a p
def tP (K : PySem.W.Frag) (f : D PV) : TE := fun σ H Q => ∃ π G Γ v Γ', ER K π G σ H Γ ∧ f Γ = some (v, Γ') ∧ ∀ x G' H', Ste K π σ G H Γ G' H' Γ' → Pk K G' H' x v → Q x H'
def tB (K : PySem.W.Frag) (f : D Bool) : TT := fun σ H Q => ∃ π G Γ b Γ', ER K π G σ H Γ ∧ f Γ = some (b, Γ') ∧ ∀ G' H', Ste K π σ G H Γ G' H' Γ' → Q b H'
def tL (K : PySem.W.Frag) (f : D (List PV)) : TA := fun σ H Q => ∃ π G Γ vs Γ', ER K π G σ H Γ ∧ f Γ = some (vs, Γ') ∧ ∀ xs G' H', Ste K π σ G H Γ G' H' Γ' → Reps K G' xs vs → Q xs H'
theorem _root_.L2.PE.imp {X : Cx} {e : Expr} {t t' : TE} (h : PE X e t) (i : ∀ σ H Q, t' σ H Q → t σ H Q) : PE X e t' := ⟨fun pins s σ H Q I q => h.run pins s σ H Q I (i σ H Q q)⟩
theorem _root_.L2.PT.imp {X : Cx} {e : Expr} {t t' : TT} (h : PT X e t) (i : ∀ σ H Q, t' σ H Q → t σ H Q) : PT X e t' := ⟨fun pins s σ H Q I q => h.run pins s σ H Q I (i σ H Q q)⟩
theorem _root_.L2.PW.imp {X : Cx} {e : Expr} {t t' : TT} (h : PW X e t) (i : ∀ σ H Q, t' σ H Q → t σ H Q) : PW X e t' := ⟨fun w pins s σ H Q I q => h.run w pins s σ H Q I (i σ H Q q)⟩
theorem _root_.L2.PA.imp {X : Cx} {e : List Expr} {t t' : TA} (h : PA X e t) (i : ∀ σ H Q, t' σ H Q → t σ H Q) : PA X e t' := ⟨fun pos pins s σ H Q I q => h.run pos pins s σ H Q I (i σ H Q q)⟩
theorem _root_.L2.PS.imp {X : Cx} {e : Stmt} {t t' : TS} (h : PS X e t) (i : ∀ D σ H, t' D σ H → t D σ H) : PS X e t' := ⟨fun pins s σ H D I q => h.run pins s σ H D I (i D σ H q)⟩
theorem _root_.L2.PSs.imp {X : Cx} {e : List Stmt} {t t' : TS} (h : PSs X e t) (i : ∀ D σ H, t' D σ H → t D σ H) : PSs X e t' := ⟨fun pins s σ H D I q => h.run pins s σ H D I (i D σ H q)⟩
abbrev SV (X : Cx) (e : Expr) (f : D PV) : Prop := PE X e (tV X.K f)
abbrev SR (X : Cx) (e : Expr) (f : D Rs) : Prop := PE X e (tR X.K f)
abbrev SP (X : Cx) (e : Expr) (f : D PV) : Prop := PE X e (tP X.K f)
abbrev SB (X : Cx) (e : Expr) (f : D Bool) : Prop := PT X e (tB X.K f)
abbrev SL (X : Cx) (es : List Expr) (f : D (List PV)) : Prop := PA X es (tL X.K f)
/-- freeze the new object of a result -/
@[simp] def fz (f : D Rs) (Γ : Ev) : Option (PV × Ev) := match f Γ with
  | some (r, Γ1) => some (r.pv, Γ1)
  | none => none
@[simp] def nw (f : D PV) (Γ : Ev) : Option (Rs × Ev) := match f Γ with
  | some (r, Γ1) => some (.new r, Γ1)
  | none => none
@[simp] def vl (f : D PV) (Γ : Ev) : Option (Rs × Ev) := match f Γ with
  | some (r, Γ1) => some (.val r, Γ1)
  | none => none
theorem fz_some {f : D Rs} {Γ Γ1 : Ev} {p : PV} (h : fz f Γ = some (p, Γ1)) : ∃ r, f Γ = some (r, Γ1) ∧ p = r.pv := by
  unfold fz at h
  cases e : f Γ with
  | none => rw [e] at h; cases h
  | some z =>
    rw [e] at h
    cases h
    exact ⟨_, rfl, rfl⟩
theorem vl_some {f : D PV} {Γ Γ1 : Ev} {r : Rs} (h : vl f Γ = some (r, Γ1)) : ∃ p, f Γ = some (p, Γ1) ∧ r = .val p := by
  unfold vl at h
  cases e : f Γ with
  | none => rw [e] at h; cases h
  | some z =>
    rw [e] at h
    cases h
    exact ⟨_, rfl, rfl⟩
theorem nw_some {f : D PV} {Γ Γ1 : Ev} {r : Rs} (h : nw f Γ = some (r, Γ1)) : ∃ p, f Γ = some (p, Γ1) ∧ r = .new p := by
  unfold nw at h
  cases e : f Γ with
  | none => rw [e] at h; cases h
  | some z =>
    rw [e] at h
    cases h
    exact ⟨_, rfl, rfl⟩
/-- an object that no slot holds is locked for good -/
theorem Ste.lock {K : PySem.W.Frag} {π : Nat → Addr} {σ : St} {G H : Hp} {Γ : Ev} {a : Addr} {o : HO} (E : ER K π G σ H Γ) (h : H a = some o) (gn : G a = none) (n : ∀ i k, ¬ At Γ σ i k a) :
    ER K π (upd G a o) σ H Γ := by
  obtain ⟨g, s⟩ := gr_lock (F := fun x => x = a) E.sub h rfl gn
  exact E.grow g s fun b i k hb e => n i k (e ▸ hb)
theorem freeze {K : PySem.W.Frag} {π : Nat → Addr} {σ : St} {G H G1 H1 : Hp} {Γ Γ1 : Ev} (E0 : ER K π G σ H Γ) (S : Ste K π σ G H Γ G1 H1 Γ1) {x : V} {r : Rs} (h : RR K G1 H1 (fun a => H a = none) x r) :
    ∃ G2, Ste K π σ G H Γ G2 H1 Γ1 ∧ Rep K G2 x r.pv := by
  cases r with
  | val p => exact ⟨G1, S, h⟩
  | new p =>
    obtain ⟨a, rfl, hn, gn, ob⟩ := h
    obtain ⟨o, ho, hr⟩ := ob.rep gn
    have na : ∀ i k, ¬ At Γ1 σ i k a := fun i k z => by
      obtain ⟨_, o', e⟩ := E0.foot (S.f i k a z)
      rw [hn] at e
      cases e
    obtain ⟨g, s⟩ := gr_lock (F := fun x => x = a) S.e.sub ho rfl gn
    refine ⟨upd G1 a o, ⟨Ste.lock S.e ho gn na, S.g.trans g fun y e => .inr (by subst e; exact hn), S.f⟩, hr⟩
theorem SR_sv {X : Cx} {e : Expr} {f : D Rs} (h : SR X e f) : SV X e (fz f) := h.imp fun σ H Q ⟨π, G, Γ, v, Γ', E, ef, q⟩ => by
  obtain ⟨r, e1, rfl⟩ := fz_some ef
  refine ⟨π, G, Γ, r, Γ', E, e1, fun x G' H' S hr => ?_⟩
  obtain ⟨G2, S2, r2⟩ := freeze E S hr
  exact q x G2 H' S2 r2
theorem SV_sr {X : Cx} {e : Expr} {f : D PV} (h : SV X e f) : SR X e (vl f) := h.imp fun σ H Q ⟨π, G, Γ, v, Γ', E, ef, q⟩ => by
  obtain ⟨p, e1, rfl⟩ := vl_some ef
  exact ⟨π, G, Γ, p, Γ', E, e1, fun x G' H' S hr => q x G' H' S hr⟩
theorem SV_sp {X : Cx} {e : Expr} {f : D PV} (h : SV X e f) : SP X e f := h.imp fun σ H Q ⟨π, G, Γ, v, Γ', E, ef, q⟩ =>
  ⟨π, G, Γ, v, Γ', E, ef, fun x G' H' S hr => q x G' H' S (.inl hr)⟩
/-! ### names, constants -/
@[simp] def dInt (i : Int) (Γ : Ev) : Option (PV × Ev) := (ret (.int i)) Γ
@[simp] def dBl (b : Bool) (Γ : Ev) : Option (PV × Ev) := (ret (.bl b)) Γ
@[simp] def dNon (Γ : Ev) : Option (PV × Ev) := (ret .non) Γ
@[simp] def dStr (s : Str) (Γ : Ev) : Option (PV × Ev) := (ret (.str s)) Γ
section
variable {X : Cx} {pos : Pos}
theorem sv_const {e : Expr} {v : V} {p : PV} (h : PE X e (tC v)) (r : ∀ K G, Rep K G v p) : SV X e (ret p) := h.imp fun σ H Q ⟨π, G, Γ, w, Γ', E, ef, q⟩ => by
  obtain ⟨rfl, rfl⟩ := ret_some ef
  exact q v G H (.refl E) (r _ _)
theorem sv_int {i : Int} {j : Nat} : SV X (.Constant (.int i) j pos) (dInt i) := sv_const pe_int fun _ _ => rfl
theorem sv_bl {b : Bool} {j : Nat} : SV X (.Constant (.bool b) j pos) (dBl b) := sv_const pe_bl fun _ _ => rfl
theorem sv_non {j : Nat} : SV X (.Constant .none j pos) dNon := sv_const pe_non fun _ _ => rfl
theorem sv_str {x : Str} {j : Nat} : SV X (.Constant (.str x) j pos) (dStr x) := sv_const pe_str fun _ _ => rfl
/-- a name, its value: an object that was changeable is locked for good -/
@[simp] def dNm (i : Nat) (Γ : Ev) : Option (PV × Ev) := match Γ[i]? with
  | some (.val p) => some (p, Γ)
  | some (.mu .own p) => some (p, Γ.set i (.val p))
  | _ => none
/-- a name, looked at -/
@[simp] def dPk (i : Nat) (Γ : Ev) : Option (PV × Ev) := match Γ[i]? with
  | some (.val p) => some (p, Γ)
  | some (.mu _ p) => some (p, Γ)
  | _ => none
theorem Sl_at {K : PySem.W.Frag} {π : Nat → Addr} {σ : St} {G H : Hp} {Γ : Ev} {i : Nat} {p : PV} {Γ' : Ev} (E : ER K π G σ H Γ) (h : dPk i Γ = some (p, Γ')) : Γ' = Γ ∧ ∃ x, σ[i]? = some (some x) ∧ Pk K G H x p := by
  unfold dPk at h
  split at h
  · rename_i q e
    cases h
    obtain ⟨v, h1, h2⟩ := E.val i _ e
    exact ⟨rfl, v, h1, .inl h2⟩
  · rename_i k q e
    cases h
    obtain ⟨a, h1, h2, h3, _⟩ := E.mu i k _ e
    exact ⟨rfl, .ref a, h1, .inr ⟨a, rfl, h3⟩⟩
  · cases h
/-- a slot's object is locked for good -/
theorem slot_lock {K : PySem.W.Frag} {π : Nat → Addr} {σ : St} {G H : Hp} {Γ : Ev} {i : Nat} {p : PV} (E : ER K π G σ H Γ) (e : Γ[i]? = some (.mu .own p)) :
    ∃ a G', σ[i]? = some (some (.ref a)) ∧ Ste K π σ G H Γ G' H (Γ.set i (.val p)) ∧ Rep K G' (.ref a) p := by
  obtain ⟨a, h1, h2, h3, _⟩ := E.mu i .own p e
  obtain ⟨o, ho, hr⟩ := h3.rep h2
  have hat : At Γ σ i .own a := ⟨p, e, h1⟩
  obtain ⟨g, s⟩ := gr_lock (F := fun x => x = a) E.sub ho rfl h2
  have hi : i < Γ.length := (List.getElem?_eq_some_iff.mp e).1
  have at' : ∀ j k b, At (Γ.set i (.val p)) σ j k b → At Γ σ j k b ∧ j ≠ i := fun j k b ⟨q, e1, e2⟩ => by
    rcases set_get e1 with ⟨rfl, z⟩ | ⟨n, z⟩
    · cases z
    · exact ⟨⟨q, z, e2⟩, Ne.symm n⟩
  refine ⟨a, upd G a o, h1, ⟨⟨s, by rw [List.length_set]; exact E.len, fun j q e1 => ?_, fun j k q e1 => ?_, fun j l k k' b z1 z2 => E.inj j l k k' b (at' j k b z1).1 (at' l k' b z2).1⟩, g.mono fun x z => ?_, fun j k b z => (at' j k b z).1⟩, hr⟩
  · rcases set_get e1 with ⟨rfl, z⟩ | ⟨n, z⟩
    · cases z
      exact ⟨.ref a, h1, hr⟩
    · obtain ⟨v, q1, q2⟩ := E.val j q z
      exact ⟨v, q1, q2.mono g.g⟩
  · rcases set_get e1 with ⟨rfl, z⟩ | ⟨n, z⟩
    · cases z
    · obtain ⟨b, q1, q2, q3, q4⟩ := E.mu j k q z
      have hba : b ≠ a := fun w => by
        subst w
        exact n (E.inj i j .own k b hat ⟨q, z, q1⟩)
      exact ⟨b, q1, by rw [upd_ne hba]; exact q2, q3.mono g.g rfl, q4⟩
  · subst z
    exact ⟨i, .own, by decide, hat⟩
theorem sv_nm (i : Nat) {x : Str} {pos : Pos} (hN : X.N[i]? = some x := by rfl) (hv : Vis X.env.scope x := by first | exact Or.inl rfl | exact Or.inr (Or.inl rfl) | exact Or.inr (Or.inr rfl)) (hd : (x == ("__debug__" : Str)) = false := by decide)
    (hcd : (x == ("__classdict__" : Str)) = false := by decide) : SV X (.Name x pos) (dNm i) := (pe_var hN hv hd hcd).imp fun σ H Q ⟨π, G, Γ, w, Γ', E, ef, q⟩ => by
  unfold dNm at ef
  split at ef
  · rename_i p e
    cases ef
    obtain ⟨v, h1, h2⟩ := E.val i _ e
    exact ⟨v, h1, q v G H (.refl E) h2⟩
  · rename_i p e
    cases ef
    obtain ⟨a, G', h1, S, hr⟩ := slot_lock E e
    exact ⟨_, h1, q _ G' H S hr⟩
  · cases ef
theorem sp_nm (i : Nat) {x : Str} {pos : Pos} (hN : X.N[i]? = some x := by rfl) (hv : Vis X.env.scope x := by first | exact Or.inl rfl | exact Or.inr (Or.inl rfl) | exact Or.inr (Or.inr rfl)) (hd : (x == ("__debug__" : Str)) = false := by decide)
    (hcd : (x == ("__classdict__" : Str)) = false := by decide) : SP X (.Name x pos) (dPk i) := (pe_var hN hv hd hcd).imp fun σ H Q ⟨π, G, Γ, w, Γ', E, ef, q⟩ => by
  obtain ⟨rfl, v, h1, h2⟩ := Sl_at E ef
  exact ⟨v, h1, q v G H (.refl E) h2⟩
end
/-! ### operators on two values -/
/-- the answer is laid over what is there -/
def Ans (K : PySem.W.Frag) (G H : Hp) (z : PV) (Q : VK) : Prop := ∀ v G' H', Gr (fun _ => False) G H G' H' → Same G' H' → Rep K G' v z → Q v H'
theorem Ans.now {K : PySem.W.Frag} {G H : Hp} {z : PV} {Q : VK} (h : Ans K G H z Q) (s : Same G H) {v : V} (r : Rep K G v z) : Q v H := h v G H .refl s r
/-- a new tuple -/
theorem Ans.tup {K : PySem.W.Frag} {G H : Hp} {zs : List PV} {Q : VK} (h : Ans K G H (.tup zs) Q) (s : Same G H) {vs : List V} (r : Reps K G vs zs) {p : Addr} (n : H p = none) : Q (.ref p) (upd H p (.tup vs)) := by
  obtain ⟨g, s'⟩ := gr_laid (F := fun _ => False) (o := .tup vs) s n
  exact h _ _ _ g s' ⟨p, vs, rfl, .inl (.inl upd_same), r.mono g.g⟩
def OpV (K : PySem.W.Frag) (r : R2) (g : PV → PV → Option PV) : Prop := ∀ x y p q z G H Q, Same G H → Rep K G x p → Rep K G y q → g p q = some z → Ans K G H z Q → r x y H Q
@[simp] def dOp (g : PV → PV → Option PV) (a b : D PV) (Γ : Ev) : Option (PV × Ev) := (bnd a fun x => bnd b fun y => opt (g x y)) Γ
theorem t_op {K : PySem.W.Frag} {r : R2} {g : PV → PV → Option PV} (hv : OpV K r g) {f h : D PV} {σ : St} {H : Hp} {Q : VK} (t : tV K (dOp g f h) σ H Q) : tOp r (tV K f) (tV K h) σ H Q := by
  obtain ⟨π, G, Γ, w, Γ', E, ef, q⟩ := t
  obtain ⟨x, Γ1, e1, ef⟩ := bnd_some ef
  obtain ⟨y, Γ2, e2, ef⟩ := bnd_some ef
  obtain ⟨e3, rfl⟩ := opt_some ef
  refine ⟨π, G, Γ, x, Γ1, E, e1, fun u G1 H1 S1 r1 => ⟨π, G1, Γ1, y, _, S1.e, e2, fun v G2 H2 S2 r2 => ?_⟩⟩
  exact hv u v x y w G2 H2 Q S2.e.sub (r1.mono S2.g.g) r2 e3 fun z G' H' g' s' r' => q z G' H' ((S1.trans S2).trans (.grow S2.e g' s')) r'
section
variable {X : Cx} {pos : Pos} {a b c : Expr} {f h k : D PV}
theorem sv_op {op : Operator} {r : R2} {g : PV → PV → Option PV} (ho : OpR X (binaryOp op) r) (hv : OpV X.K r g) (ha : SV X a f) (hb : SV X b h) : SV X (.BinOp a op b pos) (dOp g f h) :=
  (pe_op ho ha hb).imp fun _ _ _ t => t_op hv t
theorem sv_cmp {op : CmpOp} {r : R2} {g : PV → PV → Option PV} (ho : OpR X (compareOp op) r) (hv : OpV X.K r g) (ha : SV X a f) (hb : SV X b h) (hm : behindInMarks op b = false) : SV X (.Compare a [op] [b] pos) (dOp g f h) :=
  (pe_cmpR ho ha hb hm).imp fun _ _ _ t => t_op hv t
end
@[simp] def gI (g : Int → Int → Option PV) : PV → PV → Option PV
  | .int i, .int j => g i j
  | _, _ => none
theorem ov_int {K : PySem.W.Frag} {C : Int → Int → Prop} {F : Int → Int → V} {g : Int → Int → Option PV} (h : ∀ i j z, g i j = some z → C i j ∧ ∀ G, Rep K G (F i j) z) : OpV K (rI C F) (gI g) := fun x y p q z G H Q s r1 r2 e A => by
  unfold gI at e
  split at e
  · rename_i i j
    obtain ⟨c, r⟩ := h i j z e
    exact ⟨i, j, r1, r2, c, A.now s (r G)⟩
  · cases e
theorem ov_int0 {K : PySem.W.Frag} {F : Int → Int → V} {g : Int → Int → Option PV} (h : ∀ i j z, g i j = some z → ∀ G, Rep K G (F i j) z) : OpV K (rI0 F) (gI g) := fun x y p q z G H Q s r1 r2 e A => by
  unfold gI at e
  split at e
  · rename_i i j
    exact ⟨i, j, r1, r2, A.now s (h i j z e G)⟩
  · cases e
/-! ### whole numbers -/
/-- a guard that no reduction opens -/
theorem hide_ex {α : Type} (P : α → Prop) : ∃ f : α → Bool, ∀ x, f x = true ↔ P x := ⟨fun x => @decide (P x) (Classical.propDecidable _), fun x => @decide_eq_true_iff (P x) (Classical.propDecidable _)⟩
def hide {α : Type} (P : α → Prop) : α → Bool := Classical.choose (hide_ex P)
theorem of_hide {α : Type} {P : α → Prop} {x : α} (h : hide P x = true) : P x := (Classical.choose_spec (hide_ex P) x).mp h
theorem hide_of {α : Type} {P : α → Prop} {x : α} (h : P x) : hide P x = true := (Classical.choose_spec (hide_ex P) x).mpr h
theorem popOk_of {i : Int} (h : hide (fun i : Int => -(2 ^ 63) ≤ i ∧ i < 2 ^ 63) i = true) : -(2 ^ 63) ≤ i ∧ i < 2 ^ 63 := of_hide (P := fun i : Int => -(2 ^ 63) ≤ i ∧ i < 2 ^ 63) h
def divOk (j : Int) : Bool := hide (fun j : Int => 0 < j ∧ ((j.natAbs.log2 : Nat) : Int) < 9000) j
def powOk (i j : Int) : Bool := hide (fun z : Int × Int => 0 ≤ z.2 ∧ z.2 ≤ 1000000 ∧ (-(2 ^ 64) < z.1 ∧ z.1 < 2 ^ 64)) (i, j)
def shrOk (j : Int) : Bool := hide (fun j : Int => 0 ≤ j) j
def popOk (i : Int) : Bool := hide (fun i : Int => -(2 ^ 63) ≤ i ∧ i < 2 ^ 63) i
def rgOk (i : Int) : Bool := hide (fun i : Int => -(2 ^ 62) ≤ i ∧ i < 2 ^ 62) i
theorem rgOk_of {i : Int} (h : rgOk i = true) : -(2 ^ 62) ≤ i ∧ i < 2 ^ 62 := of_hide (P := fun i : Int => -(2 ^ 62) ≤ i ∧ i < 2 ^ 62) h
/-- two factors of together less than some million bits -/
def mulOk (i j : Int) : Bool := hide (fun z : Int × Int => z.1.natAbs.log2 + z.2.natAbs.log2 < 1000000) (i, j)
/-- a length that is served (by whole numbers: the kernel does not count it out) -/
def fits (n : Nat) : Bool := hide (fun n : Nat => n ≤ 1000000) n
theorem fits_of {n : Nat} (h : n ≤ 1000000) : fits n = true := hide_of h
theorem of_fits {n : Nat} (h : fits n = true) : n ≤ 1000000 := by
  exact of_hide (P := fun n : Nat => n ≤ 1000000) h
@[simp] def gAdd : PV → PV → Option PV
  | .int i, .int j => some (.int (i + j))
  | .int i, .bl b => some (.int (i + b2i b))
  | .tup xs, .tup ys => if fits (xs.length + ys.length) = true then some (.tup (xs ++ ys)) else none
  | .str x, .str y => if fits (x.length + y.length) = true then some (.str (x ++ y)) else none
  | _, _ => none
@[simp] def gSub (x y : PV) : Option PV := gI (fun i j => some (.int (i - j))) x y
def gMul (x y : PV) : Option PV := gI (fun i j => if mulOk i j then some (.int (i * j)) else none) x y
@[simp] def gMod (x y : PV) : Option PV := gI (fun i j => if j = 0 then none else some (.int (i.fmod j))) x y
def gDiv (x y : PV) : Option PV := gI (fun i j => if divOk j = true then some (.int (i / j)) else none) x y
def gPow (x y : PV) : Option PV := gI (fun i j => if powOk i j = true then some (.int (i ^ j.toNat)) else none) x y
def gShl (x y : PV) : Option PV := gI (fun i j => if powOk i j = true then some (.int (i * 2 ^ j.toNat)) else none) x y
def gShr (x y : PV) : Option PV := gI (fun i j => if shrOk j = true then some (.int (i / 2 ^ j.toNat)) else none) x y
def gAnd (x y : PV) : Option PV := gI (fun i j => some (.int (Builtin.bitAnd i j))) x y
def gOr (x y : PV) : Option PV := gI (fun i j => some (.int (Builtin.bitOr i j))) x y
def gXor (x y : PV) : Option PV := gI (fun i j => some (.int (Builtin.bitXor i j))) x y
@[simp] def gLt (x y : PV) : Option PV := gI (fun i j => some (.bl (decide (i < j)))) x y
@[simp] def gLe (x y : PV) : Option PV := gI (fun i j => some (.bl (decide (i ≤ j)))) x y
@[simp] def gGt (x y : PV) : Option PV := gI (fun i j => some (.bl (decide (j < i)))) x y
@[simp] def gGe (x y : PV) : Option PV := gI (fun i j => some (.bl (decide (j ≤ i)))) x y
theorem line_m : (1000000 : Nat) ≤ sizeLine := by rw [sizeLine_eq]; decide
section
variable {K : PySem.W.Frag}
theorem some_rep {K : PySem.W.Frag} {i : Int} {z : PV} (e : some (PV.int i) = some z) : ∀ G, Rep K G (.int i) z := fun G => by cases e; rfl
theorem some_repb {K : PySem.W.Frag} {i : Bool} {z : PV} (e : some (PV.bl i) = some z) : ∀ G, Rep K G (.bl i) z := fun G => by cases e; rfl
theorem ov_sub : OpV K (rI0 fun i j => .int (i - j)) gSub := ov_int0 fun _ _ _ e => some_rep e
theorem ov_mul : OpV K (rI CMulW fun i j => .int (i * j)) gMul := ov_int fun i j z e => by
  split at e
  · rename_i h
    have h2 : i.natAbs.log2 + j.natAbs.log2 < 1000000 := by
      exact of_hide (P := fun z : Int × Int => z.1.natAbs.log2 + z.2.natAbs.log2 < 1000000) h
    exact ⟨h2, some_rep e⟩
  · cases e
theorem ov_mod : OpV K (rI (fun _ j => j ≠ 0) fun i j => .int (i.fmod j)) gMod := ov_int fun i j z e => by
  split at e
  · cases e
  · rename_i h
    exact ⟨h, some_rep e⟩
theorem ov_div : OpV K (rI CDivW fun i j => .int (i / j)) gDiv := ov_int fun i j z e => by
  split at e
  · rename_i h
    have h := of_hide h
    exact ⟨⟨h.1, by have := h.2; omega⟩, some_rep e⟩
  · cases e
theorem ov_pow : OpV K (rI CPow fun i j => .int (i ^ j.toNat)) gPow := ov_int fun i j z e => by
  split at e
  · rename_i h
    have h := of_hide h
    exact ⟨⟨h.1, h.2.1, by have := h.2.2; omega⟩, some_rep e⟩
  · cases e
theorem ov_shl : OpV K (rI CPow fun i j => .int (i * 2 ^ j.toNat)) gShl := ov_int fun i j z e => by
  split at e
  · rename_i h
    have h := of_hide h
    exact ⟨⟨h.1, h.2.1, by have := h.2.2; omega⟩, some_rep e⟩
  · cases e
theorem ov_shr : OpV K (rI (fun _ j => 0 ≤ j) fun i j => .int (i / 2 ^ j.toNat)) gShr := ov_int fun i j z e => by
  split at e
  · rename_i h
    exact ⟨of_hide h, some_rep e⟩
  · cases e
theorem ov_and : OpV K (rI0 fun i j => .int (Builtin.bitAnd i j)) gAnd := ov_int0 fun _ _ _ e => some_rep e
theorem ov_or : OpV K (rI0 fun i j => .int (Builtin.bitOr i j)) gOr := ov_int0 fun _ _ _ e => some_rep e
theorem ov_xor : OpV K (rI0 fun i j => .int (Builtin.bitXor i j)) gXor := ov_int0 fun _ _ _ e => some_rep e
theorem ov_lt : OpV K (rI0 fun i j => .bl (decide (i < j))) gLt := ov_int0 fun _ _ _ e => some_repb e
theorem ov_le : OpV K (rI0 fun i j => .bl (decide (i ≤ j))) gLe := ov_int0 fun _ _ _ e => some_repb e
theorem ov_gt : OpV K (rI0 fun i j => .bl (decide (j < i))) gGt := ov_int0 fun _ _ _ e => some_repb e
theorem ov_ge : OpV K (rI0 fun i j => .bl (decide (j ≤ i))) gGe := ov_int0 fun _ _ _ e => some_repb e
theorem OpV.or1 {r r' : R2} {g : PV → PV → Option PV} (h : OpV K r g) : OpV K (fun x y H Q => r x y H Q ∨ r' x y H Q) g := fun x y p q z G H Q s r1 r2 e A => .inl (h x y p q z G H Q s r1 r2 e A)
theorem OpV.or2 {r r' : R2} {g : PV → PV → Option PV} (h : OpV K r' g) : OpV K (fun x y H Q => r x y H Q ∨ r' x y H Q) g := fun x y p q z G H Q s r1 r2 e A => .inr (h x y p q z G H Q s r1 r2 e A)
abbrev rAddA (K : PySem.W.Frag) : R2 := fun x y H Q => (rI0 fun i j => V.int (i + j)) x y H Q ∨ ((∃ i k, x = .int i ∧ y = .bl k ∧ Q (.int (i + b2i k)) H) ∨ (rCatA K x y H Q ∨ (∃ i j, x = .str i ∧ y = .str j ∧ i.length + j.length ≤ sizeLine ∧ Q (.str (i ++ j)) H)))
theorem ov_add : OpV K (rAddA K) gAdd := fun x y p q z G H Q s r1 r2 e A => by
  unfold gAdd at e
  split at e
  · cases e
    exact .inl ⟨_, _, r1, r2, A.now s rfl⟩
  · cases e
    exact .inr (.inl ⟨_, _, r1, r2, A.now s rfl⟩)
  · rename_i xs ys
    split at e
    · rename_i hl
      have hl := of_fits hl
      cases e
      obtain ⟨a, vs, e1, q1, s1⟩ := r1
      obtain ⟨b, us, e2, q2, s2⟩ := r2
      have l1 := s1.length
      have l2 := s2.length
      have lm := line_m
      refine .inr (.inr (.inl ⟨a, b, vs, us, e1, e2, Same.seqT s q1, Same.seqT s q2, by omega, fun h0 => ?_, fun _ h0 => ?_, fun _ _ p hp => ?_⟩))
      · subst h0
        have hx : xs = [] := by cases xs with
          | nil => rfl
          | cons _ _ => simp at l1
        subst hx
        exact A.now s ⟨b, us, rfl, q2, s2⟩
      · subst h0
        have hx : ys = [] := by cases ys with
          | nil => rfl
          | cons _ _ => simp at l2
        subst hx
        refine A.now s ⟨a, vs, rfl, q1, ?_⟩
        rw [List.append_nil]
        exact s1
      · exact A.tup s (s1.append s2) hp
    · cases e
  · rename_i x y
    split at e
    · rename_i hl
      have hl := of_fits hl
      cases e
      have lm := line_m
      exact .inr (.inr (.inr ⟨x, y, r1, r2, by omega, A.now s rfl⟩))
    · cases e
  · cases e
end
section
variable {X : Cx} {pos : Pos} {a b c : Expr} {f h k : D PV}
theorem sv_add (ha : SV X a f) (hb : SV X b h) : SV X (.BinOp a .Add b pos) (dOp gAdd f h) := sv_op (op_add.or (op_add_ib.or (op_catA.or op_add_str))) ov_add ha hb
theorem sv_sub (ha : SV X a f) (hb : SV X b h) : SV X (.BinOp a .Sub b pos) (dOp gSub f h) := sv_op op_sub ov_sub ha hb
theorem sv_mul (ha : SV X a f) (hb : SV X b h) : SV X (.BinOp a .Mult b pos) (dOp gMul f h) := sv_op op_mulW ov_mul ha hb
theorem sv_mod (ha : SV X a f) (hb : SV X b h) : SV X (.BinOp a .Mod b pos) (dOp gMod f h) := sv_op op_modN ov_mod ha hb
theorem sv_div (ha : SV X a f) (hb : SV X b h) : SV X (.BinOp a .FloorDiv b pos) (dOp gDiv f h) := sv_op op_fdivW ov_div ha hb
theorem sv_pow (ha : SV X a f) (hb : SV X b h) : SV X (.BinOp a .Pow b pos) (dOp gPow f h) := sv_op op_pow ov_pow ha hb
theorem sv_shl (ha : SV X a f) (hb : SV X b h) : SV X (.BinOp a .LShift b pos) (dOp gShl f h) := sv_op op_shl ov_shl ha hb
theorem sv_shr (ha : SV X a f) (hb : SV X b h) : SV X (.BinOp a .RShift b pos) (dOp gShr f h) := sv_op op_shr ov_shr ha hb
theorem sv_band (ha : SV X a f) (hb : SV X b h) : SV X (.BinOp a .BitAnd b pos) (dOp gAnd f h) := sv_op op_and ov_and ha hb
theorem sv_bor (ha : SV X a f) (hb : SV X b h) : SV X (.BinOp a .BitOr b pos) (dOp gOr f h) := sv_op op_or ov_or ha hb
theorem sv_bxor (ha : SV X a f) (hb : SV X b h) : SV X (.BinOp a .BitXor b pos) (dOp gXor f h) := sv_op op_xor ov_xor ha hb
theorem sv_lt (ha : SV X a f) (hb : SV X b h) : SV X (.Compare a [.Lt] [b] pos) (dOp gLt f h) := sv_cmp op_lt ov_lt ha hb (nomark _)
theorem sv_le (ha : SV X a f) (hb : SV X b h) : SV X (.Compare a [.LtE] [b] pos) (dOp gLe f h) := sv_cmp op_le ov_le ha hb (nomark _)
theorem sv_gt (ha : SV X a f) (hb : SV X b h) : SV X (.Compare a [.Gt] [b] pos) (dOp gGt f h) := sv_cmp op_gt ov_gt ha hb (nomark _)
theorem sv_ge (ha : SV X a f) (hb : SV X b h) : SV X (.Compare a [.GtE] [b] pos) (dOp gGe f h) := sv_cmp op_ge ov_ge ha hb (nomark _)
/-- -a -/
@[simp] def dUn (g : PV → Option PV) (f : D PV) (Γ : Ev) : Option (PV × Ev) := (bnd f fun x => opt (g x)) Γ
@[simp] def gNeg : PV → Option PV
  | .int i => some (.int (-i))
  | _ => none
theorem sv_neg (ha : SV X a f) : SV X (.UnaryOp .USub a pos) (dUn gNeg f) := (pe_un un_neg ha).imp fun σ H Q ⟨π, G, Γ, w, Γ', E, ef, q⟩ => by
  obtain ⟨x, Γ1, e1, ef⟩ := bnd_some ef
  obtain ⟨e3, rfl⟩ := opt_some ef
  refine ⟨π, G, Γ, x, _, E, e1, fun u G1 H1 S1 r1 => ?_⟩
  unfold gNeg at e3
  split at e3
  · cases e3
    exact ⟨_, r1, q _ G1 H1 S1 rfl⟩
  · cases e3
/-! ### is None -/
@[simp] def pvN : PV → Bool
  | .non => true
  | _ => false
@[simp] def dIsN (f : D PV) (Γ : Ev) : Option (PV × Ev) := (bnd f fun x => ret (.bl (pvN x))) Γ
@[simp] def dNotN (f : D PV) (Γ : Ev) : Option (PV × Ev) := (bnd f fun x => ret (.bl (!pvN x))) Γ
theorem rep_non {K : PySem.W.Frag} {G H : Hp} {v : V} {p : PV} (h : Pk K G H v p) : decide (v = .non) = pvN p := by
  rcases h with h | ⟨a, rfl, h⟩
  · cases p with
    | non => exact decide_eq_true h
    | tup xs =>
      obtain ⟨a, vs, e, _⟩ := h
      subst e
      rfl
    | lst xs =>
      obtain ⟨a, vs, e, _⟩ := h
      subst e
      rfl
    | scr ns =>
      obtain ⟨a, e, _⟩ := h
      subst e
      rfl
    | _ =>
      cases h
      rfl
  · cases p with
    | lst xs => rfl
    | _ => exact h.elim
theorem sv_isN {j : Nat} {pos' : Pos} (ha : SP X a f) : SV X (.Compare a [.Is] [.Constant .none j pos'] pos) (dIsN f) := (pe_cmp (pc_isN ha) rfl).imp fun σ H Q ⟨π, G, Γ, w, Γ', E, ef, q⟩ => by
  obtain ⟨x, Γ1, e1, ef⟩ := bnd_some ef
  obtain ⟨rfl, rfl⟩ := ret_some ef
  refine ⟨π, G, Γ, x, _, E, e1, fun u G1 H1 S1 r1 => q _ G1 H1 S1 ?_⟩
  rw [rep_non r1]
  rfl
theorem sv_notN {j : Nat} {pos' : Pos} (ha : SP X a f) : SV X (.Compare a [.IsNot] [.Constant .none j pos'] pos) (dNotN f) := (pe_cmp (pc_notN ha) rfl).imp fun σ H Q ⟨π, G, Γ, w, Γ', E, ef, q⟩ => by
  obtain ⟨x, Γ1, e1, ef⟩ := bnd_some ef
  obtain ⟨rfl, rfl⟩ := ret_some ef
  refine ⟨π, G, Γ, x, _, E, e1, fun u G1 H1 S1 r1 => q _ G1 H1 S1 ?_⟩
  rw [rep_non r1]
  cases x <;> rfl
end
/-! ### == of data -/
mutual
def toPD : PV → PyData
  | .non => .none
  | .bl b => .bool b
  | .int i => .int i
  | .str s => .str s
  | .tup xs => .tuple (toPDs xs)
  | .lst xs => .list (toPDs xs)
  | .ty _ => .dict []
  | .scr _ => .dict []
def toPDs : List PV → List PyData
  | [] => []
  | x :: xs => toPD x :: toPDs xs
end
mutual
theorem rep_dp {K : PySem.W.Frag} {G : Hp} : ∀ {p : PV} {v : V}, Rep K G v p → (toPD p).canLay0 = true → Dp K G v (toPD p)
  | .non, v, h, _ => by
    cases (show v = .non from h)
    exact .non
  | .bl b, v, h, _ => by
    cases (show v = .bl b from h)
    exact .bl b
  | .int i, v, h, _ => by
    cases (show v = .int i from h)
    exact .int i
  | .str s, v, h, _ => by
    cases (show v = .str s from h)
    exact .str s
  | .tup xs, v, h, c => by
    obtain ⟨a, vs, rfl, q, r⟩ := h
    exact .tup q (reps_dp r (by simpa [toPD, PyData.canLay0] using c))
  | .lst xs, v, h, c => by
    obtain ⟨a, vs, rfl, q, r⟩ := h
    exact .lst (SqL.of q) (reps_dp r (by simpa [toPD, PyData.canLay0] using c))
  | .ty _, v, h, c => by simp [toPD, PyData.canLay0] at c
  | .scr _, v, h, c => by simp [toPD, PyData.canLay0] at c
theorem reps_dp {K : PySem.W.Frag} {G : Hp} : ∀ {ps : List PV} {vs : List V}, Reps K G vs ps → PyData.canLayAll0 (toPDs ps) = true → DpAll K G vs (toPDs ps)
  | [], vs, h, _ => by
    cases (show vs = [] from h)
    exact .nil
  | p :: ps, vs, h, c => by
    obtain ⟨v, r, rfl, a, b⟩ := h
    have c' : (toPD p).canLay0 = true ∧ PyData.canLayAll0 (toPDs ps) = true := by simpa [toPDs, PyData.canLayAll0] using c
    exact .cons (rep_dp a c'.1) (reps_dp b c'.2)
end
mutual
theorem Dp_mono {K : PySem.W.Frag} {G H : Hp} (s : Same G H) : ∀ {d : PyData} {v : V}, Dp K G v d → Dp K H v d
  | .none, _, h => by cases h; exact .non
  | .bool b, _, h => by cases h; exact .bl b
  | .int i, _, h => by cases h; exact .int i
  | .str x, _, h => by cases h; exact .str x
  | .list ds, _, h => by
    cases h with
    | lst q r => exact .lst (s.seq q) (DpAll_mono s r)
  | .tuple ds, _, h => by
    cases h with
    | tup q r => exact .tup (Same.seqT s q) (DpAll_mono s r)
  | .dict _, _, h => by cases h
theorem DpAll_mono {K : PySem.W.Frag} {G H : Hp} (s : Same G H) : ∀ {ds : List PyData} {vs : List V}, DpAll K G vs ds → DpAll K H vs ds
  | [], _, h => by cases h; exact .nil
  | d :: ds, _, h => by
    cases h with
    | cons a b => exact .cons (Dp_mono s a) (DpAll_mono s b)
end
def shp (p : PV) : Bool := SeqAt.shaped (toPD p)
def pvEq (p q : PV) : Bool := PyData.eqv (toPD p) (toPD q)
@[simp] def gEq (p q : PV) : Option PV := if shp p && shp q then some (.bl (pvEq p q)) else none
@[simp] def gNe (p q : PV) : Option PV := if shp p && shp q then some (.bl (!pvEq p q)) else none
theorem shp_dp {K : PySem.W.Frag} {G H : Hp} {v : V} {p : PV} (s : Same G H) (h : Rep K G v p) (c : shp p = true) : Dp K H v (toPD p) := by
  unfold shp SeqAt.shaped at c
  rw [Bool.and_eq_true] at c
  exact Dp_mono s (rep_dp h c.1)
theorem ov_eq {K : PySem.W.Frag} : OpV K (rEqD K) gEq := fun x y p q z G H Q s r1 r2 e A => by
  unfold gEq at e
  split at e
  · rename_i c
    rw [Bool.and_eq_true] at c
    cases e
    exact ⟨_, _, shp_dp s r1 c.1, shp_dp s r2 c.2, c.1, c.2, A.now s rfl⟩
  · cases e
theorem ov_ne {K : PySem.W.Frag} : OpV K (rNeD K) gNe := fun x y p q z G H Q s r1 r2 e A => by
  unfold gNe at e
  split at e
  · rename_i c
    rw [Bool.and_eq_true] at c
    cases e
    exact ⟨_, _, shp_dp s r1 c.1, shp_dp s r2 c.2, c.1, c.2, A.now s rfl⟩
  · cases e
section
variable {X : Cx} {pos : Pos} {a b c : Expr} {f h k : D PV}
theorem sv_eq (hu : X.A.units + 64 < cLine) (ha : SV X a f) (hb : SV X b h) : SV X (.Compare a [.Eq] [b] pos) (dOp gEq f h) := sv_cmp (op_eqD hu) ov_eq ha hb (nomark _)
theorem sv_ne (hu : X.A.units + 64 < cLine) (ha : SV X a f) (hb : SV X b h) : SV X (.Compare a [.NotEq] [b] pos) (dOp gNe f h) := sv_cmp (op_neD hu) ov_ne ha hb (nomark _)
/-! ### in a list or tuple of flat items -/
def toV : PV → V
  | .non => .non
  | .bl b => .bl b
  | .int i => .int i
  | .str s => .str s
  | _ => .ty ""
def pflat : PV → Bool
  | .non => true
  | .bl _ => true
  | .int _ => true
  | .str _ => true
  | _ => false
def pfEq : PV → PV → Bool
  | .non, .non => true
  | .bl a, .bl b => a == b
  | .bl a, .int b => (if a then 1 else 0) == b
  | .int a, .bl b => a == (if b then 1 else 0)
  | .int a, .int b => a == b
  | .str a, .str b => a == b
  | _, _ => false
theorem rep_flat {K : PySem.W.Frag} {G : Hp} {v : V} {p : PV} (h : Rep K G v p) (f : pflat p = true) : v = toV p ∧ flatV v = true := by
  cases p with
  | non => cases (show v = _ from h); exact ⟨rfl, rfl⟩
  | bl b => cases (show v = _ from h); exact ⟨rfl, rfl⟩
  | int i => cases (show v = _ from h); exact ⟨rfl, rfl⟩
  | str s => cases (show v = _ from h); exact ⟨rfl, rfl⟩
  | _ => cases f
theorem eqV_flat {p q : PV} (f : pflat p = true) (g : pflat q = true) : eqV (toV p) (toV q) = pfEq p q := by
  cases p <;> cases q <;> first | rfl | exact absurd f (by decide) | exact absurd g (by decide)
theorem any_flat {K : PySem.W.Frag} {G : Hp} {x : V} {p : PV} (hx : Rep K G x p) (fp : pflat p = true) : ∀ {ps : List PV} {vs : List V}, Reps K G vs ps → ps.all pflat = true → inV x vs = (ps.any fun q => pfEq q p) ∧ vs.all flatV = true
  | [], vs, h, _ => by
    cases (show vs = [] from h)
    exact ⟨rfl, rfl⟩
  | q :: ps, vs, h, f => by
    obtain ⟨v, r, rfl, a, b⟩ := h
    rw [List.all_cons, Bool.and_eq_true] at f
    obtain ⟨e1, e2⟩ := rep_flat a f.1
    obtain ⟨e3, e4⟩ := rep_flat hx fp
    obtain ⟨e5, e6⟩ := any_flat hx fp b f.2
    refine ⟨?_, ?_⟩
    · show (eqV v x || inV x r) = (pfEq q p || _)
      rw [e5, e1, e3, eqV_flat f.1 fp]
    · rw [List.all_cons, e2, e6]
      rfl
def gIn (p : PV) : PV → Option Bool
  | .lst ys => if pflat p && ys.all pflat then some (ys.any fun q => pfEq q p) else none
  | .tup ys => if pflat p && ys.all pflat then some (ys.any fun q => pfEq q p) else none
  | _ => none
theorem pk_in {K : PySem.W.Frag} {G H : Hp} {x y : V} {p q : PV} {z neg : Bool} {Q : VK} (s : Same G H) (r1 : Rep K G x p) (r2 : Pk K G H y q) (e : gIn p q = some z) (h : Q (.bl (if neg then !z else z)) H) : rIn K neg x y H Q := by
  unfold gIn at e
  split at e
  · rename_i ys
    split at e
    · rename_i c
      rw [Bool.and_eq_true] at c
      cases e
      have fx := (rep_flat r1 c.1).2
      rcases r2 with ⟨a, vs, rfl, q1, q2⟩ | ⟨a, rfl, vs, q1, q2⟩
      · obtain ⟨e1, e2⟩ := any_flat r1 c.1 q2 c.2
        exact ⟨a, vs, rfl, .inl (SqL.of (s _ _ q1)), fx, e2, by rw [e1]; exact h⟩
      · obtain ⟨e1, e2⟩ := any_flat r1 c.1 q2 c.2
        exact ⟨a, vs, rfl, .inl (SqL.of q1), fx, e2, by rw [e1]; exact h⟩
    · cases e
  · rename_i ys
    split at e
    · rename_i c
      rw [Bool.and_eq_true] at c
      cases e
      have fx := (rep_flat r1 c.1).2
      rcases r2 with ⟨a, vs, rfl, q1, q2⟩ | ⟨a, rfl, q1⟩
      · obtain ⟨e1, e2⟩ := any_flat r1 c.1 q2 c.2
        exact ⟨a, vs, rfl, .inr (Same.seqT s q1), fx, e2, by rw [e1]; exact h⟩
      · exact q1.elim
    · cases e
  · cases e
@[simp] def dIn (f h : D PV) (Γ : Ev) : Option (PV × Ev) := (bnd f fun x => bnd h fun y => opt ((gIn x y).map PV.bl)) Γ
@[simp] def dNotIn (f h : D PV) (Γ : Ev) : Option (PV × Ev) := (bnd f fun x => bnd h fun y => opt ((gIn x y).map fun b => PV.bl (!b))) Γ
theorem sv_in (ha : SV X a f) (hb : SP X b h) (hm : behindInMarks .In b = false := by rfl) : SV X (.Compare a [.In] [b] pos) (dIn f h) := (pe_cmpR op_in_seq ha hb hm).imp fun σ H Q ⟨π, G, Γ, w, Γ', E, ef, q⟩ => by
  obtain ⟨x, Γ1, e1, ef⟩ := bnd_some ef
  obtain ⟨y, Γ2, e2, ef⟩ := bnd_some ef
  obtain ⟨e3, rfl⟩ := opt_some ef
  obtain ⟨z, e4, rfl⟩ := Option.map_eq_some_iff.mp e3
  refine ⟨π, G, Γ, x, Γ1, E, e1, fun u G1 H1 S1 r1 => ⟨π, G1, Γ1, y, _, S1.e, e2, fun v G2 H2 S2 r2 => ?_⟩⟩
  exact pk_in (neg := false) S2.e.sub (r1.mono S2.g.g) r2 e4 (q _ G2 H2 (S1.trans S2) rfl)
theorem sv_notIn (ha : SV X a f) (hb : SP X b h) (hm : behindInMarks .NotIn b = false := by rfl) : SV X (.Compare a [.NotIn] [b] pos) (dNotIn f h) := (pe_cmpR op_notIn_seq ha hb hm).imp fun σ H Q ⟨π, G, Γ, w, Γ', E, ef, q⟩ => by
  obtain ⟨x, Γ1, e1, ef⟩ := bnd_some ef
  obtain ⟨y, Γ2, e2, ef⟩ := bnd_some ef
  obtain ⟨e3, rfl⟩ := opt_some ef
  obtain ⟨z, e4, rfl⟩ := Option.map_eq_some_iff.mp e3
  refine ⟨π, G, Γ, x, Γ1, E, e1, fun u G1 H1 S1 r1 => ⟨π, G1, Γ1, y, _, S1.e, e2, fun v G2 H2 S2 r2 => ?_⟩⟩
  exact pk_in (neg := true) S2.e.sub (r1.mono S2.g.g) r2 e4 (q _ G2 H2 (S1.trans S2) rfl)
/-! ### and, or, not, if-else as values; chains -/
@[simp] def dAnd (f h : D PV) (Γ : Ev) : Option (PV × Ev) := (bnd f fun x Γ => match x with
  | .bl b => if b = true then h Γ else some (.bl false, Γ)
  | _ => none) Γ
@[simp] def dOr (f h : D PV) (Γ : Ev) : Option (PV × Ev) := (bnd f fun x Γ => match x with
  | .bl b => if b = true then some (.bl true, Γ) else h Γ
  | _ => none) Γ
@[simp] def dNot (f : D PV) (Γ : Ev) : Option (PV × Ev) := (bnd f fun x => match x with
  | .bl b => ret (.bl (!b))
  | _ => fun _ => none) Γ
theorem sv_one {op : BoolOp} (h : SV X a f) : SV X (.BoolOp op [a] pos) f := pe_one h
theorem sv_and {rest : List Expr} (ha : SV X a f) (hb : SV X (.BoolOp .And (b :: rest) pos) h) : SV X (.BoolOp .And (a :: b :: rest) pos) (dAnd f h) := (pe_and ha hb).imp fun σ H Q ⟨π, G, Γ, w, Γ', E, ef, q⟩ => by
  obtain ⟨x, Γ1, e1, ef⟩ := bnd_some ef
  refine ⟨π, G, Γ, x, Γ1, E, e1, fun u G1 H1 S1 r1 => ?_⟩
  split at ef
  · rename_i b
    cases b with
    | true =>
      rw [if_pos rfl] at ef
      exact ⟨true, r1, iteT ⟨π, G1, Γ1, w, Γ', S1.e, ef, fun v G2 H2 S2 r2 => q v G2 H2 (S1.trans S2) r2⟩⟩
    | false =>
      rw [if_neg Bool.false_ne_true] at ef
      cases ef
      exact ⟨false, r1, iteF (q _ G1 H1 S1 rfl)⟩
  · cases ef
theorem sv_or {rest : List Expr} (ha : SV X a f) (hb : SV X (.BoolOp .Or (b :: rest) pos) h) : SV X (.BoolOp .Or (a :: b :: rest) pos) (dOr f h) := (pe_or ha hb).imp fun σ H Q ⟨π, G, Γ, w, Γ', E, ef, q⟩ => by
  obtain ⟨x, Γ1, e1, ef⟩ := bnd_some ef
  refine ⟨π, G, Γ, x, Γ1, E, e1, fun u G1 H1 S1 r1 => ?_⟩
  split at ef
  · rename_i b
    cases b with
    | false =>
      rw [if_neg Bool.false_ne_true] at ef
      exact ⟨false, r1, iteF ⟨π, G1, Γ1, w, Γ', S1.e, ef, fun v G2 H2 S2 r2 => q v G2 H2 (S1.trans S2) r2⟩⟩
    | true =>
      rw [if_pos rfl] at ef
      cases ef
      exact ⟨true, r1, iteT (q _ G1 H1 S1 rfl)⟩
  · cases ef
theorem sv_not (ha : SV X a f) : SV X (.UnaryOp .Not a pos) (dNot f) := (pe_not ha).imp fun σ H Q ⟨π, G, Γ, w, Γ', E, ef, q⟩ => by
  obtain ⟨x, Γ1, e1, ef⟩ := bnd_some ef
  refine ⟨π, G, Γ, x, Γ1, E, e1, fun u G1 H1 S1 r1 => ?_⟩
  split at ef
  · obtain ⟨rfl, rfl⟩ := ret_some ef
    exact ⟨_, r1, q _ G1 H1 S1 rfl⟩
  · cases ef
/-- tests -/
@[simp] def dTr (f : D PV) (Γ : Ev) : Option (Bool × Ev) := (bnd f fun x => match x with
  | .bl b => ret b
  | _ => fun _ => none) Γ
theorem sb_val (ha : SV X a f) (he : ∀ whole, isTrue a X.env whole = (do let v ← whole; standAt a.pos; holding [v] (truthy v)) := by intro _; rfl) : SB X a (dTr f) := (pt_val ha he).imp fun σ H Q ⟨π, G, Γ, w, Γ', E, ef, q⟩ => by
  obtain ⟨x, Γ1, e1, ef⟩ := bnd_some ef
  refine ⟨π, G, Γ, x, Γ1, E, e1, fun u G1 H1 S1 r1 => ?_⟩
  split at ef
  · obtain ⟨rfl, rfl⟩ := ret_some ef
    exact ⟨_, r1, q G1 H1 S1⟩
  · cases ef
@[simp] def dBAnd (f h : D Bool) (Γ : Ev) : Option (Bool × Ev) := (bnd f fun x Γ => if x = true then h Γ else some (false, Γ)) Γ
@[simp] def dBOr (f h : D Bool) (Γ : Ev) : Option (Bool × Ev) := (bnd f fun x Γ => if x = true then some (true, Γ) else h Γ) Γ
@[simp] def dBNot (f : D Bool) (Γ : Ev) : Option (Bool × Ev) := (bnd f fun x => ret (!x)) Γ
abbrev SW (X : Cx) (e : Expr) (f : D Bool) : Prop := PW X e (tB X.K f)
variable {tf th : D Bool} {rest : List Expr}
theorem sw_one {op : BoolOp} (ha : SB X a tf) : SW X (.BoolOp op [a] pos) tf := by
  cases op
  · exact pw_and1 ha
  · exact pw_or1 ha
theorem sw_and (ha : SB X a tf) (hb : SW X (.BoolOp .And (b :: rest) pos) th) : SW X (.BoolOp .And (a :: b :: rest) pos) (dBAnd tf th) := (pw_and ha hb).imp fun σ H Q ⟨π, G, Γ, w, Γ', E, ef, q⟩ => by
  obtain ⟨x, Γ1, e1, ef⟩ := bnd_some ef
  refine ⟨π, G, Γ, x, Γ1, E, e1, fun G1 H1 S1 => ?_⟩
  cases x with
  | true =>
    rw [if_pos rfl] at ef
    exact iteT ⟨π, G1, Γ1, w, Γ', S1.e, ef, fun G2 H2 S2 => q G2 H2 (S1.trans S2)⟩
  | false =>
    rw [if_neg Bool.false_ne_true] at ef
    cases ef
    exact iteF (q G1 H1 S1)
theorem sw_or (ha : SB X a tf) (hb : SW X (.BoolOp .Or (b :: rest) pos) th) : SW X (.BoolOp .Or (a :: b :: rest) pos) (dBOr tf th) := (pw_or ha hb).imp fun σ H Q ⟨π, G, Γ, w, Γ', E, ef, q⟩ => by
  obtain ⟨x, Γ1, e1, ef⟩ := bnd_some ef
  refine ⟨π, G, Γ, x, Γ1, E, e1, fun G1 H1 S1 => ?_⟩
  cases x with
  | false =>
    rw [if_neg Bool.false_ne_true] at ef
    exact iteF ⟨π, G1, Γ1, w, Γ', S1.e, ef, fun G2 H2 S2 => q G2 H2 (S1.trans S2)⟩
  | true =>
    rw [if_pos rfl] at ef
    cases ef
    exact iteT (q G1 H1 S1)
theorem sb_w (h : SW X a tf) : SB X a tf := h.pt
theorem sb_not (ha : SB X a tf) : SB X (.UnaryOp .Not a pos) (dBNot tf) := (pt_not ha).imp fun σ H Q ⟨π, G, Γ, w, Γ', E, ef, q⟩ => by
  obtain ⟨x, Γ1, e1, ef⟩ := bnd_some ef
  obtain ⟨rfl, rfl⟩ := ret_some ef
  exact ⟨π, G, Γ, x, _, E, e1, fun G1 H1 S1 => q G1 H1 S1⟩
/-- a comparison as a test -/
theorem sb_cmp {op : CmpOp} {r : R2} {g : PV → PV → Option PV} (ho : OpR X (compareOp op) r) (hv : OpV X.K r g) (ha : SV X a f) (hb : SV X b h) (hm : behindInMarks op b = false) : SB X (.Compare a [op] [b] pos) (dTr (dOp g f h)) :=
  (pt_cmpR ho ha hb hm).imp fun σ H Q ⟨π, G, Γ, w, Γ', E, ef, q⟩ => by
    obtain ⟨x, Γ1, e1, ef⟩ := bnd_some ef
    refine t_op hv ⟨π, G, Γ, x, Γ1, E, e1, fun u G1 H1 S1 r1 => ?_⟩
    split at ef
    · obtain ⟨rfl, rfl⟩ := ret_some ef
      exact ⟨_, r1, q G1 H1 S1⟩
    · cases ef
theorem sb_lt (ha : SV X a f) (hb : SV X b h) : SB X (.Compare a [.Lt] [b] pos) (dTr (dOp gLt f h)) := sb_cmp op_lt ov_lt ha hb (nomark _)
theorem sb_le (ha : SV X a f) (hb : SV X b h) : SB X (.Compare a [.LtE] [b] pos) (dTr (dOp gLe f h)) := sb_cmp op_le ov_le ha hb (nomark _)
theorem sb_gt (ha : SV X a f) (hb : SV X b h) : SB X (.Compare a [.Gt] [b] pos) (dTr (dOp gGt f h)) := sb_cmp op_gt ov_gt ha hb (nomark _)
theorem sb_ge (ha : SV X a f) (hb : SV X b h) : SB X (.Compare a [.GtE] [b] pos) (dTr (dOp gGe f h)) := sb_cmp op_ge ov_ge ha hb (nomark _)
theorem sb_eq (hu : X.A.units + 64 < cLine) (ha : SV X a f) (hb : SV X b h) : SB X (.Compare a [.Eq] [b] pos) (dTr (dOp gEq f h)) := sb_cmp (op_eqD hu) ov_eq ha hb (nomark _)
theorem sb_ne (hu : X.A.units + 64 < cLine) (ha : SV X a f) (hb : SV X b h) : SB X (.Compare a [.NotEq] [b] pos) (dTr (dOp gNe f h)) := sb_cmp (op_neD hu) ov_ne ha hb (nomark _)
theorem sb_isN {j : Nat} {pos' : Pos} (ha : SP X a f) : SB X (.Compare a [.Is] [.Constant .none j pos'] pos) (dTr (dIsN f)) := (pt_cmp (pc_isN ha) rfl).imp fun σ H Q ⟨π, G, Γ, w, Γ', E, ef, q⟩ => by
  obtain ⟨x, Γ1, e1, ef⟩ := bnd_some ef
  obtain ⟨y, Γ2, e2, e3⟩ := bnd_some e1
  obtain ⟨rfl, rfl⟩ := ret_some e3
  obtain ⟨rfl, rfl⟩ := ret_some ef
  refine ⟨π, G, Γ, y, _, E, e2, fun u G1 H1 S1 r1 => ⟨_, rfl, ?_⟩⟩
  rw [rep_non r1]
  exact q G1 H1 S1
theorem sb_notN {j : Nat} {pos' : Pos} (ha : SP X a f) : SB X (.Compare a [.IsNot] [.Constant .none j pos'] pos) (dTr (dNotN f)) := (pt_cmp (pc_notN ha) rfl).imp fun σ H Q ⟨π, G, Γ, w, Γ', E, ef, q⟩ => by
  obtain ⟨x, Γ1, e1, ef⟩ := bnd_some ef
  obtain ⟨y, Γ2, e2, e3⟩ := bnd_some e1
  obtain ⟨rfl, rfl⟩ := ret_some e3
  obtain ⟨rfl, rfl⟩ := ret_some ef
  refine ⟨π, G, Γ, y, _, E, e2, fun u G1 H1 S1 r1 => ⟨_, rfl, ?_⟩⟩
  rw [rep_non r1]
  exact q G1 H1 S1
theorem sb_in (ha : SV X a f) (hb : SP X b h) (hm : behindInMarks .In b = false := by rfl) : SB X (.Compare a [.In] [b] pos) (dTr (dIn f h)) := (pt_cmpR op_in_seq ha hb hm).imp fun σ H Q ⟨π, G, Γ, w, Γ', E, ef, q⟩ => by
  obtain ⟨x, Γ1, e1, ef⟩ := bnd_some ef
  obtain ⟨y, Γ2, e2, e3⟩ := bnd_some e1
  obtain ⟨y2, Γ3, e4, e5⟩ := bnd_some e3
  obtain ⟨e6, rfl⟩ := opt_some e5
  obtain ⟨z, e7, rfl⟩ := Option.map_eq_some_iff.mp e6
  obtain ⟨rfl, rfl⟩ := ret_some ef
  refine ⟨π, G, Γ, y, Γ2, E, e2, fun u G1 H1 S1 r1 => ⟨π, G1, Γ2, y2, _, S1.e, e4, fun v G2 H2 S2 r2 => ?_⟩⟩
  exact pk_in (neg := false) S2.e.sub (r1.mono S2.g.g) r2 e7 ⟨_, rfl, q G2 H2 (S1.trans S2)⟩
theorem sb_notIn (ha : SV X a f) (hb : SP X b h) (hm : behindInMarks .NotIn b = false := by rfl) : SB X (.Compare a [.NotIn] [b] pos) (dTr (dNotIn f h)) := (pt_cmpR op_notIn_seq ha hb hm).imp fun σ H Q ⟨π, G, Γ, w, Γ', E, ef, q⟩ => by
  obtain ⟨x, Γ1, e1, ef⟩ := bnd_some ef
  obtain ⟨y, Γ2, e2, e3⟩ := bnd_some e1
  obtain ⟨y2, Γ3, e4, e5⟩ := bnd_some e3
  obtain ⟨e6, rfl⟩ := opt_some e5
  obtain ⟨z, e7, rfl⟩ := Option.map_eq_some_iff.mp e6
  obtain ⟨rfl, rfl⟩ := ret_some ef
  refine ⟨π, G, Γ, y, Γ2, E, e2, fun u G1 H1 S1 r1 => ⟨π, G1, Γ2, y2, _, S1.e, e4, fun v G2 H2 S2 r2 => ?_⟩⟩
  exact pk_in (neg := true) S2.e.sub (r1.mono S2.g.g) r2 e7 ⟨_, rfl, q G2 H2 (S1.trans S2)⟩
/-- b if c else d -/
@[simp] def dIf (c : D Bool) (f h : D PV) (Γ : Ev) : Option (PV × Ev) := (bnd c fun x Γ => if x = true then f Γ else h Γ) Γ
theorem sv_if (hc : SB X c tf) (ha : SV X a f) (hb : SV X b h) : SV X (.IfExp c a b pos) (dIf tf f h) := (pe_ifExp hc ha hb).imp fun σ H Q ⟨π, G, Γ, w, Γ', E, ef, q⟩ => by
  obtain ⟨x, Γ1, e1, ef⟩ := bnd_some ef
  refine ⟨π, G, Γ, x, Γ1, E, e1, fun G1 H1 S1 => ?_⟩
  cases x with
  | true =>
    rw [if_pos rfl] at ef
    exact iteT ⟨π, G1, Γ1, w, Γ', S1.e, ef, fun v G2 H2 S2 r2 => q v G2 H2 (S1.trans S2) r2⟩
  | false =>
    rw [if_neg Bool.false_ne_true] at ef
    exact iteF ⟨π, G1, Γ1, w, Γ', S1.e, ef, fun v G2 H2 S2 r2 => q v G2 H2 (S1.trans S2) r2⟩
/-- a < b < c -/
@[simp] def dChain (g g' : PV → PV → Option PV) (f h k : D PV) (Γ : Ev) : Option (PV × Ev) := (bnd f fun x => bnd h fun y => bnd (opt (g x y)) fun z Γ => match z with
  | .bl b => if b = true then bnd k (fun w => opt (g' y w)) Γ else some (.bl false, Γ)
  | _ => none) Γ
theorem t_chain {K : PySem.W.Frag} {r r' : R2} {g g' : PV → PV → Option PV} (hv : OpV K r g) (hv' : OpV K r' g') {σ : St} {H : Hp} {Q : VK} (t : tV K (dChain g g' f h k) σ H Q) : tChain r r' (tV K f) (tV K h) (tV K k) σ H Q := by
  obtain ⟨π, G, Γ, w, Γ', E, ef, q⟩ := t
  obtain ⟨x, Γ1, e1, ef⟩ := bnd_some ef
  obtain ⟨y, Γ2, e2, ef⟩ := bnd_some ef
  obtain ⟨z, Γ3, e3, eg⟩ := bnd_some ef
  obtain ⟨e6, e7⟩ := opt_some e3
  subst e7
  clear ef e3
  refine ⟨π, G, Γ, x, Γ1, E, e1, fun u G1 H1 S1 r1 => ⟨π, G1, Γ1, y, _, S1.e, e2, fun v G2 H2 S2 r2 => ?_⟩⟩
  refine hv u v x y z G2 H2 _ S2.e.sub (r1.mono S2.g.g) r2 e6 fun z' G3 H3 g3 s3 r3 => ?_
  have S3 := Ste.grow S2.e g3 s3
  split at eg
  · rename_i b
    cases b with
    | true =>
      rw [if_pos rfl] at eg
      obtain ⟨y2, Γ4, e4, ef⟩ := bnd_some eg
      obtain ⟨e5, rfl⟩ := opt_some ef
      refine ⟨true, r3, iteT ⟨π, G3, _, y2, _, S3.e, e4, fun w' G4 H4 S4 r4 => ?_⟩⟩
      exact hv' v w' y y2 w G4 H4 Q S4.e.sub ((r2.mono g3.g).mono S4.g.g) r4 e5 fun z2 G5 H5 g5 s5 r5 => q z2 G5 H5 (((S1.trans S2).trans S3).trans (S4.trans (.grow S4.e g5 s5))) r5
    | false =>
      rw [if_neg Bool.false_ne_true] at eg
      cases eg
      exact ⟨false, r3, iteF (q _ G3 H3 ((S1.trans S2).trans S3) rfl)⟩
  · cases eg
theorem sv_chain {op op' : CmpOp} {r r' : R2} {g g' : PV → PV → Option PV} (ho : OpR X (compareOp op) r) (ho' : OpR X (compareOp op') r') (hv : OpV X.K r g) (hv' : OpV X.K r' g') (ha : SV X a f) (hb : SV X b h) (hc : SV X c k)
    (hm : lastMarks [op, op'] [b, c] = false := by with_unfolding_all rfl) : SV X (.Compare a [op, op'] [b, c] pos) (dChain g g' f h k) :=
  (pe_chain ho ho' ha hb hc hm).imp fun _ _ _ t => t_chain hv hv' t
theorem sb_chain {op op' : CmpOp} {r r' : R2} {g g' : PV → PV → Option PV} (ho : OpR X (compareOp op) r) (ho' : OpR X (compareOp op') r') (hv : OpV X.K r g) (hv' : OpV X.K r' g') (ha : SV X a f) (hb : SV X b h) (hc : SV X c k)
    (hm : lastMarks [op, op'] [b, c] = false := by with_unfolding_all rfl) : SB X (.Compare a [op, op'] [b, c] pos) (dTr (dChain g g' f h k)) :=
  (pt_chain ho ho' ha hb hc hm).imp fun σ H Q ⟨π, G, Γ, w, Γ', E, ef, q⟩ => by
    obtain ⟨x, Γ1, e1, ef⟩ := bnd_some ef
    refine t_chain hv hv' ⟨π, G, Γ, x, Γ1, E, e1, fun u G1 H1 S1 r1 => ?_⟩
    split at ef
    · obtain ⟨rfl, rfl⟩ := ret_some ef
      exact ⟨_, r1, q G1 H1 S1⟩
    · cases ef
end
/-! ### argument lists, displays -/
@[simp] def dNil (Γ : Ev) : Option ((List PV) × Ev) := (ret []) Γ
@[simp] def dCons (f : D PV) (h : D (List PV)) (Γ : Ev) : Option (List PV × Ev) := (bnd f fun x => bnd h fun xs => ret (x :: xs)) Γ
def mkT (xs : List PV) : Option PV := if fits xs.length = true then some (.tup xs) else none
def mkL (xs : List PV) : Option PV := if fits xs.length = true then some (.lst xs) else none
@[simp] def dTup (f : D (List PV)) (Γ : Ev) : Option (PV × Ev) := (bnd f fun xs => opt (mkT xs)) Γ
@[simp] def dLst (f : D (List PV)) (Γ : Ev) : Option (Rs × Ev) := (bnd f fun xs => opt ((mkL xs).map Rs.new)) Γ
/-- the answer is a new list -/
theorem new_list {K : PySem.W.Frag} {π : Nat → Addr} {σ : St} {G H G1 H1 : Hp} {Γ Γ1 : Ev} {vs : List V} {xs : List PV} {Q : VK} (S : Ste K π σ G H Γ G1 H1 Γ1) (r : Reps K G1 vs xs)
    (q : ∀ x G' H', Ste K π σ G H Γ G' H' Γ1 → RR K G' H' (fun a => H a = none) x (.new (.lst xs)) → Q x H') {p : Addr} (n : H1 p = none) : Q (.ref p) (upd H1 p (.lst vs)) := by
  obtain ⟨g, s, gn⟩ := gr_made (F := fun _ => False) (o := .lst vs) S.e.sub n
  exact q _ _ _ (S.trans (.grow S.e g s)) ⟨p, rfl, S.g.nothing n, gn, vs, upd_same, r⟩
section
variable {X : Cx} {pos : Pos} {a b c e : Expr} {es : List Expr} {f h k : D PV} {l : D (List PV)}
theorem sl_nil : SL X [] dNil := pa_nil.imp fun σ H Q ⟨π, G, Γ, w, Γ', E, ef, q⟩ => by
  obtain ⟨rfl, rfl⟩ := ret_some ef
  exact q [] G H (.refl E) .nil
theorem sl_cons (ha : SV X e f) (hr : SL X es l) (hs : starEach (e :: es) X.env = (false, eval e X.env) :: starEach es X.env := by rfl) : SL X (e :: es) (dCons f l) := (pa_cons ha hr hs).imp fun σ H Q ⟨π, G, Γ, w, Γ', E, ef, q⟩ => by
  obtain ⟨x, Γ1, e1, ef⟩ := bnd_some ef
  obtain ⟨xs, Γ2, e2, ef⟩ := bnd_some ef
  obtain ⟨rfl, rfl⟩ := ret_some ef
  exact ⟨π, G, Γ, x, Γ1, E, e1, fun u G1 H1 S1 r1 => ⟨π, G1, Γ1, xs, _, S1.e, e2, fun us G2 H2 S2 r2 => q _ G2 H2 (S1.trans S2) (.cons (r1.mono S2.g.g) r2)⟩⟩
theorem sv_tup {k' : Nat} (hl : SL X es l) : SV X (.Tuple es k' pos) (dTup l) := (pe_tup hl).imp fun σ H Q ⟨π, G, Γ, w, Γ', E, ef, q⟩ => by
  obtain ⟨xs, Γ1, e1, ef⟩ := bnd_some ef
  obtain ⟨e2, rfl⟩ := opt_some ef
  unfold mkT at e2
  split at e2
  · rename_i hz
    have hz := of_fits hz
    cases e2
    refine ⟨π, G, Γ, xs, _, E, e1, fun us G1 H1 S1 r1 => ⟨?_, fun p hp => ?_⟩⟩
    · have := line_m
      have := r1.length
      omega
    · obtain ⟨g, s⟩ := gr_laid (F := fun _ => False) (o := .tup us) S1.e.sub hp
      exact q _ _ _ (S1.trans (.grow S1.e g s)) ⟨p, us, rfl, .inl (.inl upd_same), r1.mono g.g⟩
  · cases e2
theorem sr_lst (hl : SL X es l) : SR X (.List es pos) (dLst l) := (pe_lst hl).imp fun σ H Q ⟨π, G, Γ, w, Γ', E, ef, q⟩ => by
  obtain ⟨xs, Γ1, e1, ef⟩ := bnd_some ef
  obtain ⟨e2, rfl⟩ := opt_some ef
  obtain ⟨z, e3, rfl⟩ := Option.map_eq_some_iff.mp e2
  unfold mkL at e3
  split at e3
  · rename_i hz
    have hz := of_fits hz
    cases e3
    refine ⟨π, G, Γ, xs, _, E, e1, fun us G1 H1 S1 r1 => ⟨?_, fun p hp => new_list S1 r1 q hp⟩⟩
    have := line_m
    have := r1.length
    omega
  · cases e3
/-! ### subscripts -/
@[simp] def gIx : PV → PV → Option PV
  | .tup xs, .int i => atI xs i
  | .lst xs, .int i => atI xs i
  | .str z, .int i => if fits z.length = true then (atI z.cps.toList i).map fun c => .str ⟨#[c]⟩ else none
  | _, _ => none
theorem reps_at {K : PySem.W.Frag} {G : Hp} {vs : List V} {ps : List PV} {i : Int} {p : PV} (r : Reps K G vs ps) (e : atI ps i = some p) : ∃ v, atI vs i = some v ∧ Rep K G v p := by
  unfold atI at e ⊢
  rw [r.length]
  obtain ⟨j, e1, e2⟩ := Option.bind_eq_some_iff.mp e
  obtain ⟨v, h1, h2⟩ := r.get e2
  exact ⟨v, by rw [e1]; exact h1, h2⟩
theorem pk_ix {K : PySem.W.Frag} {G H : Hp} {x y : V} {p q z : PV} {Q : VK} (s : Same G H) (r1 : Pk K G H x p) (r2 : Rep K G y q) (e : gIx p q = some z) (A : Ans K G H z Q) : rIx K x y H Q := by
  unfold gIx at e
  split at e
  · rename_i xs i
    rcases r1 with ⟨a, vs, rfl, q1, q2⟩ | ⟨a, rfl, q1⟩
    · obtain ⟨v, h1, h2⟩ := reps_at q2 e
      exact .inr (.inl ⟨a, vs, i, v, rfl, r2, Same.seqT s q1, h1, A.now s h2⟩)
    · exact q1.elim
  · rename_i xs i
    rcases r1 with ⟨a, vs, rfl, q1, q2⟩ | ⟨a, rfl, vs, q1, q2⟩
    · obtain ⟨v, h1, h2⟩ := reps_at q2 e
      exact .inl ⟨a, vs, i, v, rfl, r2, SqL.of (s _ _ q1), h1, A.now s h2⟩
    · obtain ⟨v, h1, h2⟩ := reps_at q2 e
      exact .inl ⟨a, vs, i, v, rfl, r2, SqL.of q1, h1, A.now s h2⟩
  · rename_i z' i
    split at e
    · rename_i hz
      have hz := of_fits hz
      obtain ⟨c, e1, rfl⟩ := Option.map_eq_some_iff.mp e
      rcases r1 with r1 | ⟨a, rfl, q1⟩
      · have := line_m
        exact .inr (.inr ⟨z', i, c, r1, r2, by omega, e1, A.now s rfl⟩)
      · exact q1.elim
    · cases e
  · cases e
/-- the index first, the object as it stands then -/
@[simp] def dIxN (i : Nat) (h : D PV) (Γ : Ev) : Option (PV × Ev) := (bnd (dPk i) fun _ => bnd h fun y => bnd (dPk i) fun x => opt (gIx x y)) Γ
theorem sv_ix (ha : SV X a f) (hb : SV X b h) (hs : PlainIx b := by intro _ _; rfl) : SV X (.Subscript a b pos) (dOp gIx f h) := (pe_ix ix_seq ha hb hs).imp fun _ _ _ t =>
  t_op (fun x y p q z G H Q s r1 r2 e A => pk_ix s (.inl r1) r2 e A) t
theorem sv_ixN (i : Nat) {x : Str} {pos' : Pos} (hb : SV X b h) (hs : PlainIx b := by intro _ _; rfl) (hN : X.N[i]? = some x := by rfl) (hv : Vis X.env.scope x := by first | exact Or.inl rfl | exact Or.inr (Or.inl rfl) | exact Or.inr (Or.inr rfl))
    (hd : (x == ("__debug__" : Str)) = false := by decide) (hcd : (x == ("__classdict__" : Str)) = false := by decide) : SV X (.Subscript (.Name x pos') b pos) (dIxN i h) := (pe_ix ix_seq (pe_var hN hv hd hcd) hb hs).imp fun σ H Q ⟨π, G, Γ, w, Γ', E, ef, q⟩ => by
  obtain ⟨x0, Γ0, e0, ef⟩ := bnd_some ef
  obtain ⟨y, Γ1, e1, ef⟩ := bnd_some ef
  obtain ⟨x, Γ2, e2, ef⟩ := bnd_some ef
  obtain ⟨e3, rfl⟩ := opt_some ef
  obtain ⟨rfl, v, hv', _⟩ := Sl_at E e0
  refine ⟨v, hv', π, G, _, y, Γ1, E, e1, fun u G1 H1 S1 r1 => ?_⟩
  obtain ⟨rfl, v', h1, h2⟩ := Sl_at S1.e e2
  rw [hv'] at h1
  cases h1
  exact pk_ix S1.e.sub h2 r1 e3 fun z G' H' g' s' r' => q z G' H' (S1.trans (.grow S1.e g' s')) r'
/-! ### slices -/
def cutA {α : Type} (xs : List α) (lo hi : Option Int) : List α := (xs.drop (HT.sIx xs.length 0 lo)).take (HT.sIx xs.length xs.length hi - HT.sIx xs.length 0 lo)
theorem reps_cut {K : PySem.W.Frag} {G : Hp} {vs : List V} {ps : List PV} (r : Reps K G vs ps) (lo hi : Option Int) : Reps K G (cutV vs lo hi) (cutA ps lo hi) := by
  unfold cutV cutA
  rw [r.length]
  exact (r.drop _).take _
@[simp] def gSl : PV → Option Int → Option Int → Option Rs
  | .tup xs, lo, hi => some (.val (.tup (cutA xs lo hi)))
  | .lst xs, lo, hi => some (.new (.lst (cutA xs lo hi)))
  | .scr ns, lo, hi => some (.new (.lst ((cutA ns lo hi).map PV.int)))
  | .str z, lo, hi => if fits z.length = true then some (.val (.str (cutS z lo hi))) else none
  | _, _, _ => none
abbrev rSl (K : PySem.W.Frag) : V → Option Int → Option Int → Hp → VK → Prop := fun x lo hi H Q => rSlL K x lo hi H Q ∨ (rSlA K x lo hi H Q ∨ rSlS x lo hi H Q)
theorem sl_all {X : Cx} : SlR X (rSl X.K) := sl_list.or (sl_tupA.or sl_str)
theorem reps_ints {K : PySem.W.Frag} {G : Hp} : ∀ ns : List Int, Reps K G (ns.map V.int) (ns.map PV.int)
  | [] => rfl
  | n :: ns => ⟨.int n, ns.map V.int, rfl, rfl, reps_ints ns⟩
theorem cut_map (ns : List Int) (lo hi : Option Int) : cutV (ns.map V.int) lo hi = (cutA ns lo hi).map V.int := by
  unfold cutV cutA
  rw [List.length_map, List.map_take, List.map_drop]
theorem pk_sl {K : PySem.W.Frag} {π : Nat → Addr} {σ : St} {G H G1 H1 : Hp} {Γ Γ1 : Ev} {x : V} {p : PV} {r : Rs} {lo hi : Option Int} {Q : VK} (S : Ste K π σ G H Γ G1 H1 Γ1) (r1 : Pk K G1 H1 x p) (e : gSl p lo hi = some r)
    (q : ∀ x G' H', Ste K π σ G H Γ G' H' Γ1 → RR K G' H' (fun a => H a = none) x r → Q x H') : rSl K x lo hi H1 Q := by
  unfold gSl at e
  split at e
  · rename_i xs
    cases e
    rcases r1 with ⟨a, vs, rfl, q1, q2⟩ | ⟨a, rfl, q1⟩
    · refine .inr (.inl ⟨a, vs, rfl, Same.seqT S.e.sub q1, fun hw => ?_, fun _ p hp => ?_⟩)
      · refine q _ G1 H1 S ⟨a, vs, rfl, q1, ?_⟩
        have e : cutA xs lo hi = xs := by
          unfold cutA
          rw [← q2.length, hw.1, hw.2, List.drop_zero, Nat.sub_zero, q2.length, List.take_length]
        rw [e]
        exact q2
      · obtain ⟨g, s⟩ := gr_laid (F := fun _ => False) (o := .tup (cutV vs lo hi)) S.e.sub hp
        exact q _ _ _ (S.trans (.grow S.e g s)) ⟨p, _, rfl, .inl (.inl upd_same), (reps_cut q2 lo hi).mono g.g⟩
    · exact q1.elim
  · rename_i xs
    cases e
    rcases r1 with ⟨a, vs, rfl, q1, q2⟩ | ⟨a, rfl, vs, q1, q2⟩
    · exact .inl ⟨a, vs, rfl, SqL.of (S.e.sub _ _ q1), fun p hp => new_list S (reps_cut q2 lo hi) q hp⟩
    · exact .inl ⟨a, vs, rfl, SqL.of q1, fun p hp => new_list S (reps_cut q2 lo hi) q hp⟩
  · rename_i ns
    cases e
    rcases r1 with ⟨a, rfl, q1⟩ | ⟨a, rfl, q1⟩
    · refine .inl ⟨a, _, rfl, S.e.sub.seq q1, fun p hp => ?_⟩
      rw [cut_map]
      exact new_list S (reps_ints _) q hp
    · exact q1.elim
  · rename_i z
    split at e
    · rename_i hz
      have hz := of_fits hz
      cases e
      rcases r1 with r1 | ⟨a, rfl, q1⟩
      · have := line_m
        exact .inr (.inr ⟨z, r1, by omega, q _ G1 H1 S rfl⟩)
      · exact q1.elim
    · cases e
  · cases e
abbrev TOo := TO
def tOI (K : PySem.W.Frag) (f : D (Option Int)) : TO := fun σ H Q => ∃ π G Γ v Γ', ER K π G σ H Γ ∧ f Γ = some (v, Γ') ∧ ∀ G' H', Ste K π σ G H Γ G' H' Γ' → Q v H'
abbrev SO (X : Cx) (e : Option Expr) (f : D (Option Int)) : Prop := PO X e (tOI X.K f)
theorem PO_imp {e : Option Expr} {t t' : TO} (h : PO X e t) (i : ∀ σ H Q, t' σ H Q → t σ H Q) : PO X e t' := by
  obtain ⟨r⟩ := h
  exact ⟨by
    intros
    apply r
    · assumption
    · apply i
      assumption⟩
@[simp] def dPn (Γ : Ev) : Option ((Option Int) × Ev) := (ret none) Γ
@[simp] def dPt (f : D PV) (Γ : Ev) : Option ((Option Int) × Ev) := (bnd f fun x => match x with
  | .int i => ret (some i)
  | _ => fun _ => none) Γ
theorem so_none : SO X none dPn := PO_imp po_none fun σ H Q ⟨π, G, Γ, w, Γ', E, ef, q⟩ => by
  obtain ⟨rfl, rfl⟩ := ret_some ef
  exact q G H (.refl E)
theorem so_some (ha : SV X a f) : SO X (some a) (dPt f) := PO_imp (po_some ha) fun σ H Q ⟨π, G, Γ, w, Γ', E, ef, q⟩ => by
  obtain ⟨x, Γ1, e1, ef⟩ := bnd_some ef
  refine ⟨π, G, Γ, x, Γ1, E, e1, fun u G1 H1 S1 r1 => ?_⟩
  split at ef
  · obtain ⟨rfl, rfl⟩ := ret_some ef
    exact ⟨_, r1, q G1 H1 S1⟩
  · cases ef
@[simp] def dSl (f : D PV) (lo hi : D (Option Int)) (Γ : Ev) : Option (Rs × Ev) := (bnd f fun x => bnd lo fun i => bnd hi fun j => opt (gSl x i j)) Γ
@[simp] def dSlN (n : Nat) (lo hi : D (Option Int)) (Γ : Ev) : Option (Rs × Ev) := (bnd (dPk n) fun _ => bnd lo fun i => bnd hi fun j => bnd (dPk n) fun x => opt (gSl x i j)) Γ
theorem sr_sl {lo hi : Option Expr} {dl dh : D (Option Int)} {p2 : Pos} (ha : SV X a f) (hl : SO X lo dl) (hh : SO X hi dh) : SR X (.Subscript a (.Slice lo hi none p2) pos) (dSl f dl dh) := (pe_slice sl_all ha hl hh).imp fun σ H Q ⟨π, G, Γ, w, Γ', E, ef, q⟩ => by
  obtain ⟨x, Γ1, e1, ef⟩ := bnd_some ef
  obtain ⟨i, Γ2, e2, ef⟩ := bnd_some ef
  obtain ⟨j, Γ3, e3, ef⟩ := bnd_some ef
  obtain ⟨e4, rfl⟩ := opt_some ef
  refine ⟨π, G, Γ, x, Γ1, E, e1, fun u G1 H1 S1 r1 => ⟨π, G1, Γ1, i, Γ2, S1.e, e2, fun G2 H2 S2 => ⟨π, G2, Γ2, j, _, S2.e, e3, fun G3 H3 S3 => ?_⟩⟩⟩
  exact pk_sl ((S1.trans S2).trans S3) (.inl ((r1.mono S2.g.g).mono S3.g.g)) e4 q
theorem sr_slN (n : Nat) {lo hi : Option Expr} {dl dh : D (Option Int)} {p2 pos' : Pos} {x : Str} (hl : SO X lo dl) (hh : SO X hi dh) (hN : X.N[n]? = some x := by rfl) (hv : Vis X.env.scope x := by first | exact Or.inl rfl | exact Or.inr (Or.inl rfl) | exact Or.inr (Or.inr rfl))
    (hd : (x == ("__debug__" : Str)) = false := by decide) (hcd : (x == ("__classdict__" : Str)) = false := by decide) : SR X (.Subscript (.Name x pos') (.Slice lo hi none p2) pos) (dSlN n dl dh) := (pe_slice sl_all (pe_var hN hv hd hcd) hl hh).imp fun σ H Q ⟨π, G, Γ, w, Γ', E, ef, q⟩ => by
  obtain ⟨x0, Γ0, e0, ef⟩ := bnd_some ef
  obtain ⟨i, Γ2, e2, ef⟩ := bnd_some ef
  obtain ⟨j, Γ3, e3, ef⟩ := bnd_some ef
  obtain ⟨x, Γ4, e4, ef⟩ := bnd_some ef
  obtain ⟨e5, rfl⟩ := opt_some ef
  obtain ⟨rfl, v, hv', _⟩ := Sl_at E e0
  refine ⟨v, hv', π, G, _, i, Γ2, E, e2, fun G2 H2 S2 => ⟨π, G2, Γ2, j, _, S2.e, e3, fun G3 H3 S3 => ?_⟩⟩
  obtain ⟨rfl, v', h1, h2⟩ := Sl_at S3.e e4
  rw [hv'] at h1
  cases h1
  exact pk_sl (S2.trans S3) h2 e5 q
/-! ### built-ins of one value -/
def CallP (K : PySem.W.Frag) (r : List V → Hp → VK → Prop) (g : PV → Option PV) : Prop := ∀ x p z G H Q, Same G H → Pk K G H x p → g p = some z → Ans K G H z Q → r [x] H Q
theorem t_c1 {K : PySem.W.Frag} {r : List V → Hp → VK → Prop} {g : PV → Option PV} (hp : CallP K r g) {σ : St} {H : Hp} {Q : VK} (t : tV K (dUn g f) σ H Q) : tCB r (tCons (tP K f) tNil) σ H Q := by
  obtain ⟨π, G, Γ, w, Γ', E, ef, q⟩ := t
  obtain ⟨x, Γ1, e1, ef⟩ := bnd_some ef
  obtain ⟨e3, rfl⟩ := opt_some ef
  exact ⟨π, G, Γ, x, _, E, e1, fun u G1 H1 S1 r1 => hp u x w G1 H1 Q S1.e.sub r1 e3 fun z G' H' g' s' r' => q z G' H' (S1.trans (.grow S1.e g' s')) r'⟩
theorem sv_b1 {r : List V → Hp → VK → Prop} {g : PV → Option PV} {x : Str} {id : String} {p : Pos} (hc : CallR X (.builtin id) r) (hp : CallP X.K r g) (hg : Gl X x) (hm : X.mg x = none) (hv : bootBuiltins x = some (.builtin id)) (ha : SP X e f)
    (hn : x ≠ "__name__" := by decide) (hd : (x == ("__debug__" : Str)) = false := by decide) (he : starEach [e] X.env = (false, eval e X.env) :: starEach [] X.env := by rfl) (hpl : (backTo pos (starEach [] X.env)).any (·.1) = false := by rfl) :
    SV X (.Call (.Name x p) [e] [] pos) (dUn g f) := (pe_callB hc hg hm hv (pa_cons ha pa_nil he) hn hd he hpl).imp fun _ _ _ t => t_c1 hp t
theorem sv_t1 {r : List V → Hp → VK → Prop} {g : PV → Option PV} {x : Str} {T : String} {p : Pos} (hc : CallR X (.type T) r) (hp : CallP X.K r g) (hg : Gl X x) (hm : X.mg x = none) (hv : bootBuiltins x = some (.type T)) (ha : SP X e f)
    (hn : x ≠ "__name__" := by decide) (hd : (x == ("__debug__" : Str)) = false := by decide) (he : starEach [e] X.env = (false, eval e X.env) :: starEach [] X.env := by rfl) (hpl : (backTo pos (starEach [] X.env)).any (·.1) = false := by rfl) :
    SV X (.Call (.Name x p) [e] [] pos) (dUn g f) := (pe_callTy hc hg hm hv (pa_cons ha pa_nil he) hn hd he hpl).imp fun _ _ _ t => t_c1 hp t
end
/-! ### len, sum, max, min, all, any, int, abs -/
def pInts : List PV → Option (List Int)
  | [] => some []
  | .int i :: r => (pInts r).map (i :: ·)
  | _ :: _ => none
def pBls : List PV → Option (List Bool)
  | [] => some []
  | .bl i :: r => (pBls r).map (i :: ·)
  | _ :: _ => none
theorem ints_eq : ∀ {ps : List PV} {ns : List Int}, pInts ps = some ns → ps = ns.map PV.int
  | [], ns, h => by cases h; rfl
  | .int i :: r, ns, h => by
    obtain ⟨ms, e, rfl⟩ := Option.map_eq_some_iff.mp (show (pInts r).map (i :: ·) = some ns from h)
    rw [ints_eq e]
    rfl
  | .non :: r, ns, h => by cases h
  | .bl _ :: r, ns, h => by cases h
  | .str _ :: r, ns, h => by cases h
  | .ty _ :: r, ns, h => by cases h
  | .tup _ :: r, ns, h => by cases h
  | .lst _ :: r, ns, h => by cases h
  | .scr _ :: r, ns, h => by cases h
theorem bls_eq : ∀ {ps : List PV} {ns : List Bool}, pBls ps = some ns → ps = ns.map PV.bl
  | [], ns, h => by cases h; rfl
  | .bl i :: r, ns, h => by
    obtain ⟨ms, e, rfl⟩ := Option.map_eq_some_iff.mp (show (pBls r).map (i :: ·) = some ns from h)
    rw [bls_eq e]
    rfl
  | .non :: r, ns, h => by cases h
  | .int _ :: r, ns, h => by cases h
  | .str _ :: r, ns, h => by cases h
  | .ty _ :: r, ns, h => by cases h
  | .tup _ :: r, ns, h => by cases h
  | .lst _ :: r, ns, h => by cases h
  | .scr _ :: r, ns, h => by cases h
theorem ints_map : ∀ ns : List Int, pInts (ns.map PV.int) = some ns
  | [] => rfl
  | n :: ns => by
    show (pInts (ns.map PV.int)).map (n :: ·) = _
    rw [ints_map ns]
    rfl
theorem bls_map : ∀ ns : List Bool, pBls (ns.map PV.bl) = some ns
  | [] => rfl
  | n :: ns => by
    show (pBls (ns.map PV.bl)).map (n :: ·) = _
    rw [bls_map ns]
    rfl
theorem reps_ints_of {K : PySem.W.Frag} {G : Hp} : ∀ {ns : List Int} {vs : List V}, Reps K G vs (ns.map PV.int) → vs = ns.map V.int
  | [], vs, h => h
  | n :: ns, vs, h => by
    obtain ⟨v, r, rfl, a, b⟩ := h
    cases (show v = V.int n from a)
    rw [reps_ints_of b]
    rfl
theorem reps_bls_of {K : PySem.W.Frag} {G : Hp} : ∀ {ns : List Bool} {vs : List V}, Reps K G vs (ns.map PV.bl) → vs = ns.map V.bl
  | [], vs, h => h
  | n :: ns, vs, h => by
    obtain ⟨v, r, rfl, a, b⟩ := h
    cases (show v = V.bl n from a)
    rw [reps_bls_of b]
    rfl
theorem pk_lst {K : PySem.W.Frag} {G H : Hp} {x : V} {ps : List PV} (s : Same G H) (h : Pk K G H x (.lst ps)) : ∃ a vs, x = .ref a ∧ H a = some (.lst vs) ∧ Reps K G vs ps := by
  rcases h with ⟨a, vs, rfl, q1, q2⟩ | ⟨a, rfl, vs, q1, q2⟩
  · exact ⟨a, vs, rfl, s _ _ q1, q2⟩
  · exact ⟨a, vs, rfl, q1, q2⟩
theorem pk_tup {K : PySem.W.Frag} {G H : Hp} {x : V} {ps : List PV} (h : Pk K G H x (.tup ps)) : ∃ a vs, x = .ref a ∧ SqT K G a vs ∧ Reps K G vs ps := by
  rcases h with ⟨a, vs, rfl, q1, q2⟩ | ⟨a, rfl, q1⟩
  · exact ⟨a, vs, rfl, q1, q2⟩
  · exact q1.elim
@[simp] def gLen : PV → Option PV
  | .tup xs => some (.int xs.length)
  | .lst xs => some (.int xs.length)
  | .scr xs => some (.int xs.length)
  | .str z => if fits z.length = true then some (.int z.length) else none
  | _ => none
theorem cp_len {K : PySem.W.Frag} : CallP K (fun xs H Q => (∃ p ys, xs = [.ref p] ∧ (SqL K H p ys ∨ SqT K H p ys) ∧ Q (.int ys.length) H) ∨ (∃ z, xs = [.str z] ∧ z.length ≤ sizeLine ∧ Q (.int z.length) H)) gLen := fun x p z G H Q s r e A => by
  unfold gLen at e
  split at e
  · cases e
    obtain ⟨a, vs, rfl, q1, q2⟩ := pk_tup r
    refine .inl ⟨a, vs, rfl, .inr (Same.seqT s q1), A.now s ?_⟩
    rw [q2.length]
    rfl
  · cases e
    obtain ⟨a, vs, rfl, q1, q2⟩ := pk_lst s r
    refine .inl ⟨a, vs, rfl, .inl (SqL.of q1), A.now s ?_⟩
    rw [q2.length]
    rfl
  · cases e
    rcases r with ⟨a, rfl, q1⟩ | ⟨a, rfl, q1⟩
    · refine .inl ⟨a, _, rfl, .inl (s.seq q1), A.now s ?_⟩
      rw [List.length_map]
      rfl
    · exact q1.elim
  · split at e
    · rename_i hz
      have hz := of_fits hz
      cases e
      have := line_m
      rcases r with r | ⟨a, rfl, q1⟩
      · cases (show x = _ from r)
        exact .inr ⟨_, rfl, by omega, A.now s rfl⟩
      · exact q1.elim
    · cases e
  · cases e
def gSum : PV → Option PV
  | .lst xs => (pInts xs).map fun ns => .int ns.sum
  | _ => none
theorem cp_sum {K : PySem.W.Frag} : CallP K (rSum K) gSum := fun x p z G H Q s r e A => by
  unfold gSum at e
  split at e
  · obtain ⟨ns, e1, rfl⟩ := Option.map_eq_some_iff.mp e
    rw [ints_eq e1] at r
    obtain ⟨a, vs, rfl, q1, q2⟩ := pk_lst s r
    rw [reps_ints_of q2] at q1
    exact ⟨a, ns, rfl, SqL.of q1, A.now s rfl⟩
  · cases e
def maxI : List Int → Int
  | [] => 0
  | x :: xs => xs.foldl max x
def minI : List Int → Int
  | [] => 0
  | x :: xs => xs.foldl min x
theorem foldl_max_ge : ∀ (xs : List Int) (x : Int), x ≤ xs.foldl max x ∧ (∀ y ∈ xs, y ≤ xs.foldl max x) ∧ (xs.foldl max x = x ∨ xs.foldl max x ∈ xs)
  | [], x => ⟨Int.le_refl _, fun y h => (by cases h), .inl rfl⟩
  | y :: xs, x => by
    obtain ⟨h1, h2, h3⟩ := foldl_max_ge xs (max x y)
    refine ⟨by show x ≤ xs.foldl max (max x y); omega, fun z hz => ?_, ?_⟩
    · show z ≤ xs.foldl max (max x y)
      rcases List.mem_cons.mp hz with rfl | hz
      · omega
      · exact h2 z hz
    · show xs.foldl max (max x y) = x ∨ xs.foldl max (max x y) ∈ y :: xs
      rcases h3 with h3 | h3
      · by_cases h : x ≤ y
        · right
          rw [h3, show max x y = y by omega]
          exact List.mem_cons_self
        · left
          rw [h3]
          omega
      · exact .inr (List.mem_cons_of_mem _ h3)
theorem foldl_min_le : ∀ (xs : List Int) (x : Int), xs.foldl min x ≤ x ∧ (∀ y ∈ xs, xs.foldl min x ≤ y) ∧ (xs.foldl min x = x ∨ xs.foldl min x ∈ xs)
  | [], x => ⟨Int.le_refl _, fun y h => (by cases h), .inl rfl⟩
  | y :: xs, x => by
    obtain ⟨h1, h2, h3⟩ := foldl_min_le xs (min x y)
    refine ⟨by show xs.foldl min (min x y) ≤ x; omega, fun z hz => ?_, ?_⟩
    · show xs.foldl min (min x y) ≤ z
      rcases List.mem_cons.mp hz with rfl | hz
      · omega
      · exact h2 z hz
    · show xs.foldl min (min x y) = x ∨ xs.foldl min (min x y) ∈ y :: xs
      rcases h3 with h3 | h3
      · by_cases h : y ≤ x
        · right
          rw [h3, show min x y = y by omega]
          exact List.mem_cons_self
        · left
          rw [h3]
          omega
      · exact .inr (List.mem_cons_of_mem _ h3)
theorem maxI_spec {ns : List Int} (h : ns ≠ []) : maxI ns ∈ ns ∧ ∀ y ∈ ns, y ≤ maxI ns := by
  cases ns with
  | nil => exact absurd rfl h
  | cons x xs =>
    obtain ⟨h1, h2, h3⟩ := foldl_max_ge xs x
    refine ⟨?_, fun y hy => ?_⟩
    · show xs.foldl max x ∈ x :: xs
      rcases h3 with h3 | h3
      · rw [h3]
        exact List.mem_cons_self
      · exact List.mem_cons_of_mem _ h3
    · rcases List.mem_cons.mp hy with rfl | hy
      · exact h1
      · exact h2 y hy
theorem minI_spec {ns : List Int} (h : ns ≠ []) : minI ns ∈ ns ∧ ∀ y ∈ ns, minI ns ≤ y := by
  cases ns with
  | nil => exact absurd rfl h
  | cons x xs =>
    obtain ⟨h1, h2, h3⟩ := foldl_min_le xs x
    refine ⟨?_, fun y hy => ?_⟩
    · show xs.foldl min x ∈ x :: xs
      rcases h3 with h3 | h3
      · rw [h3]
        exact List.mem_cons_self
      · exact List.mem_cons_of_mem _ h3
    · rcases List.mem_cons.mp hy with rfl | hy
      · exact h1
      · exact h2 y hy
def gMax : PV → Option PV
  | .lst xs => match pInts xs with
    | some (n :: ns) => some (.int (maxI (n :: ns)))
    | _ => none
  | _ => none
def gMin : PV → Option PV
  | .lst xs => match pInts xs with
    | some (n :: ns) => some (.int (minI (n :: ns)))
    | _ => none
  | _ => none
theorem cp_max {K : PySem.W.Frag} : CallP K (rMax K) gMax := fun x p z G H Q s r e A => by
  unfold gMax at e
  split at e
  · split at e
    · rename_i n ns e1
      cases e
      rw [ints_eq e1] at r
      obtain ⟨a, vs, rfl, q1, q2⟩ := pk_lst s r
      rw [reps_ints_of q2] at q1
      obtain ⟨m1, m2⟩ := maxI_spec (ns := n :: ns) (by simp)
      refine ⟨a, n :: ns, rfl, SqL.of q1, by simp, fun m hm hy => ?_⟩
      have e : m = maxI (n :: ns) := Int.le_antisymm (m2 m hm) (hy _ m1)
      rw [e]
      exact A.now s rfl
    · cases e
  · cases e
theorem cp_min {K : PySem.W.Frag} : CallP K (rMin K) gMin := fun x p z G H Q s r e A => by
  unfold gMin at e
  split at e
  · split at e
    · rename_i n ns e1
      cases e
      rw [ints_eq e1] at r
      obtain ⟨a, vs, rfl, q1, q2⟩ := pk_lst s r
      rw [reps_ints_of q2] at q1
      obtain ⟨m1, m2⟩ := minI_spec (ns := n :: ns) (by simp)
      refine ⟨a, n :: ns, rfl, SqL.of q1, by simp, fun m hm hy => ?_⟩
      have e : m = minI (n :: ns) := Int.le_antisymm (hy _ m1) (m2 m hm)
      rw [e]
      exact A.now s rfl
    · cases e
  · cases e
def gAll : PV → Option PV
  | .lst xs => (pBls xs).map fun ns => .bl (ns.all id)
  | _ => none
def gAny : PV → Option PV
  | .lst xs => (pBls xs).map fun ns => .bl (ns.any id)
  | _ => none
theorem cp_all {K : PySem.W.Frag} : CallP K (rAll K) gAll := fun x p z G H Q s r e A => by
  unfold gAll at e
  split at e
  · obtain ⟨ns, e1, rfl⟩ := Option.map_eq_some_iff.mp e
    rw [bls_eq e1] at r
    obtain ⟨a, vs, rfl, q1, q2⟩ := pk_lst s r
    rw [reps_bls_of q2] at q1
    exact ⟨a, ns, rfl, SqL.of q1, A.now s rfl⟩
  · cases e
theorem cp_any {K : PySem.W.Frag} : CallP K (rAny K) gAny := fun x p z G H Q s r e A => by
  unfold gAny at e
  split at e
  · obtain ⟨ns, e1, rfl⟩ := Option.map_eq_some_iff.mp e
    rw [bls_eq e1] at r
    obtain ⟨a, vs, rfl, q1, q2⟩ := pk_lst s r
    rw [reps_bls_of q2] at q1
    exact ⟨a, ns, rfl, SqL.of q1, A.now s rfl⟩
  · cases e
@[simp] def gInt : PV → Option PV
  | .int i => some (.int i)
  | .bl b => some (.int (if b then 1 else 0))
  | _ => none
theorem pk_int {K : PySem.W.Frag} {G H : Hp} {x : V} {i : Int} (h : Pk K G H x (.int i)) : x = .int i := by
  rcases h with h | ⟨a, rfl, h⟩
  · exact h
  · exact h.elim
theorem pk_bl {K : PySem.W.Frag} {G H : Hp} {x : V} {i : Bool} (h : Pk K G H x (.bl i)) : x = .bl i := by
  rcases h with h | ⟨a, rfl, h⟩
  · exact h
  · exact h.elim
theorem cp_int {K : PySem.W.Frag} : CallP K (fun xs H Q => (∃ i, xs = [.int i] ∧ Q (.int i) H) ∨ ∃ k, xs = [.bl k] ∧ Q (.int (if k then 1 else 0)) H) gInt := fun x p z G H Q s r e A => by
  unfold gInt at e
  split at e
  · cases e
    cases pk_int r
    exact .inl ⟨_, rfl, A.now s rfl⟩
  · cases e
    cases pk_bl r
    exact .inr ⟨_, rfl, A.now s rfl⟩
  · cases e
def gAbs : PV → Option PV
  | .int i => some (.int (if i < 0 then -i else i))
  | _ => none
theorem cp_abs {K : PySem.W.Frag} : CallP K (fun xs H Q => ∃ i, xs = [.int i] ∧ Q (.int (if i < 0 then -i else i)) H) gAbs := fun x p z G H Q s r e A => by
  unfold gAbs at e
  split at e
  · cases e
    cases pk_int r
    exact ⟨_, rfl, A.now s rfl⟩
  · cases e
section
variable {X : Cx} {pos p : Pos} {a b c e : Expr} {es : List Expr} {f h k : D PV} {l : D (List PV)}
theorem sv_len (hg : Gl X "len") (hm : X.mg "len" = none) (ha : SP X e f) (he : starEach [e] X.env = (false, eval e X.env) :: starEach [] X.env := by rfl) : SV X (.Call (.Name "len" p) [e] [] pos) (dUn gLen f) := sv_b1 (call_len_seq.or call_len_str) cp_len hg hm PySem.boot_len ha (he := he)
theorem sv_sum (hc : X.calm = true) (hg : Gl X "sum") (hm : X.mg "sum" = none) (ha : SP X e f) (he : starEach [e] X.env = (false, eval e X.env) :: starEach [] X.env := by rfl) : SV X (.Call (.Name "sum" p) [e] [] pos) (dUn gSum f) := sv_b1 (cr_sum hc) cp_sum hg hm (by decide +kernel) ha (he := he)
theorem sv_max (hc : X.calm = true) (hg : Gl X "max") (hm : X.mg "max" = none) (ha : SP X e f) (he : starEach [e] X.env = (false, eval e X.env) :: starEach [] X.env := by rfl) : SV X (.Call (.Name "max" p) [e] [] pos) (dUn gMax f) := sv_b1 (cr_max hc) cp_max hg hm (by decide +kernel) ha (he := he)
theorem sv_min (hc : X.calm = true) (hg : Gl X "min") (hm : X.mg "min" = none) (ha : SP X e f) (he : starEach [e] X.env = (false, eval e X.env) :: starEach [] X.env := by rfl) : SV X (.Call (.Name "min" p) [e] [] pos) (dUn gMin f) := sv_b1 (cr_min hc) cp_min hg hm (by decide +kernel) ha (he := he)
theorem sv_all (hc : X.calm = true) (hg : Gl X "all") (hm : X.mg "all" = none) (ha : SP X e f) (he : starEach [e] X.env = (false, eval e X.env) :: starEach [] X.env := by rfl) : SV X (.Call (.Name "all" p) [e] [] pos) (dUn gAll f) := sv_b1 (cr_all hc) cp_all hg hm (by decide +kernel) ha (he := he)
theorem sv_any (hc : X.calm = true) (hg : Gl X "any") (hm : X.mg "any" = none) (ha : SP X e f) (he : starEach [e] X.env = (false, eval e X.env) :: starEach [] X.env := by rfl) : SV X (.Call (.Name "any" p) [e] [] pos) (dUn gAny f) := sv_b1 (cr_any hc) cp_any hg hm (by decide +kernel) ha (he := he)
theorem sv_abs (hg : Gl X "abs") (hm : X.mg "abs" = none) (ha : SP X e f) (he : starEach [e] X.env = (false, eval e X.env) :: starEach [] X.env := by rfl) : SV X (.Call (.Name "abs" p) [e] [] pos) (dUn gAbs f) := sv_b1 call_abs cp_abs hg hm (by decide +kernel) ha (he := he)
theorem sv_toint (hg : Gl X "int") (hm : X.mg "int" = none) (ha : SP X e f) (he : starEach [e] X.env = (false, eval e X.env) :: starEach [] X.env := by rfl) : SV X (.Call (.Name "int" p) [e] [] pos) (dUn gInt f) := sv_t1 call_int1 cp_int hg hm (by decide +kernel) ha (he := he)
/-! ### max, min of two -/
@[simp] def gMax2 (x y : PV) : Option PV := gI (fun i j => some (.int (if j > i then j else i))) x y
@[simp] def gMin2 (x y : PV) : Option PV := gI (fun i j => some (.int (if j < i then j else i))) x y
theorem t_c2 {K : PySem.W.Frag} {r : List V → Hp → VK → Prop} {g : PV → PV → Option PV} (hp : OpV K (fun x y H Q => r [x, y] H Q) g) {σ : St} {H : Hp} {Q : VK} (t : tV K (dOp g f h) σ H Q) : tCB r (tCons (tV K f) (tCons (tV K h) tNil)) σ H Q := t_op hp t
theorem sv_max2 (hc : X.calm = true) (hg : Gl X "max") (hm : X.mg "max" = none) (ha : SV X a f) (hb : SV X b h) (he : starEach [a, b] X.env = (false, eval a X.env) :: starEach [b] X.env := by rfl) (he2 : starEach [b] X.env = (false, eval b X.env) :: starEach [] X.env := by rfl) (hpl : (backTo pos (starEach [b] X.env)).any (·.1) = false := by rfl) :
    SV X (.Call (.Name "max" p) [a, b] [] pos) (dOp gMax2 f h) := (pe_callB (call_max2 hc) hg hm (by decide +kernel) (pa_cons ha (pa_cons hb pa_nil he2) he) (by decide) (by decide) he hpl).imp fun _ _ _ t => t_c2 (fun x y p q z G H Q s r1 r2 e A => by
  unfold gMax2 gI at e
  split at e
  · cases e
    cases r1
    cases r2
    exact ⟨_, _, rfl, A.now s rfl⟩
  · cases e) t
theorem sv_min2 (hc : X.calm = true) (hg : Gl X "min") (hm : X.mg "min" = none) (ha : SV X a f) (hb : SV X b h) (he : starEach [a, b] X.env = (false, eval a X.env) :: starEach [b] X.env := by rfl) (he2 : starEach [b] X.env = (false, eval b X.env) :: starEach [] X.env := by rfl) (hpl : (backTo pos (starEach [b] X.env)).any (·.1) = false := by rfl) :
    SV X (.Call (.Name "min" p) [a, b] [] pos) (dOp gMin2 f h) := (pe_callB (call_min2 hc) hg hm (by decide +kernel) (pa_cons ha (pa_cons hb pa_nil he2) he) (by decide) (by decide) he hpl).imp fun _ _ _ t => t_c2 (fun x y p q z G H Q s r1 r2 e A => by
  unfold gMin2 gI at e
  split at e
  · cases e
    cases r1
    cases r2
    exact ⟨_, _, rfl, A.now s rfl⟩
  · cases e) t
/-! ### tuple(x), list(x) -/
@[simp] def gTupOf : PV → Option PV
  | .lst xs => some (.tup xs)
  | .tup xs => some (.tup xs)
  | _ => none
theorem sv_tupleOf (hg : Gl X "tuple") (hm : X.mg "tuple" = none) (ha : SP X a f) (na : starEach [a] X.env = (false, eval a X.env) :: starEach [] X.env := by rfl) : SV X (.Call (.Name "tuple" p) [a] [] pos) (dUn gTupOf f) := (pe_tupleOf hg hm ha na).imp fun σ H Q ⟨π, G, Γ, w, Γ', E, ef, q⟩ => by
  obtain ⟨x, Γ1, e1, ef⟩ := bnd_some ef
  obtain ⟨e3, rfl⟩ := opt_some ef
  refine ⟨π, G, Γ, x, _, E, e1, fun u G1 H1 S1 r1 => ?_⟩
  unfold gTupOf at e3
  split at e3
  · cases e3
    obtain ⟨a, vs, rfl, q1, q2⟩ := pk_lst S1.e.sub r1
    refine .inl ⟨a, vs, rfl, SqL.of q1, fun p hp => ?_⟩
    obtain ⟨g, s⟩ := gr_laid (F := fun _ => False) (o := .tup vs) S1.e.sub hp
    exact q _ _ _ (S1.trans (.grow S1.e g s)) ⟨p, vs, rfl, .inl (.inl upd_same), q2.mono g.g⟩
  · cases e3
    obtain ⟨a, vs, rfl, q1, q2⟩ := pk_tup r1
    exact .inr ⟨a, vs, rfl, Same.seqT S1.e.sub q1, q _ G1 H1 S1 ⟨a, vs, rfl, q1, q2⟩⟩
  · cases e3
@[simp] def gLstOf : PV → Option Rs
  | .lst xs => some (.new (.lst xs))
  | .tup xs => some (.new (.lst xs))
  | .scr ns => some (.new (.lst (ns.map PV.int)))
  | _ => none
@[simp] def dR1 (g : PV → Option Rs) (f : D PV) (Γ : Ev) : Option (Rs × Ev) := (bnd f fun x => opt (g x)) Γ
theorem sr_listOf (hg : Gl X "list") (hm : X.mg "list" = none) (ha : SP X a f) (he : starEach [a] X.env = (false, eval a X.env) :: starEach [] X.env := by rfl) (hpl : (backTo pos (starEach [] X.env)).any (·.1) = false := by rfl) : SR X (.Call (.Name "list" p) [a] [] pos) (dR1 gLstOf f) := (pe_callTy call_list_of hg hm (by decide +kernel) (pa_cons ha pa_nil he) (by decide) (by decide) he hpl).imp fun σ H Q ⟨π, G, Γ, w, Γ', E, ef, q⟩ => by
  obtain ⟨x, Γ1, e1, ef⟩ := bnd_some ef
  obtain ⟨e3, rfl⟩ := opt_some ef
  refine ⟨π, G, Γ, x, _, E, e1, fun u G1 H1 S1 r1 => ?_⟩
  unfold gLstOf at e3
  split at e3
  · cases e3
    obtain ⟨a, vs, rfl, q1, q2⟩ := pk_lst S1.e.sub r1
    exact ⟨a, vs, rfl, .inl (SqL.of q1), fun p hp => new_list S1 q2 q hp⟩
  · cases e3
    obtain ⟨a, vs, rfl, q1, q2⟩ := pk_tup r1
    exact ⟨a, vs, rfl, .inr (Same.seqT S1.e.sub q1), fun p hp => new_list S1 q2 q hp⟩
  · cases e3
    rcases r1 with ⟨a, rfl, q1⟩ | ⟨a, rfl, q1⟩
    · exact ⟨a, _, rfl, .inl (S1.e.sub.seq q1), fun p hp => new_list S1 (reps_ints _) q hp⟩
    · exact q1.elim
  · cases e3
/-! ### isinstance -/
def tyN : PV → String
  | .non => "NoneType"
  | .bl _ => "bool"
  | .int _ => "int"
  | .str _ => "str"
  | .tup _ => "tuple"
  | .lst _ => "list"
  | .scr _ => "list"
  | .ty _ => ""
@[simp] def isiOne (p : PV) (T : String) : Bool := match p with
  | .non => T == "NoneType"
  | .bl _ => T == "bool" || T == "int"
  | .int _ => T == "int"
  | .str _ => T == "str"
  | .tup _ => T == "tuple"
  | .lst _ => T == "list"
  | .scr _ => T == "list"
  | .ty _ => false
@[simp] def isTy (p : PV) : Bool := match p with
  | .ty _ => false
  | _ => true
@[simp] def tyOk (T : String) : Bool := T == "bool" || T == "int" || T == "str" || T == "tuple" || T == "list"
theorem tyX_of {K : PySem.W.Frag} {G H : Hp} {x : V} {p : PV} (s : Same G H) (h : Pk K G H x p) (t : isTy p = true) : TyX K H x (.type (tyN p)) := by
  rcases h with h | ⟨a, rfl, h⟩
  · cases p with
    | non => cases (show x = _ from h); exact .base .non
    | bl b => cases (show x = _ from h); exact .base (.bl b)
    | int i => cases (show x = _ from h); exact .base (.int i)
    | str z => cases (show x = _ from h); exact .base (.str z)
    | ty n => cases t
    | tup xs =>
      obtain ⟨a, vs, rfl, (q | ⟨o, q⟩) | ⟨o, its, n, q1, q2, _⟩, _⟩ := h
      · exact .base (.tup (s _ _ q))
      · exact .fTuple (s _ _ q)
      · exact .kTuple q1 q2
    | lst xs =>
      obtain ⟨a, vs, rfl, q, _⟩ := h
      exact .base (.lst (s _ _ q))
    | scr ns =>
      obtain ⟨a, rfl, (q | ⟨o, q⟩) | ⟨o, its, n, q1, q2, _⟩⟩ := h
      · exact .base (.lst (s _ _ q))
      · exact .base (.frz (s _ _ q))
      · exact .kList q1 q2
  · cases p with
    | lst xs =>
      obtain ⟨vs, q, _⟩ := h
      exact .base (.lst q)
    | _ => exact h.elim
theorem kit_tab : ∀ a ∈ ["NoneType", "bool", "int", "str", "tuple", "list"], ∀ b ∈ ["bool", "int", "str", "tuple", "list"], kitB a b = some (a == b || (a == "bool" && b == "int")) := by decide +kernel
theorem kit_pv {p : PV} {T : String} (t : isTy p = true) (h : tyOk T = true) : kitB (tyN p) T = some (isiOne p T) := by
  have hT : T ∈ ["bool", "int", "str", "tuple", "list"] := by
    unfold tyOk at h
    simp only [Bool.or_eq_true, beq_iff_eq] at h
    simp only [List.mem_cons, List.not_mem_nil, or_false]
    rcases h with (((h | h) | h) | h) | h
    · exact .inl h
    · exact .inr (.inl h)
    · exact .inr (.inr (.inl h))
    · exact .inr (.inr (.inr (.inl h)))
    · exact .inr (.inr (.inr (.inr h)))
  have ha : tyN p ∈ ["NoneType", "bool", "int", "str", "tuple", "list"] := by
    cases p with
    | ty n => cases t
    | _ => simp [tyN]
  rw [kit_tab _ ha _ hT]
  simp only [List.mem_cons, List.not_mem_nil, or_false] at hT
  cases p with
  | ty n => cases t
  | _ => rcases hT with rfl | rfl | rfl | rfl | rfl <;> rfl
@[simp] def gIsi (T : String) (p : PV) : Option PV := if isTy p && tyOk T then some (.bl (isiOne p T)) else none
theorem sv_isi (T : String) {pT : Pos} {nT : Str} (hg : Gl X "isinstance") (hm : X.mg "isinstance" = none) (hgT : Gl X nT) (hmT : X.mg nT = none) (hvT : bootBuiltins nT = some (.type T)) (ha : SP X a f)
    (hnT : nT ≠ "__name__" := by decide) (hdT : (nT == ("__debug__" : Str)) = false := by decide)
    (he : starEach [a, .Name nT pT] X.env = (false, eval a X.env) :: starEach [.Name nT pT] X.env := by rfl) (he2 : starEach [.Name nT pT] X.env = (false, eval (.Name nT pT) X.env) :: starEach [] X.env := by rfl) (hpl : (backTo pos (starEach [.Name nT pT] X.env)).any (·.1) = false := by rfl) :
    SV X (.Call (.Name "isinstance" p) [a, .Name nT pT] [] pos) (dUn (gIsi T) f) := (pe_callB call_isi hg hm PyProof.Rows.boot_isinstance (pa_cons ha (pa_cons (pe_bltn (v := .ty T) hgT hmT hvT rfl hnT hdT) pa_nil he2) he) (by decide) (by decide) he hpl).imp fun σ H Q ⟨π, G, Γ, w, Γ', E, ef, q⟩ => by
  obtain ⟨x, Γ1, e1, ef⟩ := bnd_some ef
  obtain ⟨e3, rfl⟩ := opt_some ef
  refine ⟨π, G, Γ, x, _, E, e1, fun u G1 H1 S1 r1 => ?_⟩
  unfold gIsi at e3
  split at e3
  · rename_i c
    rw [Bool.and_eq_true] at c
    cases e3
    exact ⟨u, .ty T, _, .type T, _, rfl, .ty T, tyX_of S1.e.sub r1 c.1, kit_ty (kit_pv c.1 c.2), q _ G1 H1 S1 rfl⟩
  · cases e3
@[simp] def gIsi2 (T U : String) (p : PV) : Option PV := if isTy p && (tyOk T && tyOk U) then some (.bl (isiOne p T || isiOne p U)) else none
theorem sv_isi2 (T U : String) {pT pU pp : Pos} {nT nU : Str} {kk : Nat} (hg : Gl X "isinstance") (hm : X.mg "isinstance" = none) (hgT : Gl X nT) (hmT : X.mg nT = none) (hvT : bootBuiltins nT = some (.type T)) (hgU : Gl X nU) (hmU : X.mg nU = none) (hvU : bootBuiltins nU = some (.type U)) (ha : SP X a f)
    (hnT : nT ≠ "__name__" := by decide) (hdT : (nT == ("__debug__" : Str)) = false := by decide) (hnU : nU ≠ "__name__" := by decide) (hdU : (nU == ("__debug__" : Str)) = false := by decide)
    (he : starEach [a, .Tuple [.Name nT pT, .Name nU pU] kk pp] X.env = (false, eval a X.env) :: starEach [.Tuple [.Name nT pT, .Name nU pU] kk pp] X.env := by rfl) :
    SV X (.Call (.Name "isinstance" p) [a, .Tuple [.Name nT pT, .Name nU pU] kk pp] [] pos) (dUn (gIsi2 T U) f) := (pe_callB call_isiT hg hm PyProof.Rows.boot_isinstance (pa_cons ha (pa_cons (pe_tup (pa_cons (pe_bltn (v := .ty T) hgT hmT hvT rfl hnT hdT) (pa_cons (pe_bltn (v := .ty U) hgU hmU hvU rfl hnU hdU) pa_nil))) pa_nil) he) (by decide) (by decide) he rfl).imp fun σ H Q ⟨π, G, Γ, w, Γ', E, ef, q⟩ => by
  obtain ⟨x, Γ1, e1, ef⟩ := bnd_some ef
  obtain ⟨e3, rfl⟩ := opt_some ef
  refine ⟨π, G, Γ, x, _, E, e1, fun u G1 H1 S1 r1 => ⟨by show 2 ≤ sizeLine; decide, fun tp hp => ?_⟩⟩
  unfold gIsi2 at e3
  split at e3
  · rename_i c
    rw [Bool.and_eq_true, Bool.and_eq_true] at c
    cases e3
    obtain ⟨g, s⟩ := gr_laid (F := fun _ => False) (o := .tup [V.ty T, V.ty U]) S1.e.sub hp
    have S2 := S1.trans (.grow S1.e g s)
    have r2 : Pk X.K (upd G1 tp (.tup [V.ty T, V.ty U])) (upd H1 tp (.tup [V.ty T, V.ty U])) u x := by
      rcases r1 with r1 | ⟨b, rfl, r1⟩
      · exact .inl (r1.mono g.g)
      · obtain ⟨o, ho⟩ := r1.there
        exact .inr ⟨b, rfl, r1.mono g.g (by rw [upd_ne (ne_of_none ho hp)])⟩
    refine ⟨u, tp, [.ty T, .ty U], _, [.type T, .type U], _, rfl, upd_same, .cons (.ty T) (.cons (.ty U) .nil), tyX_of s r2 c.1, ?_, q _ _ _ S2 rfl⟩
    refine kitAny_cons (kit_ty (kit_pv c.1 c.2.1)) (fun e => ?_) fun e => ?_
    · rw [e]
      refine kitAny_cons (kit_ty (kit_pv c.1 c.2.2)) (fun e => ?_) fun e => ?_
      · rw [e]
        exact kitAny_nil
      · rw [e]
        rfl
    · rw [e]
      rfl
  · cases e3
end
/-! ### the object in a slot is changed -/
/-- behind a change of the object at a, which the slot i holds -/
theorem slot_put {K : PySem.W.Frag} {π : Nat → Addr} {σ : St} {G H G1 H1 : Hp} {Γ : Ev} {i : Nat} {k : Kd} {p p' : PV} {a : Addr} (E : ER K π G σ H Γ) (e : Γ[i]? = some (.mu k p)) (hk : k ≠ .lck) (hs : σ[i]? = some (some (.ref a)))
    (g : Gr (fun b => b = a) G H G1 H1) (s : Same G1 H1) (gn : G1 a = none) (ob : Ob K G1 H1 a p') : Ste K π σ G H Γ G1 H1 (Γ.set i (.mu k p')) := by
  have hat : At Γ σ i k a := ⟨p, e, hs⟩
  have hi : i < Γ.length := (List.getElem?_eq_some_iff.mp e).1
  have at' : ∀ j l b, At (Γ.set i (.mu k p')) σ j l b → At Γ σ j l b := fun j l b ⟨q, e1, e2⟩ => by
    rcases set_get e1 with ⟨rfl, z⟩ | ⟨n, z⟩
    · cases z
      exact ⟨p, e, e2⟩
    · exact ⟨q, z, e2⟩
  refine ⟨⟨s, by rw [List.length_set]; exact E.len, fun j q e1 => ?_, fun j l q e1 => ?_, fun j m l l' b z1 z2 => E.inj j m l l' b (at' j l b z1) (at' m l' b z2)⟩, g.mono fun x z => ?_, at'⟩
  · rcases set_get e1 with ⟨rfl, z⟩ | ⟨n, z⟩
    · cases z
    · obtain ⟨v, q1, q2⟩ := E.val j q z
      exact ⟨v, q1, q2.mono g.g⟩
  · rcases set_get e1 with ⟨rfl, z⟩ | ⟨n, z⟩
    · cases z
      obtain ⟨b, q1, q2, q3, q4⟩ := E.mu i k p e
      rw [hs] at q1
      cases q1
      exact ⟨a, hs, gn, ob, q4⟩
    · obtain ⟨b, q1, q2, q3, q4⟩ := E.mu j l q z
      have hba : b ≠ a := fun w => by
        subst w
        exact n (E.inj i j k l b hat ⟨q, z, q1⟩)
      obtain ⟨o, ho⟩ := q3.there
      exact ⟨b, q1, g.f b o ho hba q2, q3.mono g.g (by rw [g.h b o ho hba, ho]), q4⟩
  · subst z
    exact ⟨i, k, hk, hat⟩
/-- a list at a is written -/
theorem gr_write {G H : Hp} {a : Addr} {o : HO} (s : Same G H) (gn : G a = none) (h : ∃ o, H a = some o) : Gr (fun b => b = a) G H G (upd H a o) ∧ Same G (upd H a o) := by
  obtain ⟨o', h⟩ := h
  refine ⟨⟨Same.refl _, fun b x e n => ?_, fun b x e n q => q, fun b x e => ?_⟩, fun b x e => ?_⟩
  · rw [upd_ne n]
    exact e
  · by_cases z : b = a
    · exact ⟨o, by rw [z, upd_same]⟩
    · exact ⟨x, by rw [upd_ne z]; exact e⟩
  · rw [upd_ne (ne_of_none e gn)]
    exact s b x e
/-- what a method does to the list it is called of -/
def MtO (K : PySem.W.Frag) (r : V → List V → Hp → VK → Prop) (g : List PV → List PV → Option (PV × List PV)) : Prop := ∀ a us c vs ps z c' G H Q, Same G H → G a = none → H a = some (.lst us) → Reps K G us c → Reps K G vs ps → g c ps = some (z, c') →
  (∀ v us', Rep K G v z → Reps K G us' c' → Q v (upd H a (.lst us'))) → r (.ref a) vs H Q
/-- the slot's list -/
@[simp] def lstAt (i : Nat) (Γ : Ev) : Option (Kd × List PV) := match Γ[i]? with
  | some (.mu .own (.lst c)) => some (.own, c)
  | some (.mu .par (.lst c)) => some (.par, c)
  | _ => none
theorem lstAt_some {i : Nat} {Γ : Ev} {k : Kd} {c : List PV} (h : lstAt i Γ = some (k, c)) : Γ[i]? = some (.mu k (.lst c)) ∧ k ≠ .lck := by
  unfold lstAt at h
  split at h
  · cases h
    exact ⟨by assumption, by decide⟩
  · cases h
    exact ⟨by assumption, by decide⟩
  · cases h
@[simp] def dLk (i : Nat) (Γ : Ev) : Option ((Kd × List PV) × Ev) := match lstAt i Γ with
  | some z => some (z, Γ)
  | none => none
theorem dLk_some {i : Nat} {Γ Γ1 : Ev} {z : Kd × List PV} (h : dLk i Γ = some (z, Γ1)) : Γ1 = Γ ∧ Γ[i]? = some (.mu z.1 (.lst z.2)) ∧ z.1 ≠ .lck := by
  unfold dLk at h
  cases e : lstAt i Γ with
  | none => rw [e] at h; cases h
  | some y =>
    rw [e] at h
    obtain ⟨k, c⟩ := y
    cases h
    exact ⟨rfl, lstAt_some e⟩
@[simp] def put (i : Nat) (s : Sl) (Γ : Ev) : Option (Unit × Ev) := some ((), Γ.set i s)
@[simp] def dMt (g : List PV → List PV → Option (PV × List PV)) (i : Nat) (f : D (List PV)) (Γ : Ev) : Option (PV × Ev) :=
  (bnd (dLk i) fun _ => bnd f fun ps => bnd (dLk i) fun kc => bnd (opt (g kc.2 ps)) fun zc => bnd (put i (.mu kc.1 (.lst zc.2))) fun _ => ret zc.1) Γ
section
variable {X : Cx} {pos p : Pos} {a b c e : Expr} {es : List Expr} {f h k : D PV} {l : D (List PV)}
theorem t_mt {K : PySem.W.Frag} {r : V → List V → Hp → VK → Prop} {g : List PV → List PV → Option (PV × List PV)} (hg : MtO K r g) {i : Nat} {σ : St} {H : Hp} {Q : VK} (t : tV K (dMt g i l) σ H Q) : tBM K "list" r (tVar i) (tL K l) σ H Q := by
  obtain ⟨π, G, Γ, w, Γ', E, ef, q⟩ := t
  obtain ⟨x0, Γ0, e0, f1⟩ := bnd_some ef
  obtain ⟨ps, Γ1, e1, f2⟩ := bnd_some f1
  obtain ⟨kc, Γ2, e2, f3⟩ := bnd_some f2
  obtain ⟨zc, Γ3, e3, f4⟩ := bnd_some f3
  obtain ⟨_, Γ4, e4, f5⟩ := bnd_some f4
  obtain ⟨z0, s0, k0⟩ := dLk_some e0
  obtain ⟨z2, s2, k2⟩ := dLk_some e2
  obtain ⟨hgz, z3⟩ := opt_some e3
  obtain ⟨rfl, z5⟩ := ret_some f5
  subst z0 z3 z5 z2
  cases e4
  clear ef f1 f2 f3 f4 f5
  obtain ⟨b, q1, q2, ⟨us, q3, q3'⟩, q4⟩ := E.mu i _ _ s0
  refine ⟨_, q1, .inl ⟨rfl, us, SqL.of q3⟩, π, G, _, ps, _, E, e1, fun xs G1 H1 S1 r1 => ?_⟩
  obtain ⟨b', p1, p2, ⟨us1, p3, p3'⟩, p4⟩ := S1.e.mu i _ _ s2
  rw [q1] at p1
  cases p1
  refine hg b us1 kc.2 xs ps _ zc.2 G1 H1 Q S1.e.sub p2 p3 p3' r1 hgz fun v' us' rv rus => ?_
  obtain ⟨gw, sw⟩ := gr_write (o := .lst us') S1.e.sub p2 ⟨_, p3⟩
  exact q v' G1 _ (S1.trans (slot_put S1.e s2 k2 q1 gw sw p2 ⟨us', upd_same, rus⟩)) rv
theorem sv_mt (i : Nat) {name : Str} {id : String} {apos cpos pos' : Pos} {r : V → List V → Hp → VK → Prop} {g : List PV → List PV → Option (PV × List PV)} {x : Str} (slot : Slot "list" name id) (hty : typeOf (.builtin id) = pure (.type "method_descriptor")) (hm : MtR X id r) (hg : MtO X.K r g) (ha : SL X (e :: es) l)
    (hN : X.N[i]? = some x := by rfl) (hv : Vis X.env.scope x := by first | exact Or.inl rfl | exact Or.inr (Or.inl rfl) | exact Or.inr (Or.inr rfl)) (hd : (x == ("__debug__" : Str)) = false := by decide) (hcd : (x == ("__classdict__" : Str)) = false := by decide)
    (hbase : attributeBase (.Name x pos') name X.env (eval (.Name x pos') X.env) = eval (.Name x pos') X.env := by rfl)
    (hfew : ((backTo cpos (starEach (e :: es) X.env)).all (fun x => !x.1) && (backToKw cpos (keywordEach [] X.env)).all (fun x => x.1.isSome)
      && decide ((e :: es).length + ([] : List Keyword).length + (if ([] : List Keyword).isEmpty then 0 else 1) < 30)) = true := by rfl)
    (hline : (apos.endLine == cpos.line) = true := by rfl) (hs : starEach (e :: es) X.env = (false, eval e X.env) :: starEach es X.env := by rfl) (hplain : (backTo cpos (starEach es X.env)).any (·.1) = false := by rfl) :
    SV X (.Call (.Attribute (.Name x pos') name apos) (e :: es) [] cpos) (dMt g i l) := (pe_bm PySem.F.plainAttrs_list slot hty hm (pe_var hN hv hd hcd) ha hbase hfew hline hs hplain).imp fun _ _ _ t => t_mt hg t
theorem sv_mt0 (i : Nat) {name : Str} {id : String} {apos cpos pos' : Pos} {r : V → List V → Hp → VK → Prop} {g : List PV → List PV → Option (PV × List PV)} {x : Str} (slot : Slot "list" name id) (hty : typeOf (.builtin id) = pure (.type "method_descriptor")) (hm : MtR X id r) (hg : MtO X.K r g)
    (hN : X.N[i]? = some x := by rfl) (hv : Vis X.env.scope x := by first | exact Or.inl rfl | exact Or.inr (Or.inl rfl) | exact Or.inr (Or.inr rfl)) (hd : (x == ("__debug__" : Str)) = false := by decide) (hcd : (x == ("__classdict__" : Str)) = false := by decide)
    (hbase : attributeBase (.Name x pos') name X.env (eval (.Name x pos') X.env) = eval (.Name x pos') X.env := by rfl)
    (hline : (apos.endLine == cpos.line) = true := by rfl) :
    SV X (.Call (.Attribute (.Name x pos') name apos) [] [] cpos) (dMt g i dNil) := (pe_bm0 PySem.F.plainAttrs_list slot hty hm (pe_var hN hv hd hcd) hbase hline).imp fun σ H Q t => by
  obtain ⟨v, e1, ty, π, G, Γ, w, Γ', E, ef, q⟩ := t_mt hg t
  obtain ⟨rfl, rfl⟩ := ret_some ef
  exact ⟨v, e1, ty, q [] G H (.refl E) .nil⟩
@[simp] def gAppend : List PV → List PV → Option (PV × List PV)
  | c, [x] => if fits (c.length + 1) = true then some (.non, c ++ [x]) else none
  | _, _ => none
@[simp] def gExtend : List PV → List PV → Option (PV × List PV)
  | c, [.lst x] => if fits (c.length + x.length) = true then some (.non, c ++ x) else none
  | _, _ => none
def gPop : List PV → List PV → Option (PV × List PV)
  | c, [] => match c[c.length - 1]? with
    | some y => some (y, c.dropLast)
    | none => none
  | _, _ => none
def gPopAt : List PV → List PV → Option (PV × List PV)
  | c, [.int i] => if popOk i = true then match seqIndex? i c.length with
    | some k => match c[k]? with
      | some y => some (y, c.eraseIdx k)
      | none => none
    | none => none
    else none
  | _, _ => none
@[simp] def gReverse : List PV → List PV → Option (PV × List PV)
  | c, [] => some (.non, c.reverse)
  | _, _ => none
theorem mo_append {K : PySem.W.Frag} : MtO K rAppend gAppend := fun a us c vs ps z c' G H Q s gn hl r1 r2 e q => by
  unfold gAppend at e
  split at e
  · rename_i x
    split at e
    · rename_i hz
      have hz' := of_fits hz
      cases e
      obtain ⟨v, r, rfl, q1, q2⟩ := r2
      cases (show r = [] from q2)
      have := line_m
      have := r1.length
      exact ⟨a, us, v, rfl, rfl, hl, by omega, q _ _ rfl (r1.append (.one q1))⟩
    · cases e
  · cases e
theorem mo_extend {K : PySem.W.Frag} : MtO K rExtend gExtend := fun a us c vs ps z c' G H Q s gn hl r1 r2 e q => by
  unfold gExtend at e
  split at e
  · rename_i x
    split at e
    · rename_i hz
      have hz' := of_fits hz
      cases e
      obtain ⟨v, r, rfl, q1, q2⟩ := r2
      cases (show r = [] from q2)
      obtain ⟨b, ws, rfl, p1, p2⟩ := q1
      have := line_m
      have := r1.length
      have := p2.length
      exact ⟨a, b, us, ws, rfl, rfl, hl, s _ _ p1, by omega, q _ _ rfl (r1.append p2)⟩
    · cases e
  · cases e
theorem mo_pop {K : PySem.W.Frag} : MtO K rPop gPop := fun a us c vs ps z c' G H Q s gn hl r1 r2 e q => by
  unfold gPop at e
  split at e
  · split at e
    · rename_i y hy
      cases e
      cases (show vs = [] from r2)
      obtain ⟨v, h1, h2⟩ := r1.get hy
      rw [← r1.length] at h1
      exact ⟨a, us, v, rfl, rfl, hl, h1, q _ _ h2 r1.dropLast⟩
    · cases e
  · cases e
theorem mo_popAt {K : PySem.W.Frag} : MtO K rPopAt gPopAt := fun a us c vs ps z c' G H Q s gn hl r1 r2 e q => by
  unfold gPopAt at e
  split at e
  · rename_i i
    split at e
    · rename_i hb
      have hb := of_hide hb
      split at e
      · rename_i k hk
        split at e
        · rename_i y hy
          cases e
          obtain ⟨v, r, rfl, q1, q2⟩ := r2
          cases (show r = [] from q2)
          cases (show v = _ from q1)
          obtain ⟨v, h1, h2⟩ := r1.get hy
          rw [← r1.length] at hk
          exact ⟨a, us, i, k, v, rfl, rfl, hl, hb.1, hb.2, hk, h1, q _ _ h2 (r1.eraseIdx k)⟩
        · cases e
      · cases e
    · cases e
  · cases e
theorem mo_reverse {K : PySem.W.Frag} : MtO K rReverse gReverse := fun a us c vs ps z c' G H Q s gn hl r1 r2 e q => by
  unfold gReverse at e
  split at e
  · cases e
    cases (show vs = [] from r2)
    exact ⟨a, us, rfl, rfl, hl, q _ _ rfl r1.reverse⟩
  · cases e
/-! ### list + list, list * n: new lists -/
@[simp] def gCat : PV → PV → Option Rs
  | .lst xs, .lst ys => if fits (xs.length + ys.length) = true then some (.new (.lst (xs ++ ys))) else none
  | _, _ => none
def gRep : PV → PV → Option Rs
  | .lst xs, .int k => if popOk k = true ∧ fits (xs.length * k.toNat) = true then some (.new (.lst (List.replicate k.toNat xs).flatten)) else none
  | _, _ => none
@[simp] def dR2 (g : PV → PV → Option Rs) (f h : D PV) (Γ : Ev) : Option (Rs × Ev) := (bnd f fun x => bnd h fun y => opt (g x y)) Γ
theorem sr_cat (ha : SV X a f) (hb : SP X b h) : SR X (.BinOp a .Add b pos) (dR2 gCat f h) := (pe_op op_cat ha hb).imp fun σ H Q ⟨π, G, Γ, w, Γ', E, ef, q⟩ => by
  obtain ⟨x, Γ1, e1, f1⟩ := bnd_some ef
  obtain ⟨y, Γ2, e2, f2⟩ := bnd_some f1
  obtain ⟨e3, z⟩ := opt_some f2
  subst z
  refine ⟨π, G, Γ, x, Γ1, E, e1, fun u G1 H1 S1 r1 => ⟨π, G1, Γ1, y, _, S1.e, e2, fun v G2 H2 S2 r2 => ?_⟩⟩
  unfold gCat at e3
  split at e3
  · split at e3
    · rename_i hz
      have hz' := of_fits hz
      cases e3
      obtain ⟨a, vs, rfl, q1, q2⟩ := pk_lst S2.e.sub (.inl (r1.mono S2.g.g))
      obtain ⟨b, ws, rfl, p1, p2⟩ := pk_lst S2.e.sub r2
      have := line_m
      have := q2.length
      have := p2.length
      exact ⟨a, b, vs, ws, rfl, rfl, q1, p1, by omega, fun p hp => new_list (S1.trans S2) (q2.append p2) q hp⟩
    · cases e3
  · cases e3
/-- xs + e, xs a name: its list as it stands behind e -/
@[simp] def dCatN (i : Nat) (h : D PV) (Γ : Ev) : Option (Rs × Ev) := (bnd (dPk i) fun _ => bnd h fun y => bnd (dPk i) fun x => opt (gCat x y)) Γ
theorem sr_catN (i : Nat) {x : Str} {pos' : Pos} (hb : SP X b h) (hN : X.N[i]? = some x := by rfl) (hv : Vis X.env.scope x := by first | exact Or.inl rfl | exact Or.inr (Or.inl rfl) | exact Or.inr (Or.inr rfl))
    (hd : (x == ("__debug__" : Str)) = false := by decide) (hcd : (x == ("__classdict__" : Str)) = false := by decide) : SR X (.BinOp (.Name x pos') .Add b pos) (dCatN i h) := (pe_op op_cat (pe_var hN hv hd hcd) hb).imp fun σ H Q ⟨π, G, Γ, w, Γ', E, ef, q⟩ => by
  obtain ⟨x0, Γ0, e0, f0⟩ := bnd_some ef
  obtain ⟨y, Γ2, e2, f1⟩ := bnd_some f0
  obtain ⟨x1, Γ3, e3, f2⟩ := bnd_some f1
  obtain ⟨e4, z⟩ := opt_some f2
  subst z
  obtain ⟨z, v, hv', _⟩ := Sl_at E e0
  subst z
  refine ⟨v, hv', π, G, _, y, _, E, e2, fun u G2 H2 S2 r2 => ?_⟩
  obtain ⟨z, v', h1, h2⟩ := Sl_at S2.e e3
  subst z
  rw [hv'] at h1
  cases h1
  unfold gCat at e4
  split at e4
  · split at e4
    · rename_i hz
      have hz' := of_fits hz
      cases e4
      obtain ⟨a, vs, rfl, q1, q2⟩ := pk_lst S2.e.sub h2
      obtain ⟨b, ws, rfl, p1, p2⟩ := pk_lst S2.e.sub r2
      have := line_m
      have := q2.length
      have := p2.length
      exact ⟨a, b, vs, ws, rfl, rfl, q1, p1, by omega, fun p hp => new_list S2 (q2.append p2) q hp⟩
    · cases e4
  · cases e4
theorem reps_rep {K : PySem.W.Frag} {G : Hp} {vs : List V} {ps : List PV} (r : Reps K G vs ps) : ∀ n : Nat, Reps K G (List.replicate n vs).flatten (List.replicate n ps).flatten
  | 0 => rfl
  | n + 1 => by
    rw [List.replicate_succ, List.replicate_succ, List.flatten_cons, List.flatten_cons]
    exact r.append (reps_rep r n)
theorem sr_rep (ha : SV X a f) (hb : SV X b h) : SR X (.BinOp a .Mult b pos) (dR2 gRep f h) := (pe_op op_rep ha hb).imp fun σ H Q ⟨π, G, Γ, w, Γ', E, ef, q⟩ => by
  obtain ⟨x, Γ1, e1, f1⟩ := bnd_some ef
  obtain ⟨y, Γ2, e2, f2⟩ := bnd_some f1
  obtain ⟨e3, z⟩ := opt_some f2
  subst z
  refine ⟨π, G, Γ, x, Γ1, E, e1, fun u G1 H1 S1 r1 => ⟨π, G1, Γ1, y, _, S1.e, e2, fun v G2 H2 S2 r2 => ?_⟩⟩
  unfold gRep at e3
  split at e3
  · split at e3
    · rename_i hz
      have hz := and_assoc.mp (And.intro (popOk_of hz.1) hz.2)
      cases e3
      obtain ⟨a, vs, rfl, q1, q2⟩ := pk_lst S2.e.sub (.inl (r1.mono S2.g.g))
      have := line_m
      have hl := q2.length
      refine ⟨a, _, vs, rfl, r2, q1, hz.1, hz.2.1, ?_, fun p hp => new_list (S1.trans S2) (reps_rep q2 _) q hp⟩
      rw [hl]
      have := of_fits hz.2.2
      omega
    · cases e3
  · cases e3
/-! ### defs -/
/-- a def that changes nothing: sem tells its answer -/
def Sp0 (K : PySem.W.Frag) (sem : List PV → Option Rs) : Sp := fun vs H Q _ => ∃ G ps r, Same G H ∧ Reps K G vs ps ∧ sem ps = some r ∧ ∀ x G' H', Gr (fun _ => False) G H G' H' → Same G' H' → RR K G' H' (fun a => H a = none) x r → Q x H'
/-- a def that changes the object of its first argument -/
def Sp1 (K : PySem.W.Frag) (sem : PV → List PV → Option (Rs × PV)) : Sp := fun vs H Q _ => ∃ G a vr c ps r c', vs = .ref a :: vr ∧ Same G H ∧ G a = none ∧ Ob K G H a c ∧ Reps K G vr ps ∧ sem c ps = some (r, c') ∧
  ∀ x G' H', Gr (fun b => b = a) G H G' H' → Same G' H' → G' a = none → Ob K G' H' a c' → RR K G' H' (fun b => H b = none) x r → Q x H'
theorem RR_mono {K : PySem.W.Frag} {G H' : Hp} {ok ok' : Addr → Prop} {v : V} {r : Rs} (h : RR K G H' ok v r) (i : ∀ a, ok a → ok' a) : RR K G H' ok' v r := by
  cases r with
  | val p => exact h
  | new p =>
    obtain ⟨a, h1, h2, h3, h4⟩ := h
    exact ⟨a, h1, i a h2, h3, h4⟩
@[simp] def dC0 (sem : List PV → Option Rs) (f : D (List PV)) (Γ : Ev) : Option (Rs × Ev) := (bnd f fun ps => opt (sem ps)) Γ
theorem t_c0 {K : PySem.W.Frag} {sem : List PV → Option Rs} {E0 : XK} {σ : St} {H : Hp} {Q : VK} (t : tR K (dC0 sem l) σ H Q) : tCall (Sp0 K sem) [] E0 (tL K l) σ H Q := by
  obtain ⟨π, G, Γ, w, Γ', E, ef, q⟩ := t
  obtain ⟨ps, Γ1, e1, f1⟩ := bnd_some ef
  obtain ⟨e2, z⟩ := opt_some f1
  subst z
  refine ⟨π, G, Γ, ps, _, E, e1, fun us G1 H1 S1 r1 => ?_⟩
  show Sp0 K sem (us ++ []) H1 Q E0
  rw [List.append_nil]
  exact ⟨G1, ps, w, S1.e.sub, r1, e2, fun x G' H' g s r => q x G' H' (S1.trans (.grow S1.e g s)) (RR_mono r fun a n => S1.g.nothing n)⟩
theorem sr_c0 {sem : List PV → Option Rs} {n : Nat} {fa : Addr} {fd : FuncData} {ps : List Str} {x : Str} (F : FnOk X.prog X.w X.K X.mg X.base CX0 n fa fd ps (Sp0 X.K sem)) (hr : Room n X.A) (hg : Gl X x) (hm : X.mg x = some (.ref fa)) (hk : PySem.W.keepIn X.K (.ref fa) = true) (hb : Binds X.K fd ps [])
    (ha : SL X (e :: es) l) (hdb : (x == ("__debug__" : Str)) = false := by decide) (he : starEach (e :: es) X.env = (false, eval e X.env) :: starEach es X.env := by rfl) (hpl : (backTo pos (starEach es X.env)).any (·.1) = false := by rfl) :
    SR X (.Call (.Name x p) (e :: es) [] pos) (dC0 sem l) := (pe_call F hr hg hm hk hb .nil pass0 ha hdb he hpl).imp fun _ _ _ t => t_c0 t
@[simp] def dC1 (sem : PV → List PV → Option (Rs × PV)) (i : Nat) (f : D (List PV)) (Γ : Ev) : Option (Rs × Ev) := (bnd (dLk i) fun _ => bnd f fun ps => bnd (dLk i) fun kc => bnd (opt (sem (.lst kc.2) ps)) fun rc => bnd (put i (.mu kc.1 rc.2)) fun _ => ret rc.1) Γ
theorem t_c1' {K : PySem.W.Frag} {sem : PV → List PV → Option (Rs × PV)} {E0 : XK} {i : Nat} {σ : St} {H : Hp} {Q : VK} (t : tR K (dC1 sem i l) σ H Q) : tCall (Sp1 K sem) [] E0 (tCons (tVar i) (tL K l)) σ H Q := by
  obtain ⟨π, G, Γ, w, Γ', E, ef, q⟩ := t
  obtain ⟨x0, Γ0, e0, f1⟩ := bnd_some ef
  obtain ⟨ps, Γ1, e1, f2⟩ := bnd_some f1
  obtain ⟨kc, Γ2, e2, f3⟩ := bnd_some f2
  obtain ⟨zc, Γ3, e3, f4⟩ := bnd_some f3
  obtain ⟨_, Γ4, e4, f5⟩ := bnd_some f4
  obtain ⟨z0, s0, k0⟩ := dLk_some e0
  obtain ⟨z2, s2, k2⟩ := dLk_some e2
  obtain ⟨hgz, z3⟩ := opt_some e3
  obtain ⟨z6, z5⟩ := ret_some f5
  subst z0 z3 z5 z2 z6
  cases e4
  clear ef f1 f2 f3 f4 f5
  obtain ⟨b, q1, q2, q3, q4⟩ := E.mu i _ _ s0
  refine ⟨_, q1, π, G, _, ps, _, E, e1, fun xs G1 H1 S1 r1 => ?_⟩
  obtain ⟨b', p1, p2, p3, p4⟩ := S1.e.mu i _ _ s2
  rw [q1] at p1
  cases p1
  show Sp1 K sem (V.ref b :: xs ++ []) H1 Q E0
  rw [List.append_nil]
  refine ⟨G1, b, xs, _, ps, zc.1, zc.2, rfl, S1.e.sub, p2, p3, r1, hgz, fun x G' H' g s gn ob r => ?_⟩
  exact q x G' H' (S1.trans (slot_put S1.e s2 k2 q1 g s gn ob)) (RR_mono r fun a n => S1.g.nothing n)
theorem sr_c1 (i : Nat) {sem : PV → List PV → Option (Rs × PV)} {n : Nat} {fa : Addr} {fd : FuncData} {ps : List Str} {x y : Str} {pos' : Pos} (F : FnOk X.prog X.w X.K X.mg X.base CX0 n fa fd ps (Sp1 X.K sem)) (hr : Room n X.A) (hg : Gl X x) (hm : X.mg x = some (.ref fa)) (hk : PySem.W.keepIn X.K (.ref fa) = true) (hb : Binds X.K fd ps [])
    (ha : SL X es l) (hN : X.N[i]? = some y := by rfl) (hv : Vis X.env.scope y := by first | exact Or.inl rfl | exact Or.inr (Or.inl rfl) | exact Or.inr (Or.inr rfl)) (hd : (y == ("__debug__" : Str)) = false := by decide) (hcd : (y == ("__classdict__" : Str)) = false := by decide)
    (hdb : (x == ("__debug__" : Str)) = false := by decide) (he : starEach (.Name y pos' :: es) X.env = (false, eval (.Name y pos') X.env) :: starEach es X.env := by rfl) (hpl : (backTo pos (starEach es X.env)).any (·.1) = false := by rfl) :
    SR X (.Call (.Name x p) (.Name y pos' :: es) [] pos) (dC1 sem i l) := (pe_call F hr hg hm hk hb .nil pass0 (pa_cons (pe_var hN hv hd hcd) ha he) hdb he hpl).imp fun _ _ _ t => t_c1' t
end
/-! ### steps of statements -/
/-- where the slots' objects come from -/
def Ftt (Γ : Ev) (σ : St) (H : Hp) (Γ' : Ev) (σ' : St) : Prop := ∀ i k a, At Γ' σ' i k a → At Γ σ i k a ∨ (k = .own ∧ H a = none)
structure Sts (K : PySem.W.Frag) (π : Nat → Addr) (σ : St) (G H : Hp) (Γ : Ev) (σ' : St) (G' H' : Hp) (Γ' : Ev) : Prop where
  e : ER K π G' σ' H' Γ'
  g : Gr (Foot Γ σ) G H G' H'
  f : Ftt Γ σ H Γ' σ'
section
variable {K : PySem.W.Frag} {π : Nat → Addr} {σ σ1 σ2 : St} {G H G1 H1 G2 H2 : Hp} {Γ Γ1 Γ2 : Ev}
theorem Sts.refl (E : ER K π G σ H Γ) : Sts K π σ G H Γ σ G H Γ := ⟨E, .refl, fun _ _ _ h => .inl h⟩
theorem Ste.sts (S : Ste K π σ G H Γ G1 H1 Γ1) : Sts K π σ G H Γ σ G1 H1 Γ1 := ⟨S.e, S.g, fun i k a h => .inl (S.f i k a h)⟩
theorem Ftt.foot (f : Ftt Γ σ H Γ1 σ1) {a : Addr} (h : Foot Γ1 σ1 a) : Foot Γ σ a ∨ H a = none := by
  obtain ⟨i, k, n, h⟩ := h
  rcases f i k a h with h | ⟨_, h⟩
  · exact .inl ⟨i, k, n, h⟩
  · exact .inr h
theorem Sts.trans (a : Sts K π σ G H Γ σ1 G1 H1 Γ1) (b : Sts K π σ1 G1 H1 Γ1 σ2 G2 H2 Γ2) : Sts K π σ G H Γ σ2 G2 H2 Γ2 :=
  ⟨b.e, a.g.trans b.g fun x h => a.f.foot h, fun i k x h => (b.f i k x h).elim (a.f i k x) fun z => .inr ⟨z.1, a.g.nothing z.2⟩⟩
/-- a slot takes a value -/
theorem sts_val (E : ER K π G σ H Γ) (i : Nat) {v : V} {p : PV} (r : Rep K G v p) : Sts K π σ G H Γ (σ.set i (some v)) G H (Γ.set i (.val p)) := by
  have at' : ∀ j k b, At (Γ.set i (.val p)) (σ.set i (some v)) j k b → At Γ σ j k b := fun j k b ⟨q, e1, e2⟩ => by
    rcases set_get e1 with ⟨rfl, z⟩ | ⟨n, z⟩
    · cases z
    · rw [List.getElem?_set_ne n] at e2
      exact ⟨q, z, e2⟩
  refine ⟨⟨E.sub, by rw [List.length_set, List.length_set]; exact E.len, fun j q e => ?_, fun j k q e => ?_, fun j l k k' b z1 z2 => E.inj j l k k' b (at' j k b z1) (at' l k' b z2)⟩, .refl, fun j k b h => .inl (at' j k b h)⟩
  · rcases set_get e with ⟨rfl, z⟩ | ⟨n, z⟩
    · cases z
      have hi : i < Γ.length := by
        have := (List.getElem?_eq_some_iff.mp e).1
        rwa [List.length_set] at this
      exact ⟨v, List.getElem?_set_self (by rw [← E.len]; exact hi), r⟩
    · rw [List.getElem?_set_ne n]
      exact E.val j q z
  · rcases set_get e with ⟨rfl, z⟩ | ⟨n, z⟩
    · cases z
    · rw [List.getElem?_set_ne n]
      exact E.mu j k q z
/-- a slot takes a new object -/
theorem sts_new (E : ER K π G σ H Γ) (i : Nat) {a : Addr} {p : PV} (gn : G a = none) (ob : Ob K G H a p) (hn : ∀ j k, ¬ At Γ σ j k a) :
    ER K π G (σ.set i (some (.ref a))) H (Γ.set i (.mu .own p)) ∧ ∀ j k b, At (Γ.set i (.mu .own p)) (σ.set i (some (.ref a))) j k b → (At Γ σ j k b ∧ j ≠ i) ∨ (j = i ∧ k = .own ∧ b = a) := by
  have at' : ∀ j k b, At (Γ.set i (.mu .own p)) (σ.set i (some (.ref a))) j k b → (At Γ σ j k b ∧ j ≠ i) ∨ (j = i ∧ k = .own ∧ b = a) := fun j k b ⟨q, e1, e2⟩ => by
    rcases set_get e1 with ⟨rfl, z⟩ | ⟨n, z⟩
    · cases z
      rcases set_get e2 with ⟨_, z2⟩ | ⟨n2, _⟩
      · cases z2
        exact .inr ⟨rfl, rfl, rfl⟩
      · exact absurd rfl n2
    · rw [List.getElem?_set_ne n] at e2
      exact .inl ⟨⟨q, z, e2⟩, Ne.symm n⟩
  refine ⟨⟨E.sub, by rw [List.length_set, List.length_set]; exact E.len, fun j q e => ?_, fun j k q e => ?_, fun j l k k' b z1 z2 => ?_⟩, at'⟩
  · rcases set_get e with ⟨rfl, z⟩ | ⟨n, z⟩
    · cases z
    · rw [List.getElem?_set_ne n]
      exact E.val j q z
  · rcases set_get e with ⟨rfl, z⟩ | ⟨n, z⟩
    · cases z
      have hi : i < Γ.length := by
        have := (List.getElem?_eq_some_iff.mp e).1
        rwa [List.length_set] at this
      exact ⟨a, List.getElem?_set_self (by rw [← E.len]; exact hi), gn, ob, fun z => by cases z⟩
    · rw [List.getElem?_set_ne n]
      exact E.mu j k q z
  · rcases at' j k b z1 with ⟨y1, n1⟩ | ⟨y1, y2, y3⟩
    · rcases at' l k' b z2 with ⟨x1, m1⟩ | ⟨x1, x2, x3⟩
      · exact E.inj j l k k' b y1 x1
      · subst x3
        exact absurd y1 (hn j k)
    · rcases at' l k' b z2 with ⟨x1, m1⟩ | ⟨x1, x2, x3⟩
      · subst y3
        exact absurd x1 (hn l k')
      · rw [y1, x1]
end
/-! ### targets -/
theorem wipe_set {σ : St} {i : Nat} {x : Option V} : ∀ {vs : List Nat}, i ∈ vs → wipe (σ.set i x) vs = wipe σ vs
  | v :: vs, h => by
    unfold wipe
    by_cases hv : i ∈ vs
    · rw [wipe_set hv]
    · have e : i = v := (List.mem_cons.mp h).resolve_right hv
      subst e
      have aux : ∀ ws : List Nat, (wipe (σ.set i x) ws).set i none = (wipe σ ws).set i none := fun ws => by
        induction ws with
        | nil => exact List.set_set _
        | cons w ws ih =>
          unfold wipe
          by_cases hw : w = i
          · subst hw
            rw [List.set_set, List.set_set]
            exact ih
          · rw [List.set_comm _ _ hw, ih, List.set_comm _ _ (Ne.symm hw)]
      exact aux vs
/-- ws: the slots that may be stored -/
def tG (K : PySem.W.Frag) (ws : List Nat) (g : PV → Ev → Option Ev) : TG := fun v σ H Q => ∃ π G Γ p Γ', ER K π G σ H Γ ∧ Rep K G v p ∧ g p Γ = some Γ' ∧ ∀ σ', Sts K π σ G H Γ σ' G H Γ' → (∀ vs : List Nat, (∀ w ∈ ws, w ∈ vs) → wipe σ' vs = wipe σ vs) → Q σ' H
def tGs (K : PySem.W.Frag) (ws : List Nat) (g : List PV → Ev → Option Ev) : TGs := fun vs σ H Q => ∃ π G Γ ps Γ', ER K π G σ H Γ ∧ Reps K G vs ps ∧ g ps Γ = some Γ' ∧ ∀ σ', Sts K π σ G H Γ σ' G H Γ' → (∀ vs : List Nat, (∀ w ∈ ws, w ∈ vs) → wipe σ' vs = wipe σ vs) → Q σ' H
abbrev SG (X : Cx) (e : Expr) (ws : List Nat) (g : PV → Ev → Option Ev) : Prop := PG X e (tG X.K ws g)
abbrev SGs (X : Cx) (es : List Expr) (ws : List Nat) (g : List PV → Ev → Option Ev) : Prop := PGs X es (tGs X.K ws g)
theorem PG_imp {X : Cx} {e : Expr} {t t' : TG} (h : PG X e t) (i : ∀ v σ H Q, t' v σ H Q → t v σ H Q) : PG X e t' := ⟨fun pins s σ H v u Q I r q => h.run pins s σ H v u Q I r (i v σ H Q q)⟩
theorem PGs_imp {X : Cx} {e : List Expr} {t t' : TGs} (h : PGs X e t) (i : ∀ v σ H Q, t' v σ H Q → t v σ H Q) : PGs X e t' := ⟨fun pins s σ H v u Q I r q => h.run pins s σ H v u Q I r (i v σ H Q q)⟩
@[simp] def gN (i : Nat) (p : PV) (Γ : Ev) : Option Ev := some (Γ.set i (.val p))
@[simp] def gsN (ps : List PV) (Γ : Ev) : Option Ev := match ps with
  | [] => some Γ
  | _ => none
@[simp] def gsC (g : PV → Ev → Option Ev) (gs : List PV → Ev → Option Ev) (ps : List PV) (Γ : Ev) : Option Ev := match ps with
  | p :: r => (g p Γ).bind (gs r)
  | _ => none
/-- n names at once -/
@[simp] def gT (n : Nat) (gs : List PV → Ev → Option Ev) (p : PV) (Γ : Ev) : Option Ev := match p with
  | .tup xs => if xs.length = n then gs xs Γ else none
  | _ => none
section
variable {X : Cx} {pos p : Pos} {a b c e : Expr} {es : List Expr} {g : PV → Ev → Option Ev} {gs : List PV → Ev → Option Ev} {ws ws' : List Nat}
theorem sg_name (i : Nat) {x : Str} (hN : X.N.Nodup) (hi : X.N[i]? = some x := by rfl) (hx : Loc X.env.scope x := by first | exact Or.inl rfl | exact Or.inr rfl) (hf : X.fn x = true ∨ X.env.scope.names.lookup x = some .local := by first | exact .inl rfl | exact .inr rfl | assumption) : SG X (.Name x pos) [i] (gN i) :=
  PG_imp (pg_name hN hi hx hf) fun v σ H Q ⟨π, G, Γ, p, Γ', E, r, eg, q⟩ => by
    cases eg
    exact q _ (sts_val E i r) fun vs h => wipe_set (h i List.mem_cons_self)
theorem sgs_nil : SGs X [] [] gsN := PGs_imp pgs_nil fun v σ H Q ⟨π, G, Γ, p, Γ', E, r, eg, q⟩ => by
  unfold gsN at eg
  split at eg
  · cases eg
    exact ⟨r, q σ (.refl E) fun _ _ => rfl⟩
  · cases eg
theorem sgs_cons (h1 : SG X e ws g) (h2 : SGs X es ws' gs) (hs : (assignEach (e :: es) X.env).map (·.2) = assign e X.env :: (assignEach es X.env).map (·.2) := by rfl) : SGs X (e :: es) (ws ++ ws') (gsC g gs) := PGs_imp (pgs_cons h1 h2 hs) fun v σ H Q ⟨π, G, Γ, p, Γ', E, r, eg, q⟩ => by
  unfold gsC at eg
  split at eg
  · rename_i p0 r0
    obtain ⟨Γ1, e1, e2⟩ := Option.bind_eq_some_iff.mp eg
    obtain ⟨v0, vr, rfl, q1, q2⟩ := r
    exact ⟨v0, vr, rfl, π, G, Γ, p0, Γ1, E, q1, e1, fun σ1 S1 w1 => ⟨π, G, Γ1, r0, Γ', S1.e, q2, e2, fun σ2 S2 w2 => q σ2 (S1.trans S2) fun vs h => (w2 vs fun w hw => h w (List.mem_append_right _ hw)).trans (w1 vs fun w hw => h w (List.mem_append_left _ hw))⟩⟩
  · cases eg
theorem sg_tup {k n : Nat} (hc : X.calm = true) (h : SGs X es ws gs) (hn : (assignEach es X.env).length = n := by rfl) (hst : (assignEach es X.env).findIdx? (·.1) = none := by rfl) : SG X (.Tuple es k pos) ws (gT n gs) := PG_imp (pg_tup hc h hn hst) fun v σ H Q ⟨π, G, Γ, p, Γ', E, r, eg, q⟩ => by
  unfold gT at eg
  split at eg
  · rename_i xs
    split at eg
    · rename_i hl
      obtain ⟨a, vs, rfl, q1, q2⟩ := r
      exact ⟨a, vs, rfl, Same.seqT E.sub q1, by rw [q2.length]; exact hl, π, G, Γ, xs, Γ', E, q2, eg, q⟩
    · cases eg
  · cases eg
end
/-! ### what is walked -/
/-- J gives the plain values ps, one behind the other, while C holds of the heap and what is locked in G stands -/
structure Wk (K : PySem.W.Frag) (J : It) (G : Hp) (C : Hp → Prop) (ps : List PV) : Prop where
  go : ∀ i H, i < ps.length → Same G H → C H → J.go i H
  stop : ∀ H, Same G H → C H → J.stop ps.length H
  yld : ∀ i H x H' p, ps[i]? = some p → Same G H → C H → J.yld i H x H' → ∀ G1, Same G G1 → Same G1 H → ∃ G2, Gr (fun _ => False) G1 H G2 H' ∧ Same G2 H' ∧ Rep K G2 x p
/-- a frozen thing is walked -/
def tI (K : PySem.W.Frag) (f : D (List PV)) : TI := fun σ H R => ∃ π G Γ ps Γ', ER K π G σ H Γ ∧ f Γ = some (ps, Γ') ∧ ∀ J G' H', Ste K π σ G H Γ G' H' Γ' → Wk K J G' (fun _ => True) ps → R J H'
abbrev SI (X : Cx) (tg e : Expr) (f : D (List PV)) : Prop := PI X tg e (tI X.K f)
theorem PI_imp {X : Cx} {tg e : Expr} {t t' : TI} (h : PI X tg e t) (i : ∀ σ H R, t' σ H R → t σ H R) : PI X tg e t' := ⟨fun pins s σ H R I q => h.run pins s σ H R I (i σ H R q)⟩
section
variable {K : PySem.W.Frag} {G : Hp}
theorem wk_list {a : Addr} {vs : List V} {ps : List PV} (h : SqL K G a vs) (r : Reps K G vs ps) : Wk K (Itl K a) G (fun _ => True) ps where
  go := fun i H hi s _ => by
    obtain ⟨v, e, _⟩ := r.get (List.getElem?_eq_getElem hi)
    exact ⟨vs, v, s.seq h, e⟩
  stop := fun H s _ => ⟨vs, s.seq h, by rw [r.length]; exact Nat.le_refl _⟩
  yld := fun i H x H' p hp s _ y G1 s1 s2 => by
    obtain ⟨e, y⟩ := y
    subst e
    obtain ⟨v, e, rv⟩ := r.get hp
    have e2 := y vs (s.seq h)
    rw [e] at e2
    cases e2
    exact ⟨G1, .refl, s2, rv.mono s1⟩
theorem wk_tup {a : Addr} {vs : List V} {ps : List PV} (h : SqT K G a vs) (r : Reps K G vs ps) : Wk K (Itt K a) G (fun _ => True) ps where
  go := fun i H hi s _ => by
    obtain ⟨v, e, _⟩ := r.get (List.getElem?_eq_getElem hi)
    exact ⟨vs, v, Same.seqT s h, e⟩
  stop := fun H s _ => ⟨vs, Same.seqT s h, by rw [r.length]; exact Nat.le_refl _⟩
  yld := fun i H x H' p hp s _ y G1 s1 s2 => by
    obtain ⟨e, y⟩ := y
    subst e
    obtain ⟨v, e, rv⟩ := r.get hp
    have e2 := y vs (Same.seqT s h)
    rw [e] at e2
    cases e2
    exact ⟨G1, .refl, s2, rv.mono s1⟩
def rgP (lo : Int) (n : Nat) : List PV := (List.range n).map fun (i : Nat) => PV.int (lo + (i : Int))
theorem wk_range {lo : Int} {n : Nat} : Wk K (Itr lo n) G (fun _ => True) (rgP lo n) where
  go := fun i H hi _ _ => by
    show i < n
    unfold rgP at hi
    simpa using hi
  stop := fun H _ _ => by
    show n ≤ _
    unfold rgP
    simp
  yld := fun i H x H' p hp _ _ y G1 _ s2 => by
    obtain ⟨e, y⟩ := y
    subst e
    unfold rgP at hp
    rw [List.getElem?_map] at hp
    obtain ⟨j, e, e2⟩ := Option.map_eq_some_iff.mp hp
    have hj : j = i := by
      have := List.getElem?_range (show i < n from by
        have := (List.getElem?_eq_some_iff.mp e).1
        simpa using this)
      rw [this] at e
      exact (Option.some.inj e).symm
    subst hj e2
    exact ⟨G1, .refl, s2, y⟩
/-- a pair made new at each turn -/
theorem wk_pair {H H' G1 : Hp} {T : Addr} {x y : V} {p q : PV} (n : H T = none) (e : H' = upd H T (.tup [x, y])) (s : Same G1 H) (hx : Rep K G1 x p) (hy : Rep K G1 y q) :
    ∃ G2, Gr (fun _ => False) G1 H G2 H' ∧ Same G2 H' ∧ Rep K G2 (.ref T) (.tup [p, q]) := by
  subst e
  obtain ⟨g, s'⟩ := gr_laid (F := fun _ => False) (o := .tup [x, y]) s n
  exact ⟨_, g, s', T, [x, y], rfl, .inl (.inl upd_same), (Reps.cons hx (.one hy)).mono g.g⟩
def zipP : List PV → List PV → List PV
  | x :: xs, y :: ys => .tup [x, y] :: zipP xs ys
  | _, _ => []
theorem zipP_get : ∀ {xs ys : List PV} {i : Nat} {p : PV}, (zipP xs ys)[i]? = some p → ∃ x y, xs[i]? = some x ∧ ys[i]? = some y ∧ p = .tup [x, y]
  | x :: xs, y :: ys, 0, p, h => ⟨x, y, rfl, rfl, (Option.some.inj h).symm⟩
  | x :: xs, y :: ys, i + 1, p, h => zipP_get (xs := xs) (ys := ys) h
  | [], _, i, p, h => by simp [zipP] at h
  | _ :: _, [], i, p, h => by simp [zipP] at h
theorem zipP_len : ∀ xs ys : List PV, (zipP xs ys).length = min xs.length ys.length
  | x :: xs, y :: ys => by
    show (zipP xs ys).length + 1 = _
    rw [zipP_len xs ys]
    simp
  | [], ys => by simp [zipP]
  | _ :: _, [] => by simp [zipP]
theorem wk_zipT {a b : Addr} {vs us : List V} {ps qs : List PV} (ha : SqT K G a vs) (hb : SqT K G b us) (ra : Reps K G vs ps) (rb : Reps K G us qs) : Wk K (RZ.ItzT K a b) G (fun _ => True) (zipP ps qs) where
  go := fun i H hi s _ => by
    rw [zipP_len] at hi
    obtain ⟨v, e, _⟩ := ra.get (List.getElem?_eq_getElem (show i < ps.length by omega))
    obtain ⟨u, e', _⟩ := rb.get (List.getElem?_eq_getElem (show i < qs.length by omega))
    exact ⟨vs, us, v, u, Same.seqT s ha, Same.seqT s hb, e, e'⟩
  stop := fun H s _ => ⟨vs, us, Same.seqT s ha, Same.seqT s hb, by
    rw [zipP_len, ra.length, rb.length]
    omega⟩
  yld := fun i H x H' p hp s _ y G1 s1 s2 => by
    obtain ⟨T, x1, y1, rfl, n, e, f1, f2⟩ := y
    obtain ⟨x2, y2, e1, e2, rfl⟩ := zipP_get hp
    obtain ⟨v, e3, r3⟩ := ra.get e1
    obtain ⟨u, e4, r4⟩ := rb.get e2
    have e5 := f1 vs (Same.seqT s ha)
    have e6 := f2 us (Same.seqT s hb)
    rw [e3] at e5
    rw [e4] at e6
    cases e5
    cases e6
    exact wk_pair n e s2 (r3.mono s1) (r4.mono s1)
theorem wk_zipL {a b : Addr} {vs us : List V} {ps qs : List PV} (ha : SqL K G a vs) (hb : SqL K G b us) (ra : Reps K G vs ps) (rb : Reps K G us qs) : Wk K (Itz K a b) G (fun _ => True) (zipP ps qs) where
  go := fun i H hi s _ => by
    rw [zipP_len] at hi
    obtain ⟨v, e, _⟩ := ra.get (List.getElem?_eq_getElem (show i < ps.length by omega))
    obtain ⟨u, e', _⟩ := rb.get (List.getElem?_eq_getElem (show i < qs.length by omega))
    exact ⟨vs, us, v, u, s.seq ha, s.seq hb, e, e'⟩
  stop := fun H s _ => ⟨vs, us, s.seq ha, s.seq hb, by
    rw [zipP_len, ra.length, rb.length]
    omega⟩
  yld := fun i H x H' p hp s _ y G1 s1 s2 => by
    obtain ⟨T, x1, y1, rfl, n, e, f1, f2⟩ := y
    obtain ⟨x2, y2, e1, e2, rfl⟩ := zipP_get hp
    obtain ⟨v, e3, r3⟩ := ra.get e1
    obtain ⟨u, e4, r4⟩ := rb.get e2
    have e5 := f1 vs (s.seq ha)
    have e6 := f2 us (s.seq hb)
    rw [e3] at e5
    rw [e4] at e6
    cases e5
    cases e6
    exact wk_pair n e s2 (r3.mono s1) (r4.mono s1)
def enumP : Nat → List PV → List PV
  | _, [] => []
  | n, x :: xs => .tup [.int (n : Nat), x] :: enumP (n + 1) xs
theorem enumP_get : ∀ {xs : List PV} {n i : Nat} {p : PV}, (enumP n xs)[i]? = some p → ∃ x, xs[i]? = some x ∧ p = .tup [.int ((n + i : Nat) : Int), x]
  | x :: xs, n, 0, p, h => ⟨x, rfl, (Option.some.inj h).symm⟩
  | x :: xs, n, i + 1, p, h => by
    obtain ⟨y, e, r⟩ := enumP_get (xs := xs) (n := n + 1) (i := i) h
    exact ⟨y, e, by rw [r, show n + 1 + i = n + (i + 1) by omega]⟩
  | [], n, i, p, h => by simp [enumP] at h
theorem enumP_len : ∀ (n : Nat) (xs : List PV), (enumP n xs).length = xs.length
  | n, [] => rfl
  | n, x :: xs => by
    show (enumP (n + 1) xs).length + 1 = _
    rw [enumP_len]
    rfl
theorem wk_enumL {a : Addr} {vs : List V} {ps : List PV} (ha : SqL K G a vs) (ra : Reps K G vs ps) : Wk K (Ite K a) G (fun _ => True) (enumP 0 ps) where
  go := fun i H hi s _ => by
    rw [enumP_len] at hi
    obtain ⟨v, e, _⟩ := ra.get (List.getElem?_eq_getElem hi)
    exact ⟨vs, v, s.seq ha, e⟩
  stop := fun H s _ => ⟨vs, s.seq ha, by rw [enumP_len, ra.length]; exact Nat.le_refl _⟩
  yld := fun i H x H' p hp s _ y G1 s1 s2 => by
    obtain ⟨T, x1, rfl, n, e, f1⟩ := y
    obtain ⟨x2, e1, rfl⟩ := enumP_get hp
    obtain ⟨v, e3, r3⟩ := ra.get e1
    have e5 := f1 vs (s.seq ha)
    rw [e3] at e5
    cases e5
    rw [Nat.zero_add]
    exact wk_pair n e s2 rfl (r3.mono s1)
end
/-! ### enumerate of a tuple -/
theorem enumT_new {v : Value} {o : Obj} {C : Heap → Prop} (B : Begins v o C) : Meets (Builtin.«enumerate.__new__» ⟨[.type "enumerate", v], []⟩) (fun _ R s => C s.heap ∧
    R (.ok (.ret (.ref (s.heap.push o).objs.size))) { s with heap := (s.heap.push o).push { cls := .type "enumerate", data := .fields #[.none, .bool false, .ref s.heap.objs.size, rawInt 0, .none, .none] } }) :=
  .of_wp fun prog w A R s h => by
    obtain ⟨hp, g, d, tk, os⟩ := s
    obtain ⟨h1, h2⟩ := h
    have sub := sub_enumerate
    have it : ∀ {A' : Around} {E : Value → Shared → Prop} {Q : Value → Shared → Prop}, Q (.ref hp.objs.size) ⟨hp.push o, g, d, tk, os⟩ → wpAny (model prog w) A' (pyIter v) Q E ⟨hp, g, d, tk, os⟩ := fun q => B.iter prog w _ _ ⟨hp, g, d, tk, os⟩ _ h1 q
    wp_walk using it
    refine wpAny_stack_any fun _ => wpAny_pure ?_
    split <;> first
      | (rename_i c _ _ _ _ _; cases (c == Value.type "enumerate") <;> (wp_walk using it; exact ⟨_, rfl, h2⟩))
      | (wp_walk using it; exact ⟨_, rfl, h2⟩)
theorem enumT_call {prog : Program} {w : World} {A : Around} {E : Value → Shared → Prop} {s : Shared} {v : Value} {o : Obj} {C : Heap → Prop} {Q : Value → Shared → Prop} (B : Begins v o C) (hC : C s.heap)
    (h : ∀ h', IsEnum h' (s.heap.objs.size + 1) s.heap.objs.size 0 .none → h'.get? s.heap.objs.size = some o → (∀ b u, s.heap.get? b = some u → h'.get? b = some u) → Q (.ref (s.heap.objs.size + 1)) { s with heap := h' }) :
    wpAny (model prog w) A (call (.type "enumerate") [v]) Q E s := by
  refine callType_new F.called_enumerate (by decide) (F.typeCall_enumerate_1 _) (F.newCall_enumerate_1 _) (fun ob => F.args_object_init_2 ob _) F.entry_enumerate_new (enumT_new B) ⟨hC, ?_⟩
  have z : (s.heap.push o).objs.size = s.heap.objs.size + 1 := Heap.size_push ..
  have made : IsEnum ((s.heap.push o).push { cls := .type "enumerate", data := .fields #[.none, .bool false, .ref s.heap.objs.size, rawInt 0, .none, .none] }) (s.heap.objs.size + 1) s.heap.objs.size 0 .none := by
    have q := Heap.get?_push_size (s.heap.push o) (o := { cls := .type "enumerate", data := .fields #[.none, .bool false, .ref s.heap.objs.size, rawInt 0, .none, .none] }) rfl
    rwa [z] at q
  show _ ∧ _
  rw [z]
  exact ⟨⟨_, made, rfl⟩, h _ made (Heap.get?_push_of_some _ (Heap.get?_push_size _ B.free)) fun b u e => Heap.get?_push_of_some _ (Heap.get?_push_of_some _ e)⟩
/-- the tuple at a, each item in a new pair with its number -/
def ItE (K : PySem.W.Frag) (a : Addr) : It :=
  ⟨fun i H => ∃ (xs : List V) (x : V), SqT K H a xs ∧ xs[i]? = some x, fun i H v H' => ∃ T x, v = .ref T ∧ H T = none ∧ H' = upd H T (.tup [.int (i : Nat), x]) ∧ ∀ xs, SqT K H a xs → xs[i]? = some x, fun i H => ∃ xs : List V, SqT K H a xs ∧ xs.length = i⟩
theorem turn_enumT {P : Program} {w : World} {K : PySem.W.Frag} {elts : List Expr} {kk : Nat} {tpos : Pos} (a e it : Addr) (d1 : e ≠ it) (d2 : e ≠ a) (d3 : a ≠ it) :
    Turn P w K (.Tuple elts kk tpos) (ItE K a) [e, it] e (fun i h => (∃ old, IsEnum h e it ((i : Nat) : Int) old) ∧ h.IsTupleIter it a i) where
  mem := List.mem_cons_self
  obj := fun i h st b hb => by
    obtain ⟨⟨old, he⟩, o, ho, hc, hd⟩ := st
    rcases List.mem_cons.mp hb with z | z
    · subst z
      exact ⟨_, he, fun v q => nomatch q⟩
    · exact ⟨o, by rw [List.mem_singleton.mp z]; exact ho, fun v q => by rw [hd] at q; cases q⟩
  keep := fun i h h' st k => by
    obtain ⟨⟨old, he⟩, hi⟩ := st
    exact ⟨⟨old, k e List.mem_cons_self _ he⟩, hi.at fun o q => k it (List.mem_cons_of_mem _ List.mem_cons_self) o q⟩
  item := by
    intro X hP hw hK hc i pins s σ H E I hf st hg
    subst hP hw hK
    obtain ⟨⟨old, he⟩, hit⟩ := st
    obtain ⟨xs, x, hq, hx⟩ := hg
    obtain ⟨its, rv, p, hz⟩ := I.tuple hq
    obtain ⟨u, hu, ru⟩ := rv.get hx
    have hlen : i < its.toArray.size := by
      have := (List.getElem?_eq_some_iff.mp hu).1
      simpa using this
    have le : e < s.heap.objs.size := Heap.lt_size he
    have li : it < s.heap.objs.size := by
      obtain ⟨_, q, _⟩ := hit
      exact Heap.lt_size q
    have D := Draws.tuple (prog := X.prog) (w := X.w) (A := X.A.in1) (show X.A.in1.handled = none from I.ok.hd hc) it a d3 its.toArray
    refine wpAny_pyNext_enum_itemD D he ⟨hit, show s.heap.IsTuple a its.toArray from p⟩ hlen d1 (by simp only [List.mem_cons, List.not_mem_nil, or_false, not_or]; exact ⟨d1, d2⟩) fun u' h' tk hu' ho st' hT hsz hk => ?_
    have eu : u' = u := by
      have e1 : its.toArray[i]? = some u' := hu'
      have e2 : its.toArray[i]? = some u := by simpa using hu
      rw [e1] at e2
      exact Option.some.inj e2
    subst eu
    refine ⟨_, rfl, wpAny_letOwnedTupleGo_enum (s := { s with heap := h', toks := tk + 1 }) ho fun h'' he' sb => ?_⟩
    have hT2 : h''.get? s.heap.objs.size = some { cls := .type "tuple", data := .seq #[.int i tk, u'] } := (sb.2 _ (Nat.ne_of_gt le)).trans hT
    have new : ObjOk X.prog X.w (upd H s.heap.objs.size (.tup [.int (i : Nat), x])) h'' s.heap.objs.size (.tup [.int (i : Nat), x]) :=
      ⟨by show 2 ≤ sizeLine; decide, [.int i tk, u'], .cons ⟨_, rfl⟩ (.cons ru .nil), ⟨_, hT2, rfl, _, rfl⟩⟩
    have I1 : Inv X pins σ (upd H s.heap.objs.size (.tup [.int (i : Nat), x])) { s with heap := h'', toks := tk + 1 } :=
      I.turnedNew (ch := [e, it]) (fun b ob hb q => (sb.2 b (fun z => hb (by simp [z]))).trans (hk b ob (fun z => hb (by simp [z])) (fun z => hb (by simp [z])) q)) hf (Nat.le_refl _) new
    refine ⟨.ref s.heap.objs.size, _, I1, rfl, ⟨_, x, rfl, I.hok.fresh (Nat.le_refl _), rfl, fun ys hy => by rw [I.tuple_inj hy hq]; exact hx⟩, ⟨⟨u', ?_⟩, st'.1.at fun o q => (sb.2 it (Ne.symm d1)).trans q⟩, fun b hb => ?_⟩
    · rw [show ((i + 1 : Nat) : Int) = (i : Int) + 1 by omega]
      exact he'
    · have lb : b < s.heap.objs.size := by
        rcases List.mem_cons.mp hb with z | z
        · rw [z]
          exact le
        · rw [List.mem_singleton.mp z]
          exact li
      rw [upd_ne (Nat.ne_of_lt lb)]
      exact (hf b hb).1
  done := by
    intro X hP hw hK hc i pins s σ H E I hf st hg
    subst hP hw hK
    obtain ⟨⟨old, he⟩, hit⟩ := st
    obtain ⟨xs, hq, hx⟩ := hg
    obtain ⟨its, rv, p, hz⟩ := I.tuple hq
    obtain ⟨f0, f1, f2, f3, f4, f5⟩ := hf it (List.mem_cons_of_mem _ List.mem_cons_self)
    have hn : its.toArray.size = i := by
      rw [List.size_toArray, ← rv.length]
      exact hx
    subst hn
    have D := Draws.tuple (prog := X.prog) (w := X.w) (A := X.A.in1) (show X.A.in1.handled = none from I.ok.hd hc) it a d3 its.toArray
    exact wpAny_pyNext_enum_endD D he ⟨hit, show s.heap.IsTuple a its.toArray from p⟩ fun h' eb => ⟨rfl, I.turned (t' := s.toks) (fun b o hb q => eb b o hb q) f0 f1 f3 f4 f5⟩
  self := fun A i s Q E st h => let ⟨⟨_, he⟩, _⟩ := st; wpAny_pyIter_enum he h
theorem wk_enumT {K : PySem.W.Frag} {G : Hp} {a : Addr} {vs : List V} {ps : List PV} (ha : SqT K G a vs) (ra : Reps K G vs ps) : Wk K (ItE K a) G (fun _ => True) (enumP 0 ps) where
  go := fun i H hi s _ => by
    rw [enumP_len] at hi
    obtain ⟨v, e, _⟩ := ra.get (List.getElem?_eq_getElem hi)
    exact ⟨vs, v, Same.seqT s ha, e⟩
  stop := fun H s _ => ⟨vs, Same.seqT s ha, by rw [enumP_len, ra.length]⟩
  yld := fun i H x H' p hp s _ y G1 s1 s2 => by
    obtain ⟨T, x1, rfl, n, e, f1⟩ := y
    obtain ⟨x2, e1, rfl⟩ := enumP_get hp
    obtain ⟨v, e3, r3⟩ := ra.get e1
    have e5 := f1 vs (Same.seqT s ha)
    rw [e3] at e5
    cases e5
    rw [Nat.zero_add]
    exact wk_pair n e s2 rfl (r3.mono s1)
section
variable {X : Cx} {pos p tpos : Pos} {tg e e2 : Expr} {elts : List Expr} {kk : Nat} {f h : D PV}
/-- a list or a tuple that stands for good -/
@[simp] def itP : PV → Option (List PV)
  | .tup xs => some xs
  | .lst xs => some xs
  | .scr ns => some (ns.map PV.int)
  | _ => none
@[simp] def itE : PV → Option (List PV)
  | .tup xs => some (enumP 0 xs)
  | .lst xs => some (enumP 0 xs)
  | _ => none
@[simp] def itZ : PV → PV → Option (List PV)
  | .tup xs, .tup ys => some (zipP xs ys)
  | .lst xs, .lst ys => some (zipP xs ys)
  | _, _ => none
def itR1 : PV → Option (List PV)
  | .int j => if rgOk j = true then some (rgP 0 j.toNat) else none
  | _ => none
def itR2 : PV → PV → Option (List PV)
  | .int i, .int j => if rgOk i = true ∧ rgOk j = true then some (rgP i (j - i).toNat) else none
  | _, _ => none
@[simp] def dIt (g : PV → Option (List PV)) (f : D PV) (Γ : Ev) : Option ((List PV) × Ev) := (bnd f fun x => opt (g x)) Γ
@[simp] def dIt2 (g : PV → PV → Option (List PV)) (f h : D PV) (Γ : Ev) : Option ((List PV) × Ev) := (bnd f fun x => bnd h fun y => opt (g x y)) Γ
theorem si_val (ha : SV X e f) : SI X tg e (dIt itP f) := by
  refine ⟨fun pins s σ H R I t => ?_⟩
  obtain ⟨π, G, Γ, ps, Γ', E, ef, q⟩ := t
  obtain ⟨x, Γ1, e1, f1⟩ := bnd_some ef
  obtain ⟨e2, z⟩ := opt_some f1
  subst z
  unfold itP at e2
  split at e2
  · cases e2
    exact (pi_tup (tg := tg) ha).run pins s σ H R I ⟨π, G, Γ, _, _, E, e1, fun u G1 H1 S r => by
      obtain ⟨a, vs, rfl, q1, q2⟩ := r
      exact ⟨a, rfl, ⟨vs, Same.seqT S.e.sub q1⟩, q _ G1 H1 S (wk_tup q1 q2)⟩⟩
  · cases e2
    exact (pi_list (tg := tg) ha).run pins s σ H R I ⟨π, G, Γ, _, _, E, e1, fun u G1 H1 S r => by
      obtain ⟨a, vs, rfl, q1, q2⟩ := r
      exact ⟨a, rfl, ⟨vs, SqL.of (S.e.sub _ _ q1)⟩, q _ G1 H1 S (wk_list (SqL.of q1) q2)⟩⟩
  · cases e2
    exact (pi_list (tg := tg) ha).run pins s σ H R I ⟨π, G, Γ, _, _, E, e1, fun u G1 H1 S r => by
      obtain ⟨a, rfl, q1⟩ := r
      exact ⟨a, rfl, ⟨_, S.e.sub.seq q1⟩, q _ G1 H1 S (wk_list q1 (reps_ints _))⟩⟩
  · cases e2
theorem si_range1 (hg : Gl X "range") (hm : X.mg "range" = none) (ha : SV X e f) (hs : starEach [e] X.env = (false, eval e X.env) :: starEach [] X.env := by rfl) (hs1 : starEach [e] X.env = [(false, eval e X.env)] := by rfl) : SI X tg (.Call (.Name "range" p) [e] [] pos) (dIt itR1 f) :=
  PI_imp (pi_range1 hg hm (pa_cons ha pa_nil hs) hs1) fun σ H R ⟨π, G, Γ, ps, Γ', E, ef, q⟩ => by
    obtain ⟨x, Γ1, e1, f1⟩ := bnd_some ef
    obtain ⟨e2, z⟩ := opt_some f1
    subst z
    refine ⟨π, G, Γ, x, _, E, e1, fun u G1 H1 S r => ?_⟩
    unfold itR1 at e2
    split at e2
    · split at e2
      · rename_i j hb
        have hb := of_hide hb
        cases e2
        cases (show u = _ from r)
        exact ⟨j, rfl, hb.1, hb.2, q _ G1 H1 S wk_range⟩
      · cases e2
    · cases e2
theorem si_range2 (hg : Gl X "range") (hm : X.mg "range" = none) (ha : SV X e f) (hb : SV X e2 h) (ha1 : starEach [e, e2] X.env = (false, eval e X.env) :: starEach [e2] X.env := by rfl) (hb1 : starEach [e2] X.env = (false, eval e2 X.env) :: starEach [] X.env := by rfl)
    (hs : starEach [e, e2] X.env = [(false, eval e X.env), (false, eval e2 X.env)] := by rfl) (hs2 : starEach [e2] X.env = [(false, eval e2 X.env)] := by rfl) : SI X tg (.Call (.Name "range" p) [e, e2] [] pos) (dIt2 itR2 f h) :=
  PI_imp (pi_range2 hg hm (pa_cons ha (pa_cons hb pa_nil hb1) ha1) hs hs2) fun σ H R ⟨π, G, Γ, ps, Γ', E, ef, q⟩ => by
    obtain ⟨x, Γ1, e1, f1⟩ := bnd_some ef
    obtain ⟨y, Γ2, e3, f2⟩ := bnd_some f1
    obtain ⟨e2, z⟩ := opt_some f2
    subst z
    refine ⟨π, G, Γ, x, Γ1, E, e1, fun u G1 H1 S r => ⟨π, G1, Γ1, y, _, S.e, e3, fun u2 G2 H2 S2 r2 => ?_⟩⟩
    unfold itR2 at e2
    split at e2
    · split at e2
      · rename_i i j hb
        have hb : ((-(2 ^ 62) ≤ i ∧ i < 2 ^ 62) ∧ (-(2 ^ 62) ≤ j ∧ j < 2 ^ 62)) := ⟨rgOk_of hb.1, rgOk_of hb.2⟩
        have hb := and_assoc.mp hb
        cases e2
        cases (show u = _ from r)
        cases (show u2 = _ from r2)
        exact ⟨i, j, rfl, hb, q _ G2 H2 (S.trans S2) wk_range⟩
      · cases e2
    · cases e2
theorem si_zip (hg : Gl X "zip") (hm : X.mg "zip" = none) (ha : SV X e f) (hb : SV X e2 h) (ha1 : starEach [e, e2] X.env = (false, eval e X.env) :: starEach [e2] X.env := by rfl) (hb1 : starEach [e2] X.env = (false, eval e2 X.env) :: starEach [] X.env := by rfl)
    (hpl : (backTo pos (starEach [e2] X.env)).any (·.1) = false := by rfl) : SI X (.Tuple elts kk tpos) (.Call (.Name "zip" p) [e, e2] [] pos) (dIt2 itZ f h) :=
  PI_imp (RZ.pi_zipA hg hm (pa_cons ha (pa_cons hb pa_nil hb1) ha1) ha1 hpl) fun σ H R ⟨π, G, Γ, ps, Γ', E, ef, q⟩ => by
    obtain ⟨x, Γ1, e1, f1⟩ := bnd_some ef
    obtain ⟨y, Γ2, e3, f2⟩ := bnd_some f1
    obtain ⟨e2, z⟩ := opt_some f2
    subst z
    refine ⟨π, G, Γ, x, Γ1, E, e1, fun u G1 H1 S r => ⟨π, G1, Γ1, y, _, S.e, e3, fun u2 G2 H2 S2 r2 => ?_⟩⟩
    have r := r.mono S2.g.g
    unfold itZ at e2
    split at e2
    · cases e2
      obtain ⟨a, vs, rfl, q1, q2⟩ := r
      obtain ⟨b, us, rfl, p1, p2⟩ := r2
      exact ⟨a, b, vs, us, rfl, .inr ⟨Same.seqT S2.e.sub q1, Same.seqT S2.e.sub p1, q _ G2 H2 (S.trans S2) (wk_zipT q1 p1 q2 p2)⟩⟩
    · cases e2
      obtain ⟨a, vs, rfl, q1, q2⟩ := r
      obtain ⟨b, us, rfl, p1, p2⟩ := r2
      exact ⟨a, b, vs, us, rfl, .inl ⟨SqL.of (S2.e.sub _ _ q1), SqL.of (S2.e.sub _ _ p1), q _ G2 H2 (S.trans S2) (wk_zipL (SqL.of q1) (SqL.of p1) q2 p2)⟩⟩
    · cases e2
theorem si_enum (hg : Gl X "enumerate") (hm : X.mg "enumerate" = none) (ha : SV X e f) (hs : starEach [e] X.env = (false, eval e X.env) :: starEach [] X.env := by rfl) (hs1 : starEach [e] X.env = [(false, eval e X.env)] := by rfl) :
    SI X (.Tuple elts kk tpos) (.Call (.Name "enumerate" p) [e] [] pos) (dIt itE f) := by
  refine ⟨fun pins s σ H R I t => ?_⟩
  obtain ⟨π, G, Γ, ps, Γ', E, ef, q⟩ := t
  obtain ⟨x, Γ1, e1, f1⟩ := bnd_some ef
  obtain ⟨e2, z⟩ := opt_some f1
  subst z
  unfold itE at e2
  split at e2
  · cases e2
    -- a tuple
    refine Call_ (ld_blt I hg hm PyProof.Rows.boot_enumerate (PyProof.Rows.callWith_type1 (thn ((pa_cons ha pa_nil hs).run pos pins s σ H (fun vs H1 => ∃ a us, vs = [.ref a] ∧ SqT X.K H1 a us ∧ R (ItE X.K a) H1) I
      ⟨π, G, Γ, _, _, E, e1, fun u G1 H1 S r => by
        obtain ⟨a, vs, rfl, q1, q2⟩ := r
        exact ⟨a, vs, rfl, Same.seqT S.e.sub q1, q _ G1 H1 S (wk_enumT q1 q2)⟩⟩) fun us s1 ⟨vs, H1, I1, r1, q1⟩ => ?_) hs1 rfl))
    obtain ⟨a, xs, rfl, hq, hR⟩ := q1
    cases r1 with
    | cons r rr =>
      cases rr
      cases r
      obtain ⟨its, rv, p', hz⟩ := I1.tuple hq
      have la : a < s1.heap.objs.size := by
        obtain ⟨o, ho, _⟩ := id p'
        exact Heap.lt_size ho
      refine enumT_call (begins_tuple a its.toArray) (show s1.heap.IsTuple a its.toArray from p') fun h' he hit hk => wpAny_pyIter_enum he ?_
      have I2 : Inv X pins σ H1 { s1 with heap := h' } := I1.kept (t' := s1.toks) hk
      refine ⟨s1.heap.objs.size + 1, [s1.heap.objs.size + 1, s1.heap.objs.size], _, _, H1, rfl, I2, turn_enumT a (s1.heap.objs.size + 1) s1.heap.objs.size (Nat.succ_ne_self _) (Nat.ne_of_gt (Nat.lt_succ_of_lt la)) (Nat.ne_of_lt la), ⟨⟨.none, he⟩, ⟨_, hit, rfl, rfl⟩⟩, fun b hb => ?_, hR⟩
      have hle : s1.heap.objs.size ≤ b := by
        rcases List.mem_cons.mp hb with z | z
        · rw [z]
          exact Nat.le_add_right _ _
        · rw [List.mem_singleton.mp z]
          exact Nat.le_refl _
      exact I1.fpOk hle (I1.hok.fresh hle)
  · cases e2
    exact (pi_enum (elts := elts) (kk := kk) (tpos := tpos) hg hm (pa_cons ha pa_nil hs) hs1).run pins s σ H R I ⟨π, G, Γ, _, _, E, e1, fun u G1 H1 S r => by
      obtain ⟨a, vs, rfl, q1, q2⟩ := r
      exact ⟨a, vs, rfl, SqL.of (S.e.sub _ _ q1), q _ G1 H1 S (wk_enumL (SqL.of q1) q2)⟩⟩
  · cases e2
end
/-! ### blocks -/
inductive Out where
  | nx (Γ : Ev) | rt (r : Rs) (Γ : Ev) | bk (Γ : Ev) | ct (Γ : Ev)
abbrev DS := Ev → Option Out
/-- where the returned object comes from -/
def Okr (Γ : Ev) (σ : St) (H : Hp) (a : Addr) : Prop := H a = none ∨ ∃ i, At Γ σ i .own a
def Fin (K : PySem.W.Frag) (π : Nat → Addr) (σ : St) (G H : Hp) (Γ : Ev) (D : Ends) : Out → Prop
  | .nx Γ' => ∀ σ' G' H', Sts K π σ G H Γ σ' G' H' Γ' → D.nx σ' H'
  | .bk Γ' => ∀ σ' G' H', Sts K π σ G H Γ σ' G' H' Γ' → D.bk σ' H'
  | .ct Γ' => ∀ σ' G' H', Sts K π σ G H Γ σ' G' H' Γ' → D.ct σ' H'
  | .rt r Γ' => ∀ x σ' G' H', Sts K π σ G H Γ σ' G' H' Γ' → RR K G' H' (fun a => Okr Γ σ H a) x r → D.rt x H'
def tS (K : PySem.W.Frag) (d : DS) : TS := fun D σ H => ∃ π G Γ o, ER K π G σ H Γ ∧ d Γ = some o ∧ Fin K π σ G H Γ D o
abbrev SS (X : Cx) (st : Stmt) (d : DS) : Prop := PS X st (tS X.K d)
abbrev SSs (X : Cx) (sts : List Stmt) (d : DS) : Prop := PSs X sts (tS X.K d)
@[simp] def dSeq (d e : DS) (Γ : Ev) : Option Out := match d Γ with
  | some (.nx Γ1) => e Γ1
  | o => o
@[simp] def dSkip (Γ : Ev) : Option Out := some (.nx Γ)
theorem Okr_back {K : PySem.W.Frag} {π : Nat → Addr} {σ σ1 : St} {G H G1 H1 : Hp} {Γ Γ1 : Ev} (S : Sts K π σ G H Γ σ1 G1 H1 Γ1) {a : Addr} (h : Okr Γ1 σ1 H1 a) : Okr Γ σ H a := by
  rcases h with h | ⟨i, h⟩
  · exact .inl (S.g.nothing h)
  · rcases S.f i .own a h with h | ⟨_, h⟩
    · exact .inr ⟨i, h⟩
    · exact .inl h
/-- what follows a step -/
theorem Fin.back {K : PySem.W.Frag} {π : Nat → Addr} {σ σ1 : St} {G H G1 H1 : Hp} {Γ Γ1 : Ev} {D : Ends} {o : Out} (S : Sts K π σ G H Γ σ1 G1 H1 Γ1) (h : Fin K π σ G H Γ D o) : Fin K π σ1 G1 H1 Γ1 D o := by
  cases o with
  | nx Γ' => exact fun σ' G' H' T => h σ' G' H' (S.trans T)
  | bk Γ' => exact fun σ' G' H' T => h σ' G' H' (S.trans T)
  | ct Γ' => exact fun σ' G' H' T => h σ' G' H' (S.trans T)
  | rt r Γ' => exact fun x σ' G' H' T q => h x σ' G' H' (S.trans T) (RR_mono q fun a z => Okr_back S z)
section
variable {X : Cx} {pos p : Pos} {st : Stmt} {rest : List Stmt} {a b c e : Expr} {es : List Expr} {f h k : D PV} {l : D (List PV)} {fr : D Rs} {tf : D Bool} {d d' : DS}
theorem ss_nil : SSs X [] dSkip := pss_nil.imp fun D σ H ⟨π, G, Γ, o, E, ef, q⟩ => by
  cases ef
  exact q σ G H (.refl E)
theorem t_seq {K : PySem.W.Frag} {D : Ends} {σ : St} {H : Hp} (t : tS K (dSeq d d') D σ H) : tSeq (tS K d) (tS K d') D σ H := by
  obtain ⟨π, G, Γ, o, E, ef, q⟩ := t
  unfold dSeq at ef
  cases e1 : d Γ with
  | none => rw [e1] at ef; cases ef
  | some o1 =>
    rw [e1] at ef
    cases o1 with
    | nx Γ1 => exact ⟨π, G, Γ, _, E, e1, fun σ1 G1 H1 S => ⟨π, G1, Γ1, o, S.e, ef, q.back S⟩⟩
    | rt r Γ1 =>
      cases ef
      exact ⟨π, G, Γ, _, E, e1, q⟩
    | bk Γ1 =>
      cases ef
      exact ⟨π, G, Γ, _, E, e1, q⟩
    | ct Γ1 =>
      cases ef
      exact ⟨π, G, Γ, _, E, e1, q⟩
theorem ss_cons (h1 : SS X st d) (h2 : SSs X rest d') : SSs X (st :: rest) (dSeq d d') := (pss_cons h1 h2).imp fun _ _ _ t => t_seq t
theorem ss_one (h1 : SS X st d) : SSs X [st] d := pss_one h1
theorem ss_pass : SS X (.Pass pos) dSkip := ps_pass.imp fun D σ H ⟨π, G, Γ, o, E, ef, q⟩ => by
  cases ef
  exact q σ G H (.refl E)
@[simp] def dBk (Γ : Ev) : Option Out := some (.bk Γ)
@[simp] def dCt (Γ : Ev) : Option Out := some (.ct Γ)
theorem ss_break : SS X (.Break pos) dBk := ps_break.imp fun D σ H ⟨π, G, Γ, o, E, ef, q⟩ => by
  cases ef
  exact q σ G H (.refl E)
theorem ss_cont : SS X (.Continue pos) dCt := ps_continue.imp fun D σ H ⟨π, G, Γ, o, E, ef, q⟩ => by
  cases ef
  exact q σ G H (.refl E)
/-- an expression alone -/
@[simp] def dEx (f : D PV) (Γ : Ev) : Option Out := match f Γ with
  | some (_, Γ1) => some (.nx Γ1)
  | none => none
theorem ss_expr (he : SV X e f) (hs : swapsWith e none pos.line X.env = pure false := by rfl) : SS X (.Expr e pos) (dEx f) := (ps_expr he hs).imp fun D σ H ⟨π, G, Γ, o, E, ef, q⟩ => by
  unfold dEx at ef
  cases e1 : f Γ with
  | none => rw [e1] at ef; cases ef
  | some z =>
    rw [e1] at ef
    cases ef
    exact ⟨π, G, Γ, z.1, z.2, E, e1, fun x G1 H1 S r => q σ G1 H1 S.sts⟩
/-- return -/
@[simp] def dRt (f : D Rs) (Γ : Ev) : Option Out := match f Γ with
  | some (r, Γ1) => some (.rt r Γ1)
  | none => none
theorem ss_ret (he : SR X e fr) : SS X (.Return (some e) pos) (dRt fr) := (ps_ret he).imp fun D σ H ⟨π, G, Γ, o, E, ef, q⟩ => by
  unfold dRt at ef
  cases e1 : fr Γ with
  | none => rw [e1] at ef; cases ef
  | some z =>
    rw [e1] at ef
    cases ef
    exact ⟨π, G, Γ, z.1, z.2, E, e1, fun x G1 H1 S r => q x σ G1 H1 S.sts (RR_mono r fun a n => .inl n)⟩
theorem ss_retN : SS X (.Return none pos) (dRt (vl dNon)) := ps_retN.imp fun D σ H ⟨π, G, Γ, o, E, ef, q⟩ => by
  cases ef
  exact q .non σ G H (.refl E) rfl
/-- return of an own object -/
@[simp] def dRtN (i : Nat) (Γ : Ev) : Option Out := match Γ[i]? with
  | some (.val p) => some (.rt (.val p) Γ)
  | some (.mu .own p) => some (.rt (.new p) (Γ.set i .un))
  | _ => none
theorem ss_retNm (i : Nat) {x : Str} {pos' : Pos} (hN : X.N[i]? = some x := by rfl) (hv : Vis X.env.scope x := by first | exact Or.inl rfl | exact Or.inr (Or.inl rfl) | exact Or.inr (Or.inr rfl)) (hd : (x == ("__debug__" : Str)) = false := by decide)
    (hcd : (x == ("__classdict__" : Str)) = false := by decide) : SS X (.Return (some (.Name x pos')) pos) (dRtN i) := (ps_ret (pe_var hN hv hd hcd)).imp fun D σ H ⟨π, G, Γ, o, E, ef, q⟩ => by
  unfold dRtN at ef
  split at ef
  · rename_i p ep
    cases ef
    obtain ⟨v, h1, h2⟩ := E.val i _ ep
    exact ⟨v, h1, q v σ G H (.refl E) h2⟩
  · rename_i p ep
    cases ef
    obtain ⟨a, h1, h2, h3, h4⟩ := E.mu i _ _ ep
    have at' : ∀ j k b, At (Γ.set i .un) σ j k b → At Γ σ j k b := fun j k b ⟨q, e1, e2⟩ => by
      rcases set_get e1 with ⟨rfl, z⟩ | ⟨n, z⟩
      · cases z
      · exact ⟨q, z, e2⟩
    refine ⟨.ref a, h1, q _ σ G H ⟨⟨E.sub, by rw [List.length_set]; exact E.len, fun j q e => ?_, fun j k q e => ?_, fun j l k k' b z1 z2 => E.inj j l k k' b (at' j k b z1) (at' l k' b z2)⟩, .refl, fun j k b z => .inl (at' j k b z)⟩ ⟨a, rfl, .inr ⟨i, p, ep, h1⟩, h2, h3⟩⟩
    · rcases set_get e with ⟨rfl, z⟩ | ⟨n, z⟩
      · cases z
      · exact E.val j q z
    · rcases set_get e with ⟨rfl, z⟩ | ⟨n, z⟩
      · cases z
      · exact E.mu j k q z
  · cases ef
/-- if -/
@[simp] def dIfS (c : D Bool) (d d' : DS) (Γ : Ev) : Option Out := match c Γ with
  | some (b, Γ1) => if b = true then d Γ1 else d' Γ1
  | none => none
theorem ss_if {A B : List Stmt} (hc : SB X c tf) (ha : SSs X A d) (hb : SSs X B d') : SS X (.If c A B pos) (dIfS tf d d') := (ps_if hc ha hb).imp fun D σ H ⟨π, G, Γ, o, E, ef, q⟩ => by
  unfold dIfS at ef
  cases e1 : tf Γ with
  | none => rw [e1] at ef; cases ef
  | some z =>
    obtain ⟨b, Γ1⟩ := z
    rw [e1] at ef
    dsimp only at ef
    refine ⟨π, G, Γ, b, Γ1, E, e1, fun G1 H1 S => ?_⟩
    cases b with
    | true =>
      rw [if_pos rfl] at ef
      exact iteT ⟨π, G1, Γ1, o, S.e, ef, q.back S.sts⟩
    | false =>
      rw [if_neg Bool.false_ne_true] at ef
      exact iteF ⟨π, G1, Γ1, o, S.e, ef, q.back S.sts⟩
/-- name = e -/
@[simp] def dSet (i : Nat) (f : D Rs) (Γ : Ev) : Option Out := match f Γ with
  | some (.val p, Γ1) => some (.nx (Γ1.set i (.val p)))
  | some (.new p, Γ1) => some (.nx (Γ1.set i (.mu .own p)))
  | none => none
theorem t_set {K : PySem.W.Frag} {i : Nat} {D : Ends} {σ : St} {H : Hp} (t : tS K (dSet i fr) D σ H) : tAsg (tR K fr) (gName i) D σ H := by
  obtain ⟨π, G, Γ, o, E, ef, q⟩ := t
  unfold dSet at ef
  cases e1 : fr Γ with
  | none => rw [e1] at ef; cases ef
  | some z =>
    obtain ⟨r, Γ1⟩ := z
    rw [e1] at ef
    refine ⟨π, G, Γ, r, Γ1, E, e1, fun x G1 H1 S rr => ?_⟩
    cases r with
    | val p =>
      cases ef
      exact q _ G1 H1 (S.sts.trans (sts_val S.e i rr))
    | new p =>
      cases ef
      obtain ⟨a, rfl, hn, gn, ob⟩ := rr
      have hna : ∀ j k, ¬ At Γ1 σ j k a := fun j k z => by
        obtain ⟨_, o, e⟩ := E.foot (S.f j k a z)
        rw [hn] at e
        cases e
      obtain ⟨E2, at'⟩ := sts_new S.e i gn ob hna
      refine q _ G1 H1 ⟨E2, S.g, fun j k b z => ?_⟩
      rcases at' j k b z with ⟨z, _⟩ | ⟨_, z2, z3⟩
      · exact .inl (S.f j k b z)
      · subst z3
        exact .inr ⟨z2, hn⟩
theorem ss_set (i : Nat) {x : Str} {pos' : Pos} (hN : X.N.Nodup) (he : SR X e fr) (hi : X.N[i]? = some x := by rfl) (hx : Loc X.env.scope x := by first | exact Or.inl rfl | exact Or.inr rfl) (hs : swapsWith e (some (.Name x pos')) pos.line X.env = pure false := by rfl)
    (hf : X.fn x = true ∨ X.env.scope.names.lookup x = some .local := by first | exact .inl rfl | exact .inr rfl | assumption) : SS X (.Assign [.Name x pos'] e pos) (dSet i fr) := (ps_set hN hi hx he hs hf).imp fun _ _ _ t => t_set t
/-- targets = a value -/
@[simp] def dAsg (f : D PV) (g : PV → Ev → Option Ev) (Γ : Ev) : Option Out := match f Γ with
  | some (p, Γ1) => (g p Γ1).map Out.nx
  | none => none
theorem ss_asg {tg : Expr} {g : PV → Ev → Option Ev} {ws : List Nat} (he : SV X e f) (hg : SG X tg ws g) (hs : swapsWithSole [tg] e pos.line X.env = pure false := by rfl) (hw : swappedStores [tg] e X.env = pure none := by rfl)
    (h1 : (assignEach [tg] X.env).map (·.2) = [assign tg X.env] := by rfl) : SS X (.Assign [tg] e pos) (dAsg f g) := (ps_asg he hg hs hw h1).imp fun D σ H ⟨π, G, Γ, o, E, ef, q⟩ => by
  unfold dAsg at ef
  cases e1 : f Γ with
  | none => rw [e1] at ef; cases ef
  | some z =>
    rw [e1] at ef
    obtain ⟨Γ2, e2, rfl⟩ := Option.map_eq_some_iff.mp ef
    exact ⟨π, G, Γ, z.1, z.2, E, e1, fun x G1 H1 S r => ⟨π, G1, z.2, z.1, Γ2, S.e, r, e2, fun σ' T _ => q σ' G1 H1 (S.sts.trans T)⟩⟩
/-- xs[i] = e, xs a name -/
def gSetL (c : List PV) (i v : PV) : Option (List PV) := match i with
  | .int k => (ixN c.length k).map fun j => c.set j v
  | _ => none
@[simp] def dSub (n : Nat) (f h : D PV) (Γ : Ev) : Option Out := match f Γ with
  | some (v, Γ1) => match lstAt n Γ1 with
    | some _ => match h Γ1 with
      | some (i, Γ2) => match lstAt n Γ2 with
        | some (k, c) => (gSetL c i v).map fun c' => Out.nx (Γ2.set n (.mu k (.lst c')))
        | none => none
      | none => none
    | none => none
  | none => none
theorem ss_sub (n : Nat) {x : Str} {pos' pos2 : Pos} {i : Expr} (he : SV X e f) (hi : SV X i h) (hN : X.N[n]? = some x := by rfl) (hv : Vis X.env.scope x := by first | exact Or.inl rfl | exact Or.inr (Or.inl rfl) | exact Or.inr (Or.inr rfl)) (hd : (x == ("__debug__" : Str)) = false := by decide)
    (hcd : (x == ("__classdict__" : Str)) = false := by decide) (ha : ∀ v, assign (.Subscript (.Name x pos') i pos2) X.env v = (do
      let ov ← holding [v] (eval (.Name x pos') X.env)
      let iv ← holding [v, ov] (eval i X.env)
      standAt pos2
      holding [v, ov, iv] (setItem ov iv v)
      release [v, ov, iv] []) := by intro _; rfl)
    (hs : swapsWithSole [.Subscript (.Name x pos') i pos2] e pos.line X.env = pure false := by rfl) (hw : swappedStores [.Subscript (.Name x pos') i pos2] e X.env = pure none := by rfl)
    (h1 : (assignEach [.Subscript (.Name x pos') i pos2] X.env).map (·.2) = [assign (.Subscript (.Name x pos') i pos2) X.env] := by rfl) : SS X (.Assign [.Subscript (.Name x pos') i pos2] e pos) (dSub n f h) := (ps_asg he (pg_sub (pe_var hN hv hd hcd) hi set_list ha) hs hw h1).imp fun D σ H ⟨π, G, Γ, o, E, ef, q⟩ => by
  unfold dSub at ef
  cases e1 : f Γ with
  | none => rw [e1] at ef; cases ef
  | some z =>
    obtain ⟨v, Γ1⟩ := z
    rw [e1] at ef
    dsimp only at ef
    cases e2 : lstAt n Γ1 with
    | none => rw [e2] at ef; cases ef
    | some kc =>
      rw [e2] at ef
      dsimp only at ef
      cases e3 : h Γ1 with
      | none => rw [e3] at ef; cases ef
      | some z2 =>
        obtain ⟨iv, Γ2⟩ := z2
        rw [e3] at ef
        dsimp only at ef
        cases e4 : lstAt n Γ2 with
        | none => rw [e4] at ef; cases ef
        | some kc2 =>
          obtain ⟨k2, c2⟩ := kc2
          obtain ⟨k1, c1⟩ := kc
          rw [e4] at ef
          dsimp only at ef
          obtain ⟨c', e5, rfl⟩ := Option.map_eq_some_iff.mp ef
          obtain ⟨s1, n1⟩ := lstAt_some e2
          obtain ⟨s2, n2⟩ := lstAt_some e4
          refine ⟨π, G, Γ, v, Γ1, E, e1, fun u G1 H1 S r => ?_⟩
          obtain ⟨b, q1, q2, ⟨us, q3, q3'⟩, q4⟩ := S.e.mu n _ _ s1
          refine ⟨_, q1, π, G1, Γ1, iv, Γ2, S.e, e3, fun w G2 H2 S2 r2 => ?_⟩
          obtain ⟨b', p1, p2, ⟨us2, p3, p3'⟩, p4⟩ := S2.e.mu n _ _ s2
          rw [q1] at p1
          cases p1
          unfold gSetL at e5
          split at e5
          · rename_i kk
            obtain ⟨j, e6, rfl⟩ := Option.map_eq_some_iff.mp e5
            obtain ⟨gw, sw⟩ := gr_write (o := .lst (us2.set j u)) S2.e.sub p2 ⟨_, p3⟩
            refine ⟨b, us2, kk, j, rfl, r2, p3, by rw [p3'.length]; exact e6, ?_⟩
            exact q σ G2 _ ((S.trans S2).trans (slot_put (p' := .lst (c2.set j v)) S2.e s2 n2 q1 gw sw p2 ⟨_, upd_same, p3'.set j (r.mono S2.g.g)⟩)).sts
          · cases e5
/-- name op= e -/
@[simp] def dAug (i : Nat) (g : PV → PV → Option PV) (f : D PV) (Γ : Ev) : Option Out := match Γ[i]? with
  | some (.val x) => match f Γ with
    | some (y, Γ1) => (g x y).map fun z => Out.nx (Γ1.set i (.val z))
    | none => none
  | _ => none
theorem ss_aug (i : Nat) {x : Str} {pos' : Pos} {op : Operator} {r : R2} {g : PV → PV → Option PV} (hN : X.N.Nodup) (ho : OpR X (inplaceOp op) r) (hg : OpV X.K r g) (he : SV X e f) (hi : X.N[i]? = some x := by rfl) (hx : Loc X.env.scope x := by first | exact Or.inl rfl | exact Or.inr rfl)
    (hf : X.fn x = true ∨ X.env.scope.names.lookup x = some .local := by first | exact .inl rfl | exact .inr rfl | assumption) : SS X (.AugAssign (.Name x pos') op e pos) (dAug i g f) := (ps_aug (ti := r) hN hi hx he (fun pins s σ H x y v u Q I r1 r2 h => ho pins s σ H x y v u Q I r1 r2 h) hf).imp fun D σ H ⟨π, G, Γ, o, E, ef, q⟩ => by
  unfold dAug at ef
  split at ef
  · rename_i x0 ex
    obtain ⟨v, h1, h2⟩ := E.val i _ ex
    cases e1 : f Γ with
    | none => rw [e1] at ef; cases ef
    | some z =>
      obtain ⟨y, Γ1⟩ := z
      rw [e1] at ef
      obtain ⟨z, e2, rfl⟩ := Option.map_eq_some_iff.mp ef
      refine ⟨v, h1, π, G, Γ, y, Γ1, E, e1, fun u G1 H1 S r => hg v u x0 y z G1 H1 _ S.e.sub (h2.mono S.g.g) r e2 fun w G2 H2 g2 s2 r2 => ?_⟩
      have S2 := S.trans (.grow S.e g2 s2)
      exact q _ G2 H2 (S2.sts.trans (sts_val S2.e i r2))
  · cases ef
theorem ss_augAdd (i : Nat) {x : Str} {pos' : Pos} (hN : X.N.Nodup) (he : SV X e f) (hi : X.N[i]? = some x := by rfl) (hx : Loc X.env.scope x := by first | exact Or.inl rfl | exact Or.inr rfl)
    (hf : X.fn x = true ∨ X.env.scope.names.lookup x = some .local := by first | exact .inl rfl | exact .inr rfl | assumption) : SS X (.AugAssign (.Name x pos') .Add e pos) (dAug i (gI fun i j => some (.int (i + j))) f) := ss_aug i hN iop_add (ov_int0 fun _ _ _ e => some_rep e) he hi hx hf
theorem ss_augSub (i : Nat) {x : Str} {pos' : Pos} (hN : X.N.Nodup) (he : SV X e f) (hi : X.N[i]? = some x := by rfl) (hx : Loc X.env.scope x := by first | exact Or.inl rfl | exact Or.inr rfl)
    (hf : X.fn x = true ∨ X.env.scope.names.lookup x = some .local := by first | exact .inl rfl | exact .inr rfl | assumption) : SS X (.AugAssign (.Name x pos') .Sub e pos) (dAug i gSub f) := ss_aug i hN iop_sub ov_sub he hi hx hf
/-! ### loops -/
def loopD (step : PV → DS) : List PV → DS
  | [], Γ => some (.nx Γ)
  | x :: xs, Γ => match step x Γ with
    | some (.nx Γ1) => loopD step xs Γ1
    | some (.ct Γ1) => loopD step xs Γ1
    | some (.bk Γ1) => some (.nx Γ1)
    | some (.rt r Γ1) => some (.rt r Γ1)
    | none => none
@[simp] def dTurn (g : PV → Ev → Option Ev) (d : DS) (x : PV) (Γ : Ev) : Option Out := match g x Γ with
  | some Γ1 => d Γ1
  | none => none
@[simp] def dFor (it : D (List PV)) (g : PV → Ev → Option Ev) (d : DS) (Γ : Ev) : Option Out := match it Γ with
  | some (xs, Γ1) => loopD (dTurn g d) xs Γ1
  | none => none
theorem ss_for {tg iter : Expr} {body : List Stmt} {it : D (List PV)} {g : PV → Ev → Option Ev} {ws : List Nat} (hp : PassesOwn (model X.prog X.w) X.A X.env X.xe) (hc : X.calm = true) (hi : SI X tg iter it) (hg : SG X tg ws g) (hb : SSs X body d)
    (hs : ∀ x, foldedSetIterable iter X.env x = pure x := by intro _; rfl) : SS X (.For tg iter body [] pos) (dFor it g d) := (ps_for hp hc hi hg hb hs).imp fun D σ H ⟨π, G, Γ, o, E, ef, q⟩ => by
  unfold dFor at ef
  cases e1 : it Γ with
  | none => rw [e1] at ef; cases ef
  | some z =>
    obtain ⟨xs, Γ1⟩ := z
    rw [e1] at ef
    refine ⟨π, G, Γ, xs, Γ1, E, e1, fun J G1 H1 S wk => ?_⟩
    refine ⟨fun i m σ2 H2 => m = xs.length - i ∧ i ≤ xs.length ∧ ∃ G2 Γ2, Sts X.K π σ G H Γ σ2 G2 H2 Γ2 ∧ Same G1 G2 ∧ loopD (dTurn g d) (xs.drop i) Γ2 = some o, ⟨xs.length, rfl, Nat.zero_le _, G1, Γ1, S.sts, Same.refl _, ef⟩, ?_⟩
    rintro i m σ2 H2 ⟨rfl, hi, G2, Γ2, S2, sm, el⟩
    by_cases hlt : i < xs.length
    · refine .inr ⟨wk.go i H2 hlt (sm.trans S2.e.sub) trivial, ?_⟩
      have hd : xs.drop i = xs[i] :: xs.drop (i + 1) := List.drop_eq_getElem_cons hlt
      rw [hd] at el
      -- what the turn's denotation gives
      unfold loopD at el
      refine ⟨fun σ3 H3 => ∃ G3 Γ3, Sts X.K π σ G H Γ σ3 G3 H3 Γ3 ∧ Same G1 G3 ∧ loopD (dTurn g d) (xs.drop (i + 1)) Γ3 = some o, fun σ3 H3 ⟨G3, Γ3, S3, sm3, el3⟩ => ⟨xs.length - (i + 1), by omega, rfl, hlt, G3, Γ3, S3, sm3, el3⟩, fun x H3 hy => ?_⟩
      obtain ⟨G3, g3, s3, r3⟩ := wk.yld i H2 x H3 xs[i] (List.getElem?_eq_getElem hlt) (sm.trans S2.e.sub) trivial hy G2 sm S2.e.sub
      have S3 := S2.trans (Ste.grow S2.e g3 s3).sts
      unfold dTurn at el
      cases eg : g xs[i] Γ2 with
      | none =>
        rw [eg] at el
        cases el
      | some Γ4 =>
        rw [eg] at el
        refine ⟨π, G3, Γ2, xs[i], Γ4, S3.e, r3, eg, fun σ4 T4 _ => ?_⟩
        have S4 := S3.trans T4
        cases ed : d Γ4 with
        | none =>
          simp only [ed] at el
          cases el
        | some od =>
          simp only [ed] at el
          refine ⟨π, G3, Γ4, od, S4.e, ed, ?_⟩
          have sm4 : Same G1 G3 := sm.trans g3.g
          cases od with
          | nx Γ5 => exact fun σ5 G5 H5 S5 => ⟨G5, Γ5, S4.trans S5, sm4.trans S5.g.g, el⟩
          | ct Γ5 => exact fun σ5 G5 H5 S5 => ⟨G5, Γ5, S4.trans S5, sm4.trans S5.g.g, el⟩
          | bk Γ5 =>
            cases el
            exact fun σ5 G5 H5 S5 => q σ5 G5 H5 (S4.trans S5)
          | rt r Γ5 =>
            cases el
            exact fun x σ5 G5 H5 S5 rr => q x σ5 G5 H5 (S4.trans S5) (RR_mono rr fun a z => Okr_back S4 z)
    · have e : i = xs.length := by omega
      subst e
      refine .inl ⟨wk.stop H2 (sm.trans S2.e.sub) trivial, ?_⟩
      rw [List.drop_length] at el
      cases el
      exact q σ2 G2 H2 S2
/-- while, with so many turns at most -/
def whileD (c : D Bool) (d : DS) : Nat → DS
  | 0, _ => none
  | n + 1, Γ => match c Γ with
    | some (b, Γ1) => if b = true then match d Γ1 with
      | some (.nx Γ2) => whileD c d n Γ2
      | some (.ct Γ2) => whileD c d n Γ2
      | some (.bk Γ2) => some (.nx Γ2)
      | some (.rt r Γ2) => some (.rt r Γ2)
      | none => none
      else some (.nx Γ1)
    | none => none
theorem ss_while (n : Nat) {body : List Stmt} (hp : PassesOwn (model X.prog X.w) X.A X.env X.xe) (hc : SB X c tf) (hb : SSs X body d) : SS X (.While c body [] pos) (whileD tf d n) := (ps_while hp hc hb).imp fun D σ H ⟨π, G, Γ, o, E, ef, q⟩ => by
  refine ⟨fun m σ2 H2 => ∃ G2 Γ2, Sts X.K π σ G H Γ σ2 G2 H2 Γ2 ∧ whileD tf d m Γ2 = some o, ⟨n, G, Γ, .refl E, ef⟩, ?_⟩
  rintro m σ2 H2 ⟨G2, Γ2, S2, el⟩
  cases m with
  | zero => cases el
  | succ m =>
    unfold whileD at el
    cases ec : tf Γ2 with
    | none =>
      rw [ec] at el
      cases el
    | some z =>
      obtain ⟨b, Γ3⟩ := z
      rw [ec] at el
      dsimp only at el
      refine ⟨π, G2, Γ2, b, Γ3, S2.e, ec, fun G3 H3 S3' => ?_⟩
      have S3 := S2.trans S3'.sts
      cases b with
      | false =>
        rw [if_neg Bool.false_ne_true] at el
        cases el
        exact iteF (q σ2 G3 H3 S3)
      | true =>
        rw [if_pos rfl] at el
        refine iteT ⟨fun σ4 H4 => ∃ G4 Γ4, Sts X.K π σ G H Γ σ4 G4 H4 Γ4 ∧ whileD tf d m Γ4 = some o, fun σ4 H4 ⟨G4, Γ4, S4, el4⟩ => ⟨m, Nat.lt_succ_self _, G4, Γ4, S4, el4⟩, ?_⟩
        cases ed : d Γ3 with
        | none =>
          simp only [ed] at el
          cases el
        | some od =>
          simp only [ed] at el
          refine ⟨π, G3, Γ3, od, S3.e, ed, ?_⟩
          cases od with
          | nx Γ5 => exact fun σ5 G5 H5 S5 => ⟨G5, Γ5, S3.trans S5, el⟩
          | ct Γ5 => exact fun σ5 G5 H5 S5 => ⟨G5, Γ5, S3.trans S5, el⟩
          | bk Γ5 =>
            cases el
            exact fun σ5 G5 H5 S5 => q σ5 G5 H5 (S3.trans S5)
          | rt r Γ5 =>
            cases el
            exact fun x σ5 G5 H5 S5 rr => q x σ5 G5 H5 (S3.trans S5) (RR_mono rr fun a z => Okr_back S3 z)
end
/-! ### comprehensions -/
@[simp] def wipeE (Γ : Ev) : List Nat → Ev
  | [] => Γ
  | v :: vs => (wipeE Γ vs).set v .un
/-- the slots of vs as they were -/
@[simp] def back (Γ Γ' : Ev) : List Nat → Ev
  | [] => Γ'
  | v :: vs => (back Γ Γ' vs).set v (Γ.getD v .un)
def compL (vs : List Nat) (g : PV → Ev → Option Ev) (t : D Bool) (e : D PV) : List PV → Ev → Option (List PV × Ev)
  | [], Γ => some ([], Γ)
  | x :: xs, Γ => match g x Γ with
    | some Γ1 => match t Γ1 with
      | some (b, Γ2) => if b = true then match e Γ2 with
        | some (y, Γ3) => match compL vs g t e xs (wipeE Γ3 vs) with
          | some (ys, Γ4) => some (y :: ys, Γ4)
          | none => none
        | none => none
        else compL vs g t e xs (wipeE Γ2 vs)
      | none => none
    | none => none
theorem wipeE_length (Γ : Ev) : ∀ vs, (wipeE Γ vs).length = Γ.length
  | [] => rfl
  | v :: vs => by
    unfold wipeE
    rw [List.length_set, wipeE_length Γ vs]
theorem back_length (Γ Γ' : Ev) : ∀ vs, (back Γ Γ' vs).length = Γ'.length
  | [] => rfl
  | v :: vs => by
    unfold back
    rw [List.length_set, back_length Γ Γ' vs]
theorem wipeE_get {Γ : Ev} {i : Nat} {s : Sl} : ∀ {vs : List Nat}, (wipeE Γ vs)[i]? = some s → s = .un ∨ (Γ[i]? = some s ∧ i ∉ vs)
  | [], h => .inr ⟨h, by simp⟩
  | v :: vs, h => by
    rcases set_get h with ⟨rfl, z⟩ | ⟨n, z⟩
    · exact .inl z.symm
    · rcases wipeE_get z with z | ⟨z1, z2⟩
      · exact .inl z
      · exact .inr ⟨z1, by simp only [List.mem_cons, not_or]; exact ⟨Ne.symm n, z2⟩⟩
theorem back_get {Γ Γ' : Ev} {i : Nat} {s : Sl} : ∀ {vs : List Nat}, (back Γ Γ' vs)[i]? = some s → (i ∈ vs ∧ (s = .un ∨ Γ[i]? = some s)) ∨ (i ∉ vs ∧ Γ'[i]? = some s)
  | [], h => .inr ⟨by simp, h⟩
  | v :: vs, h => by
    rcases set_get h with ⟨rfl, z⟩ | ⟨n, z⟩
    · refine .inl ⟨List.mem_cons_self, ?_⟩
      subst z
      unfold List.getD
      cases e : Γ[v]? with
      | none => exact .inl rfl
      | some x => exact .inr rfl
    · rcases back_get z with ⟨z1, z2⟩ | ⟨z1, z2⟩
      · exact .inl ⟨List.mem_cons_of_mem _ z1, z2⟩
      · exact .inr ⟨by simp only [List.mem_cons, not_or]; exact ⟨Ne.symm n, z1⟩, z2⟩
section
variable {K : PySem.W.Frag} {π : Nat → Addr} {σ : St} {G H G1 H1 : Hp} {Γ Γ1 : Ev}
theorem At.wiped {vs : List Nat} {j : Nat} {k : Kd} {b : Addr} (h : At (wipeE Γ vs) (wipe σ vs) j k b) : At Γ σ j k b ∧ j ∉ vs := by
  obtain ⟨q, e1, e2⟩ := h
  rcases wipeE_get e1 with z | ⟨z, n⟩
  · cases z
  · rw [wipe_out n] at e2
    exact ⟨⟨q, z, e2⟩, n⟩
theorem ER.wiped (E : ER K π G σ H Γ) (vs : List Nat) : ER K π G (wipe σ vs) H (wipeE Γ vs) := by
  refine ⟨E.sub, by rw [wipeE_length, wipe_length]; exact E.len, fun j q e => ?_, fun j k q e => ?_, fun j l k k' b z1 z2 => E.inj j l k k' b (At.wiped z1).1 (At.wiped z2).1⟩
  · rcases wipeE_get e with z | ⟨z, n⟩
    · cases z
    · rw [wipe_out n]
      exact E.val j q z
  · rcases wipeE_get e with z | ⟨z, n⟩
    · cases z
    · rw [wipe_out n]
      exact E.mu j k q z
/-- behind a block: E ahead of it; S within it, from the block's own first slots Γw -/
theorem block_back {vs rs : List Nat} {Γw : Ev} (E : ER K π G σ H Γ) (hr : ∀ v ∈ vs, v ∈ rs) (S : Ste K π (wipe σ vs) G H Γw G1 H1 Γ1)
    (hw : ∀ j k a, At Γw (wipe σ vs) j k a → ∃ k', At Γ σ j k' a ∧ j ∉ vs ∧ (k = k' ∨ j ∈ rs)) (hl : ∀ j k a, At Γ σ j k a → j ∈ rs → ¬ Foot Γw (wipe σ vs) a) (hf : ∀ a, Foot Γw (wipe σ vs) a → Foot Γ σ a) :
    Ste K π σ G H Γ G1 H1 (back Γ Γ1 rs) := by
  have at' : ∀ j k b, At (back Γ Γ1 rs) σ j k b → At Γ σ j k b := fun j k b ⟨q, e1, e2⟩ => by
    rcases back_get e1 with ⟨n, z | z⟩ | ⟨n, z⟩
    · cases z
    · exact ⟨q, z, e2⟩
    · have h1 : At Γ1 (wipe σ vs) j k b := ⟨q, z, by rw [wipe_out fun m => n (hr j m)]; exact e2⟩
      obtain ⟨k', h2, _, h3⟩ := hw j k b (S.f j k b h1)
      rcases h3 with rfl | h3
      · exact h2
      · exact absurd h3 n
  refine ⟨⟨S.e.sub, by rw [back_length, S.e.len, wipe_length], fun j q e => ?_, fun j k q e => ?_, fun j l k k' b z1 z2 => E.inj j l k k' b (at' j k b z1) (at' l k' b z2)⟩, S.g.mono hf, at'⟩
  · rcases back_get e with ⟨n, z | z⟩ | ⟨n, z⟩
    · cases z
    · obtain ⟨v, h1, h2⟩ := E.val j q z
      exact ⟨v, h1, h2.mono S.g.g⟩
    · obtain ⟨v, h1, h2⟩ := S.e.val j q z
      rw [wipe_out fun m => n (hr j m)] at h1
      exact ⟨v, h1, h2⟩
  · rcases back_get e with ⟨n, z | z⟩ | ⟨n, z⟩
    · cases z
    · obtain ⟨a, h1, h2, h3, h4⟩ := E.mu j k q z
      have na := hl j k a ⟨q, z, h1⟩ n
      obtain ⟨o, ho⟩ := h3.there
      exact ⟨a, h1, S.g.f a o ho na h2, h3.mono S.g.g (by rw [S.g.h a o ho na, ho]), h4⟩
    · obtain ⟨a, h1, h2, h3, h4⟩ := S.e.mu j k q z
      rw [wipe_out fun m => n (hr j m)] at h1
      exact ⟨a, h1, h2, h3, h4⟩
/-- the turns of a comprehension -/
theorem comp_turns {J : It} {C : Hp → Prop} {vs ws : List Nat} {g : PV → Ev → Option Ev} {t : D Bool} {e : D PV} {σw : St} {Γw Γ2 : Ev} {ps ys : List PV} {Dd : Addr} {Q : VK} (hσ : σw = wipe σ vs) (hws : ∀ w ∈ ws, w ∈ vs)
    (E : ER K π G σw H Γw) (wk : Wk K J G C ps) (hC : ∀ H' G', Gr (Foot Γw σw) G H G' H' → C H') (hz : ps.length ≤ 1000000) (hD : H Dd = none) (ec : compL vs g t e ps Γw = some (ys, Γ2))
    (q : ∀ G' H' us, Ste K π σw G H Γw G' H' Γ2 → G' Dd = none → H' Dd = some (.lst us) → Reps K G' us ys → Q (.ref Dd) H') :
    ∃ W : Nat → Nat → Hp → Prop, (∃ m, W 0 m (upd H Dd (.lst []))) ∧ ∀ i m H, W i m H →
      (J.stop i H ∧ Q (.ref Dd) H) ∨ (J.go i H ∧ ∃ Nx : Hp → Prop, (∀ H', Nx H' → ∃ m', m' < m ∧ W (i + 1) m' H') ∧ ∀ x H', J.yld i H x H' → tG K ws g x (wipe σ vs) H' fun σ2 H2 => wipe σ2 vs = wipe σ vs ∧ tB K t σ2 H2 fun b H3 =>
        if b = true then tV K e σ2 H3 fun y H4 => ∃ acc, H4 Dd = some (.lst acc) ∧ acc.length < sizeLine ∧ Nx (upd H4 Dd (.lst (acc ++ [y]))) else Nx H3) := by
  subst hσ
  obtain ⟨g0, s0, d0⟩ := gr_made (F := fun _ => False) (o := .lst []) E.sub hD
  refine ⟨fun i m H' => m = ps.length - i ∧ i ≤ ps.length ∧ ∃ G' Γ' acc us zs, Ste K π (wipe σ vs) G H Γw G' H' Γ' ∧ G' Dd = none ∧ H' Dd = some (.lst us) ∧ Reps K G' us acc ∧ acc.length ≤ i ∧ compL vs g t e (ps.drop i) Γ' = some (zs, Γ2) ∧ acc ++ zs = ys,
    ⟨ps.length, rfl, Nat.zero_le _, G, Γw, [], [], ys, .grow E g0 s0, d0, upd_same, .nil, Nat.le_refl _, ec, rfl⟩, ?_⟩
  rintro i m H' ⟨rfl, hi, G', Γ', acc, us, zs, S, gd, hd, hr, hacc, el, ea⟩
  have cH := hC H' G' S.g
  by_cases hlt : i < ps.length
  · refine .inr ⟨wk.go i H' hlt (S.g.g.trans S.e.sub) cH, ?_⟩
    rw [List.drop_eq_getElem_cons hlt] at el
    unfold compL at el
    refine ⟨fun H3 => ∃ G3 Γ3 acc3 us3 zs3, Ste K π (wipe σ vs) G H Γw G3 H3 Γ3 ∧ G3 Dd = none ∧ H3 Dd = some (.lst us3) ∧ Reps K G3 us3 acc3 ∧ acc3.length ≤ i + 1 ∧ compL vs g t e (ps.drop (i + 1)) Γ3 = some (zs3, Γ2) ∧ acc3 ++ zs3 = ys,
      fun H3 ⟨G3, Γ3, acc3, us3, zs3, h⟩ => ⟨ps.length - (i + 1), by omega, rfl, hlt, G3, Γ3, acc3, us3, zs3, h⟩, fun x H3 hy => ?_⟩
    obtain ⟨G3, g3, s3, r3⟩ := wk.yld i H' x H3 ps[i] (List.getElem?_eq_getElem hlt) (S.g.g.trans S.e.sub) cH hy G' S.g.g S.e.sub
    have S3 := S.trans (.grow S.e g3 s3)
    have d3 : G3 Dd = none := g3.f Dd _ hd (fun z => z) gd
    have h3 : H3 Dd = some (.lst us) := g3.h Dd _ hd fun z => z
    have r3' := hr.mono g3.g
    cases eg : g ps[i] Γ' with
    | none => rw [eg] at el; cases el
    | some Γ4 =>
      rw [eg] at el
      refine ⟨π, G3, Γ', ps[i], Γ4, S3.e, r3, eg, fun σ4 T4 w4 => ?_⟩
      have hw := w4 vs hws
      have hww : wipe (wipe σ vs) vs = wipe σ vs := by
        have aux : ∀ us : List Nat, (∀ u ∈ us, u ∈ vs) → wipe (wipe σ us) vs = wipe σ vs := fun us => by
          induction us with
          | nil => intro _; rfl
          | cons u us ih =>
            intro h
            show wipe ((wipe σ us).set u none) vs = wipe σ vs
            rw [wipe_set (h u List.mem_cons_self)]
            exact ih fun w hw => h w (List.mem_cons_of_mem _ hw)
        exact aux vs fun _ h => h
      refine ⟨hw.trans hww, ?_⟩
      -- no slot of a target is an object
      have noAt : ∀ j k a, At Γ4 σ4 j k a → At Γ' (wipe σ vs) j k a := fun j k a h => by
        rcases T4.f j k a h with z | ⟨_, z⟩
        · exact z
        · obtain ⟨_, o, e⟩ := T4.e.foot h
          rw [z] at e
          cases e
      have footD : ∀ j k, ¬ At Γ4 σ4 j k Dd := fun j k z => by
        obtain ⟨_, o, e⟩ := E.foot (S.f j k Dd (noAt j k Dd z))
        rw [hD] at e
        cases e
      have toW : ∀ {G5 H5 : Hp} {Γ5 : Ev}, Ste K π σ4 G3 H3 Γ4 G5 H5 Γ5 → Ste K π (wipe σ vs) G3 H3 Γ' G5 H5 (wipeE Γ5 vs) := fun {G5 H5 Γ5} S5 => by
        refine ⟨?_, S5.g.mono fun a ⟨j, k, n, z⟩ => ⟨j, k, n, noAt j k a z⟩, fun j k a z => ?_⟩
        · have := S5.e.wiped vs
          rw [hw.trans hww] at this
          exact this
        · have z' : At (wipeE Γ5 vs) (wipe σ4 vs) j k a := by
            rw [hw.trans hww]
            exact z
          exact noAt j k a (S5.f j k a (At.wiped z').1)
      cases et : t Γ4 with
      | none => simp only [et] at el; cases el
      | some z =>
        obtain ⟨b, Γ5⟩ := z
        simp only [et] at el
        refine ⟨π, G3, Γ4, b, Γ5, T4.e, et, fun G5 H5 S5 => ?_⟩
        have d5 : G5 Dd = none := S5.g.f Dd _ h3 (fun ⟨j, k, n, z⟩ => footD j k z) d3
        have h5 : H5 Dd = some (.lst us) := S5.g.h Dd _ h3 fun ⟨j, k, n, z⟩ => footD j k z
        cases b with
        | false =>
          rw [if_neg Bool.false_ne_true] at el
          exact iteF ⟨G5, _, acc, us, zs, S3.trans (toW S5), d5, h5, r3'.mono S5.g.g, by omega, el, ea⟩
        | true =>
          rw [if_pos rfl] at el
          refine iteT ?_
          cases ee : e Γ5 with
          | none => simp only [ee] at el; cases el
          | some z =>
            obtain ⟨y, Γ6⟩ := z
            simp only [ee] at el
            refine ⟨π, G5, Γ5, y, Γ6, S5.e, ee, fun v G6 H6 S6 r6 => ?_⟩
            have S56 := S5.trans S6
            have d6 : G6 Dd = none := S56.g.f Dd _ h3 (fun ⟨j, k, n, z⟩ => footD j k z) d3
            have h6 : H6 Dd = some (.lst us) := S56.g.h Dd _ h3 fun ⟨j, k, n, z⟩ => footD j k z
            have ru := r3'.mono S56.g.g
            have lm := line_m
            have ll := ru.length
            refine ⟨us, h6, by omega, ?_⟩
            cases ec : compL vs g t e (ps.drop (i + 1)) (wipeE Γ6 vs) with
            | none => simp only [ec] at el; cases el
            | some z =>
              obtain ⟨zs', Γ7⟩ := z
              simp only [ec] at el
              cases el
              have S7 := S3.trans (toW S56)
              obtain ⟨gw, sw⟩ := gr_write (o := .lst (us ++ [v])) S7.e.sub d6 ⟨_, h6⟩
              refine ⟨G6, _, acc ++ [y], us ++ [v], zs', ⟨S7.e.grow gw sw fun a j k z w => ?_, S7.g.trans gw fun a z => .inr (z ▸ hD), S7.f⟩, d6, upd_same, ru.append (.one r6), by simp; omega, ec, by rw [List.append_assoc]; exact ea⟩
              subst w
              obtain ⟨_, o, e⟩ := E.foot (S7.f j k a z)
              rw [hD] at e
              cases e
  · have e : i = ps.length := by omega
    subst e
    rw [List.drop_length] at el
    cases el
    rw [List.append_nil] at ea
    subst ea
    exact .inl ⟨wk.stop H' (S.g.g.trans S.e.sub) cH, q G' H' us S gd hd hr⟩
end
@[simp] def dComp (vs : List Nat) (it : D (List PV)) (g : PV → Ev → Option Ev) (t : D Bool) (e : D PV) (Γ : Ev) : Option (Rs × Ev) := match it Γ with
  | some (ps, Γ1) => if fits ps.length = true then match compL vs g t e ps (wipeE Γ1 vs) with
    | some (ys, Γ2) => some (.new (.lst ys), back Γ1 Γ2 vs)
    | none => none
    else none
  | none => none
@[simp] def dYes (Γ : Ev) : Option (Bool × Ev) := (ret true) Γ
section
variable {X : Cx} {pos p : Pos} {tg iter elt : Expr} {ifs : List Expr} {scope : Scope} {own : List (Str × Nat)} {it : D (List PV)} {g : PV → Ev → Option Ev} {ws : List Nat} {t : D Bool} {e : D PV}
abbrev SIf (X : Cx) (ifs : List Expr) (t : D Bool) : Prop := PTs X ifs (tB X.K t)
theorem sif_nil : SIf X [] dYes := ⟨fun pins s σ H Q I ⟨π, G, Γ, b, Γ', E, ef, q⟩ => by
  cases ef
  exact pts_nil.run pins s σ H Q I (show tYes σ H Q from q G H (.refl E))⟩
theorem sif_one {c : Expr} (h : SB X c t) : SIf X [c] t := pts_one h
theorem t_comp {K : PySem.W.Frag} (hws : ∀ w ∈ ws, w ∈ own.map (·.2)) {σ : St} {H : Hp} {Q : VK} (tt : tR K (dComp (own.map (·.2)) it g t e) σ H Q) : tLc (tI K it) (tG K ws g) (tB K t) (tV K e) (own.map (·.2)) σ H Q := by
  obtain ⟨π, G, Γ, r, Γ', E, ef, q⟩ := tt
  unfold dComp at ef
  cases e1 : it Γ with
  | none => rw [e1] at ef; cases ef
  | some z =>
    obtain ⟨ps, Γ1⟩ := z
    rw [e1] at ef
    dsimp only at ef
    split at ef
    · rename_i hz
      have hz := of_fits hz
      cases e2 : compL (own.map (·.2)) g t e ps (wipeE Γ1 (own.map (·.2))) with
      | none => rw [e2] at ef; cases ef
      | some z =>
        obtain ⟨ys, Γ2⟩ := z
        rw [e2] at ef
        cases ef
        refine ⟨π, G, Γ, ps, Γ1, E, e1, fun J G1 H1 S wk Dd hD => ?_⟩
        refine comp_turns rfl hws (S.e.wiped _) wk (fun _ _ _ => trivial) hz hD e2 fun G2 H2 us S2 gd hd r => ?_
        have B := block_back (rs := own.map (·.2)) S.e (fun _ h => h) S2 (fun j k a z => ⟨k, (At.wiped z).1, (At.wiped z).2, .inl rfl⟩) (fun j k a z hj ⟨i, k', n, w⟩ => by
          obtain ⟨w1, w2⟩ := At.wiped w
          exact w2 (S.e.inj j i k k' a z w1 ▸ hj)) fun a ⟨i, k', n, w⟩ => ⟨i, k', n, (At.wiped w).1⟩
        exact q _ G2 H2 (S.trans B) ⟨Dd, rfl, S.g.nothing hD, gd, us, hd, r⟩
    · cases ef
theorem sr_comp (hc : X.calm = true) (hN : X.N.Nodup) (hi : SI X tg iter it) (ok : blkC X.N X.env.scope scope own = true) (hws : ∀ w ∈ ws, w ∈ own.map (·.2))
    (hg : ∀ (s : Shared) (H : Hp) (C : Addr) (cl : List (Str × Addr)) (fp : List Addr), SG (X.blk s H scope (compEnvC scope cl C X.env) fp) tg ws g) (ht : ∀ (s : Shared) (H : Hp) (C : Addr) (cl : List (Str × Addr)) (fp : List Addr), SIf (X.blk s H scope (compEnvC scope cl C X.env) fp) ifs t)
    (he : ∀ (s : Shared) (H : Hp) (C : Addr) (cl : List (Str × Addr)) (fp : List Addr), SV (X.blk s H scope (compEnvC scope cl C X.env) fp) elt e) (hs : ∀ x, foldedSetIterable iter X.env x = pure x := by intro _; rfl) :
    SR X (.ListComp elt [⟨tg, iter, ifs, 0⟩] scope pos) (dComp (own.map (·.2)) it g t e) := (pe_lc hc hN hi (blkOk_by ok) hg ht he hs).imp fun _ _ _ tt => t_comp hws tt
/-- name = [..] -/
theorem ss_setLc (i : Nat) {y : Str} {py spos : Pos} (hc : X.calm = true) (hN : X.N.Nodup) (hsw : swapsWith (.ListComp elt [⟨tg, iter, ifs, 0⟩] scope pos) (some (.Name y py)) spos.line X.env = pure true) (hi : SI X tg iter it) (ok : blkC X.N X.env.scope scope own = true) (hws : ∀ w ∈ ws, w ∈ own.map (·.2))
    (hg : ∀ (s : Shared) (H : Hp) (C : Addr) (cl : List (Str × Addr)) (fp : List Addr), SG (X.blk s H scope (compEnvC scope cl C X.env) fp) tg ws g) (ht : ∀ (s : Shared) (H : Hp) (C : Addr) (cl : List (Str × Addr)) (fp : List Addr), SIf (X.blk s H scope (compEnvC scope cl C X.env) fp) ifs t)
    (he : ∀ (s : Shared) (H : Hp) (C : Addr) (cl : List (Str × Addr)) (fp : List Addr), SV (X.blk s H scope (compEnvC scope cl C X.env) fp) elt e) (hy : X.N[i]? = some y := by rfl) (hyl : X.env.scope.names.lookup y = some .local := by rfl) (hs : ∀ x, foldedSetIterable iter X.env x = pure x := by intro _; rfl) :
    SS X (.Assign [.Name y py] (.ListComp elt [⟨tg, iter, ifs, 0⟩] scope pos) spos) (dSet i (dComp (own.map (·.2)) it g t e)) := (ps_setLc hc hN hy hyl hsw hi (blkOk_by ok) hg ht he hs).imp fun D σ H tt => by
  have h := t_set tt
  -- the reading with the comprehension's own
  obtain ⟨π, G, Γ, r, Γ', E, ef, q⟩ := (show tR X.K (dComp (own.map (·.2)) it g t e) σ H (fun x H1 => gName i x σ H1 D.nx) from h)
  exact t_comp (Q := fun x H1 => gName i x σ H1 D.nx) hws ⟨π, G, Γ, r, Γ', E, ef, q⟩
end
/-! ### a comprehension over the list in a slot -/
@[simp] def dCompN (i : Nat) (vs : List Nat) (g : PV → Ev → Option Ev) (t : D Bool) (e : D PV) (Γ : Ev) : Option (Rs × Ev) := match Γ[i]? with
  | some (.mu k (.lst ps)) => if i ∉ vs ∧ fits ps.length = true then match compL vs g t e ps (wipeE (Γ.set i (.mu .lck (.lst ps))) vs) with
    | some (ys, Γ2) => some (.new (.lst ys), back Γ Γ2 (i :: vs))
    | none => none
    else none
  | some (.val (.lst ps)) => if fits ps.length = true then match compL vs g t e ps (wipeE Γ vs) with
    | some (ys, Γ2) => some (.new (.lst ys), back Γ Γ2 vs)
    | none => none
    else none
  | _ => none
section
variable {X : Cx} {pos p : Pos} {tg iter elt : Expr} {ifs : List Expr} {scope : Scope} {own : List (Str × Nat)} {it : D (List PV)} {g : PV → Ev → Option Ev} {ws : List Nat} {t : D Bool} {e : D PV}
theorem t_compN {K : PySem.W.Frag} (i : Nat) (hws : ∀ w ∈ ws, w ∈ own.map (·.2)) {σ : St} {H : Hp} {Q : VK} (tt : tR K (dCompN i (own.map (·.2)) g t e) σ H Q) : tLc (iList K (tVar i)) (tG K ws g) (tB K t) (tV K e) (own.map (·.2)) σ H Q := by
  obtain ⟨π, G, Γ, r, Γ', E, ef, q⟩ := tt
  unfold dCompN at ef
  split at ef
  · rename_i k ps ei
    split at ef
    · rename_i hz
      obtain ⟨hni, hz⟩ := hz
      have hz := of_fits hz
      cases e2 : compL (own.map (·.2)) g t e ps (wipeE (Γ.set i (.mu .lck (.lst ps))) (own.map (·.2))) with
      | none => rw [e2] at ef; cases ef
      | some z =>
        obtain ⟨ys, Γ2⟩ := z
        rw [e2] at ef
        cases ef
        obtain ⟨a, h1, h2, ⟨us, h3, h3'⟩, h4⟩ := E.mu i _ _ ei
        have hat : At Γ σ i k a := ⟨_, ei, h1⟩
        refine ⟨.ref a, h1, a, rfl, ⟨us, SqL.of h3⟩, fun Dd hD => ?_⟩
        -- the slot is held
        have at' : ∀ j l b, At (Γ.set i (.mu .lck (.lst ps))) σ j l b → (At Γ σ j l b ∧ j ≠ i) ∨ (j = i ∧ l = .lck ∧ b = a) := fun j l b ⟨q, z1, z2⟩ => by
          rcases set_get z1 with ⟨rfl, z⟩ | ⟨n, z⟩
          · cases z
            rw [h1] at z2
            cases z2
            exact .inr ⟨rfl, rfl, rfl⟩
          · exact .inl ⟨⟨q, z, z2⟩, Ne.symm n⟩
        have toΓ : ∀ j l b, At (Γ.set i (.mu .lck (.lst ps))) σ j l b → ∃ l', At Γ σ j l' b := fun j l b z => by
          rcases at' j l b z with ⟨z, _⟩ | ⟨rfl, _, rfl⟩
          · exact ⟨l, z⟩
          · exact ⟨k, hat⟩
        have E2 : ER K π G σ H (Γ.set i (.mu .lck (.lst ps))) := by
          refine ⟨E.sub, by rw [List.length_set]; exact E.len, fun j q e => ?_, fun j l q e => ?_, fun j m l l' b z1 z2 => ?_⟩
          · rcases set_get e with ⟨rfl, z⟩ | ⟨n, z⟩
            · cases z
            · exact E.val j q z
          · rcases set_get e with ⟨rfl, z⟩ | ⟨n, z⟩
            · cases z
              exact ⟨a, h1, h2, ⟨us, h3, h3'⟩, fun z => by cases z⟩
            · exact E.mu j l q z
          · obtain ⟨y1, w1⟩ := toΓ j l b z1
            obtain ⟨y2, w2⟩ := toΓ m l' b z2
            exact E.inj j m y1 y2 b w1 w2
        have nf : ¬ Foot (wipeE (Γ.set i (.mu .lck (.lst ps))) (own.map (·.2))) (wipe σ (own.map (·.2))) a := fun ⟨j, l, n, w⟩ => by
          rcases at' j l a (At.wiped w).1 with ⟨w1, w2⟩ | ⟨_, w2, _⟩
          · exact w2 (E.inj j i l k a w1 hat)
          · exact n w2
        have wk : Wk K (Itl K a) G (fun H' => H' a = some (.lst us)) ps := {
          go := fun n H' hn _ c => by
            obtain ⟨v, ev, _⟩ := h3'.get (List.getElem?_eq_getElem hn)
            exact ⟨us, v, SqL.of c, ev⟩
          stop := fun H' _ c => ⟨us, SqL.of c, by rw [h3'.length]; exact Nat.le_refl _⟩
          yld := fun n H' x H'' p hp _ c y G1 s1 s2 => by
            obtain ⟨ey, y⟩ := y
            subst ey
            obtain ⟨v, ev, rv⟩ := h3'.get hp
            have ey := y us (SqL.of c)
            rw [ev] at ey
            cases ey
            exact ⟨G1, .refl, s2, rv.mono s1⟩ }
        refine comp_turns rfl hws (E2.wiped _) wk (fun H' G' gg => gg.h a _ h3 nf) hz hD e2 fun G2 H2 us2 S2 gd hd r => ?_
        have B := block_back (rs := i :: own.map (·.2)) E (fun _ h => List.mem_cons_of_mem _ h) S2 (fun j l b z => by
          obtain ⟨z1, z2⟩ := At.wiped z
          rcases at' j l b z1 with ⟨z3, _⟩ | ⟨rfl, _, rfl⟩
          · exact ⟨l, z3, z2, .inl rfl⟩
          · exact ⟨k, hat, z2, .inr List.mem_cons_self⟩) (fun j l b z hj ⟨m, l', n, w⟩ => by
          obtain ⟨w1, w2⟩ := At.wiped w
          rcases at' m l' b w1 with ⟨w3, w4⟩ | ⟨rfl, w3, _⟩
          · have e := E.inj j m l l' b z w3
            subst e
            rcases List.mem_cons.mp hj with hj | hj
            · exact w4 hj
            · exact w2 hj
          · exact n w3) fun b ⟨m, l', n, w⟩ => by
          obtain ⟨w1, w2⟩ := At.wiped w
          rcases at' m l' b w1 with ⟨w3, w4⟩ | ⟨rfl, w3, _⟩
          · exact ⟨m, l', n, w3⟩
          · exact absurd w3 n
        exact q _ G2 H2 B ⟨Dd, rfl, hD, gd, us2, hd, r⟩
    · cases ef
  · rename_i ps ei
    split at ef
    · rename_i hz
      have hz := of_fits hz
      cases e2 : compL (own.map (·.2)) g t e ps (wipeE Γ (own.map (·.2))) with
      | none => rw [e2] at ef; cases ef
      | some z =>
        obtain ⟨ys, Γ2⟩ := z
        rw [e2] at ef
        cases ef
        obtain ⟨v, h1, a, us, rfl, h3, h3'⟩ := E.val i _ ei
        refine ⟨.ref a, h1, a, rfl, ⟨us, SqL.of (E.sub _ _ h3)⟩, fun Dd hD => ?_⟩
        refine comp_turns rfl hws (E.wiped _) (wk_list (SqL.of h3) h3') (fun _ _ _ => trivial) hz hD e2 fun G2 H2 us S2 gd hd r => ?_
        have B := block_back (rs := own.map (·.2)) E (fun _ h => h) S2 (fun j k a z => ⟨k, (At.wiped z).1, (At.wiped z).2, .inl rfl⟩) (fun j k a z hj ⟨i, k', n, w⟩ => by
          obtain ⟨w1, w2⟩ := At.wiped w
          exact w2 (E.inj j i k k' a z w1 ▸ hj)) fun a ⟨i, k', n, w⟩ => ⟨i, k', n, (At.wiped w).1⟩
        exact q _ G2 H2 B ⟨Dd, rfl, hD, gd, us, hd, r⟩
    · cases ef
  · cases ef
theorem sr_compN (i : Nat) {x : Str} {pos' : Pos} (hc : X.calm = true) (hN : X.N.Nodup) (ok : blkC X.N X.env.scope scope own = true) (hws : ∀ w ∈ ws, w ∈ own.map (·.2))
    (hg : ∀ (s : Shared) (H : Hp) (C : Addr) (cl : List (Str × Addr)) (fp : List Addr), SG (X.blk s H scope (compEnvC scope cl C X.env) fp) tg ws g) (ht : ∀ (s : Shared) (H : Hp) (C : Addr) (cl : List (Str × Addr)) (fp : List Addr), SIf (X.blk s H scope (compEnvC scope cl C X.env) fp) ifs t)
    (he : ∀ (s : Shared) (H : Hp) (C : Addr) (cl : List (Str × Addr)) (fp : List Addr), SV (X.blk s H scope (compEnvC scope cl C X.env) fp) elt e)
    (hNi : X.N[i]? = some x := by rfl) (hv : Vis X.env.scope x := by first | exact Or.inl rfl | exact Or.inr (Or.inl rfl) | exact Or.inr (Or.inr rfl)) (hd : (x == ("__debug__" : Str)) = false := by decide)
    (hcd : (x == ("__classdict__" : Str)) = false := by decide) (hs : ∀ y, foldedSetIterable (.Name x pos') X.env y = pure y := by intro _; rfl) :
    SR X (.ListComp elt [⟨tg, .Name x pos', ifs, 0⟩] scope pos) (dCompN i (own.map (·.2)) g t e) := (pe_lc hc hN (pi_list (pe_var hNi hv hd hcd)) (blkOk_by ok) hg ht he hs).imp fun _ _ _ tt => t_compN i hws tt
end
/-! ### a def by its body's denotation -/
/-- the first slots of a def: its values, then nothing -/
@[simp] def runD (d : DS) (n : Nat) (ps : List PV) : Option Rs := match d (ps.map Sl.val ++ List.replicate (n - ps.length) .un) with
  | some (.rt r _) => some r
  | some (.nx _) => some (.val .non)
  | _ => none
/-- .. whose first one is changed -/
@[simp] def runD1 (d : DS) (n : Nat) (c : PV) (ps : List PV) : Option (Rs × PV) := match d (.mu .par c :: (ps.map Sl.val ++ List.replicate (n - (ps.length + 1)) .un)) with
  | some (.rt r Γ) => match (Γ[0]? : Option Sl) with
    | some (.mu .par c') => some (r, c')
    | _ => none
  | some (.nx Γ) => match (Γ[0]? : Option Sl) with
    | some (.mu .par c') => some (.val .non, c')
    | _ => none
  | _ => none
/-- what a def of np parameters and n slots does -/
@[simp] def sem0 (d : DS) (np n : Nat) (qs : List PV) : Option Rs := if qs.length = np then runD d n qs else none
@[simp] def sem1 (d : DS) (np n : Nat) (c : PV) (qs : List PV) : Option (Rs × PV) := if qs.length + 1 = np then runD1 d n c qs else none
section
variable {P : Program} {w : World} {K : PySem.W.Frag} {mg : Str → Option Value} {base : Heap}
theorem get_start {N : Nat} {vs : List V} {ps : List PV} {G : Hp} (r : Reps K G vs ps) {i : Nat} {p : PV} (h : (ps.map Sl.val ++ List.replicate N .un)[i]? = some (.val p)) : ∃ v M, (vs.map some ++ List.replicate M none : St)[i]? = some (some v) ∧ Rep K G v p := by
  by_cases hi : i < ps.length
  · rw [List.getElem?_append_left (by simpa using hi), List.getElem?_map] at h
    obtain ⟨q, e, e2⟩ := Option.map_eq_some_iff.mp h
    cases e2
    obtain ⟨v, e3, r3⟩ := r.get e
    refine ⟨v, 0, ?_, r3⟩
    rw [List.getElem?_append_left (by have := r.length; simp; omega), List.getElem?_map, e3]
    rfl
  · rw [List.getElem?_append_right (by simp; omega), List.getElem?_replicate] at h
    split at h <;> cases h
theorem er_start {π : Nat → Addr} {G H : Hp} {n : Nat} {vs : List V} {ps : List PV} (s : Same G H) (r : Reps K G vs ps) : ER K π G (vs.map some ++ List.replicate (n - vs.length) none) H (ps.map Sl.val ++ List.replicate (n - ps.length) .un) := by
  have hl := r.length
  have noMu : ∀ (i : Nat) k p, (ps.map Sl.val ++ List.replicate (n - ps.length) Sl.un)[i]? ≠ some (.mu k p) := fun i k p h => by
    by_cases hi : i < ps.length
    · rw [List.getElem?_append_left (by simpa using hi), List.getElem?_map] at h
      obtain ⟨q, e, e2⟩ := Option.map_eq_some_iff.mp h
      cases e2
    · rw [List.getElem?_append_right (by simp; omega), List.getElem?_replicate] at h
      split at h <;> cases h
  refine ⟨s, by simp [hl], fun i p e => ?_, fun i k p e => absurd e (noMu i k p), fun i j k l a ⟨p, e, _⟩ _ => absurd e (noMu i k p)⟩
  by_cases hi : i < ps.length
  · rw [List.getElem?_append_left (by simpa using hi), List.getElem?_map] at e
    obtain ⟨q, e1, e2⟩ := Option.map_eq_some_iff.mp e
    cases e2
    obtain ⟨v, e3, r3⟩ := r.get e1
    refine ⟨v, ?_, r3⟩
    rw [List.getElem?_append_left (by simp; omega), List.getElem?_map, e3]
    rfl
  · rw [List.getElem?_append_right (by simp; omega), List.getElem?_replicate] at e
    split at e <;> cases e
theorem fn_ok0 {x qual : Str} {st : Stmt} {f : Addr} {fd : FuncData} {N ps : List Str} {k : Nat} {d : DS} (F : Fun K x qual st f fd) (S : FnScope N ps (defScope st))
    (hb : ∀ (cdv : Value) (A : Around) (outer : List Env) (s : Shared) (H : Hp) (E : XK), Room k (A.deeper (envOfC qual (defScope st) s.heap.objs.size f cdv)) → SSs (cxOf CX0 P w K mg base N qual (defScope st) f cdv A outer s H E).nox (defBody st) d) :
    FnOk P w K mg base CX0 (k + 1) f fd ps (Sp0 K (sem0 d ps.length N.length)) := by
  refine F.ok S (fun vs H Q E h => ?_) (fun cdv A outer s H vs Q E hr h => ?_)
  · obtain ⟨G, qs, r, sm, rp, e, _⟩ := h
    unfold sem0 at e
    split at e
    · rw [rp.length]
      assumption
    · cases e
  · obtain ⟨G, qs, r, sm, rp, e, q⟩ := h
    unfold sem0 at e
    split at e
    · refine ⟨_, hb cdv A outer s H E hr, ?_⟩
      have E0 := er_start (K := K) (π := fun _ => 0) (n := N.length) sm rp
      have noAt : ∀ j k a, ¬ At (qs.map Sl.val ++ List.replicate (N.length - qs.length) Sl.un) (start N vs) j k a := fun j k a ⟨p, e1, _⟩ => by
        by_cases hi : j < qs.length
        · rw [List.getElem?_append_left (by simpa using hi), List.getElem?_map] at e1
          obtain ⟨q, e, e2⟩ := Option.map_eq_some_iff.mp e1
          cases e2
        · rw [List.getElem?_append_right (by simp; omega), List.getElem?_replicate] at e1
          split at e1 <;> cases e1
      have nf : ∀ a, ¬ Foot (qs.map Sl.val ++ List.replicate (N.length - qs.length) Sl.un) (start N vs) a := fun a ⟨j, k, n, z⟩ => noAt j k a z
      unfold runD at e
      split at e
      · rename_i r' Γ' ed
        cases e
        exact ⟨_, G, _, _, E0, ed, fun x σ' G' H' T rr => q x G' H' (T.g.mono fun a z => nf a z) T.e.sub (RR_mono rr fun a z => z.elim (fun z => z) fun ⟨j, z⟩ => absurd z (noAt j _ a))⟩
      · rename_i Γ' ed
        cases e
        exact ⟨_, G, _, _, E0, ed, fun σ' G' H' T => q .non G' H' (T.g.mono fun a z => nf a z) T.e.sub rfl⟩
      · cases e
    · cases e
theorem fn_ok1 {x qual : Str} {st : Stmt} {f : Addr} {fd : FuncData} {N ps : List Str} {k : Nat} {d : DS} (F : Fun K x qual st f fd) (S : FnScope N ps (defScope st)) (hN : ps.length ≤ N.length)
    (hb : ∀ (cdv : Value) (A : Around) (outer : List Env) (s : Shared) (H : Hp) (E : XK), Room k (A.deeper (envOfC qual (defScope st) s.heap.objs.size f cdv)) → SSs (cxOf CX0 P w K mg base N qual (defScope st) f cdv A outer s H E).nox (defBody st) d) :
    FnOk P w K mg base CX0 (k + 1) f fd ps (Sp1 K (sem1 d ps.length N.length)) := by
  refine F.ok S (fun vs H Q E h => ?_) (fun cdv A outer s H vs Q E hr h => ?_)
  · obtain ⟨G, a, vr, c, qs, r, c', rfl, sm, gn, ob, rp, e, _⟩ := h
    unfold sem1 at e
    split at e
    · rw [List.length_cons, rp.length]
      assumption
    · cases e
  · obtain ⟨G, a, vr, c, qs, r, c', rfl, sm, gn, ob, rp, e, q⟩ := h
    unfold sem1 at e
    split at e
    · rename_i hlen
      refine ⟨_, hb cdv A outer s H E hr, ?_⟩
      have es : start N (V.ref a :: vr) = some (V.ref a) :: (vr.map some ++ List.replicate (N.length - 1 - vr.length) none) := by
        unfold L2.start
        rw [List.map_cons, List.cons_append, List.length_cons, show N.length - (vr.length + 1) = N.length - 1 - vr.length by omega]
      rw [es]
      have eΓ : (Sl.mu .par c :: (qs.map Sl.val ++ List.replicate (N.length - (qs.length + 1)) Sl.un)) = Sl.mu .par c :: (qs.map Sl.val ++ List.replicate (N.length - 1 - qs.length) Sl.un) := by
        rw [show N.length - (qs.length + 1) = N.length - 1 - qs.length by omega]
      have E1 := er_start (K := K) (π := fun _ => a) (n := N.length - 1) sm rp
      have noAt : ∀ j k b, ¬ At (qs.map Sl.val ++ List.replicate (N.length - 1 - qs.length) Sl.un) (vr.map some ++ List.replicate (N.length - 1 - vr.length) none) j k b := fun j k b ⟨p, e1, _⟩ => by
        by_cases hi : j < qs.length
        · rw [List.getElem?_append_left (by simpa using hi), List.getElem?_map] at e1
          obtain ⟨q, e, e2⟩ := Option.map_eq_some_iff.mp e1
          cases e2
        · rw [List.getElem?_append_right (by simp; omega), List.getElem?_replicate] at e1
          split at e1 <;> cases e1
      have at0 : ∀ j k b, At (Sl.mu .par c :: (qs.map Sl.val ++ List.replicate (N.length - 1 - qs.length) Sl.un)) (some (V.ref a) :: (vr.map some ++ List.replicate (N.length - 1 - vr.length) none)) j k b → j = 0 ∧ k = .par ∧ b = a := fun j k b ⟨p, e1, e2⟩ => by
        cases j with
        | zero =>
          cases e1
          cases e2
          exact ⟨rfl, rfl, rfl⟩
        | succ j => exact absurd ⟨p, e1, e2⟩ (noAt j k b)
      have E0 : ER K (fun _ => a) G (some (V.ref a) :: (vr.map some ++ List.replicate (N.length - 1 - vr.length) none)) H (Sl.mu .par c :: (qs.map Sl.val ++ List.replicate (N.length - 1 - qs.length) Sl.un)) := by
        refine ⟨sm, by rw [List.length_cons, List.length_cons, E1.len], fun i p e => ?_, fun i k p e => ?_, fun i j k l b z1 z2 => by rw [(at0 i k b z1).1, (at0 j l b z2).1]⟩
        · cases i with
          | zero => cases e
          | succ i => exact E1.val i p e
        · cases i with
          | zero =>
            cases e
            exact ⟨a, rfl, gn, ob, fun _ => rfl⟩
          | succ i => exact E1.mu i k p e
      have nf : ∀ b, Foot (Sl.mu .par c :: (qs.map Sl.val ++ List.replicate (N.length - 1 - qs.length) Sl.un)) (some (V.ref a) :: (vr.map some ++ List.replicate (N.length - 1 - vr.length) none)) b → b = a := fun b ⟨j, k, n, z⟩ => (at0 j k b z).2.2
      have nown : ∀ b j, ¬ At (Sl.mu .par c :: (qs.map Sl.val ++ List.replicate (N.length - 1 - qs.length) Sl.un)) (some (V.ref a) :: (vr.map some ++ List.replicate (N.length - 1 - vr.length) none)) j .own b := fun b j z => by
        cases (at0 j .own b z).2.1
      have fin : ∀ {r' : Rs} {c2 : PV} {Γ' : Ev}, Γ'[0]? = some (.mu .par c2) → some (r', c2) = some (r, c') → ∀ x σ' G' H', Sts K (fun _ => a) (some (V.ref a) :: (vr.map some ++ List.replicate (N.length - 1 - vr.length) none)) G H (Sl.mu .par c :: (qs.map Sl.val ++ List.replicate (N.length - 1 - qs.length) Sl.un)) σ' G' H' Γ' →
          RR K G' H' (fun b => H b = none) x r' → Q x H' := fun {r' c2 Γ'} e0 ee x σ' G' H' T rr => by
        cases ee
        obtain ⟨b, h1, h2, h3, h4⟩ := T.e.mu 0 .par c' e0
        have hb := h4 rfl
        subst hb
        exact q x G' H' (T.g.mono nf) T.e.sub h2 h3 rr
      unfold runD1 at e
      rw [eΓ] at e
      split at e
      · rename_i r' Γ' ed
        split at e
        · rename_i c2 e0
          exact ⟨_, G, _, _, E0, ed, fun x σ' G' H' T rr => fin e0 e x σ' G' H' T (RR_mono rr fun b z => z.elim (fun z => z) fun ⟨j, z⟩ => absurd z (nown b j))⟩
        · cases e
      · rename_i Γ' ed
        split at e
        · rename_i c2 e0
          exact ⟨_, G, _, _, E0, ed, fun σ' G' H' T => fin e0 e .non σ' G' H' T rfl⟩
        · cases e
      · cases e
    · cases e
end
/-! ### list(range(..)), tuple(range(..)) -/
def gLRg : Option (List PV) → Option Rs
  | some ps => if fits ps.length = true then some (.new (.lst ps)) else none
  | none => none
def gTRg : Option (List PV) → Option PV
  | some ps => if fits ps.length = true then some (.tup ps) else none
  | none => none
@[simp] def dLRg1 (f : D PV) (Γ : Ev) : Option (Rs × Ev) := (bnd f fun x => opt (gLRg (itR1 x))) Γ
@[simp] def dTRg1 (f : D PV) (Γ : Ev) : Option (PV × Ev) := (bnd f fun x => opt (gTRg (itR1 x))) Γ
@[simp] def dLRg2 (f h : D PV) (Γ : Ev) : Option (Rs × Ev) := (bnd f fun x => bnd h fun y => opt (gLRg (itR2 x y))) Γ
@[simp] def dTRg2 (f h : D PV) (Γ : Ev) : Option (PV × Ev) := (bnd f fun x => bnd h fun y => opt (gTRg (itR2 x y))) Γ
theorem itR1_some {x : PV} {ps : List PV} (h : itR1 x = some ps) : ∃ j, x = .int j ∧ (-(2 ^ 62) ≤ j ∧ j < 2 ^ 62) ∧ ps = rgP 0 j.toNat := by
  unfold itR1 at h
  split at h
  · split at h
    · rename_i j hb
      exact ⟨j, rfl, rgOk_of hb, (Option.some.inj h).symm⟩
    · cases h
  · cases h
theorem itR2_some {x y : PV} {ps : List PV} (h : itR2 x y = some ps) : ∃ i j, x = .int i ∧ y = .int j ∧ (-(2 ^ 62) ≤ i ∧ i < 2 ^ 62) ∧ (-(2 ^ 62) ≤ j ∧ j < 2 ^ 62) ∧ ps = rgP i (j - i).toNat := by
  unfold itR2 at h
  split at h
  · split at h
    · rename_i i j hb
      exact ⟨i, j, rfl, rfl, rgOk_of hb.1, rgOk_of hb.2, (Option.some.inj h).symm⟩
    · cases h
  · cases h
theorem rgP_len (lo : Int) (n : Nat) : (rgP lo n).length = n := by
  unfold rgP
  simp
theorem reps_rg {K : PySem.W.Frag} {G : Hp} {a b : Int} : Reps K G (rgV a b) (rgP a (b - a).toNat) := by
  have e1 : rgV a b = ((List.range (b - a).toNat).map fun (i : Nat) => a + (i : Int)).map V.int := by
    unfold rgV
    rw [List.map_map]
    rfl
  have e2 : rgP a (b - a).toNat = ((List.range (b - a).toNat).map fun (i : Nat) => a + (i : Int)).map PV.int := by
    unfold rgP
    rw [List.map_map]
    rfl
  rw [e1, e2]
  exact reps_ints _
theorem gLRg_some {o : Option (List PV)} {r : Rs} (h : gLRg o = some r) : ∃ ps, o = some ps ∧ ps.length ≤ 1000000 ∧ r = .new (.lst ps) := by
  unfold gLRg at h
  split at h
  · split at h
    · rename_i hz
      exact ⟨_, rfl, of_fits hz, (Option.some.inj h).symm⟩
    · cases h
  · cases h
theorem gTRg_some {o : Option (List PV)} {r : PV} (h : gTRg o = some r) : ∃ ps, o = some ps ∧ ps.length ≤ 1000000 ∧ r = .tup ps := by
  unfold gTRg at h
  split at h
  · split at h
    · rename_i hz
      exact ⟨_, rfl, of_fits hz, (Option.some.inj h).symm⟩
    · cases h
  · cases h
section
variable {X : Cx} {pos p p2 pos2 : Pos} {e e2 : Expr} {f h : D PV}
theorem sr_listRg1 (hc : X.calm = true) (hg : Gl X "list") (hm : X.mg "list" = none) (hg2 : Gl X "range") (hm2 : X.mg "range" = none) (ha : SV X e f) (n1 : starEach [e] X.env = (false, eval e X.env) :: starEach [] X.env := by rfl)
    (n2 : starEach [.Call (.Name "range" p2) [e] [] pos2] X.env = (false, eval (.Call (.Name "range" p2) [e] [] pos2) X.env) :: starEach [] X.env := by rfl) : SR X (.Call (.Name "list" p) [.Call (.Name "range" p2) [e] [] pos2] [] pos) (dLRg1 f) :=
  (pe_listRg hc hg hm (prg_1 hg2 hm2 ha n1) n2).imp fun σ H Q ⟨π, G, Γ, r, Γ', E, ef, q⟩ => by
    obtain ⟨x, Γ1, e1, f1⟩ := bnd_some ef
    obtain ⟨e3, z⟩ := opt_some f1
    subst z
    obtain ⟨ps, e4, hz, rfl⟩ := gLRg_some e3
    obtain ⟨j, rfl, hb, rfl⟩ := itR1_some e4
    rw [rgP_len] at hz
    refine ⟨π, G, Γ, _, _, E, e1, fun u G1 H1 S r1 => ?_⟩
    cases (show u = _ from r1)
    refine ⟨j, rfl, ⟨by omega, by omega, hb.1, hb.2, by omega⟩, fun p hp => ?_⟩
    have r2 : Reps X.K G1 (rgV 0 j) (rgP 0 j.toNat) := by
      have := reps_rg (K := X.K) (G := G1) (a := 0) (b := j)
      rwa [Int.sub_zero] at this
    exact new_list S r2 q hp
theorem sv_tupRg1 (hc : X.calm = true) (hg : Gl X "tuple") (hm : X.mg "tuple" = none) (hg2 : Gl X "range") (hm2 : X.mg "range" = none) (ha : SV X e f) (n1 : starEach [e] X.env = (false, eval e X.env) :: starEach [] X.env := by rfl)
    (n2 : starEach [.Call (.Name "range" p2) [e] [] pos2] X.env = (false, eval (.Call (.Name "range" p2) [e] [] pos2) X.env) :: starEach [] X.env := by rfl) : SV X (.Call (.Name "tuple" p) [.Call (.Name "range" p2) [e] [] pos2] [] pos) (dTRg1 f) :=
  (pe_tupRg hc hg hm (prg_1 hg2 hm2 ha n1) n2).imp fun σ H Q ⟨π, G, Γ, r, Γ', E, ef, q⟩ => by
    obtain ⟨x, Γ1, e1, f1⟩ := bnd_some ef
    obtain ⟨e3, z⟩ := opt_some f1
    subst z
    obtain ⟨ps, e4, hz, rfl⟩ := gTRg_some e3
    obtain ⟨j, rfl, hb, rfl⟩ := itR1_some e4
    rw [rgP_len] at hz
    refine ⟨π, G, Γ, _, _, E, e1, fun u G1 H1 S r1 => ?_⟩
    cases (show u = _ from r1)
    refine ⟨j, rfl, ⟨by omega, by omega, hb.1, hb.2, by omega⟩, fun p hp => ?_⟩
    have r2 : Reps X.K G1 (rgV 0 j) (rgP 0 j.toNat) := by
      have := reps_rg (K := X.K) (G := G1) (a := 0) (b := j)
      rwa [Int.sub_zero] at this
    obtain ⟨g, s⟩ := gr_laid (F := fun _ => False) (o := .tup (rgV 0 j)) S.e.sub hp
    exact q _ _ _ (S.trans (.grow S.e g s)) ⟨p, _, rfl, .inl (.inl upd_same), r2.mono g.g⟩
theorem sr_listRg2 (hc : X.calm = true) (hg : Gl X "list") (hm : X.mg "list" = none) (hg2 : Gl X "range") (hm2 : X.mg "range" = none) (ha : SV X e f) (hb : SV X e2 h) (n1 : starEach [e, e2] X.env = (false, eval e X.env) :: starEach [e2] X.env := by rfl) (n3 : starEach [e2] X.env = (false, eval e2 X.env) :: starEach [] X.env := by rfl)
    (n4 : (backTo pos2 (starEach [e2] X.env)).any (·.1) = false := by rfl) (n2 : starEach [.Call (.Name "range" p2) [e, e2] [] pos2] X.env = (false, eval (.Call (.Name "range" p2) [e, e2] [] pos2) X.env) :: starEach [] X.env := by rfl) : SR X (.Call (.Name "list" p) [.Call (.Name "range" p2) [e, e2] [] pos2] [] pos) (dLRg2 f h) :=
  (pe_listRg hc hg hm (prg_2 hg2 hm2 ha hb n1 n3 n4) n2).imp fun σ H Q ⟨π, G, Γ, r, Γ', E, ef, q⟩ => by
    obtain ⟨x, Γ1, e1, f1⟩ := bnd_some ef
    obtain ⟨y, Γ2, e5, f2⟩ := bnd_some f1
    obtain ⟨e3, z⟩ := opt_some f2
    subst z
    obtain ⟨ps, e4, hz, rfl⟩ := gLRg_some e3
    obtain ⟨i, j, rfl, rfl, hb1, hb2, rfl⟩ := itR2_some e4
    rw [rgP_len] at hz
    refine ⟨π, G, Γ, _, _, E, e1, fun u G1 H1 S r1 => ⟨π, G1, Γ1, _, _, S.e, e5, fun u2 G2 H2 S2 r2 => ?_⟩⟩
    cases (show u = _ from r1)
    cases (show u2 = _ from r2)
    exact ⟨i, j, rfl, rfl, ⟨hb1.1, hb1.2, hb2.1, hb2.2, by omega⟩, fun p hp => new_list (S.trans S2) reps_rg q hp⟩
/-! ### sorted(xs), whole numbers -/
def isort (ns : List Int) : List Int := ns.mergeSort fun a b => decide (a ≤ b)
theorem isort_eq {ns ns' : List Int} (h1 : ns'.Perm ns) (h2 : ns'.Pairwise (· ≤ ·)) : ns' = isort ns := by
  refine List.Perm.eq_of_pairwise (le := fun a b : Int => a ≤ b) (fun a b _ _ x y => Int.le_antisymm x y) h2 ?_ (h1.trans (List.mergeSort_perm ns _).symm)
  have := List.pairwise_mergeSort (le := fun a b : Int => decide (a ≤ b)) (fun a b c x y => decide_eq_true (Int.le_trans (of_decide_eq_true x) (of_decide_eq_true y))) (fun a b => by
    rcases Int.le_total a b with h | h
    · simp [h]
    · simp [h]) ns
  exact this.imp fun x => of_decide_eq_true x
def gSorted : PV → Option Rs
  | .lst xs => (pInts xs).map fun ns => .new (.lst ((isort ns).map PV.int))
  | _ => none
theorem sr_sorted (hg : Gl X "sorted") (hm : X.mg "sorted" = none) (ha : SP X e f) (he : starEach [e] X.env = (false, eval e X.env) :: starEach [] X.env := by rfl) (hpl : (backTo pos (starEach [] X.env)).any (·.1) = false := by rfl) : SR X (.Call (.Name "sorted" p) [e] [] pos) (dR1 gSorted f) :=
  (pe_callB cr_sortedI hg hm (by decide +kernel) (pa_cons ha pa_nil he) (by decide) (by decide) he hpl).imp fun σ H Q ⟨π, G, Γ, w, Γ', E, ef, q⟩ => by
    obtain ⟨x, Γ1, e1, ef⟩ := bnd_some ef
    obtain ⟨e3, z⟩ := opt_some ef
    subst z
    refine ⟨π, G, Γ, x, _, E, e1, fun u G1 H1 S1 r1 => ?_⟩
    unfold gSorted at e3
    split at e3
    · obtain ⟨ns, e4, rfl⟩ := Option.map_eq_some_iff.mp e3
      rw [ints_eq e4] at r1
      obtain ⟨a, vs, rfl, q1, q2⟩ := pk_lst S1.e.sub r1
      rw [reps_ints_of q2] at q1
      refine ⟨a, ns, rfl, SqL.of q1, fun ns' p h1 h2 hp => ?_⟩
      rw [isort_eq h1 h2]
      exact new_list S1 (reps_ints _) q hp
    · cases e3
/-! ### text * number, sep.join(texts) -/
def gMulS : PV → PV → Option PV
  | .str z, .int n => if fits (z.length * n.toNat) = true then (if popOk n = true then some (.str (Txt.mul z n)) else none) else none
  | _, _ => none
theorem op_mulS {X : Cx} : OpR X (binaryOp .Mult) (fun x y H Q => ∃ a n, x = .str a ∧ y = .int n ∧ PySem.MulOk a n ∧ Q (.str (Txt.mul a n)) H) := by
  intro pins s σ H x y v u Q I rx ry h
  obtain ⟨i, j, rfl, rfl, hz, q⟩ := h
  obtain ⟨t, rfl⟩ := rx
  obtain ⟨t', rfl⟩ := ry
  exact PySem.SB.mul hz fun t' k => ⟨.str (Txt.mul i j), H, I.tok _, ⟨_, rfl⟩, q⟩
theorem mulOk_str {z : Str} {n : Int} (h1 : z.length * n.toNat ≤ 1000000) (h2 : -(2 ^ 63) ≤ n ∧ n < 2 ^ 63) : PySem.MulOk z n := by
  refine ⟨?_, fun a b => ?_, fun a b => ?_⟩
  · simp
    omega
  · intro hc
    have h3 : (0 : Int) < n := by omega
    have h4 : ((z.length : Int) * n) ≤ 1000000 := by
      have : ((z.length * n.toNat : Nat) : Int) ≤ 1000000 := by omega
      rw [Int.natCast_mul, Int.toNat_of_nonneg (by omega)] at this
      exact this
    have h5 : ((2 ^ 63 - 1) / n + 1) * n ≤ (z.length : Int) * n := Int.mul_le_mul_of_nonneg_right (by omega) (by omega)
    have h6 := Int.lt_ediv_add_one_mul_self (2 ^ 63 - 1) h3
    omega
  · unfold PySem.Builtin.Str.tooLong
    simp
    have := line_m
    omega
theorem ov_mulS {K : PySem.W.Frag} : OpV K (fun x y H Q => ∃ a n, x = .str a ∧ y = .int n ∧ PySem.MulOk a n ∧ Q (.str (Txt.mul a n)) H) gMulS := fun x y p q z G H Q s r1 r2 e A => by
  unfold gMulS at e
  split at e
  · split at e
    · rename_i hz
      split at e
      · rename_i hp
        cases e
        cases (show x = _ from r1)
        cases (show y = _ from r2)
        exact ⟨_, _, rfl, rfl, mulOk_str (of_fits hz) (popOk_of hp), A.now s rfl⟩
      · cases e
    · cases e
  · cases e
theorem sv_mulS (ha : SV X e f) (hb : SV X e2 h) : SV X (.BinOp e .Mult e2 pos) (dOp gMulS f h) := sv_op op_mulS ov_mulS ha hb
def pStrs : List PV → Option (List Str)
  | [] => some []
  | .str i :: r => (pStrs r).map (i :: ·)
  | _ :: _ => none
theorem strs_eq : ∀ {ps : List PV} {ns : List Str}, pStrs ps = some ns → ps = ns.map PV.str
  | [], ns, h => by cases h; rfl
  | .str i :: r, ns, h => by
    obtain ⟨ms, e, rfl⟩ := Option.map_eq_some_iff.mp (show (pStrs r).map (i :: ·) = some ns from h)
    rw [strs_eq e]
    rfl
  | .int _ :: _, _, h => by cases h
  | .bl _ :: _, _, h => by cases h
  | .non :: _, _, h => by cases h
  | .ty _ :: _, _, h => by cases h
  | .tup _ :: _, _, h => by cases h
  | .lst _ :: _, _, h => by cases h
  | .scr _ :: _, _, h => by cases h
theorem reps_strs_of {K : PySem.W.Frag} {G : Hp} : ∀ {vs : List V} {ns : List Str}, Reps K G vs (ns.map PV.str) → vs = ns.map V.str
  | vs, [], h => h
  | vs, n :: ns, h => by
    obtain ⟨v, r, rfl, h1, h2⟩ := h
    cases (show v = _ from h1)
    rw [reps_strs_of h2]
    rfl
def gJoin : PV → PV → Option PV
  | .str z, .lst xs => (pStrs xs).bind fun ys => if fits ((ys.map (·.length)).sum + ys.length * z.length) = true then some (.str (Txt.join z ys)) else none
  | _, _ => none
theorem sv_join {apos : Pos} {o : Expr} (ho : SV X o f) (he : SP X e h) (hs : starEach [e] X.env = [(false, eval e X.env)] := by rfl) (hbase : attributeBase o "join" X.env (eval o X.env) = eval o X.env := by rfl) (hline : (apos.endLine == pos.line) = true := by rfl) :
    SV X (.Call (.Attribute o "join" apos) [e] [] pos) (dOp gJoin f h) := (pe_join ho he hs hbase hline).imp fun σ H Q ⟨π, G, Γ, w, Γ', E, ef, q⟩ => by
  obtain ⟨x, Γ1, e1, f1⟩ := bnd_some ef
  obtain ⟨y, Γ2, e2, f2⟩ := bnd_some f1
  obtain ⟨e3, z⟩ := opt_some f2
  subst z
  unfold gJoin at e3
  split at e3
  · rename_i zz xs
    obtain ⟨ys, e4, e5⟩ := Option.bind_eq_some_iff.mp e3
    split at e5
    · rename_i hz
      cases e5
      have hz := of_fits hz
      refine ⟨π, G, Γ, _, Γ1, E, e1, fun u G1 H1 S1 r1 => ?_⟩
      cases (show u = _ from r1)
      refine ⟨⟨_, rfl⟩, π, G1, Γ1, _, _, S1.e, e2, fun v G2 H2 S2 r2 => ?_⟩
      rw [strs_eq e4] at r2
      obtain ⟨a, vs, rfl, q1, q2⟩ := pk_lst S2.e.sub r2
      rw [reps_strs_of q2] at q1
      exact ⟨_, a, ys, rfl, rfl, .inl (SqL.of q1), by omega, q _ G2 H2 (S1.trans S2) rfl⟩
    · cases e5
  · cases e3
end
/-! ### list({k: True for ..}) -/
def isK : PV → Bool
  | .int _ => true
  | .str _ => true
  | _ => false
def keyOfP : PV → Key
  | .int i => .inl i
  | .str s => .inr s
  | _ => .inl 0
def kAdd (ks : List Key) (k : Key) : List Key := if (ks.any fun x => decide (x = k)) = true then ks else ks ++ [k]
def kDed (ys : List PV) : List Key := ys.foldl (fun ks y => kAdd ks (keyOfP y)) []
theorem kDed_add (ys : List PV) (y : PV) : kDed (ys ++ [y]) = kAdd (kDed ys) (keyOfP y) := by
  unfold kDed
  rw [List.foldl_append]
  rfl
theorem kAdd_len (ks : List Key) (k : Key) : (kAdd ks k).length ≤ ks.length + 1 := by
  unfold kAdd
  split
  · omega
  · simp
theorem kDed_len (ys : List PV) : (kDed ys).length ≤ ys.length := by
  have : ∀ (ys : List PV) (ks : List Key), (ys.foldl (fun ks y => kAdd ks (keyOfP y)) ks).length ≤ ks.length + ys.length := fun ys => by
    induction ys with
    | nil => exact fun ks => Nat.le_refl _
    | cons y ys ih =>
      intro ks
      have h1 := ih (kAdd ks (keyOfP y))
      have h2 := kAdd_len ks (keyOfP y)
      simp only [List.foldl_cons, List.length_cons]
      omega
  have h := this ys []
  simpa [kDed] using h
theorem isK_kV {K : PySem.W.Frag} {G : Hp} {v : V} {y : PV} (h : isK y = true) (r : Rep K G v y) : ∃ k, v = kV k ∧ k = keyOfP y := by
  cases y with
  | int i => exact ⟨.inl i, r, rfl⟩
  | str s => exact ⟨.inr s, r, rfl⟩
  | _ => cases h
theorem putK_keys (us : List (Key × V)) (k : Key) (v : V) : (putK us k v).map (·.1) = kAdd (us.map (·.1)) k := by
  unfold putK kAdd
  have e : ((us.map (·.1)).any fun x => decide (x = k)) = us.any fun kv => decide (kv.1 = k) := by
    rw [List.any_map]
    rfl
  rw [e]
  split
  · rw [List.map_map]
    refine List.map_congr_left fun u _ => ?_
    show (if u.1 = k then (u.1, v) else u).1 = u.1
    split <;> rfl
  · rw [List.map_append]
    rfl
section
variable {K : PySem.W.Frag} {π : Nat → Addr} {σ : St} {G H G1 H1 : Hp} {Γ Γ1 : Ev}
/-- the turns of a comprehension that makes keys -/
theorem dict_turns {J : It} {C : Hp → Prop} {vs ws : List Nat} {g : PV → Ev → Option Ev} {t : D Bool} {e : D PV} {σw : St} {Γw Γ2 : Ev} {ps ys : List PV} {Dd : Addr} {Q : VK} (hσ : σw = wipe σ vs) (hws : ∀ w ∈ ws, w ∈ vs)
    (E : ER K π G σw H Γw) (wk : Wk K J G C ps) (hC : ∀ H' G', Gr (Foot Γw σw) G H G' H' → C H') (hz : ps.length ≤ 1000000) (hD : H Dd = none) (ec : compL vs g t e ps Γw = some (ys, Γ2))
    (hk : ∀ y ∈ ys, isK y = true) (q : ∀ G' H' us, Ste K π σw G H Γw G' H' Γ2 → G' Dd = none → H' Dd = some (.dK us) → us.map (·.1) = kDed ys → Q (.ref Dd) H') :
    ∃ W : Nat → Nat → Hp → Prop, (∃ m, W 0 m (upd H Dd (.dK []))) ∧ ∀ i m H, W i m H →
      (J.stop i H ∧ Q (.ref Dd) H) ∨ (J.go i H ∧ ∃ Nx : Hp → Prop, (∀ H', Nx H' → ∃ m', m' < m ∧ W (i + 1) m' H') ∧ ∀ x H', J.yld i H x H' → tG K ws g x (wipe σ vs) H' fun σ2 H2 => wipe σ2 vs = wipe σ vs ∧ tB K t σ2 H2 fun b H3 =>
        if b = true then tV K e σ2 H3 fun y H4 => tC (.bl true) σ2 H4 fun z H5 => ∃ kvs k, y = kV k ∧ H5 Dd = some (.dK kvs) ∧ kvs.length < sizeLine ∧ Nx (upd H5 Dd (.dK (putK kvs k z))) else Nx H3) := by
  subst hσ
  obtain ⟨g0, s0, d0⟩ := gr_made (F := fun _ => False) (o := .dK []) E.sub hD
  refine ⟨fun i m H' => m = ps.length - i ∧ i ≤ ps.length ∧ ∃ (G' : Hp) (Γ' : Ev) (acc : List PV) (us : List (Key × V)) (zs : List PV), Ste K π (wipe σ vs) G H Γw G' H' Γ' ∧ G' Dd = none ∧ H' Dd = some (.dK us) ∧ us.map (·.1) = kDed acc ∧ acc.length ≤ i ∧ compL vs g t e (ps.drop i) Γ' = some (zs, Γ2) ∧ acc ++ zs = ys,
    ⟨ps.length, rfl, Nat.zero_le _, G, Γw, [], [], ys, .grow E g0 s0, d0, upd_same, rfl, Nat.le_refl _, ec, rfl⟩, ?_⟩
  rintro i m H' ⟨rfl, hi, G', Γ', acc, us, zs, S, gd, hd, hr, hacc, el, ea⟩
  have cH := hC H' G' S.g
  by_cases hlt : i < ps.length
  · refine .inr ⟨wk.go i H' hlt (S.g.g.trans S.e.sub) cH, ?_⟩
    rw [List.drop_eq_getElem_cons hlt] at el
    unfold compL at el
    refine ⟨fun H3 => ∃ (G3 : Hp) (Γ3 : Ev) (acc3 : List PV) (us3 : List (Key × V)) (zs3 : List PV), Ste K π (wipe σ vs) G H Γw G3 H3 Γ3 ∧ G3 Dd = none ∧ H3 Dd = some (.dK us3) ∧ us3.map (·.1) = kDed acc3 ∧ acc3.length ≤ i + 1 ∧ compL vs g t e (ps.drop (i + 1)) Γ3 = some (zs3, Γ2) ∧ acc3 ++ zs3 = ys,
      fun H3 ⟨G3, Γ3, acc3, us3, zs3, h⟩ => ⟨ps.length - (i + 1), by omega, rfl, hlt, G3, Γ3, acc3, us3, zs3, h⟩, fun x H3 hy => ?_⟩
    obtain ⟨G3, g3, s3, r3⟩ := wk.yld i H' x H3 ps[i] (List.getElem?_eq_getElem hlt) (S.g.g.trans S.e.sub) cH hy G' S.g.g S.e.sub
    have S3 := S.trans (.grow S.e g3 s3)
    have d3 : G3 Dd = none := g3.f Dd _ hd (fun z => z) gd
    have h3 : H3 Dd = some (.dK us) := g3.h Dd _ hd fun z => z
    cases eg : g ps[i] Γ' with
    | none => rw [eg] at el; cases el
    | some Γ4 =>
      rw [eg] at el
      refine ⟨π, G3, Γ', ps[i], Γ4, S3.e, r3, eg, fun σ4 T4 w4 => ?_⟩
      have hw := w4 vs hws
      have hww : wipe (wipe σ vs) vs = wipe σ vs := by
        have aux : ∀ us : List Nat, (∀ u ∈ us, u ∈ vs) → wipe (wipe σ us) vs = wipe σ vs := fun us => by
          induction us with
          | nil => intro _; rfl
          | cons u us ih =>
            intro h
            show wipe ((wipe σ us).set u none) vs = wipe σ vs
            rw [wipe_set (h u List.mem_cons_self)]
            exact ih fun w hw => h w (List.mem_cons_of_mem _ hw)
        exact aux vs fun _ h => h
      refine ⟨hw.trans hww, ?_⟩
      -- no slot of a target is an object
      have noAt : ∀ j k a, At Γ4 σ4 j k a → At Γ' (wipe σ vs) j k a := fun j k a h => by
        rcases T4.f j k a h with z | ⟨_, z⟩
        · exact z
        · obtain ⟨_, o, e⟩ := T4.e.foot h
          rw [z] at e
          cases e
      have footD : ∀ j k, ¬ At Γ4 σ4 j k Dd := fun j k z => by
        obtain ⟨_, o, e⟩ := E.foot (S.f j k Dd (noAt j k Dd z))
        rw [hD] at e
        cases e
      have toW : ∀ {G5 H5 : Hp} {Γ5 : Ev}, Ste K π σ4 G3 H3 Γ4 G5 H5 Γ5 → Ste K π (wipe σ vs) G3 H3 Γ' G5 H5 (wipeE Γ5 vs) := fun {G5 H5 Γ5} S5 => by
        refine ⟨?_, S5.g.mono fun a ⟨j, k, n, z⟩ => ⟨j, k, n, noAt j k a z⟩, fun j k a z => ?_⟩
        · have := S5.e.wiped vs
          rw [hw.trans hww] at this
          exact this
        · have z' : At (wipeE Γ5 vs) (wipe σ4 vs) j k a := by
            rw [hw.trans hww]
            exact z
          exact noAt j k a (S5.f j k a (At.wiped z').1)
      cases et : t Γ4 with
      | none => simp only [et] at el; cases el
      | some z =>
        obtain ⟨b, Γ5⟩ := z
        simp only [et] at el
        refine ⟨π, G3, Γ4, b, Γ5, T4.e, et, fun G5 H5 S5 => ?_⟩
        have d5 : G5 Dd = none := S5.g.f Dd _ h3 (fun ⟨j, k, n, z⟩ => footD j k z) d3
        have h5 : H5 Dd = some (.dK us) := S5.g.h Dd _ h3 fun ⟨j, k, n, z⟩ => footD j k z
        cases b with
        | false =>
          rw [if_neg Bool.false_ne_true] at el
          exact iteF ⟨G5, _, acc, us, zs, S3.trans (toW S5), d5, h5, hr, by omega, el, ea⟩
        | true =>
          rw [if_pos rfl] at el
          refine iteT ?_
          cases ee : e Γ5 with
          | none => simp only [ee] at el; cases el
          | some z =>
            obtain ⟨y, Γ6⟩ := z
            simp only [ee] at el
            refine ⟨π, G5, Γ5, y, Γ6, S5.e, ee, fun v G6 H6 S6 r6 => ?_⟩
            have S56 := S5.trans S6
            have d6 : G6 Dd = none := S56.g.f Dd _ h3 (fun ⟨j, k, n, z⟩ => footD j k z) d3
            have h6 : H6 Dd = some (.dK us) := S56.g.h Dd _ h3 fun ⟨j, k, n, z⟩ => footD j k z
            have lm := line_m
            have ll : us.length = (kDed acc).length := by rw [← hr, List.length_map]
            have l2 := kDed_len acc
            cases ec : compL vs g t e (ps.drop (i + 1)) (wipeE Γ6 vs) with
            | none => simp only [ec] at el; cases el
            | some z =>
              obtain ⟨zs', Γ7⟩ := z
              simp only [ec] at el
              cases el
              obtain ⟨k, ek, hk2⟩ := isK_kV (hk y (by rw [← ea]; simp)) r6
              refine ⟨us, k, ek, h6, by omega, ?_⟩
              have S7 := S3.trans (toW S56)
              obtain ⟨gw, sw⟩ := gr_write (o := .dK (putK us k (.bl true))) S7.e.sub d6 ⟨_, h6⟩
              refine ⟨G6, _, acc ++ [y], putK us k (.bl true), zs', ⟨S7.e.grow gw sw fun a j k z w => ?_, S7.g.trans gw fun a z => .inr (z ▸ hD), S7.f⟩, d6, upd_same, by rw [putK_keys, hr, hk2, kDed_add], by simp; omega, ec, by rw [List.append_assoc]; exact ea⟩
              subst w
              obtain ⟨_, o, e⟩ := E.foot (S7.f j k a z)
              rw [hD] at e
              cases e
  · have e : i = ps.length := by omega
    subst e
    rw [List.drop_length] at el
    cases el
    rw [List.append_nil] at ea
    subst ea
    exact .inl ⟨wk.stop H' (S.g.g.trans S.e.sub) cH, q G' H' us S gd hd hr⟩
end
def kPV : Key → PV
  | .inl i => .int i
  | .inr s => .str s
@[simp] def dListDc (vs : List Nat) (it : D (List PV)) (g : PV → Ev → Option Ev) (t : D Bool) (e : D PV) (Γ : Ev) : Option (Rs × Ev) := match it Γ with
  | some (ps, Γ1) => if fits ps.length = true then match compL vs g t e ps (wipeE Γ1 vs) with
    | some (ys, Γ2) => if ys.all isK = true then some (.new (.lst ((kDed ys).map kPV)), back Γ1 Γ2 vs) else none
    | none => none
    else none
  | none => none
theorem reps_keys {K : PySem.W.Frag} {G : Hp} : ∀ (ks : List Key), Reps K G (ks.map kV) (ks.map kPV)
  | [] => rfl
  | .inl i :: ks => ⟨_, _, rfl, rfl, reps_keys ks⟩
  | .inr i :: ks => ⟨_, _, rfl, rfl, reps_keys ks⟩
section
variable {X : Cx} {pos p dpos : Pos} {tg iter kx : Expr} {ifs : List Expr} {scope : Scope} {own : List (Str × Nat)} {it : D (List PV)} {g : PV → Ev → Option Ev} {ws : List Nat} {t : D Bool} {e : D PV}
theorem t_listDc (hws : ∀ w ∈ ws, w ∈ own.map (·.2)) {σ : St} {H : Hp} {Q : VK} (tt : tR X.K (dListDc (own.map (·.2)) it g t e) σ H Q) : tCB rListD (tCons (tDc (tI X.K it) (tG X.K ws g) (tB X.K t) (tV X.K e) (tC (.bl true)) (own.map (·.2))) tNil) σ H Q := by
  obtain ⟨π, G, Γ, r, Γ', E, ef, q⟩ := tt
  unfold dListDc at ef
  cases e1 : it Γ with
  | none => rw [e1] at ef; cases ef
  | some z =>
    obtain ⟨ps, Γ1⟩ := z
    rw [e1] at ef
    dsimp only at ef
    split at ef
    · rename_i hz
      have hz := of_fits hz
      cases e2 : compL (own.map (·.2)) g t e ps (wipeE Γ1 (own.map (·.2))) with
      | none => rw [e2] at ef; cases ef
      | some z =>
        obtain ⟨ys, Γ2⟩ := z
        rw [e2] at ef
        dsimp only at ef
        split at ef
        · rename_i hk
          cases ef
          refine ⟨π, G, Γ, ps, Γ1, E, e1, fun J G1 H1 S wk Dd hD => ?_⟩
          refine dict_turns (Q := fun x H2 => rListD [x] H2 Q) rfl hws (S.e.wiped _) wk (fun _ _ _ => trivial) hz hD e2 (List.all_eq_true.mp hk) fun G2 H2 us S2 gd hd hr => ?_
          have B := block_back (rs := own.map (·.2)) S.e (fun _ h => h) S2 (fun j k a z => ⟨k, (At.wiped z).1, (At.wiped z).2, .inl rfl⟩) (fun j k a z hj ⟨i, k', n, w⟩ => by
            obtain ⟨w1, w2⟩ := At.wiped w
            exact w2 (S.e.inj j i k k' a z w1 ▸ hj)) fun a ⟨i, k', n, w⟩ => ⟨i, k', n, (At.wiped w).1⟩
          refine ⟨Dd, us, rfl, hd, fun p hp => ?_⟩
          have ek : (us.map fun kv => kV kv.1) = (kDed ys).map kV := by
            rw [← hr, List.map_map]
            rfl
          rw [ek]
          exact new_list (S.trans B) (reps_keys _) q hp
        · cases ef
    · cases ef
theorem sr_listDc {j : Nat} {vpos : Pos} (hc : X.calm = true) (hN : X.N.Nodup) (hgl : Gl X "list") (hml : X.mg "list" = none) (hi : SI X tg iter it) (ok : blkC X.N X.env.scope scope own = true) (hws : ∀ w ∈ ws, w ∈ own.map (·.2))
    (hg : ∀ (s : Shared) (H : Hp) (C : Addr) (cl : List (Str × Addr)) (fp : List Addr), SG (X.blk s H scope (compEnvC scope cl C X.env) fp) tg ws g) (ht : ∀ (s : Shared) (H : Hp) (C : Addr) (cl : List (Str × Addr)) (fp : List Addr), SIf (X.blk s H scope (compEnvC scope cl C X.env) fp) ifs t)
    (he : ∀ (s : Shared) (H : Hp) (C : Addr) (cl : List (Str × Addr)) (fp : List Addr), SV (X.blk s H scope (compEnvC scope cl C X.env) fp) kx e) (hs : ∀ x, foldedSetIterable iter X.env x = pure x := by intro _; rfl)
    (h1 : starEach [.DictComp kx (.Constant (.bool true) j vpos) [⟨tg, iter, ifs, 0⟩] scope dpos] X.env = (false, eval (.DictComp kx (.Constant (.bool true) j vpos) [⟨tg, iter, ifs, 0⟩] scope dpos) X.env) :: starEach [] X.env := by rfl) (hpl : (backTo pos (starEach [] X.env)).any (·.1) = false := by rfl) :
    SR X (.Call (.Name "list" p) [.DictComp kx (.Constant (.bool true) j vpos) [⟨tg, iter, ifs, 0⟩] scope dpos] [] pos) (dListDc (own.map (·.2)) it g t e) :=
  (pe_callTy (call_list_dK hc) hgl hml (by decide +kernel) (pa_cons (pe_dc hc hN hi (blkOk_by ok) hg ht he (fun _ _ _ _ _ => pe_bl) hs) pa_nil h1) (by decide) (by decide) h1 hpl).imp fun σ H Q tt => t_listDc hws tt
end
/-! ### set(xs), a list of whole numbers -/
abbrev sObj0 (w : World) : Obj := { cls := .type "set", dict := none, data := .set #[] 0 (.fresh 0 0 (!w.params.followText "set-order")) }
section
variable {P : Program} {w : World} {A : Around} {E : Value → Shared → Prop} {s : Shared}
theorem set_of_list {l : Addr} {us : Array Value} (ns : List Int) {Q : Value → Shared → Prop} (hA : A.handled = none) (hl : s.heap.IsList l us) (hu : IntsAre us.toList ns) (hb : ns.length + 1 < scanBound)
    (k : ∀ (h' : Heap) (tk c : Nat), SetR w h' s.heap.objs.size (fun j => decide (j ∈ ns)) c → c ≤ ns.length → (∀ b o, s.heap.get? b = some o → h'.get? b = some o) → Q (.ref s.heap.objs.size) { s with heap := h', toks := tk }) : wpAny (model P w) A (call (.type "set") [.ref l]) Q E s := by
  have usz : us.size = ns.length := by
    rw [← Array.length_toList]
    exact IntsAre.length hu
  obtain ⟨c1, tl1, mr1⟩ := F.called_set.mro
  have md := F.called_set.made
  have sb := F.called_set.sub
  refine wpAny_call (codeAny_of_tree (show wpAny _ _ (callAny (.type "set") _) _ _ _ from ?_))
  refine wpAny_pure (And.intro (Code.quiet_builtin _ (by decide +kernel)) (codeAny_builtin F.entry_type_call ?_))
  rw [Around.under_plain (weight_type_call_type "set" [Value.ref l] []) rfl]
  have nt := F.called_set.notType
  have cc := F.called_set.canCreate
  have tc := F.typeCall_set_1 (Value.ref l)
  repeat any_goals first | assumption | wp_step
  refine codeAny_mono (code_set_led1 (Value.ref l) (E := E) (Q₁ := fun ob z => ob = .ref s.heap.objs.size ∧ z = { s with heap := s.heap.push (sObj0 w) }) (And.intro rfl rfl)) fun r z hr => ?_
  cases r with
  | error _ => exact hr
  | ok fl =>
    cases fl with
    | ret ob =>
      obtain ⟨rfl, rfl⟩ := hr
      have g0 : (s.heap.push (sObj0 w)).get? s.heap.objs.size = some (sObj0 w) := Heap.get?_push_size _ rfl
      have ty : Shared.TypeIs { s with heap := s.heap.push (sObj0 w) } (.ref s.heap.objs.size) "set" := ⟨_, g0, rfl⟩
      have lk := F.called_set.init.lookup
      have bn := F.called_set.init.bind (Value.ref s.heap.objs.size)
      repeat any_goals first | assumption | wp_step
      refine codeAny_mono (codeAny_call_builtin (R := wants (fun r z => r = .none ∧ ∃ h' tk c, z = { s with heap := h', toks := tk } ∧ SetR w h' s.heap.objs.size (fun j => decide (j ∈ ns)) c ∧ c ≤ ns.length ∧ (∀ b o, s.heap.get? b = some o → h'.get? b = some o)) E) F.called_set.init.plain F.entry_set_init (check_set_init_1 ty ?_)) fun r2 z2 hr2 => ?_
      · obtain ⟨ol, l1, l2, l3, l4⟩ := hl
        obtain ⟨oc, od, odt, os⟩ := ol
        simp only at l2 l4
        subst l2 l4
        have l5 : (s.heap.push (sObj0 w)).get? l = some { cls := .type "list", dict := od, data := .seq us l3, slots := os } := Heap.get?_push_of_some _ l1
        have y1 := F.sub_list_set
        have y2 := F.sub_list_frozenset
        have y3 : (Value.type "list" == Value.type "dict") = false := by decide
        have l6 : (s.heap.push (sObj0 w)).IsList l us := ⟨_, l5, rfl, l3, rfl⟩
        unfold Builtin.«set.__init__» noKeywords
        unfold Builtin.Frozenset.updateFrom
        generalize hPI : pyIter = PI
        wp_walk
        subst hPI
        refine wpAny_pyIter_list l6 (wpAny_bind (wpAny_runValue ?_))
        have ll : l < s.heap.objs.size := Heap.lt_size l1
        have h3 : A.in1.in1.in1.handled = none := by simp [hA]
        have sz : (s.heap.push (sObj0 w)).objs.size = s.heap.objs.size + 1 := Heap.size_push ..
        have ne : l ≠ (s.heap.push (sObj0 w)).objs.size := by
          rw [sz]
          exact Nat.ne_of_lt (Nat.lt_succ_of_lt ll)
        have nf : s.heap.objs.size ∉ [(s.heap.push (sObj0 w)).objs.size, l] := by
          rw [sz]
          intro hm
          rcases List.mem_cons.mp hm with e | e
          · exact absurd e (Nat.ne_of_lt (Nat.lt_succ_self _))
          · exact absurd (List.mem_singleton.mp e) (Nat.ne_of_gt ll)
        have hv : ∀ (i : Nat) (v : Value), us[i]? = some v → ∃ k t, ns[i]? = some k ∧ v = .int k t := fun i v hv => by
          have hi : i < ns.length := usz ▸ (Array.getElem?_eq_some_iff.mp hv).1
          obtain ⟨t, e⟩ := IntsAre.int_at hu i v (Array.getElem?_toList ▸ hv)
          refine ⟨ns[i], t, List.getElem?_eq_getElem hi, e.trans ?_⟩
          rw [List.getD_eq_getElem?_getD, List.getElem?_eq_getElem hi]
          rfl
        refine set_update_ints ((Walks.list h3 _ l ne us).toS) s.heap.objs.size nf ns usz hb hv (us.size - 0) 0 _ (by omega) (Nat.zero_le _) ⟨⟨_, Heap.get?_push_size _ rfl, rfl, rfl⟩, l6.push _⟩ ?_ ?_
        · exact ⟨0, Nat.le_refl 0, setR_new_at (Heap.get?_push_of_some _ g0)⟩
        · intro z3 c3 mv hc3 hS3
          obtain ⟨h3, g3, d3, t3, o3⟩ := z3
          cases (show g3 = s.gens from mv.gens)
          cases (show d3 = s.drawn from mv.drawn)
          cases (show o3 = s.os from mv.os)
          show wpAny _ _ _ _ _ _
          refine wpAny_pure ?_
          show wpAny _ _ (PySem.ret Value.none) _ _ _
          rw [usz] at hc3
          refine wpAny_pure ⟨rfl, h3, t3, c3, rfl, hS3, hc3, fun b o e => ?_⟩
          have b0 : b < s.heap.objs.size := Heap.lt_size e
          refine mv.heap b o ?_ (Heap.get?_push_of_some _ (Heap.get?_push_of_some _ e))
          rw [sz]
          intro hm
          rcases List.mem_cons.mp hm with e | e
          · exact absurd e (Nat.ne_of_lt b0)
          · exact absurd (List.mem_singleton.mp e) (Nat.ne_of_lt (Nat.lt_succ_of_lt b0))
      · cases r2 with
        | error _ => exact hr2
        | ok fl2 =>
          cases fl2 with
          | ret _ =>
            obtain ⟨rfl, h', tk, c, rfl, p1, p2, p3⟩ := hr2
            repeat any_goals first | assumption | wp_step
            exact k _ _ _ p1 p2 p3
          | _ => exact hr2.elim
    | _ => exact hr.elim
end
/-! ### sorted(set(xs)) -/
section
variable {X : Cx}
theorem cr_setL (hc : X.calm = true) : CallR X (.type "set") (fun xs H Q => ∃ (l : Addr) (ns : List Int), xs = [V.ref l] ∧ SqL X.K H l (ns.map V.int) ∧ ns.length < 64 ∧ ∀ q n, H q = none → n ≤ ns.length → Q (.ref q) (upd H q (SetO X.w q (fun j => decide (j ∈ ns)) n))) := by
  intro pins s σ H xs us Q I r h
  obtain ⟨l, ns, rfl, hl, hn, q⟩ := h
  rw [Vals.ref1 r]
  obtain ⟨its, rv, pl, hz⟩ := I.list hl
  refine set_of_list (P := X.prog) (w := X.w) ns (I.ok.hd hc) pl.isList (by simpa using ints_of_vals rv) (by unfold scanBound; omega) fun h' tk c R hcn k => ?_
  exact ⟨.ref s.heap.objs.size, _, I.laid (t' := tk) k (Nat.le_refl _) (setO_new R), rfl, q _ c (I.hok.fresh (Nat.le_refl _)) hcn⟩
end
def addI (ks : List Int) (k : Int) : List Int := if k ∈ ks then ks else ks ++ [k]
def dedI (ns : List Int) : List Int := ns.foldl addI []
theorem dedI_aux : ∀ (ns ks : List Int), ks.Nodup → (ns.foldl addI ks).Nodup ∧ ∀ j, j ∈ ns.foldl addI ks ↔ j ∈ ks ∨ j ∈ ns
  | [], ks, h => ⟨h, fun j => by simp⟩
  | n :: ns, ks, h => by
    have h1 : (addI ks n).Nodup := by
      unfold addI
      split
      · exact h
      · rename_i hn
        rw [List.nodup_append]
        refine ⟨h, by simp, fun a ha b hb => ?_⟩
        rw [List.mem_singleton] at hb
        subst hb
        exact fun e => hn (e ▸ ha)
    obtain ⟨a, b⟩ := dedI_aux ns (addI ks n) h1
    refine ⟨a, fun j => ?_⟩
    rw [List.foldl_cons, b j]
    unfold addI
    split
    · rename_i hn
      rw [List.mem_cons]
      constructor
      · rintro (z | z)
        · exact .inl z
        · exact .inr (.inr z)
      · rintro (z | z | z)
        · exact .inl z
        · exact .inl (z ▸ hn)
        · exact .inr z
    · rw [List.mem_append, List.mem_singleton, List.mem_cons, or_assoc]
theorem dedI_nodup (ns : List Int) : (dedI ns).Nodup := (dedI_aux ns [] List.nodup_nil).1
theorem dedI_mem (ns : List Int) (j : Int) : j ∈ dedI ns ↔ j ∈ ns := by
  have := (dedI_aux ns [] List.nodup_nil).2 j
  simpa [dedI] using this
theorem sortSet_eq {ns ns' : List Int} (h1 : ns'.Pairwise (· < ·)) (h2 : ∀ k, k ∈ ns' ↔ k ∈ ns) : ns' = isort (dedI ns) := by
  refine isort_eq ?_ (h1.imp fun h => Int.le_of_lt h)
  have hn : ns'.Nodup := h1.imp fun h => Int.ne_of_lt h
  exact (List.perm_ext_iff_of_nodup hn (dedI_nodup ns)).mpr fun k => (h2 k).trans (dedI_mem ns k).symm
def few (n : Nat) : Bool := hide (fun n : Nat => n < 64) n
theorem few_of {n : Nat} (h : n < 64) : few n = true := hide_of h
theorem of_few {n : Nat} (h : few n = true) : n < 64 := of_hide (P := fun n : Nat => n < 64) h
def gSortSet : PV → Option Rs
  | .lst xs => (pInts xs).bind fun ns => if few ns.length = true then some (.new (.lst ((isort (dedI ns)).map PV.int))) else none
  | _ => none
section
variable {X : Cx} {pos p p2 pos2 : Pos} {e : Expr} {f : D PV}
theorem sr_sortedSet (hc : X.calm = true) (hg : Gl X "sorted") (hm : X.mg "sorted" = none) (hg2 : Gl X "set") (hm2 : X.mg "set" = none) (ha : SP X e f) (he : starEach [e] X.env = (false, eval e X.env) :: starEach [] X.env := by rfl) (hpl2 : (backTo pos2 (starEach [] X.env)).any (·.1) = false := by rfl)
    (he1 : starEach [.Call (.Name "set" p2) [e] [] pos2] X.env = (false, eval (.Call (.Name "set" p2) [e] [] pos2) X.env) :: starEach [] X.env := by rfl) (hpl : (backTo pos (starEach [] X.env)).any (·.1) = false := by rfl) :
    SR X (.Call (.Name "sorted" p) [.Call (.Name "set" p2) [e] [] pos2] [] pos) (dR1 gSortSet f) :=
  (pe_callB (cr_sortedSet hc) hg hm (by decide +kernel) (pa_cons (pe_callTy (cr_setL hc) hg2 hm2 (by decide +kernel) (pa_cons ha pa_nil he) (by decide) (by decide) he hpl2) pa_nil he1) (by decide) (by decide) he1 hpl).imp fun σ H Q ⟨π, G, Γ, w, Γ', E, ef, q⟩ => by
    obtain ⟨x, Γ1, e1, ef⟩ := bnd_some ef
    obtain ⟨e3, z⟩ := opt_some ef
    subst z
    refine ⟨π, G, Γ, x, _, E, e1, fun u G1 H1 S1 r1 => ?_⟩
    unfold gSortSet at e3
    split at e3
    · obtain ⟨ns, e4, e5⟩ := Option.bind_eq_some_iff.mp e3
      split at e5
      · rename_i hz
        have hz := of_few hz
        cases e5
        rw [ints_eq e4] at r1
        obtain ⟨a, vs, rfl, q1, q2⟩ := pk_lst S1.e.sub r1
        rw [reps_ints_of q2] at q1
        refine ⟨a, ns, rfl, SqL.of q1, hz, fun d n hd hn => ?_⟩
        obtain ⟨g, s, dn⟩ := gr_made (F := fun _ => False) (o := SetO X.w d (fun j => decide (j ∈ ns)) n) S1.e.sub hd
        refine ⟨d, _, n, rfl, upd_same, by omega, fun ns' p h1 h2 h3 hp => ?_⟩
        rw [sortSet_eq h1 fun k => (h2 k).trans decide_eq_true_iff]
        exact new_list (S1.trans (.grow S1.e g s)) (reps_ints _) q hp
      · cases e5
    · cases e3
end
/-! ### lemmas on denotations: what loops and comprehensions give -/
@[simp] theorem fits_0 : fits 0 = true := fits_of (by decide)
@[simp] theorem fits_1 : fits 1 = true := fits_of (by decide)
@[simp] theorem fits_2 : fits 2 = true := fits_of (by decide)
@[simp] theorem fits_3 : fits 3 = true := fits_of (by decide)
@[simp] theorem fits_4 : fits 4 = true := fits_of (by decide)
@[simp] theorem fits_5 : fits 5 = true := fits_of (by decide)
@[simp] theorem fits_6 : fits 6 = true := fits_of (by decide)
@[simp] theorem fits_7 : fits 7 = true := fits_of (by decide)
@[simp] theorem fits_8 : fits 8 = true := fits_of (by decide)
@[simp] theorem fits_9 : fits 9 = true := fits_of (by decide)
@[simp] theorem fits_10 : fits 10 = true := fits_of (by decide)
@[simp] theorem fits_11 : fits 11 = true := fits_of (by decide)
@[simp] theorem fits_12 : fits 12 = true := fits_of (by decide)
@[simp] theorem fits_13 : fits 13 = true := fits_of (by decide)
@[simp] theorem fits_14 : fits 14 = true := fits_of (by decide)
@[simp] theorem fits_15 : fits 15 = true := fits_of (by decide)
@[simp] theorem fits_16 : fits 16 = true := fits_of (by decide)
@[simp] theorem fits_17 : fits 17 = true := fits_of (by decide)
@[simp] theorem fits_18 : fits 18 = true := fits_of (by decide)
@[simp] theorem fits_19 : fits 19 = true := fits_of (by decide)
@[simp] theorem fits_20 : fits 20 = true := fits_of (by decide)
theorem itR1_nat {n : Nat} (h : n ≤ 1000000) : itR1 (.int n) = some (rgP 0 n) := by
  unfold itR1
  exact if_pos (hide_of (by omega))
theorem itR1_int {j : Int} {n : Nat} (e : j = n) (h : n ≤ 1000000) : itR1 (.int j) = some (rgP 0 n) := e ▸ itR1_nat h
theorem itR2_int {i j : Int} {n : Nat} (h : -1000000 ≤ i) (h1 : i ≤ 1000000) (e : j = i + n) (h2 : n ≤ 1000000) : itR2 (.int i) (.int j) = some (rgP i n) := by
  subst e
  unfold itR2
  have : (i + (n : Int) - i).toNat = n := by omega
  dsimp only
  rw [if_pos ⟨hide_of (by omega), hide_of (by omega)⟩, this]
@[simp] theorem pv_val (p : PV) : (Rs.val p).pv = p := rfl
@[simp] theorem pv_new (p : PV) : (Rs.new p).pv = p := rfl
theorem sem0_rt {d : DS} {np n : Nat} {qs : List PV} {r : Rs} {Γ' : Ev} (hn : qs.length = np) (h : d (qs.map Sl.val ++ List.replicate (n - qs.length) .un) = some (.rt r Γ')) : sem0 d np n qs = some r := by
  unfold sem0 runD
  rw [if_pos hn, h]
theorem sem1_rt {d : DS} {np n : Nat} {c c' : PV} {qs : List PV} {r : Rs} {Γ' : Ev} (hn : qs.length + 1 = np) (h : d (.mu .par c :: (qs.map Sl.val ++ List.replicate (n - (qs.length + 1)) .un)) = some (.rt r (.mu .par c' :: Γ'))) : sem1 d np n c qs = some (r, c') := by
  unfold sem1 runD1
  rw [if_pos hn, h]
  rfl
theorem dSeq_nx {d e : DS} {Γ Γ1 : Ev} (h : d Γ = some (.nx Γ1)) : dSeq d e Γ = e Γ1 := by
  unfold dSeq
  rw [h]
theorem dSeq_rt {d e : DS} {Γ Γ1 : Ev} {r : Rs} (h : d Γ = some (.rt r Γ1)) : dSeq d e Γ = some (.rt r Γ1) := by
  unfold dSeq
  rw [h]
theorem dFor_of {it : D (List PV)} {g : PV → Ev → Option Ev} {d : DS} {Γ Γ1 : Ev} {xs : List PV} (h : it Γ = some (xs, Γ1)) : dFor it g d Γ = loopD (dTurn g d) xs Γ1 := by
  unfold dFor
  rw [h]
theorem ixN_nat {n i : Nat} (h : i < n) : ixN n (i : Int) = some i := by
  unfold ixN
  rw [if_pos (by omega), if_pos (by omega)]
  rfl
theorem atI_of {α : Type} {xs : List α} {i : Nat} {x : α} (h : xs[i]? = some x) : atI xs (i : Int) = some x := by
  unfold atI
  rw [ixN_nat (List.getElem?_eq_some_iff.mp h).1]
  exact h
theorem atI_lt {α : Type} {xs : List α} {i : Nat} (h : i < xs.length) : atI xs (i : Int) = some xs[i] := atI_of (List.getElem?_eq_getElem h)
theorem atI_map {α β : Type} {f : α → β} {xs : List α} {i : Int} : atI (xs.map f) i = (atI xs i).map f := by
  unfold atI
  rw [List.length_map]
  cases ixN xs.length i with
  | none => rfl
  | some j => simp
/-- over each item the same slots, each item kept -/
theorem compL_map {vs : List Nat} {g : PV → Ev → Option Ev} {t : D Bool} {e : D PV} (f : PV → PV) (Γ : Ev) : ∀ (xs : List PV), (∀ x ∈ xs, ∃ Γ1 Γ2 Γ3, g x Γ = some Γ1 ∧ t Γ1 = some (true, Γ2) ∧ e Γ2 = some (f x, Γ3) ∧ wipeE Γ3 vs = Γ) → compL vs g t e xs Γ = some (xs.map f, Γ)
  | [], _ => rfl
  | x :: xs, h => by
    obtain ⟨Γ1, Γ2, Γ3, h1, h2, h3, h4⟩ := h x List.mem_cons_self
    unfold compL
    rw [h1]
    dsimp only
    rw [h2]
    dsimp only
    rw [if_pos rfl, h3]
    dsimp only
    rw [h4, compL_map f Γ xs fun y hy => h y (List.mem_cons_of_mem _ hy)]
    rfl
/-- .. some items dropped -/
theorem compL_filter {vs : List Nat} {g : PV → Ev → Option Ev} {t : D Bool} {e : D PV} (p : PV → Bool) (f : PV → PV) (Γ : Ev) : ∀ (xs : List PV), (∀ x ∈ xs, ∃ Γ1 Γ2, g x Γ = some Γ1 ∧ t Γ1 = some (p x, Γ2) ∧ (p x = true → ∃ Γ3, e Γ2 = some (f x, Γ3) ∧ wipeE Γ3 vs = Γ) ∧ (p x = false → wipeE Γ2 vs = Γ)) → compL vs g t e xs Γ = some ((xs.filter p).map f, Γ)
  | [], _ => rfl
  | x :: xs, h => by
    obtain ⟨Γ1, Γ2, h1, h2, h3, h4⟩ := h x List.mem_cons_self
    have ih := compL_filter p f Γ xs fun y hy => h y (List.mem_cons_of_mem _ hy)
    unfold compL
    rw [h1]
    dsimp only
    rw [h2]
    dsimp only
    cases hp : p x with
    | true =>
      obtain ⟨Γ3, h5, h6⟩ := h3 hp
      rw [if_pos rfl, h5]
      dsimp only
      rw [h6, ih, List.filter_cons, hp]
      rfl
    | false =>
      rw [if_neg Bool.false_ne_true, h4 hp, ih, List.filter_cons, hp]
      rfl
/-- .. with a state that goes along -/
theorem compL_state {S : Type} {vs : List Nat} {g : PV → Ev → Option Ev} {t : D Bool} {e : D PV} (env : S → Ev) (f : S → PV → PV × S) (I : S → Prop) : ∀ (xs : List PV) (s : S), I s → (∀ x ∈ xs, ∀ s, I s → I (f s x).2 ∧ ∃ Γ1 Γ2 Γ3, g x (env s) = some Γ1 ∧ t Γ1 = some (true, Γ2) ∧ e Γ2 = some ((f s x).1, Γ3) ∧ wipeE Γ3 vs = env (f s x).2) →
    ∃ ys s', compL vs g t e xs (env s) = some (ys, env s') ∧ I s' ∧ ys.length = xs.length ∧ ∀ y ∈ ys, ∃ x ∈ xs, ∃ s, I s ∧ y = (f s x).1
  | [], s, i, _ => ⟨[], s, rfl, i, rfl, fun _ h => by cases h⟩
  | x :: xs, s, i, h => by
    obtain ⟨i2, Γ1, Γ2, Γ3, h1, h2, h3, h4⟩ := h x List.mem_cons_self s i
    obtain ⟨ys, s', h5, h6, h7, h8⟩ := compL_state env f I xs (f s x).2 i2 fun y hy => h y (List.mem_cons_of_mem _ hy)
    refine ⟨(f s x).1 :: ys, s', ?_, h6, by simp [h7], fun y hy => ?_⟩
    · unfold compL
      rw [h1]
      dsimp only
      rw [h2]
      dsimp only
      rw [if_pos rfl, h3]
      dsimp only
      rw [h4, h5]
    · rcases List.mem_cons.mp hy with rfl | hy
      · exact ⟨x, List.mem_cons_self, s, i, rfl⟩
      · obtain ⟨x', hx, s2, hs, e⟩ := h8 y hy
        exact ⟨x', List.mem_cons_of_mem _ hx, s2, hs, e⟩
/-- a loop whose turns all go on: the slots told by a state -/
theorem loopD_fold {S : Type} {step : PV → DS} (env : S → Ev) (f : S → PV → S) (I : S → Prop) : ∀ (xs : List PV) (s : S), I s → (∀ x ∈ xs, ∀ s, I s → I (f s x) ∧ (step x (env s) = some (.nx (env (f s x))) ∨ step x (env s) = some (.ct (env (f s x))))) →
    loopD step xs (env s) = some (.nx (env (xs.foldl f s))) ∧ I (xs.foldl f s)
  | [], s, i, _ => ⟨rfl, i⟩
  | x :: xs, s, i, h => by
    obtain ⟨i2, h1⟩ := h x List.mem_cons_self s i
    obtain ⟨h3, h4⟩ := loopD_fold env f I xs (f s x) i2 fun y hy => h y (List.mem_cons_of_mem _ hy)
    refine ⟨?_, h4⟩
    unfold loopD
    rcases h1 with h1 | h1
    · rw [h1]
      exact h3
    · rw [h1]
      exact h3
/-- .. by an invariant of the slots over the number of turns -/
theorem loopD_inv {step : PV → DS} (I : Nat → Ev → Prop) : ∀ (xs : List PV) (k : Nat) (Γ : Ev), I k Γ → (∀ i x Γ, xs[i]? = some x → I (k + i) Γ → ∃ Γ', (step x Γ = some (.nx Γ') ∨ step x Γ = some (.ct Γ')) ∧ I (k + i + 1) Γ') → ∃ Γ', loopD step xs Γ = some (.nx Γ') ∧ I (k + xs.length) Γ'
  | [], k, Γ, i, _ => ⟨Γ, rfl, i⟩
  | x :: xs, k, Γ, i, h => by
    obtain ⟨Γ1, h1, i1⟩ := h 0 x Γ rfl i
    obtain ⟨Γ2, h2, i2⟩ := loopD_inv I xs (k + 1) Γ1 i1 fun j y Γ' hy hj => by
      have := h (j + 1) y Γ' hy (by rw [show k + (j + 1) = k + 1 + j by omega]; exact hj)
      rw [show k + (j + 1) + 1 = k + 1 + j + 1 by omega] at this
      exact this
    refine ⟨Γ2, ?_, by rw [List.length_cons, show k + (xs.length + 1) = k + 1 + xs.length by omega]; exact i2⟩
    unfold loopD
    rcases h1 with h1 | h1
    · rw [h1]
      exact h2
    · rw [h1]
      exact h2
theorem rgP_length (lo : Int) (n : Nat) : (rgP lo n).length = n := by
  unfold rgP
  simp
theorem rgP_mem {lo : Int} {n : Nat} {x : PV} (h : x ∈ rgP lo n) : ∃ i : Nat, i < n ∧ x = .int (lo + i) := by
  unfold rgP at h
  obtain ⟨i, hi, e⟩ := List.mem_map.mp h
  exact ⟨i, List.mem_range.mp hi, e.symm⟩
theorem rgP0_mem {n : Nat} {x : PV} (h : x ∈ rgP 0 n) : ∃ i : Nat, i < n ∧ x = .int i := by
  obtain ⟨i, h1, h2⟩ := rgP_mem h
  exact ⟨i, h1, by rw [h2, Int.zero_add]⟩
theorem rgP_get {lo : Int} {n i : Nat} {x : PV} (h : (rgP lo n)[i]? = some x) : i < n ∧ x = .int (lo + i) := by
  have hi : i < n := by
    have := (List.getElem?_eq_some_iff.mp h).1
    rwa [rgP_length] at this
  unfold rgP at h
  rw [List.getElem?_map, List.getElem?_range hi] at h
  exact ⟨hi, (Option.some.inj h).symm⟩
theorem gIn_false {ys : List PV} (h : ∀ y ∈ ys, y = .bl true) : gIn (.bl false) (.lst ys) = some false := by
  have h1 : ys.all pflat = true := List.all_eq_true.mpr fun y hy => by rw [h y hy]; rfl
  have h2 : (ys.any fun q => pfEq q (.bl false)) = false := by
    rw [List.any_eq_false]
    intro y hy
    rw [h y hy]
    decide
  show (if (pflat (.bl false) && ys.all pflat) = true then some (ys.any fun q => pfEq q (.bl false)) else none) = some false
  rw [h1, h2]
  rfl
/-- a value that _law_same can compare within n calls -/
def fine : Nat → PV → Prop
  | 0, _ => False
  | _ + 1, .non => True
  | _ + 1, .bl _ => True
  | _ + 1, .int _ => True
  | _ + 1, .str s => PyData.strOk s = true
  | n + 1, .tup xs => xs.length ≤ 1000000 ∧ ∀ x ∈ xs, fine n x
  | n + 1, .lst xs => xs.length ≤ 1000000 ∧ ∀ x ∈ xs, fine n x
  | _ + 1, _ => False
@[simp] theorem shp_int (i : Int) : shp (.int i) = true := rfl
@[simp] theorem shp_bl (i : Bool) : shp (.bl i) = true := rfl
@[simp] theorem shp_non : shp .non = true := rfl
theorem shp_str {s : Str} (h : PyData.strOk s = true) : shp (.str s) = true := by
  unfold shp SeqAt.shaped
  simp [toPD, PyData.canLay0, PyData.depth, h]
@[simp] theorem pvEq_int (i j : Int) : pvEq (.int i) (.int j) = (i == j) := rfl
@[simp] theorem pvEq_bl (i j : Bool) : pvEq (.bl i) (.bl j) = (i == j) := rfl
@[simp] theorem pvEq_non : pvEq .non .non = true := rfl
@[simp] theorem pvEq_str (i j : Str) : pvEq (.str i) (.str j) = (i == j) := rfl
/-! ### the denotations of the defs -/
/-- law_take(draws, many): slots draws many -/
def d_law_take : DS :=
  dSeq (dIfS (dTr (dOp gEq (dUn gLen (dPk 0)) (dInt 0))) (dRt (vl (dInt 0))) (dSkip))
        (dRt (vl (dOp gMod (dUn gInt (dMt gPop 0 dNil)) (dNm 1))))
def m_law_take : PV → List PV → Option (Rs × PV) := sem1 d_law_take 2 2
/-- law_pick(draws, row): slots draws row -/
def d_law_pick : DS :=
  dRt (vl (dIxN 1 (fz (dC1 (m_law_take) 0 (dCons (dUn gLen (dPk 1)) (dNil))))))
def m_law_pick : PV → List PV → Option (Rs × PV) := sem1 d_law_pick 2 2
/-- law_base(draws, most, doors, words): slots draws most doors words many told k row j goal -/
def d_law_base : DS :=
  dSeq (dSet 4 (vl (dOp gAdd (dInt 1) (fz (dC1 (m_law_take) 0 (dCons (dNm 1) (dNil)))))))
        (dSeq (dSet 5 (dLst (dNil)))
        (dSeq (dFor (dIt itR1 (dNm 4)) (gN 6) (dSeq (dSet 7 (dLst (dNil)))
        (dSeq (dFor (dIt itR1 (dNm 2)) (gN 8) (dSeq (dSet 9 (dC1 (m_law_take) 0 (dCons (dNm 4) (dNil))))
        (dEx (dMt gAppend 7 (dCons (dOp gIx (fz (dLst (dCons (dNm 9) (dCons (dNon) (dNil))))) (dUn gInt (dOp gEq (fz (dC1 (m_law_take) 0 (dCons (dInt 8) (dNil)))) (dInt 0)))) (dNil))))))
        (dEx (dMt gAppend 5 (dCons (dTup (dCons (fz (dC1 (m_law_pick) 0 (dCons (dNm 3) (dNil)))) (dCons (dUn gTupOf (dPk 7)) (dNil)))) (dNil)))))))
        (dRt (vl (dUn gTupOf (dPk 5))))))
def m_law_base : PV → List PV → Option (Rs × PV) := sem1 d_law_base 4 10
/-- law_goal(town, place, door): slots town place door doors -/
def d_law_goal : DS :=
  dSeq (dSet 3 (vl (dOp gIx (dIxN 0 (dNm 1)) (dInt 1))))
        (dSeq (dIfS (dBOr (dTr (dOp gLt (dNm 2) (dInt 0))) (dTr (dOp gGe (dNm 2) (dUn gLen (dPk 3))))) (dRt (vl (dNon))) (dSkip))
        (dRt (vl (dIxN 3 (dNm 2)))))
def m_law_goal : List PV → Option Rs := sem0 d_law_goal 3 4
/-- law_sight(town, place): slots town place goal -/
def d_law_sight : DS :=
  dRt (vl (dTup (dCons (dOp gIx (dIxN 0 (dNm 1)) (dInt 0)) (dCons (dUn gTupOf (fz (dComp [2] (dIt itP (dOp gIx (dIxN 0 (dNm 1)) (dInt 1))) (gN 2) (dYes) (dUn gInt (dNotN (dPk 2)))))) (dNil)))))
def m_law_sight : List PV → Option Rs := sem0 d_law_sight 2 3
/-- law_behind_all(town, places, door, sight): slots town places door sight goals place k -/
def d_law_behind_all : DS :=
  dSeq (dSet 4 (dComp [5] (dIt itP (dNm 1)) (gN 5) (dYes) (fz (dC0 (m_law_goal) (dCons (dNm 0) (dCons (dNm 5) (dCons (dNm 2) (dNil))))))))
        (dRt (vl (dUn gTupOf (fz (dComp [6] (dIt itR1 (dUn gLen (dPk 0))) (gN 6) (dBAnd (dTr (dIn (dNm 6) (dPk 4))) (dTr (dOp gEq (fz (dC0 (m_law_sight) (dCons (dNm 0) (dCons (dNm 6) (dNil))))) (dNm 3)))) (dNm 6))))))
def m_law_behind_all : List PV → Option Rs := sem0 d_law_behind_all 4 7
/-- law_draws(script, many): slots script many cells left draws k place cell mixed -/
def d_law_draws : DS :=
  dSeq (dSet 2 (dComp [7] (dIt itP (fz (dSlN 0 (dPn) (dPt (dInt 63))))) (gN 7) (dYes) (dOp gMod (dUn gInt (dPk 7)) (dOp gShl (dInt 1) (dInt 7200)))))
        (dSeq (dIfS (dTr (dOp gEq (dUn gLen (dPk 2)) (dInt 0))) (dEx (dMt gAppend 2 (dCons (dInt 0) (dNil)))) (dSkip))
        (dSeq (dSet 3 (dR1 gLstOf (dPk 2)))
        (dSeq (dSet 4 (dLst (dNil)))
        (dSeq (dFor (dIt itR1 (dNm 1)) (gN 5) (dSeq (dSet 6 (vl (dOp gMod (dUn gInt (dPk 5)) (dUn gLen (dPk 2)))))
        (dIfS (dBAnd (dTr (dOp gGe (dIxN 2 (dNm 6)) (dOp gPow (dInt 10) (dInt 18)))) (dTr (dOp gGt (dIxN 3 (dNm 6)) (dInt 0)))) (dSeq (dEx (dMt gAppend 4 (dCons (dOp gMod (dUn gInt (dIxN 3 (dNm 6))) (dInt 1000)) (dNil))))
        (dSub 3 (dOp gDiv (dIxN 3 (dNm 6)) (dInt 1000)) (dNm 6))) (dSeq (dSet 8 (vl (dOp gMod (dUn gInt (dOp gAdd (dOp gAdd (dOp gMul (dIxN 2 (dNm 6)) (dInt 48271)) (dOp gMul (dNm 5) (dInt 69621))) (dInt 11))) (dInt 2147483647))))
        (dEx (dMt gAppend 4 (dCons (dOp gMod (dUn gInt (dOp gAdd (dOp gAdd (dOp gMul (dNm 8) (dNm 8)) (dOp gMul (dInt 3) (dNm 8))) (dNm 5))) (dInt 1000003)) (dNil))))))))
        (dSeq (dEx (dMt gReverse 4 dNil))
        (dRtN 4))))))
def m_law_draws : List PV → Option Rs := sem0 d_law_draws 2 9
/-- law_shuffled(draws, row): slots draws row left told k -/
def d_law_shuffled : DS :=
  dSeq (dSet 2 (dR1 gLstOf (dPk 1)))
        (dSeq (dSet 3 (dLst (dNil)))
        (dSeq (dFor (dIt itR1 (dUn gLen (dPk 2))) (gN 4) (dEx (dMt gAppend 3 (dCons (dMt gPopAt 2 (dCons (fz (dC1 (m_law_take) 0 (dCons (dUn gLen (dPk 2)) (dNil)))) (dNil))) (dNil)))))
        (dRtN 3)))
def m_law_shuffled : PV → List PV → Option (Rs × PV) := sem1 d_law_shuffled 2 5
/-- law_lift(draws, town, most): slots draws town most cover k told place row goal -/
def d_law_lift : DS :=
  dSeq (dSet 3 (dLRg1 (dUn gLen (dPk 1))))
        (dSeq (dFor (dIt itR1 (dOp gMul (dInt 2) (dUn gLen (dPk 1)))) (gN 4) (dIfS (dBAnd (dTr (dOp gLt (dUn gLen (dPk 3)) (dNm 2))) (dTr (dOp gEq (fz (dC1 (m_law_take) 0 (dCons (dInt 2) (dNil)))) (dInt 1)))) (dEx (dMt gAppend 3 (dCons (dOp gMod (dUn gInt (dPk 4)) (dUn gLen (dPk 1))) (dNil)))) (dSkip)))
        (dSeq (dSet 3 (dC1 (m_law_shuffled) 0 (dCons (dNm 3) (dNil))))
        (dSeq (dSet 5 (dLst (dNil)))
        (dSeq (dFor (dIt itP (dNm 3)) (gN 6) (dSeq (dSet 7 (dLst (dNil)))
        (dSeq (dFor (dIt itP (dOp gIx (dIxN 1 (dNm 6)) (dInt 1))) (gN 8) (dIfS (dTr (dIsN (dPk 8))) (dEx (dMt gAppend 7 (dCons (dNon) (dNil)))) (dEx (dMt gAppend 7 (dCons (fz (dC1 (m_law_pick) 0 (dCons (fz (dComp [4] (dIt itR1 (dUn gLen (dPk 3))) (gN 4) (dTr (dOp gEq (dIxN 3 (dNm 4)) (dNm 8))) (dNm 4))) (dNil)))) (dNil))))))
        (dEx (dMt gAppend 5 (dCons (dTup (dCons (dOp gIx (dIxN 1 (dNm 6)) (dInt 0)) (dCons (dUn gTupOf (dPk 7)) (dNil)))) (dNil)))))))
        (dRt (dLst (dCons (dUn gTupOf (dPk 5)) (dCons (dUn gTupOf (dPk 3)) (dNil)))))))))
def m_law_lift : PV → List PV → Option (Rs × PV) := sem1 d_law_lift 3 9
/-- law_words(draws, many): slots draws many words k size word j other -/
def d_law_words : DS :=
  dSeq (dSet 2 (dLst (dNil)))
        (dSeq (dFor (dIt itR1 (dNm 1)) (gN 3) (dSeq (dSet 4 (vl (dOp gAdd (dInt 1) (fz (dC1 (m_law_take) 0 (dCons (dInt 3) (dNil)))))))
        (dSeq (dIfS (dTr (dOp gEq (fz (dC1 (m_law_take) 0 (dCons (dInt 9) (dNil)))) (dInt 0))) (dSet 4 (vl (dOp gAdd (dOp gAdd (dNm 4) (dInt 3)) (fz (dC1 (m_law_take) 0 (dCons (dInt 20) (dNil))))))) (dSkip))
        (dSeq (dSet 5 (vl (dOp gJoin (dStr "") (fz (dComp [6] (dIt itR1 (dNm 4)) (gN 6) (dYes) (dOp gIx (dStr "abcdefghijklmnopqrstuvwxyz") (fz (dC1 (m_law_take) 0 (dCons (dInt 26) (dNil))))))))))
        (dSeq (dIfS (dTr (dIn (dNm 5) (dPk 2))) (dSet 5 (vl (dOp gMulS (dStr "z") (dOp gAdd (dInt 1) (dUn gMax (fz (dR2 gCat (fz (dLst (dCons (dInt 5) (dNil)))) (fz (dCompN 2 [7] (gN 7) (dYes) (dUn gLen (dPk 7))))))))))) (dSkip))
        (dEx (dMt gAppend 2 (dCons (dNm 5) (dNil)))))))))
        (dRtN 2))
def m_law_words : PV → List PV → Option (Rs × PV) := sem1 d_law_words 2 8
/-- law_like_words(draws, many): slots draws many words k -/
def d_law_like_words : DS :=
  dSeq (dSet 2 (dC1 (m_law_words) 0 (dCons (dNm 1) (dNil))))
        (dSeq (dIfS (dBAnd (dTr (dOp gGt (dNm 1) (dInt 0))) (dTr (dOp gEq (fz (dC1 (m_law_take) 0 (dCons (dInt 2) (dNil)))) (dInt 0)))) (dFor (dIt2 itR2 (dInt 1) (dNm 1)) (gN 3) (dSub 2 (fz (dC1 (m_law_pick) 0 (dCons (fz (dLst (dCons (dOp gAdd (dIxN 2 (dOp gSub (dNm 3) (dInt 1))) (dStr "a")) (dCons (dOp gAdd (dStr "a") (dIxN 2 (dOp gSub (dNm 3) (dInt 1)))) (dCons (dOp gAdd (dIxN 2 (dOp gSub (dNm 3) (dInt 1))) (dStr "z")) (dNil)))))) (dNil)))) (dNm 3))) (dSkip))
        (dRtN 2))
def m_law_like_words : PV → List PV → Option (Rs × PV) := sem1 d_law_like_words 2 4
/-- law_put(row, k, thing): slots row k thing -/
def d_law_put : DS :=
  dRt (vl (dOp gAdd (dOp gAdd (fz (dSlN 0 (dPn) (dPt (dNm 1)))) (dTup (dCons (dNm 2) (dNil)))) (fz (dSlN 0 (dPt (dOp gAdd (dNm 1) (dInt 1))) (dPn)))))
def m_law_put : List PV → Option Rs := sem0 d_law_put 3 3
/-- law_other_sight(draws, town, sight): slots draws town sight kind spot -/
def d_law_other_sight : DS :=
  dSeq (dSet 3 (dC1 (m_law_take) 0 (dCons (dInt 4) (dNil))))
        (dSeq (dIfS (dTr (dOp gEq (dNm 3) (dInt 0))) (dRt (dC0 (m_law_sight) (dCons (dNm 1) (dCons (fz (dC1 (m_law_take) 0 (dCons (dUn gLen (dPk 1)) (dNil)))) (dNil))))) (dSkip))
        (dSeq (dIfS (dTr (dOp gEq (dNm 3) (dInt 1))) (dRt (vl (dTup (dCons (dOp gAdd (dIxN 2 (dInt 0)) (dStr "q")) (dCons (dIxN 2 (dInt 1)) (dNil)))))) (dSkip))
        (dSeq (dIfS (dTr (dOp gEq (dNm 3) (dInt 2))) (dRt (vl (dTup (dCons (dIxN 2 (dInt 0)) (dCons (dOp gAdd (dIxN 2 (dInt 1)) (dTup (dCons (fz (dC1 (m_law_take) 0 (dCons (dInt 2) (dNil)))) (dNil)))) (dNil)))))) (dSkip))
        (dSeq (dSet 4 (dC1 (m_law_take) 0 (dCons (dOp gMax2 (dInt 1) (dUn gLen (dIxN 2 (dInt 1)))) (dNil))))
        (dRt (vl (dTup (dCons (dIxN 2 (dInt 0)) (dCons (fz (dC0 (m_law_put) (dCons (dIxN 2 (dInt 1)) (dCons (dNm 4) (dCons (dOp gSub (dInt 1) (dOp gIx (dIxN 2 (dInt 1)) (dNm 4))) (dNil)))))) (dNil))))))))))
def m_law_other_sight : PV → List PV → Option (Rs × PV) := sem1 d_law_other_sight 3 5
/-- law_same(actual, due): slots actual due k -/
def d_law_same (rec : List PV → Option Rs) : DS :=
  dSeq (dIfS (dTr (dUn (gIsi2 "tuple" "list") (dPk 1))) (dSeq (dIfS (dBOr (dTr (dOp gNe (dUn (gIsi "tuple") (dPk 0)) (dUn (gIsi "tuple") (dPk 1)))) (dTr (dOp gNe (dUn (gIsi "list") (dPk 0)) (dUn (gIsi "list") (dPk 1))))) (dRt (vl (dBl false))) (dSkip))
        (dSeq (dIfS (dTr (dOp gNe (dUn gLen (dPk 0)) (dUn gLen (dPk 1)))) (dRt (vl (dBl false))) (dSkip))
        (dRt (vl (dNotIn (dBl false) (fz (dComp [2] (dIt itR1 (dUn gLen (dPk 1))) (gN 2) (dYes) (fz (dC0 (rec) (dCons (dIxN 0 (dNm 2)) (dCons (dIxN 1 (dNm 2)) (dNil)))))))))))) (dSkip))
        (dSeq (dIfS (dBOr (dTr (dOp gNe (dUn (gIsi "bool") (dPk 0)) (dUn (gIsi "bool") (dPk 1)))) (dTr (dOp gNe (dUn (gIsi "int") (dPk 0)) (dUn (gIsi "int") (dPk 1))))) (dRt (vl (dBl false))) (dSkip))
        (dSeq (dIfS (dBOr (dTr (dOp gNe (dUn (gIsi "str") (dPk 0)) (dUn (gIsi "str") (dPk 1)))) (dTr (dOp gNe (dIsN (dPk 0)) (dIsN (dPk 1))))) (dRt (vl (dBl false))) (dSkip))
        (dRt (vl (dOp gEq (dNm 0) (dNm 1))))))
def m_law_same : Nat → List PV → Option Rs
  | 0 => fun _ => none
  | n + 1 => sem0 (d_law_same (m_law_same n)) 2 3
/-- law_shown(town, place, walk): slots town place walk told now door -/
def d_law_shown : DS :=
  dSeq (dSet 3 (dLst (dCons (fz (dC0 (m_law_sight) (dCons (dNm 0) (dCons (dNm 1) (dNil))))) (dNil))))
        (dSeq (dSet 4 (vl (dNm 1)))
        (dSeq (dFor (dIt itP (dNm 2)) (gN 5) (dSeq (dSet 4 (dC0 (m_law_goal) (dCons (dNm 0) (dCons (dNm 4) (dCons (dNm 5) (dNil))))))
        (dSeq (dIfS (dTr (dIsN (dPk 4))) (dRt (vl (dNon))) (dSkip))
        (dEx (dMt gAppend 3 (dCons (fz (dC0 (m_law_sight) (dCons (dNm 0) (dCons (dNm 4) (dNil))))) (dNil)))))))
        (dRt (vl (dUn gTupOf (dPk 3))))))
def m_law_shown : List PV → Option Rs := sem0 d_law_shown 3 6
/-- law_plus(goal, by): slots goal by -/
def d_law_plus : DS :=
  dSeq (dIfS (dTr (dIsN (dPk 0))) (dRt (vl (dNon))) (dSkip))
        (dRt (vl (dOp gAdd (dNm 0) (dNm 1))))
def m_law_plus : List PV → Option Rs := sem0 d_law_plus 2 2
/-- law_side(one, other): slots one other told place goal -/
def d_law_side : DS :=
  dSeq (dSet 2 (dR1 gLstOf (dPk 0)))
        (dSeq (dFor (dIt itP (dNm 1)) (gN 3) (dEx (dMt gAppend 2 (dCons (dTup (dCons (dIxN 3 (dInt 0)) (dCons (dUn gTupOf (fz (dComp [4] (dIt itP (dIxN 3 (dInt 1))) (gN 4) (dYes) (fz (dC0 (m_law_plus) (dCons (dNm 4) (dCons (dUn gLen (dPk 0)) (dNil)))))))) (dNil)))) (dNil)))))
        (dRt (vl (dUn gTupOf (dPk 2)))))
def m_law_side : List PV → Option Rs := sem0 d_law_side 2 5
/-- law_end(town, place, walk): slots town place walk now door -/
def d_law_end : DS :=
  dSeq (dSet 3 (vl (dNm 1)))
        (dSeq (dFor (dIt itP (dNm 2)) (gN 4) (dSeq (dSet 3 (dC0 (m_law_goal) (dCons (dNm 0) (dCons (dNm 3) (dCons (dNm 4) (dNil))))))
        (dIfS (dTr (dIsN (dPk 3))) (dRt (vl (dNon))) (dSkip))))
        (dRtN 3))
def m_law_end : List PV → Option Rs := sem0 d_law_end 3 5
/-- law_misfit(town, walk, seen, place): slots town walk seen place now k -/
def d_law_misfit : DS :=
  dSeq (dSet 4 (vl (dNm 3)))
        (dSeq (dFor (dIt itR1 (dUn gLen (dPk 2))) (gN 5) (dSeq (dIfS (dTr (dOp gGt (dNm 5) (dInt 0))) (dSeq (dSet 4 (dC0 (m_law_goal) (dCons (dNm 0) (dCons (dNm 4) (dCons (dIxN 1 (dOp gSub (dNm 5) (dInt 1))) (dNil))))))
        (dIfS (dTr (dIsN (dPk 4))) (dRt (vl (dTup (dCons (dNm 5) (dCons (dStr "door") (dNil)))))) (dSkip))) (dSkip))
        (dIfS (dTr (dOp gNe (fz (dC0 (m_law_sight) (dCons (dNm 0) (dCons (dNm 4) (dNil))))) (dIxN 2 (dNm 5)))) (dRt (vl (dTup (dCons (dNm 5) (dCons (dStr "sight") (dNil)))))) (dSkip))))
        (dRt (vl (dNon))))
def m_law_misfit : List PV → Option Rs := sem0 d_law_misfit 4 6
/-- sight_at(town, place): slots town place mark doors goal -/
def d_sight_at : DS :=
  dSeq (dAsg (dIxN 0 (dNm 1)) (gT 2 (gsC (gN 2) (gsC (gN 3) (gsN)))))
        (dRt (vl (dTup (dCons (dNm 2) (dCons (dUn gTupOf (fz (dComp [4] (dIt itP (dNm 3)) (gN 4) (dYes) (dIf (dTr (dIsN (dPk 4))) (dInt 0) (dInt 1))))) (dNil))))))
def m_sight_at : List PV → Option Rs := sem0 d_sight_at 2 5
/-- step_from(town, place, door): slots town place door doors -/
def d_step_from : DS :=
  dSeq (dSet 3 (vl (dOp gIx (dIxN 0 (dNm 1)) (dInt 1))))
        (dSeq (dIfS (dTr (dOp gGe (dNm 2) (dUn gLen (dPk 3)))) (dRt (vl (dNon))) (dSkip))
        (dRt (vl (dIxN 3 (dNm 2)))))
def m_step_from : List PV → Option Rs := sem0 d_step_from 3 4
/-- sights_along(town, place, walk): slots town place walk now seen door -/
def d_sights_along : DS :=
  dSeq (dSet 3 (vl (dNm 1)))
        (dSeq (dSet 4 (dLst (dCons (fz (dC0 (m_sight_at) (dCons (dNm 0) (dCons (dNm 3) (dNil))))) (dNil))))
        (dSeq (dFor (dIt itP (dNm 2)) (gN 5) (dSeq (dSet 3 (dC0 (m_step_from) (dCons (dNm 0) (dCons (dNm 3) (dCons (dNm 5) (dNil))))))
        (dSeq (dIfS (dTr (dIsN (dPk 3))) (dRt (vl (dNon))) (dSkip))
        (dEx (dMt gAppend 4 (dCons (fz (dC0 (m_sight_at) (dCons (dNm 0) (dCons (dNm 3) (dNil))))) (dNil)))))))
        (dRt (vl (dUn gTupOf (dPk 4))))))
def m_sights_along : List PV → Option Rs := sem0 d_sights_along 3 6
/-- fitting_places(town, walk, seen): slots town walk seen place -/
def d_fitting_places : DS :=
  dRt (vl (dUn gTupOf (fz (dComp [3] (dIt itR1 (dUn gLen (dPk 0))) (gN 3) (dTr (dOp gEq (fz (dC0 (m_sights_along) (dCons (dNm 0) (dCons (dNm 3) (dCons (dNm 1) (dNil)))))) (dNm 2))) (dNm 3)))))
def m_fitting_places : List PV → Option Rs := sem0 d_fitting_places 3 4
/-- misfit_of(town, walk, seen, place): slots town walk seen place now time sight -/
def d_misfit_of : DS :=
  dSeq (dSet 4 (vl (dNm 3)))
        (dSeq (dFor (dIt itE (dNm 2)) (gT 2 (gsC (gN 5) (gsC (gN 6) (gsN)))) (dSeq (dIfS (dTr (dOp gGt (dNm 5) (dInt 0))) (dSeq (dSet 4 (dC0 (m_step_from) (dCons (dNm 0) (dCons (dNm 4) (dCons (dIxN 1 (dOp gSub (dNm 5) (dInt 1))) (dNil))))))
        (dIfS (dTr (dIsN (dPk 4))) (dRt (vl (dTup (dCons (dNm 5) (dCons (dStr "door") (dNil)))))) (dSkip))) (dSkip))
        (dIfS (dTr (dOp gNe (fz (dC0 (m_sight_at) (dCons (dNm 0) (dCons (dNm 4) (dNil))))) (dNm 6))) (dRt (vl (dTup (dCons (dNm 5) (dCons (dStr "sight") (dNil)))))) (dSkip))))
        (dRt (vl (dNon))))
def m_misfit_of : List PV → Option Rs := sem0 d_misfit_of 4 7
/-- index_set(places): slots places place -/
def d_index_set : DS :=
  dRt (vl (dUn gTupOf (fz (dR1 gSorted (fz (dListDc [1] (dIt itP (dNm 0)) (gN 1) (dYes) (dNm 1)))))))
def m_index_set : List PV → Option Rs := sem0 d_index_set 1 2
/-- standing_behind(town, places, door, sight): slots town places door sight goals place goal -/
def d_standing_behind : DS :=
  dSeq (dSet 4 (dComp [5] (dIt itP (dNm 1)) (gN 5) (dYes) (fz (dC0 (m_step_from) (dCons (dNm 0) (dCons (dNm 5) (dCons (dNm 2) (dNil))))))))
        (dRt (dC0 (m_index_set) (dCons (fz (dCompN 4 [6] (gN 6) (dBAnd (dTr (dNotN (dPk 6))) (dTr (dOp gEq (fz (dC0 (m_sight_at) (dCons (dNm 0) (dCons (dNm 6) (dNil))))) (dNm 3)))) (dNm 6))) (dNil))))
def m_standing_behind : List PV → Option Rs := sem0 d_standing_behind 4 7
/-- led_to(town, place, walk): slots town place walk now door -/
def d_led_to : DS :=
  dSeq (dSet 3 (vl (dNm 1)))
        (dSeq (dFor (dIt itP (dNm 2)) (gN 4) (dSeq (dSet 3 (dC0 (m_step_from) (dCons (dNm 0) (dCons (dNm 3) (dCons (dNm 4) (dNil))))))
        (dIfS (dTr (dIsN (dPk 3))) (dRt (vl (dNon))) (dSkip))))
        (dRtN 3))
def m_led_to : List PV → Option Rs := sem0 d_led_to 3 5
/-- standing_places(town, walk, seen): slots town walk seen place -/
def d_standing_places : DS :=
  dRt (dC0 (m_index_set) (dCons (fz (dComp [3] (dIt itP (fz (dC0 (m_fitting_places) (dCons (dNm 0) (dCons (dNm 1) (dCons (dNm 2) (dNil))))))) (gN 3) (dYes) (fz (dC0 (m_led_to) (dCons (dNm 0) (dCons (dNm 3) (dCons (dNm 1) (dNil)))))))) (dNil)))
def m_standing_places : List PV → Option Rs := sem0 d_standing_places 3 4
/-- surely_at(town, walk, seen): slots town walk seen places -/
def d_surely_at : DS :=
  dSeq (dSet 3 (dC0 (m_standing_places) (dCons (dNm 0) (dCons (dNm 1) (dCons (dNm 2) (dNil))))))
        (dSeq (dIfS (dTr (dOp gEq (dUn gLen (dPk 3)) (dInt 1))) (dRt (vl (dIxN 3 (dInt 0)))) (dSkip))
        (dRt (vl (dNon))))
def m_surely_at : List PV → Option Rs := sem0 d_surely_at 3 4
/-- law_stands_so(town, walk, seen): slots town walk seen rows place fits ends sure now k due -/
def d_law_stands_so : DS :=
  dSeq (dSet 3 (dComp [4] (dIt itR1 (dUn gLen (dPk 0))) (gN 4) (dYes) (fz (dC0 (m_law_misfit) (dCons (dNm 0) (dCons (dNm 1) (dCons (dNm 2) (dCons (dNm 4) (dNil)))))))))
        (dSeq (dFor (dIt itR1 (dUn gLen (dPk 0))) (gN 4) (dIfS (dBNot (dTr (fz (dC0 (m_law_same 8) (dCons (fz (dC0 (m_misfit_of) (dCons (dNm 0) (dCons (dNm 1) (dCons (dNm 2) (dCons (dNm 4) (dNil))))))) (dCons (dIxN 3 (dNm 4)) (dNil))))))) (dRt (vl (dBl false))) (dSkip)))
        (dSeq (dSet 5 (vl (dUn gTupOf (fz (dComp [4] (dIt itR1 (dUn gLen (dPk 0))) (gN 4) (dTr (dIsN (dIxN 3 (dNm 4)))) (dNm 4))))))
        (dSeq (dSet 6 (vl (dUn gTupOf (fz (dR1 gSortSet (fz (dComp [4] (dIt itP (dNm 5)) (gN 4) (dYes) (fz (dC0 (m_law_end) (dCons (dNm 0) (dCons (dNm 4) (dCons (dNm 1) (dNil)))))))))))))
        (dSeq (dIfS (dBOr (dBNot (dTr (fz (dC0 (m_law_same 8) (dCons (fz (dC0 (m_fitting_places) (dCons (dNm 0) (dCons (dNm 1) (dCons (dNm 2) (dNil)))))) (dCons (dNm 5) (dNil))))))) (dBNot (dTr (fz (dC0 (m_law_same 8) (dCons (fz (dC0 (m_standing_places) (dCons (dNm 0) (dCons (dNm 1) (dCons (dNm 2) (dNil)))))) (dCons (dNm 6) (dNil)))))))) (dRt (vl (dBl false))) (dSkip))
        (dSeq (dSet 7 (vl (dNon)))
        (dSeq (dIfS (dTr (dOp gEq (dUn gLen (dPk 6)) (dInt 1))) (dSet 7 (vl (dIxN 6 (dInt 0)))) (dSkip))
        (dSeq (dIfS (dBNot (dTr (fz (dC0 (m_law_same 8) (dCons (fz (dC0 (m_surely_at) (dCons (dNm 0) (dCons (dNm 1) (dCons (dNm 2) (dNil)))))) (dCons (dNm 7) (dNil))))))) (dRt (vl (dBl false))) (dSkip))
        (dSeq (dSet 8 (vl (dUn gTupOf (fz (dComp [4] (dIt itR1 (dUn gLen (dPk 0))) (gN 4) (dTr (dOp gEq (fz (dC0 (m_law_sight) (dCons (dNm 0) (dCons (dNm 4) (dNil))))) (dIxN 2 (dInt 0)))) (dNm 4))))))
        (dSeq (dFor (dIt itR1 (dUn gLen (dPk 1))) (gN 9) (dSeq (dSet 10 (dC0 (m_law_behind_all) (dCons (dNm 0) (dCons (dNm 8) (dCons (dIxN 1 (dNm 9)) (dCons (dIxN 2 (dOp gAdd (dNm 9) (dInt 1))) (dNil)))))))
        (dSeq (dSet 8 (dC0 (m_standing_behind) (dCons (dNm 0) (dCons (dNm 8) (dCons (dIxN 1 (dNm 9)) (dCons (dIxN 2 (dOp gAdd (dNm 9) (dInt 1))) (dNil)))))))
        (dIfS (dBNot (dTr (fz (dC0 (m_law_same 8) (dCons (dNm 8) (dCons (dNm 10) (dNil))))))) (dRt (vl (dBl false))) (dSkip)))))
        (dRt (vl (dOp gEq (dNm 8) (dNm 6)))))))))))))
def m_law_stands_so : List PV → Option Rs := sem0 d_law_stands_so 3 11
/-- law_opens(town, place): slots town place k -/
def d_law_opens : DS :=
  dRt (dComp [2] (dIt itR1 (dUn gLen (dOp gIx (dIxN 0 (dNm 1)) (dInt 1)))) (gN 2) (dTr (dNotN (dOp gIx (dOp gIx (dIxN 0 (dNm 1)) (dInt 1)) (dNm 2)))) (dNm 2))
def m_law_opens : List PV → Option Rs := sem0 d_law_opens 2 3
/-- law_walk(draws, town, place, most): slots draws town place most walk now k doors door -/
def d_law_walk : DS :=
  dSeq (dSet 4 (vl (dTup (dNil))))
        (dSeq (dSet 5 (vl (dNm 2)))
        (dSeq (dFor (dIt itR1 (fz (dC1 (m_law_take) 0 (dCons (dOp gAdd (dNm 3) (dInt 1)) (dNil))))) (gN 6) (dSeq (dSet 7 (dC0 (m_law_opens) (dCons (dNm 1) (dCons (dNm 5) (dNil)))))
        (dIfS (dTr (dOp gGt (dUn gLen (dPk 7)) (dInt 0))) (dSeq (dSet 8 (dC1 (m_law_pick) 0 (dCons (dNm 7) (dNil))))
        (dSeq (dSet 4 (vl (dOp gAdd (dNm 4) (dTup (dCons (dNm 8) (dNil))))))
        (dSet 5 (vl (dOp gIx (dOp gIx (dIxN 1 (dNm 5)) (dInt 1)) (dNm 8)))))) (dSkip))))
        (dRtN 4)))
def m_law_walk : PV → List PV → Option (Rs × PV) := sem1 d_law_walk 4 9
/-- law(script): slots script draws words doors town turn door sight everywhere due start walk seen k spot -/
def d_law : DS :=
  dSeq (dSet 1 (dC0 (m_law_draws) (dCons (dNm 0) (dCons (dInt 400) (dNil)))))
        (dSeq (dSet 2 (dC1 (m_law_like_words) 1 (dCons (dOp gAdd (dInt 1) (fz (dC1 (m_law_take) 1 (dCons (dInt 3) (dNil))))) (dNil))))
        (dSeq (dSet 3 (vl (dOp gAdd (dInt 1) (fz (dC1 (m_law_take) 1 (dCons (dInt 3) (dNil)))))))
        (dSeq (dSet 4 (vl (dOp gIx (fz (dC1 (m_law_lift) 1 (dCons (fz (dC1 (m_law_base) 1 (dCons (dInt 4) (dCons (dNm 3) (dCons (dNm 2) (dNil)))))) (dCons (dInt 8) (dNil))))) (dInt 0))))
        (dSeq (dSet 4 (dC0 (m_law_side) (dCons (dNm 4) (dCons (fz (dC1 (m_law_base) 1 (dCons (dInt 4) (dCons (dNm 3) (dCons (dNm 2) (dNil)))))) (dNil)))))
        (dSeq (dFor (dIt itR1 (dInt 2)) (gN 5) (dSeq (dSet 10 (dC1 (m_law_take) 1 (dCons (dUn gLen (dPk 4)) (dNil))))
        (dSeq (dSet 11 (dC1 (m_law_walk) 1 (dCons (dNm 4) (dCons (dNm 10) (dCons (dInt 40) (dNil))))))
        (dSeq (dSet 12 (dC0 (m_law_shown) (dCons (dNm 4) (dCons (dNm 10) (dCons (dNm 11) (dNil))))))
        (dSeq (dFor (dIt itR1 (fz (dC1 (m_law_take) 1 (dCons (dInt 3) (dNil))))) (gN 13) (dSeq (dSet 14 (dC1 (m_law_take) 1 (dCons (dUn gLen (dPk 12)) (dNil))))
        (dSet 12 (dC0 (m_law_put) (dCons (dNm 12) (dCons (dNm 14) (dCons (fz (dC1 (m_law_other_sight) 1 (dCons (dNm 4) (dCons (dIxN 12 (dNm 14)) (dNil))))) (dNil))))))))
        (dSeq (dIfS (dBAnd (dTr (dOp gGt (dUn gLen (dPk 11)) (dInt 0))) (dTr (dOp gEq (fz (dC1 (m_law_take) 1 (dCons (dInt 4) (dNil)))) (dInt 0)))) (dSet 11 (dC0 (m_law_put) (dCons (dNm 11) (dCons (fz (dC1 (m_law_take) 1 (dCons (dUn gLen (dPk 11)) (dNil)))) (dCons (fz (dC1 (m_law_take) 1 (dCons (dInt 5) (dNil)))) (dNil)))))) (dSkip))
        (dIfS (dBNot (dTr (fz (dC0 (m_law_stands_so) (dCons (dNm 4) (dCons (dNm 11) (dCons (dNm 12) (dNil)))))))) (dRt (vl (dBl false))) (dSkip))))))))
        (dSeq (dSet 6 (dC1 (m_law_take) 1 (dCons (dInt 4) (dNil))))
        (dSeq (dSet 7 (dC0 (m_law_sight) (dCons (dNm 4) (dCons (fz (dC1 (m_law_take) 1 (dCons (dUn gLen (dPk 4)) (dNil)))) (dNil)))))
        (dSeq (dSet 8 (vl (dTRg1 (dUn gLen (dPk 4)))))
        (dSeq (dIfS (dBNot (dTr (fz (dC0 (m_law_same 8) (dCons (fz (dC0 (m_standing_behind) (dCons (dNm 4) (dCons (dTup (dNil)) (dCons (dNm 6) (dCons (dNm 7) (dNil))))))) (dCons (dTup (dNil)) (dNil))))))) (dRt (vl (dBl false))) (dSkip))
        (dSeq (dSet 9 (dC0 (m_law_behind_all) (dCons (dNm 4) (dCons (dNm 8) (dCons (dNm 6) (dCons (dNm 7) (dNil)))))))
        (dRt (dC0 (m_law_same 8) (dCons (fz (dC0 (m_standing_behind) (dCons (dNm 4) (dCons (dNm 8) (dCons (dNm 6) (dCons (dNm 7) (dNil))))))) (dCons (dNm 9) (dNil)))))))))))))))
def m_law : List PV → Option Rs := sem0 d_law 1 15
/-! ### the helpers of the law -/
theorem same_seq {n : Nat} {p : PV} {xs : List PV} (hp : p = .tup xs ∨ p = .lst xs) (ih : ∀ p, fine n p → m_law_same n [p, p] = some (.val (.bl true))) (hx : ∀ x ∈ xs, fine n x) :
    compL [2] (gN 2) dYes (fz (dC0 (m_law_same n) (dCons (dIxN 0 (dNm 2)) (dCons (dIxN 1 (dNm 2)) dNil)))) (rgP 0 xs.length) [.val p, .val p, .un] = some ((rgP 0 xs.length).map fun _ => .bl true, [.val p, .val p, .un]) := by
  refine compL_map (fun _ => .bl true) _ _ fun x hx' => ?_
  obtain ⟨i, hi, rfl⟩ := rgP0_mem hx'
  have e1 : gIx p (.int i) = some xs[i] := by
    rcases hp with rfl | rfl <;> exact atI_lt hi
  have e2 := ih xs[i] (hx _ (List.getElem_mem hi))
  refine ⟨[.val p, .val p, .val (.int i)], _, [.val p, .val p, .val (.int i)], rfl, rfl, ?_, rfl⟩
  simp [-gIx, e1, e2, Rs.pv]
theorem same_refl : ∀ (n : Nat) (p : PV), fine n p → m_law_same n [p, p] = some (.val (.bl true)) := by
  intro n
  induction n with
  | zero => exact fun _ h => h.elim
  | succ n ih =>
    intro p h
    cases p with
    | non => simp [m_law_same, d_law_same]
    | bl b => simp [m_law_same, d_law_same]
    | int i => simp [m_law_same, d_law_same]
    | str s =>
      have h2 := shp_str (show PyData.strOk s = true from h)
      simp [m_law_same, d_law_same, h2]
    | ty _ => exact h.elim
    | scr _ => exact h.elim
    | tup xs =>
      obtain ⟨hl, hx⟩ := h
      have hc := same_seq (.inl rfl) ih hx
      have hg := gIn_false (ys := (rgP 0 xs.length).map fun _ => .bl true) (by simp)
      simp [m_law_same, d_law_same, itR1_nat hl, rgP_length, fits_of hl, hc, hg]
    | lst xs =>
      obtain ⟨hl, hx⟩ := h
      have hc := same_seq (.inr rfl) ih hx
      have hg := gIn_false (ys := (rgP 0 xs.length).map fun _ => .bl true) (by simp)
      simp [m_law_same, d_law_same, itR1_nat hl, rgP_length, fits_of hl, hc, hg]
/-- draws: whole numbers -/
abbrev dr (ds : List Int) : PV := .lst (ds.map PV.int)
theorem take_eq (ds : List Int) (many : Int) (hm : 0 < many) : ∃ (k : Nat) (ds' : List Int), (k : Int) < many ∧ m_law_take (dr ds) [.int many] = some (.val (.int k), dr ds') := by
  rcases List.eq_nil_or_concat ds with rfl | ⟨r, x, rfl⟩
  · exact ⟨0, [], hm, by simp [m_law_take, d_law_take]⟩
  · have h1 : 0 ≤ x.fmod many := Int.fmod_nonneg_of_pos x hm
    have h2 : x.fmod many < many := Int.fmod_lt_of_pos x hm
    refine ⟨(x.fmod many).toNat, r, by omega, ?_⟩
    have h3 : ((x.fmod many).toNat : Int) = x.fmod many := Int.toNat_of_nonneg h1
    have h4 : ¬ (((r.length : Int) + 1) = 0) := by omega
    have h5 : many ≠ 0 := by omega
    simp [m_law_take, d_law_take, gPop, h3, h4, h5]
theorem pick_eq (ds : List Int) (row : PV) (xs : List PV) (hr : row = .lst xs ∨ row = .tup xs) (hx : xs ≠ []) : ∃ (x : PV) (ds' : List Int), x ∈ xs ∧ m_law_pick (dr ds) [row] = some (.val x, dr ds') := by
  have hl : 0 < (xs.length : Int) := by
    have := List.length_pos_iff.mpr hx
    omega
  obtain ⟨k, ds', hk, e⟩ := take_eq ds xs.length hl
  have hk' : k < xs.length := by omega
  refine ⟨xs[k], ds', List.getElem_mem hk', ?_⟩
  have e1 : gIx row (.int k) = some xs[k] := by
    rcases hr with rfl | rfl <;> exact atI_lt hk'
  have e2 : gLen row = some (.int xs.length) := by
    rcases hr with rfl | rfl <;> rfl
  simp [m_law_pick, d_law_pick, -gIx, -gLen, e, e1, e2, Rs.pv]
/-! ### sizes -/
def bd (k : Nat) (i : Int) : Prop := i.natAbs < 2 ^ k
theorem bd.mono {k l : Nat} {i : Int} (h : bd k i) (hl : k ≤ l) : bd l i := Nat.lt_of_lt_of_le h (Nat.pow_le_pow_right (by decide) hl)
theorem bd.neg {k : Nat} {i : Int} (h : bd k i) : bd k (-i) := by
  unfold bd at *
  rwa [Int.natAbs_neg]
theorem bd.add {k : Nat} {i j : Int} (h1 : bd k i) (h2 : bd k j) : bd (k + 1) (i + j) := by
  unfold bd at *
  rw [Nat.pow_succ]
  have := Int.natAbs_add_le i j
  omega
theorem bd.sub {k : Nat} {i j : Int} (h1 : bd k i) (h2 : bd k j) : bd (k + 1) (i - j) := by
  rw [Int.sub_eq_add_neg]
  exact h1.add h2.neg
theorem bd.mul {k l : Nat} {i j : Int} (h1 : bd k i) (h2 : bd l j) : bd (k + l) (i * j) := by
  unfold bd at *
  rw [Int.natAbs_mul, Nat.pow_add]
  exact Nat.mul_lt_mul'' h1 h2
theorem bd.log {k : Nat} {i : Int} (h : bd k i) : i.natAbs.log2 ≤ k := by
  by_cases e : i.natAbs = 0
  · rw [e]
    exact Nat.zero_le _
  · exact Nat.le_of_lt ((Nat.log2_lt e).mpr h)
theorem mulOk_of {k l : Nat} {i j : Int} (h1 : bd k i) (h2 : bd l j) (h : k + l < 1000000) : mulOk i j = true := by
  have := h1.log
  have := h2.log
  exact hide_of (P := fun z : Int × Int => z.1.natAbs.log2 + z.2.natAbs.log2 < 1000000) (by dsimp only; omega)
theorem bd_lit {k : Nat} {i : Int} (h : i.natAbs < 2 ^ k) : bd k i := h
theorem bd_of {k : Nat} {i : Int} (h1 : -(2 ^ k) < i) (h2 : i < 2 ^ k) : bd k i := by
  unfold bd
  have : ((2 ^ k : Nat) : Int) = 2 ^ k := by norm_cast
  omega
theorem bd_fmod {k : Nat} {i m : Int} (h : 0 < m) (hm : m ≤ 2 ^ k) : bd k (i.fmod m) := by
  have h1 := Int.fmod_nonneg_of_pos i h
  have h2 := Int.fmod_lt_of_pos i h
  have : (0 : Int) < 2 ^ k := by omega
  exact bd_of (by omega) (by omega)
def ils (xs : List Int) : List PV := xs.map PV.int
@[simp] theorem ils_length (xs : List Int) : (ils xs).length = xs.length := List.length_map _
theorem atI_ils {xs : List Int} {i : Nat} (h : i < xs.length) : atI (ils xs) (i : Int) = some (.int xs[i]) := by
  unfold ils
  rw [atI_map, atI_lt h]
  rfl
@[simp] theorem ils_set (xs : List Int) (p : Nat) (x : Int) : (ils xs).set p (.int x) = ils (xs.set p x) := by simp [ils]
@[simp] theorem ils_append (xs : List Int) (x : Int) : ils xs ++ [.int x] = ils (xs ++ [x]) := by simp [ils]
def dDstep : DS := dSeq (dSet 6 (vl (dOp gMod (dUn gInt (dPk 5)) (dUn gLen (dPk 2)))))
        (dIfS (dBAnd (dTr (dOp gGe (dIxN 2 (dNm 6)) (dOp gPow (dInt 10) (dInt 18)))) (dTr (dOp gGt (dIxN 3 (dNm 6)) (dInt 0)))) (dSeq (dEx (dMt gAppend 4 (dCons (dOp gMod (dUn gInt (dIxN 3 (dNm 6))) (dInt 1000)) (dNil))))
        (dSub 3 (dOp gDiv (dIxN 3 (dNm 6)) (dInt 1000)) (dNm 6))) (dSeq (dSet 8 (vl (dOp gMod (dUn gInt (dOp gAdd (dOp gAdd (dOp gMul (dIxN 2 (dNm 6)) (dInt 48271)) (dOp gMul (dNm 5) (dInt 69621))) (dInt 11))) (dInt 2147483647))))
        (dEx (dMt gAppend 4 (dCons (dOp gMod (dUn gInt (dOp gAdd (dOp gAdd (dOp gMul (dNm 8) (dNm 8)) (dOp gMul (dInt 3) (dNm 8))) (dNm 5))) (dInt 1000003)) (dNil))))))
/-- the slots of _law_draws -/
def drE (ns : List Int) (many : Nat) (cs left ds : List Int) (a b c d : Sl) : Ev := [.val (.scr ns), .val (.int many), .mu .own (.lst (ils cs)), .mu .own (.lst (ils left)), .mu .own (.lst (ils ds)), a, b, c, d]
theorem pow18 : gPow (.int 10) (.int 18) = some (.int 1000000000000000000) := by
  unfold gPow gI
  exact if_pos (hide_of (by dsimp only; omega))
theorem div1000 (i : Int) : gDiv (.int i) (.int 1000) = some (.int (i / 1000)) := if_pos (hide_of ⟨by decide, by decide⟩)
theorem mix_eq {c : Int} {k : Nat} (hb : bd 7200 c) (hk : k < 1000) : ∃ m, bd 31 m ∧ gMul (.int c) (.int 48271) = some (.int (c * 48271)) ∧ gMul (.int k) (.int 69621) = some (.int ((k : Int) * 69621)) ∧ m = (c * 48271 + (k : Int) * 69621 + 11).fmod 2147483647 ∧ gMul (.int m) (.int m) = some (.int (m * m)) ∧ gMul (.int 3) (.int m) = some (.int (3 * m)) := by
  have b1 : bd 31 ((c * 48271 + (k : Int) * 69621 + 11).fmod 2147483647) := bd_fmod (by decide) (by decide)
  refine ⟨_, b1, if_pos (mulOk_of (l := 20) hb (bd_lit (by decide)) (by omega)), if_pos (mulOk_of (k := 20) (l := 20) (bd_of (by omega) (by omega)) (bd_lit (by decide)) (by omega)), rfl, if_pos (mulOk_of b1 b1 (by omega)), if_pos (mulOk_of (k := 2) (bd_lit (by decide)) b1 (by omega))⟩
theorem draw_step (ns : List Int) (many : Nat) (cs left ds : List Int) (a b c d : Sl) (k : Nat) (hk : k < 1000) (hn : 0 < cs.length) (hb : ∀ c ∈ cs, bd 7200 c) (hl : left.length = cs.length) (h5 : fits (ds.length + 1) = true) :
    ∃ left' x b' d', left'.length = cs.length ∧ dTurn (gN 5) dDstep (.int k) (drE ns many cs left ds a b c d) = some (.nx (drE ns many cs left' (ds ++ [x]) (.val (.int k)) b' c d')) := by
  have hp : ∃ p : Nat, p < cs.length ∧ (k : Int).fmod cs.length = p := by
    have h1 := Int.fmod_nonneg_of_pos (k : Int) (b := (cs.length : Int)) (by omega)
    have h2 := Int.fmod_lt_of_pos (k : Int) (b := (cs.length : Int)) (by omega)
    exact ⟨((k : Int).fmod cs.length).toNat, by omega, by omega⟩
  obtain ⟨p, hp, ep⟩ := hp
  have hne : cs ≠ [] := List.length_pos_iff.mp hn
  have a1 := atI_ils hp
  have a2 := atI_ils (hl ▸ hp : p < left.length)
  have i1 : (ixN left.length (p : Int)) = some p := ixN_nat (by omega)
  obtain ⟨m, _, m1, m2, m0, m3, m4⟩ := mix_eq (hb _ (List.getElem_mem hp)) hk
  unfold drE dDstep
  by_cases c1 : (1000000000000000000 : Int) ≤ cs[p] ∧ 0 < left[p]
  · refine ⟨left.set p (left[p] / 1000), left[p].fmod 1000, .val (.int p), d, by simpa using hl, ?_⟩
    simp [ep, hne, a1, a2, c1.1, c1.2, pow18, h5, div1000, i1, gSetL]
  · refine ⟨left, (m * m + 3 * m + k).fmod 1000003, .val (.int p), .val (.int m), hl, ?_⟩
    by_cases c2 : (1000000000000000000 : Int) ≤ cs[p]
    · have c3 : ¬ 0 < left[p] := fun h => c1 ⟨c2, h⟩
      simp [ep, hne, a1, a2, c2, c3, pow18, h5, m1, m2, ← m0, m3, m4]
    · simp [ep, hne, a1, a2, c2, pow18, h5, m1, m2, ← m0, m3, m4]
theorem draws_eq (ns : List Int) (hns : ns.length ≤ 63) (many : Nat) (hm : many ≤ 1000) : ∃ ds, m_law_draws [.scr ns, .int many] = some (.new (dr ds)) := by
  let cs0 := (cutA ns none (some 63)).map fun i => i.fmod (2 ^ 7200)
  have hl0 : (cutA ns none (some 63)).length ≤ 63 := by
    unfold cutA
    simp
    omega
  have hc : compL [7] (gN 7) dYes (dOp gMod (dUn gInt (dPk 7)) (dOp gShl (dInt 1) (dInt 7200))) ((cutA ns none (some 63)).map PV.int) [.val (.scr ns), .val (.int many), .un, .un, .un, .un, .un, .un, .un] = some (ils cs0, [.val (.scr ns), .val (.int many), .un, .un, .un, .un, .un, .un, .un]) := by
    have e : ils cs0 = ((cutA ns none (some 63)).map PV.int).map fun p => match p with
      | .int i => .int (i.fmod (2 ^ 7200))
      | p => p := by simp [ils, cs0]
    rw [e]
    refine compL_map _ _ _ fun x hx => ?_
    obtain ⟨i, hi, rfl⟩ := List.mem_map.mp hx
    refine ⟨[.val (.scr ns), .val (.int many), .un, .un, .un, .un, .un, .val (.int i), .un], _, [.val (.scr ns), .val (.int many), .un, .un, .un, .un, .un, .val (.int i), .un], rfl, rfl, ?_, rfl⟩
    have h7 : (2 : Int) ^ 7200 ≠ 0 := Int.ne_of_gt (Int.pow_pos (by decide))
    have h8 : gShl (.int 1) (.int 7200) = some (.int (2 ^ 7200)) := by
      unfold gShl gI
      rw [show ((2 : Int) ^ 7200) = 1 * 2 ^ 7200 from (Int.one_mul _).symm]
      exact if_pos (hide_of (by dsimp only; omega))
    simp [h8, h7]
  have hcs0 : cs0.length ≤ 63 := by simpa [cs0] using hl0
  have hb0 : ∀ c ∈ cs0, bd 7200 c := fun c hc => by
    obtain ⟨i, hi, rfl⟩ := List.mem_map.mp hc
    exact bd_fmod (Int.pow_pos (by decide)) (Int.le_refl _)
  generalize cs0 = cs1 at hc hcs0 hb0
  obtain ⟨cs, hcs, hn, hb, e2⟩ : ∃ cs : List Int, cs.length ≤ 63 ∧ 0 < cs.length ∧ (∀ c ∈ cs, bd 7200 c) ∧ (dIfS (dTr (dOp gEq (dUn gLen (dPk 2)) (dInt 0))) (dEx (dMt gAppend 2 (dCons (dInt 0) (dNil)))) (dSkip)) [.val (.scr ns), .val (.int many), .mu .own (.lst (ils cs1)), .un, .un, .un, .un, .un, .un] = some (.nx [.val (.scr ns), .val (.int many), .mu .own (.lst (ils cs)), .un, .un, .un, .un, .un, .un]) := by
    cases cs1 with
    | nil => exact ⟨[0], by simp, by simp, by simp; exact bd_lit (by decide), by simp [ils]⟩
    | cons c cs => exact ⟨c :: cs, hcs0, by simp, hb0, by
        have : ¬ ((cs.length : Int) + 1 = 0) := by omega
        simp [ils, this]⟩
  let I : Nat → Ev → Prop := fun k Γ => ∃ (left ds : List Int) (a b c d : Sl), left.length = cs.length ∧ ds.length = k ∧ Γ = drE ns many cs left ds a b c d
  obtain ⟨Γ', e3, left, ds, a, b, c, d, _, hds, rfl⟩ := loopD_inv (step := dTurn (gN 5) dDstep) I (rgP 0 many) 0 (drE ns many cs cs [] .un .un .un .un) ⟨cs, [], .un, .un, .un, .un, rfl, rfl, rfl⟩ fun k x Γ hx ⟨left, ds, a, b, c, d, hl, hd, hΓ⟩ => by
      obtain ⟨hk, rfl⟩ := rgP_get hx
      subst hΓ
      rw [Int.zero_add]
      obtain ⟨left', x, b', d', h1, h2⟩ := draw_step ns many cs left ds a b c d k (by omega) hn hb hl (fits_of (by omega))
      exact ⟨_, .inl h2, left', ds ++ [x], _, _, _, _, h1, by rw [List.length_append, hd, List.length_singleton], rfl⟩
  refine ⟨ds.reverse, ?_⟩
  have f1 : fits (cutA ns none (some 63)).length = true := fits_of (by omega)
  have f2 : itR1 (.int many) = some (rgP 0 many) := itR1_nat (by omega)
  refine sem0_rt rfl (Γ' := [.val (.scr ns), .val (.int many), .mu .own (.lst (ils cs)), .mu .own (.lst (ils left)), .un, a, b, c, d]) ?_
  unfold d_law_draws
  refine (dSeq_nx (Γ1 := [.val (.scr ns), .val (.int many), .mu .own (.lst (ils cs1)), .un, .un, .un, .un, .un, .un]) (by simp [hc, f1])).trans ?_
  refine (dSeq_nx e2).trans ?_
  refine (dSeq_nx (Γ1 := [.val (.scr ns), .val (.int many), .mu .own (.lst (ils cs)), .mu .own (.lst (ils cs)), .un, .un, .un, .un, .un]) (by simp)).trans ?_
  refine (dSeq_nx (Γ1 := [.val (.scr ns), .val (.int many), .mu .own (.lst (ils cs)), .mu .own (.lst (ils cs)), .mu .own (.lst (ils [])), .un, .un, .un, .un]) (by simp [mkL, ils])).trans ?_
  refine (dSeq_nx ((dFor_of (xs := rgP 0 many) (by simp [f2]; rfl)).trans e3)).trans ?_
  simp [drE, dr, ils]
/-! ### for every law -/
theorem compL_inv {vs : List Nat} {g : PV → Ev → Option Ev} {t : D Bool} {e : D PV} (I : Ev → Prop) (P : PV → PV → Prop) : ∀ (xs : List PV) (Γ : Ev), I Γ → (∀ x ∈ xs, ∀ Γ, I Γ → ∃ Γ1 Γ2 Γ3 y, g x Γ = some Γ1 ∧ t Γ1 = some (true, Γ2) ∧ e Γ2 = some (y, Γ3) ∧ I (wipeE Γ3 vs) ∧ P x y) →
    ∃ ys Γ', compL vs g t e xs Γ = some (ys, Γ') ∧ I Γ' ∧ ys.length = xs.length ∧ ∀ y ∈ ys, ∃ x ∈ xs, P x y
  | [], Γ, i, _ => ⟨[], Γ, rfl, i, rfl, fun _ h => by cases h⟩
  | x :: xs, Γ, i, h => by
    obtain ⟨Γ1, Γ2, Γ3, y, h1, h2, h3, h4, h9⟩ := h x List.mem_cons_self Γ i
    obtain ⟨ys, s', h5, h6, h7, h8⟩ := compL_inv I P xs _ h4 fun y hy => h y (List.mem_cons_of_mem _ hy)
    refine ⟨y :: ys, s', ?_, h6, by simp [h7], fun z hz => ?_⟩
    · unfold compL
      rw [h1]
      dsimp only
      rw [h2]
      dsimp only
      rw [if_pos rfl, h3]
      dsimp only
      rw [h5]
    · rcases List.mem_cons.mp hz with rfl | hz
      · exact ⟨x, List.mem_cons_self, h9⟩
      · obtain ⟨x', hx, s2⟩ := h8 z hz
        exact ⟨x', List.mem_cons_of_mem _ hx, s2⟩
def optI : Option Int → PV
  | none => .non
  | some i => .int i
def tupI (xs : List Int) : PV := .tup (ils xs)
theorem pickI (ds xs : List Int) (hx : xs ≠ []) : ∃ (x : Int) (ds' : List Int), x ∈ xs ∧ m_law_pick (dr ds) [.lst (ils xs)] = some (.val (.int x), dr ds') := by
  obtain ⟨x, ds', h1, h2⟩ := pick_eq ds (.lst (ils xs)) (ils xs) (.inl rfl) (by simpa [ils] using hx)
  obtain ⟨i, hi, rfl⟩ := List.mem_map.mp h1
  exact ⟨i, ds', hi, h2⟩
theorem take_small (ds : List Int) (m : Nat) (hm : 0 < m) : ∃ (k : Nat) (ds' : List Int), k < m ∧ m_law_take (dr ds) [.int m] = some (.val (.int k), dr ds') := by
  obtain ⟨k, ds', h, e⟩ := take_eq ds m (by omega)
  exact ⟨k, ds', by omega, e⟩
theorem compL_ix {vs : List Nat} {g : PV → Ev → Option Ev} {t : D Bool} {e : D PV} (Γ : Ev) : ∀ (xs : List PV) (y : Nat → PV), (∀ i x, xs[i]? = some x → ∃ Γ1 Γ2 Γ3, g x Γ = some Γ1 ∧ t Γ1 = some (true, Γ2) ∧ e Γ2 = some (y i, Γ3) ∧ wipeE Γ3 vs = Γ) → compL vs g t e xs Γ = some ((List.range xs.length).map y, Γ)
  | [], _, _ => rfl
  | x :: xs, y, h => by
    obtain ⟨Γ1, Γ2, Γ3, h1, h2, h3, h4⟩ := h 0 x rfl
    unfold compL
    rw [h1]
    dsimp only
    rw [h2]
    dsimp only
    rw [if_pos rfl, h3]
    dsimp only
    rw [h4, compL_ix Γ xs (fun i => y (i + 1)) fun i x hx => h (i + 1) x hx]
    simp [List.range_succ_eq_map, Function.comp_def]
theorem compL_on {α : Type} {vs : List Nat} {g : PV → Ev → Option Ev} {t : D Bool} {e : D PV} (en f : α → PV) (Γ : Ev) : ∀ (xs : List α), (∀ x ∈ xs, ∃ Γ1 Γ2 Γ3, g (en x) Γ = some Γ1 ∧ t Γ1 = some (true, Γ2) ∧ e Γ2 = some (f x, Γ3) ∧ wipeE Γ3 vs = Γ) → compL vs g t e (xs.map en) Γ = some (xs.map f, Γ)
  | [], _ => rfl
  | x :: xs, h => by
    obtain ⟨Γ1, Γ2, Γ3, h1, h2, h3, h4⟩ := h x List.mem_cons_self
    rw [List.map_cons]
    unfold compL
    rw [h1]
    dsimp only
    rw [h2]
    dsimp only
    rw [if_pos rfl, h3]
    dsimp only
    rw [h4, compL_on en f Γ xs fun y hy => h y (List.mem_cons_of_mem _ hy)]
    rfl
theorem pInts_ils : ∀ xs : List Int, pInts (ils xs) = some xs
  | [] => rfl
  | x :: xs => by
    show (pInts (ils xs)).map _ = _
    rw [pInts_ils xs]
    rfl
@[simp] theorem gSum_ils (xs : List Int) : gSum (.lst (ils xs)) = some (.int xs.sum) := by
  unfold gSum
  dsimp only
  rw [pInts_ils]
  rfl
theorem gMax_ils {xs : List Int} (h : xs ≠ []) : gMax (.lst (ils xs)) = some (.int (maxI xs)) := by
  unfold gMax
  dsimp only
  rw [pInts_ils]
  cases xs with
  | nil => exact absurd rfl h
  | cons x xs => rfl
def bls (xs : List Bool) : List PV := xs.map PV.bl
theorem pBls_bls : ∀ xs : List Bool, pBls (bls xs) = some xs
  | [] => rfl
  | x :: xs => by
    show (pBls (bls xs)).map _ = _
    rw [pBls_bls xs]
    rfl
@[simp] theorem gAll_bls (xs : List Bool) : gAll (.lst (bls xs)) = some (.bl (xs.all id)) := by
  unfold gAll
  dsimp only
  rw [pBls_bls]
  rfl
@[simp] theorem at4_0 (x y z w : PV) : atI [x, y, z, w] 0 = some x := rfl
@[simp] theorem at4_1 (x y z w : PV) : atI [x, y, z, w] 1 = some y := rfl
@[simp] theorem at4_2 (x y z w : PV) : atI [x, y, z, w] 2 = some z := rfl
@[simp] theorem at4_3 (x y z w : PV) : atI [x, y, z, w] 3 = some w := rfl
@[simp] theorem at3_2 (x y z : PV) : atI [x, y, z] 2 = some z := rfl
@[simp] theorem at2_0 (x y : PV) : atI [x, y] 0 = some x := rfl
@[simp] theorem at2_1 (x y : PV) : atI [x, y] 1 = some y := rfl
theorem fine_tup {n : Nat} {xs : List PV} (hl : xs.length ≤ 1000000) (h : ∀ x ∈ xs, fine n x) : fine (n + 1) (.tup xs) := ⟨hl, h⟩
theorem fine_lst {n : Nat} {xs : List PV} (hl : xs.length ≤ 1000000) (h : ∀ x ∈ xs, fine n x) : fine (n + 1) (.lst xs) := ⟨hl, h⟩
theorem fine_ils {n : Nat} {xs : List Int} : ∀ x ∈ ils xs, fine (n + 1) x := fun x hx => by
  obtain ⟨i, _, rfl⟩ := List.mem_map.mp hx
  trivial
theorem fine_bls {n : Nat} {xs : List Bool} : ∀ x ∈ bls xs, fine (n + 1) x := fun x hx => by
  obtain ⟨i, _, rfl⟩ := List.mem_map.mp hx
  trivial
theorem maxI_le {xs : List Int} {e : Int} (h : xs ≠ []) : maxI xs ≤ e ↔ ∀ x ∈ xs, x ≤ e := by
  cases xs with
  | nil => exact absurd rfl h
  | cons x xs =>
    obtain ⟨h1, h2, h3⟩ := foldl_max_ge xs x
    show xs.foldl max x ≤ e ↔ _
    constructor
    · intro a y hy
      rcases List.mem_cons.mp hy with rfl | hy
      · omega
      · have := h2 y hy
        omega
    · intro a
      rcases h3 with h3 | h3
      · rw [h3]
        exact a x List.mem_cons_self
      · exact a _ (List.mem_cons_of_mem _ h3)
theorem maxI_nonneg {xs : List Int} (h : ∀ x ∈ xs, 0 ≤ x) (hx : xs ≠ []) : 0 ≤ maxI xs := by
  cases xs with
  | nil => exact absurd rfl hx
  | cons x xs =>
    have h1 := (foldl_max_ge xs x).1
    have h2 := h x List.mem_cons_self
    show 0 ≤ xs.foldl max x
    omega
theorem fine_optI {n : Nat} (o : Option Int) : fine (n + 1) (optI o) := by
  cases o <;> trivial
theorem comp_ils {xs : List Int} {f : Int → PV} {d : D PV} {i : Nat} {Γ : Ev} (hd : ∀ x ∈ xs, d (Γ.set i (.val (.int x))) = some (f x, Γ.set i (.val (.int x)))) (hΓ : Γ[i]? = some .un) : compL [i] (gN i) dYes d (ils xs) Γ = some (xs.map f, Γ) := by
  refine compL_on PV.int _ _ xs fun r hr => ⟨Γ.set i (.val (.int r)), _, Γ.set i (.val (.int r)), rfl, rfl, hd r hr, ?_⟩
  unfold wipeE
  unfold wipeE
  rw [List.set_set]
  apply List.ext_getElem?
  intro j
  rw [List.getElem?_set]
  split
  · rename_i e
    subst e
    split
    · exact hΓ.symm
    · rename_i h
      rw [List.getElem?_eq_none (by omega)]
  · rfl
theorem same_ils {xs : List Int} (h : xs.length ≤ 1000000) : m_law_same 8 [.lst (ils xs), .lst (ils xs)] = some (.val (.bl true)) := same_refl 8 _ (fine_lst (by simpa using h) fine_ils)
theorem same_bls {xs : List Bool} (h : xs.length ≤ 1000000) : m_law_same 8 [.lst (bls xs), .lst (bls xs)] = some (.val (.bl true)) := same_refl 8 _ (fine_lst (by simpa [bls] using h) fine_bls)
theorem exist_ils : ∀ {ys : List PV} {p : Int → Prop}, (∀ y ∈ ys, ∃ w, p w ∧ y = .int w) → ∃ ws, ys = ils ws ∧ ∀ w ∈ ws, p w
  | [], _, _ => ⟨[], rfl, fun _ h => by cases h⟩
  | y :: ys, p, h => by
    obtain ⟨w, h1, rfl⟩ := h y List.mem_cons_self
    obtain ⟨ws, rfl, h2⟩ := exist_ils (p := p) fun z hz => h z (List.mem_cons_of_mem _ hz)
    refine ⟨w :: ws, rfl, fun v hv => ?_⟩
    rcases List.mem_cons.mp hv with rfl | hv
    · exact h1
    · exact h2 v hv
/-! ### texts -/
def okS (L : Nat) (w : Str) : Prop := PyData.strOk w = true ∧ w.length ≤ L
theorem okS.mono {L M : Nat} {w : Str} (h : okS L w) (hl : L ≤ M) : okS M w := ⟨h.1, Nat.le_trans h.2 hl⟩
theorem str_len_append (x y : Str) : (x ++ y).length = x.length + y.length := Array.size_append
theorem okS.append {L M : Nat} {x y : Str} (h1 : okS L x) (h2 : okS M y) : okS (L + M) (x ++ y) := by
  refine ⟨?_, by rw [str_len_append]; have := h1.2; have := h2.2; omega⟩
  have e : (x ++ y).cps = x.cps ++ y.cps := rfl
  unfold PyData.strOk
  rw [e, Array.all_append, Bool.and_eq_true]
  exact ⟨h1.1, h2.1⟩
theorem strOk_empty : PyData.strOk Str.empty = true := by simp [PyData.strOk, Str.empty]
theorem foldl_cps (c : Array Nat) (hc : c.all (· < 0x110000) = true) : ∀ (n : Nat) (acc : Array Nat), acc.all (· < 0x110000) = true → ((List.replicate n c).foldl (· ++ ·) acc).all (· < 0x110000) = true ∧ ((List.replicate n c).foldl (· ++ ·) acc).size = acc.size + n * c.size
  | 0, acc, h => ⟨h, by simp⟩
  | n + 1, acc, h => by
    rw [List.replicate_succ, List.foldl_cons]
    obtain ⟨a, b⟩ := foldl_cps c hc n (acc ++ c) (by rw [Array.all_append, Bool.and_eq_true]; exact ⟨h, hc⟩)
    refine ⟨a, ?_⟩
    rw [b, Array.size_append, Nat.succ_mul]
    omega
theorem okS_mul {x : Str} {n : Int} (h : PyData.strOk x = true) : okS (x.length * n.toNat) (Txt.mul x n) := by
  unfold Txt.mul
  split
  · exact ⟨strOk_empty, Nat.zero_le _⟩
  · rename_i hn
    split
    · rename_i hc
      refine ⟨h, ?_⟩
      rcases Bool.or_eq_true _ _ ▸ hc with z | z
      · have : n = 1 := by simpa using z
        subst this
        simp
      · have : x.length = 0 := by simpa using z
        rw [this]
        exact Nat.zero_le _
    · obtain ⟨a, b⟩ := foldl_cps x.cps h n.toNat #[] (by simp)
      refine ⟨a, ?_⟩
      show ((List.replicate n.toNat x.cps).foldl (· ++ ·) #[]).size ≤ _
      rw [b]
      have : x.cps.size = x.length := rfl
      rw [this, Nat.mul_comm]
      simp
def sls (ws : List Str) : List PV := ws.map PV.str
@[simp] theorem sls_length (ws : List Str) : (sls ws).length = ws.length := List.length_map _
theorem pStrs_sls : ∀ ws : List Str, pStrs (sls ws) = some ws
  | [] => rfl
  | x :: xs => by
    show (pStrs (sls xs)).map _ = _
    rw [pStrs_sls xs]
    rfl
theorem join_aux : ∀ (cs : List Nat) (acc : Array Nat), acc.all (· < 0x110000) = true → (∀ c ∈ cs, c < 0x110000) → ((cs.map fun c => (⟨#[c]⟩ : Str)).foldl (fun acc p => acc ++ (Str.empty).cps ++ p.cps) acc).all (· < 0x110000) = true ∧ ((cs.map fun c => (⟨#[c]⟩ : Str)).foldl (fun acc p => acc ++ (Str.empty).cps ++ p.cps) acc).size = acc.size + cs.length
  | [], acc, h, _ => ⟨h, by simp⟩
  | c :: cs, acc, h, hc => by
    rw [List.map_cons, List.foldl_cons]
    have e : (Str.empty).cps = #[] := rfl
    obtain ⟨a, b⟩ := join_aux cs (acc ++ (Str.empty).cps ++ #[c]) (by
      rw [e, Array.append_empty, Array.all_append, Bool.and_eq_true]
      exact ⟨h, by simp; exact hc c List.mem_cons_self⟩) fun d hd => hc d (List.mem_cons_of_mem _ hd)
    refine ⟨a, ?_⟩
    rw [b, e, Array.append_empty, Array.size_append]
    simp
    omega
theorem okS_join (cs : List Nat) (hc : ∀ c ∈ cs, c < 0x110000) : okS cs.length (Txt.join Str.empty (cs.map fun c => (⟨#[c]⟩ : Str))) := by
  cases cs with
  | nil => exact ⟨strOk_empty, Nat.le_refl _⟩
  | cons c cs =>
    obtain ⟨a, b⟩ := join_aux cs #[c] (by simp; exact hc c List.mem_cons_self) fun d hd => hc d (List.mem_cons_of_mem _ hd)
    refine ⟨a, ?_⟩
    show (((cs.map fun c => (⟨#[c]⟩ : Str)).foldl (fun acc p => acc ++ (Str.empty).cps ++ p.cps) #[c])).size ≤ _
    rw [b]
    simp
    omega
theorem gJoin_eq (cs : List Nat) (hl : cs.length ≤ 1000) : gJoin (.str Str.empty) (.lst (cs.map fun c => PV.str ⟨#[c]⟩)) = some (.str (Txt.join Str.empty (cs.map fun c => (⟨#[c]⟩ : Str)))) := by
  have e : (cs.map fun c => PV.str ⟨#[c]⟩) = sls (cs.map fun c => (⟨#[c]⟩ : Str)) := by simp [sls, Function.comp_def]
  have hs : ∀ cs : List Nat, (((cs.map fun c => (⟨#[c]⟩ : Str)).map (·.length)).sum : Nat) = cs.length := fun cs => by
    induction cs with
    | nil => rfl
    | cons c cs ih =>
      simp only [List.map_cons, List.sum_cons, List.length_cons, ih]
      show 1 + cs.length = _
      omega
  have hf : fits ((((cs.map fun c => (⟨#[c]⟩ : Str)).map (·.length)).sum : Nat) + (cs.map fun c => (⟨#[c]⟩ : Str)).length * (Str.empty).length) = true := by
    rw [hs]
    have : (Str.empty).length = 0 := rfl
    rw [this, Nat.mul_zero, Nat.add_zero]
    exact fits_of (by omega)
  unfold gJoin
  rw [e]
  dsimp only
  rw [pStrs_sls]
  show (if _ then _ else _) = _
  rw [if_pos hf]
theorem popOk_mk {n : Int} (h : -(2 ^ 63) ≤ n ∧ n < 2 ^ 63) : popOk n = true := hide_of (P := fun i : Int => -(2 ^ 63) ≤ i ∧ i < 2 ^ 63) h
theorem gMulS_eq {z : Str} {n : Int} (h1 : z.length * n.toNat ≤ 1000000) (h2 : -(2 ^ 63) ≤ n ∧ n < 2 ^ 63) : gMulS (.str z) (.int n) = some (.str (Txt.mul z n)) := by
  unfold gMulS
  dsimp only
  rw [if_pos (fits_of h1), if_pos (popOk_mk h2)]
theorem alpha_len : ("abcdefghijklmnopqrstuvwxyz" : Str).length = 26 := by decide +kernel
theorem alpha_ok : PyData.strOk ("abcdefghijklmnopqrstuvwxyz" : Str) = true := by decide +kernel
theorem alpha_at {k : Nat} (hk : k < 26) : ∃ c, c < 0x110000 ∧ gIx (.str "abcdefghijklmnopqrstuvwxyz") (.int k) = some (.str ⟨#[c]⟩) := by
  have hl : k < ("abcdefghijklmnopqrstuvwxyz" : Str).cps.toList.length := by
    rw [Array.length_toList]
    exact Nat.lt_of_lt_of_le hk (Nat.le_of_eq alpha_len.symm)
  refine ⟨("abcdefghijklmnopqrstuvwxyz" : Str).cps.toList[k], ?_, ?_⟩
  · have h1 := alpha_ok
    unfold PyData.strOk at h1
    rw [← Array.all_toList, List.all_eq_true] at h1
    exact of_decide_eq_true (h1 _ (List.getElem_mem hl))
  · unfold gIx
    dsimp only
    rw [if_pos (fits_of (by rw [alpha_len]; decide)), atI_lt hl]
    rfl
theorem gIn_strs (w : Str) (ws : List Str) : ∃ b, gIn (.str w) (.lst (sls ws)) = some b := by
  have h : (sls ws).all pflat = true := List.all_eq_true.mpr fun y hy => by
    obtain ⟨z, _, rfl⟩ := List.mem_map.mp hy
    rfl
  refine ⟨(sls ws).any fun q => pfEq q (.str w), ?_⟩
  unfold gIn
  dsimp only
  rw [h]
  rfl
def lens (ws : List Str) : List Int := ws.map fun w => (w.length : Int)
def dWord : D PV := dOp gJoin (dStr "") (fz (dComp [6] (dIt itR1 (dNm 4)) (gN 6) (dYes) (dOp gIx (dStr "abcdefghijklmnopqrstuvwxyz") (fz (dC1 (m_law_take) 0 (dCons (dInt 26) (dNil)))))))
theorem word_eq (ds : List Int) (many k : PV) (ws : List Str) (size : Nat) (hs : size ≤ 30) (s5 s6 s7 : Sl) : ∃ (w : Str) (ds' : List Int), okS 30 w ∧
    dWord [.mu .par (dr ds), .val many, .mu .own (.lst (sls ws)), .val k, .val (.int size), s5, s6, s7] = some (.str w, [.mu .par (dr ds'), .val many, .mu .own (.lst (sls ws)), .val k, .val (.int size), s5, s6, s7]) := by
  let I : Ev → Prop := fun Γ => ∃ ds, Γ = [.mu .par (dr ds), .val many, .mu .own (.lst (sls ws)), .val k, .val (.int size), s5, .un, s7]
  obtain ⟨ys, Γ', e, ⟨ds', rfl⟩, hl, hy⟩ := compL_inv (vs := [6]) (g := gN 6) (t := dYes) (e := (dOp gIx (dStr "abcdefghijklmnopqrstuvwxyz") (fz (dC1 (m_law_take) 0 (dCons (dInt 26) (dNil)))))) I (fun _ y => ∃ c, c < 0x110000 ∧ y = .str ⟨#[c]⟩) (rgP 0 size) [.mu .par (dr ds), .val many, .mu .own (.lst (sls ws)), .val k, .val (.int size), s5, .un, s7] ⟨ds, rfl⟩ fun x _ Γ ⟨ds, hΓ⟩ => by
    subst hΓ
    obtain ⟨t, ds', ht, e⟩ := take_small ds 26 (by decide)
    obtain ⟨c, hc, e2⟩ := alpha_at ht
    rw [show ((26 : Nat) : Int) = 26 from rfl] at e
    refine ⟨[.mu .par (dr ds), .val many, .mu .own (.lst (sls ws)), .val k, .val (.int size), s5, .val x, s7], _, [.mu .par (dr ds'), .val many, .mu .own (.lst (sls ws)), .val k, .val (.int size), s5, .val x, s7], .str ⟨#[c]⟩, rfl, rfl, ?_, ⟨ds', rfl⟩, c, hc, rfl⟩
    simp [-gIx, e, e2]
  have : ∀ ys : List PV, (∀ y ∈ ys, ∃ c, c < 0x110000 ∧ y = PV.str ⟨#[c]⟩) → ∃ cs : List Nat, (∀ c ∈ cs, c < 0x110000) ∧ ys = cs.map fun c => PV.str ⟨#[c]⟩ := fun ys => by
    induction ys with
    | nil => exact fun _ => ⟨[], (fun _ h => by cases h), rfl⟩
    | cons y ys ih =>
      intro h
      obtain ⟨c, hc, rfl⟩ := h y List.mem_cons_self
      obtain ⟨cs, h1, rfl⟩ := ih fun z hz => h z (List.mem_cons_of_mem _ hz)
      refine ⟨c :: cs, fun d hd => ?_, rfl⟩
      rcases List.mem_cons.mp hd with rfl | hd
      · exact hc
      · exact h1 d hd
  obtain ⟨cs, hc, rfl⟩ := this ys fun y h => by
    obtain ⟨x, _, z⟩ := hy y h
    exact z
  rw [rgP_length, List.length_map] at hl
  have j := gJoin_eq cs (by omega)
  have ez : ("" : Str) = Str.empty := by decide +kernel
  refine ⟨_, ds', (okS_join cs hc).mono (by omega), ?_⟩
  have f1 : fits size = true := fits_of (by omega)
  unfold dWord
  rw [ez]
  simp [itR1_nat (show size ≤ 1000000 by omega), rgP_length, f1, e, j]
def dWordBody : DS := (dSeq (dSet 4 (vl (dOp gAdd (dInt 1) (fz (dC1 (m_law_take) 0 (dCons (dInt 3) (dNil)))))))
        (dSeq (dIfS (dTr (dOp gEq (fz (dC1 (m_law_take) 0 (dCons (dInt 9) (dNil)))) (dInt 0))) (dSet 4 (vl (dOp gAdd (dOp gAdd (dNm 4) (dInt 3)) (fz (dC1 (m_law_take) 0 (dCons (dInt 20) (dNil))))))) (dSkip))
        (dSeq (dSet 5 (vl dWord))
        (dSeq (dIfS (dTr (dIn (dNm 5) (dPk 2))) (dSet 5 (vl (dOp gMulS (dStr "z") (dOp gAdd (dInt 1) (dUn gMax (fz (dR2 gCat (fz (dLst (dCons (dInt 5) (dNil)))) (fz (dCompN 2 [7] (gN 7) (dYes) (dUn gLen (dPk 7))))))))))) (dSkip))
        (dEx (dMt gAppend 2 (dCons (dNm 5) (dNil))))))))
theorem mem_lens {ws : List Str} {x : Int} (h : x ∈ lens ws) : ∃ w ∈ ws, x = w.length := by
  obtain ⟨w, hw, rfl⟩ := List.mem_map.mp h
  exact ⟨w, hw, rfl⟩
theorem wordBody_eq (ds : List Int) (many : PV) (k : PV) (ws : List Str) (L : Nat) (hL : 30 ≤ L) (hL2 : L ≤ 1000) (hw : ∀ w ∈ ws, okS L w) (hl : ws.length ≤ 1000) (s3 s4 s5 s6 : Sl) : ∃ (w : Str) (ds' : List Int) (s4' s5' : Sl), okS (L + 1) w ∧
    dTurn (gN 3) dWordBody k [.mu .par (dr ds), .val many, .mu .own (.lst (sls ws)), s3, s4, s5, s6, .un] = some (.nx [.mu .par (dr ds'), .val many, .mu .own (.lst (sls (ws ++ [w]))), .val k, s4', s5', s6, .un]) := by
  obtain ⟨t1, ds1, h1, e1⟩ := take_eq ds 3 (by decide)
  obtain ⟨t2, ds2, h2, e2⟩ := take_eq ds1 9 (by decide)
  have f1 : fits (ws.length + 1) = true := fits_of (by omega)
  have f2 : fits ws.length = true := fits_of (by omega)
  obtain ⟨size, ds3, hs, e3⟩ : ∃ (size : Nat) (ds3 : List Int), size ≤ 30 ∧ (dIfS (dTr (dOp gEq (fz (dC1 (m_law_take) 0 (dCons (dInt 9) (dNil)))) (dInt 0))) (dSet 4 (vl (dOp gAdd (dOp gAdd (dNm 4) (dInt 3)) (fz (dC1 (m_law_take) 0 (dCons (dInt 20) (dNil))))))) (dSkip)) [.mu .par (dr ds1), .val many, .mu .own (.lst (sls ws)), .val k, .val (.int (1 + (t1 : Int))), s5, s6, .un] = some (.nx [.mu .par (dr ds3), .val many, .mu .own (.lst (sls ws)), .val k, .val (.int size), s5, s6, .un]) := by
    by_cases c : t2 = 0
    · subst c
      obtain ⟨t3, ds3, h3, e3⟩ := take_eq ds2 20 (by decide)
      refine ⟨1 + t1 + 3 + t3, ds3, by omega, ?_⟩
      simp [e2, e3]
    · refine ⟨1 + t1, ds2, by omega, ?_⟩
      simp [e2, c]
  obtain ⟨w, ds4, ow, e4⟩ := word_eq ds3 many k ws size hs s5 s6 .un
  obtain ⟨b, eb⟩ := gIn_strs w ws
  have hc : compL [7] (gN 7) dYes (dUn gLen (dPk 7)) (sls ws) [.mu .par (dr ds4), .val many, .mu .lck (.lst (sls ws)), .val k, .val (.int size), .val (.str w), s6, .un] = some (ils (lens ws), [.mu .par (dr ds4), .val many, .mu .lck (.lst (sls ws)), .val k, .val (.int size), .val (.str w), s6, .un]) := by
    have e : ils (lens ws) = ws.map (fun w => PV.int (w.length : Int)) := by simp [ils, lens, Function.comp_def]
    rw [e]
    refine compL_on PV.str _ _ ws fun x hx => ⟨[.mu .par (dr ds4), .val many, .mu .lck (.lst (sls ws)), .val k, .val (.int size), .val (.str w), s6, .val (.str x)], _, [.mu .par (dr ds4), .val many, .mu .lck (.lst (sls ws)), .val k, .val (.int size), .val (.str w), s6, .val (.str x)], rfl, rfl, ?_, rfl⟩
    have := (hw x hx).2
    simp [fits_of (show x.length ≤ 1000000 by omega)]
  have hm : maxI (5 :: lens ws) ≤ L ∧ 5 ≤ maxI (5 :: lens ws) := by
    refine ⟨(maxI_le (by simp)).mpr fun x hx => ?_, (maxI_le (xs := 5 :: lens ws) (by simp)).mp (Int.le_refl _) 5 List.mem_cons_self⟩
    rcases List.mem_cons.mp hx with rfl | hx
    · omega
    · obtain ⟨v, hv, rfl⟩ := mem_lens hx
      have := (hw v hv).2
      omega
  have ez : ("z" : Str).length = 1 := by decide +kernel
  have oz : PyData.strOk ("z" : Str) = true := by decide +kernel
  have mz := gMulS_eq (z := "z") (n := 1 + maxI (5 :: lens ws)) (by rw [ez]; omega) (by omega)
  have mx := gMax_ils (xs := 5 :: lens ws) (by simp)
  have oz2 : okS (L + 1) (Txt.mul "z" (1 + maxI (5 :: lens ws))) := (okS_mul oz).mono (by rw [ez]; omega)
  have f3 : fits (1 + (lens ws).length) = true := fits_of (by simp [lens]; omega)
  have cat : PV.int 5 :: ils (lens ws) = ils (5 :: lens ws) := rfl
  refine ⟨if b = true then Txt.mul "z" (1 + maxI (5 :: lens ws)) else w, ds4, .val (.int size), .val (.str (if b = true then Txt.mul "z" (1 + maxI (5 :: lens ws)) else w)), ?_, ?_⟩
  · split
    · exact oz2
    · exact ow.mono (by omega)
  show dWordBody _ = _
  unfold dWordBody
  refine (dSeq_nx (Γ1 := [.mu .par (dr ds1), .val many, .mu .own (.lst (sls ws)), .val k, .val (.int (1 + (t1 : Int))), s5, s6, .un]) (by simp [e1])).trans ?_
  refine (dSeq_nx e3).trans ?_
  refine (dSeq_nx (Γ1 := [.mu .par (dr ds4), .val many, .mu .own (.lst (sls ws)), .val k, .val (.int size), .val (.str w), s6, .un]) (by simp [e4])).trans ?_
  refine (dSeq_nx (Γ1 := [.mu .par (dr ds4), .val many, .mu .own (.lst (sls ws)), .val k, .val (.int size), .val (.str (if b = true then Txt.mul "z" (1 + maxI (5 :: lens ws)) else w)), s6, .un]) ?_).trans ?_
  · cases b with
    | false => simp [eb]
    | true => simp [eb, mkL, f2, hc, f3, cat, mx, mz]
  · simp [f1, sls]
theorem words_eq (ds : List Int) (many : Nat) (hm : many ≤ 300) : ∃ (ws : List Str) (ds' : List Int), ws.length = many ∧ (∀ w ∈ ws, okS (30 + many) w) ∧ m_law_words (dr ds) [.int many] = some (.new (.lst (sls ws)), dr ds') := by
  let I : Nat → Ev → Prop := fun k Γ => ∃ (ds : List Int) (ws : List Str) (a b c d : Sl), ws.length = k ∧ (∀ w ∈ ws, okS (30 + k) w) ∧ Γ = [.mu .par (dr ds), .val (.int many), .mu .own (.lst (sls ws)), a, b, c, d, .un]
  obtain ⟨Γ', e3, ds', ws, a, b, c, d, h1, h2, rfl⟩ := loopD_inv (step := dTurn (gN 3) dWordBody) I (rgP 0 many) 0 [.mu .par (dr ds), .val (.int many), .mu .own (.lst (sls [])), .un, .un, .un, .un, .un] ⟨ds, [], _, _, _, _, rfl, (fun _ h => by cases h), rfl⟩ fun k x Γ hx ⟨ds, ws, a, b, c, d, h1, h2, hΓ⟩ => by
    obtain ⟨hk, rfl⟩ := rgP_get hx
    subst hΓ
    obtain ⟨w, ds', s4, s5, ow, e⟩ := wordBody_eq ds (.int many) (.int (0 + (k : Int))) ws (30 + (0 + k)) (by omega) (by omega) h2 (by omega) a b c d
    refine ⟨_, .inl e, ds', ws ++ [w], _, _, _, _, by rw [List.length_append, h1]; rfl, fun v hv => ?_, rfl⟩
    rcases List.mem_append.mp hv with hv | hv
    · exact (h2 v hv).mono (by omega)
    · cases List.mem_singleton.mp hv
      exact ow.mono (by omega)
  rw [rgP_length, Nat.zero_add] at h1 h2
  refine ⟨ws, ds', h1, h2, ?_⟩
  refine sem1_rt rfl (Γ' := [.val (.int many), .un, a, b, c, d, .un]) ?_
  unfold d_law_words
  refine (dSeq_nx (Γ1 := [.mu .par (dr ds), .val (.int many), .mu .own (.lst (sls [])), .un, .un, .un, .un, .un]) (by simp [mkL, sls])).trans ?_
  refine (dSeq_nx ((dFor_of (xs := rgP 0 many) (by simp [itR1_nat (show many ≤ 1000000 by omega)])).trans e3)).trans ?_
  simp
theorem atI_sls {ws : List Str} {i : Nat} (h : i < ws.length) : atI (sls ws) (i : Int) = some (.str ws[i]) := by
  unfold sls
  rw [atI_map, atI_lt h]
  rfl
@[simp] theorem sls_set (xs : List Str) (p : Nat) (x : Str) : (sls xs).set p (.str x) = sls (xs.set p x) := by simp [sls]
theorem okA : okS 1 ("a" : Str) := ⟨by decide +kernel, by decide +kernel⟩
theorem okZ : okS 1 ("z" : Str) := ⟨by decide +kernel, by decide +kernel⟩
theorem like_words_eq (ds : List Int) (many : Nat) (hm : many ≤ 100) : ∃ (ws : List Str) (ds' : List Int), ws.length = many ∧ (∀ w ∈ ws, okS 300 w) ∧ m_law_like_words (dr ds) [.int many] = some (.new (.lst (sls ws)), dr ds') := by
  obtain ⟨ws, ds1, h1, h2, e1⟩ := words_eq ds many (by omega)
  by_cases h0 : 0 < many
  · obtain ⟨t, ds2, ht, e2⟩ := take_eq ds1 2 (by decide)
    by_cases c : t = 0
    · subst c
      let I : Nat → Ev → Prop := fun k Γ => ∃ (ds : List Int) (ws : List Str) (a : Sl), ws.length = many ∧ (∀ w ∈ ws, okS (30 + many + k) w) ∧ Γ = [.mu .par (dr ds), .val (.int many), .mu .own (.lst (sls ws)), a]
      obtain ⟨Γ', e3, ds', ws', a, h3, h4, rfl⟩ := loopD_inv (step := dTurn (gN 3) (dSub 2 (fz (dC1 (m_law_pick) 0 (dCons (fz (dLst (dCons (dOp gAdd (dIxN 2 (dOp gSub (dNm 3) (dInt 1))) (dStr "a")) (dCons (dOp gAdd (dStr "a") (dIxN 2 (dOp gSub (dNm 3) (dInt 1)))) (dCons (dOp gAdd (dIxN 2 (dOp gSub (dNm 3) (dInt 1))) (dStr "z")) (dNil)))))) (dNil)))) (dNm 3))) I (rgP 1 (many - 1)) 0 [.mu .par (dr ds2), .val (.int many), .mu .own (.lst (sls ws)), .un] ⟨ds2, ws, .un, h1, h2, rfl⟩ fun k x Γ hx ⟨ds, ws, a, h1, h2, hΓ⟩ => by
        obtain ⟨hk, rfl⟩ := rgP_get hx
        subst hΓ
        have hj : 1 + (k : Int) - 1 = k := by omega
        have hk2 : k < ws.length := by omega
        have a1 := atI_sls hk2
        have o := h2 _ (List.getElem_mem hk2)
        generalize ws[k] = w at a1 o
        have oa := o.append okA
        have ob := okA.append o
        have oc := o.append okZ
        have f1 : fits (w.length + ("a" : Str).length) = true := fits_of (by have := o.2; have := okA.2; omega)
        have f2 : fits (("a" : Str).length + w.length) = true := fits_of (by have := o.2; have := okA.2; omega)
        have f3 : fits (w.length + ("z" : Str).length) = true := fits_of (by have := o.2; have := okZ.2; omega)
        obtain ⟨y, ds', hy, e⟩ := pick_eq ds (.lst [.str (w ++ "a"), .str ("a" ++ w), .str (w ++ "z")]) _ (.inl rfl) (by simp)
        have hy' : ∃ v, okS (30 + many + (k + 1)) v ∧ y = .str v := by
          simp only [List.mem_cons, List.not_mem_nil, or_false] at hy
          rcases hy with rfl | rfl | rfl
          · exact ⟨_, oa.mono (by omega), rfl⟩
          · exact ⟨_, ob.mono (by omega), rfl⟩
          · exact ⟨_, oc.mono (by omega), rfl⟩
        obtain ⟨v, ov, rfl⟩ := hy'
        have i1 : ixN ws.length (1 + (k : Int)) = some (1 + k) := by
          rw [show 1 + (k : Int) = ((1 + k : Nat) : Int) by omega]
          exact ixN_nat (by omega)
        refine ⟨[.mu .par (dr ds'), .val (.int many), .mu .own (.lst (sls (ws.set (1 + k) v))), .val (.int (1 + (k : Int)))], .inl ?_, ds', _, _, by rw [List.length_set]; exact h1, fun u hu => ?_, rfl⟩
        · simp [hj, a1, f1, f2, f3, mkL, e, gSetL, i1]
        · rcases List.mem_or_eq_of_mem_set hu with hu | rfl
          · exact (h2 u hu).mono (by omega)
          · exact ov.mono (by omega)
      rw [rgP_length] at h4
      have f2 : itR2 (.int 1) (.int many) = some (rgP 1 (many - 1)) := itR2_int (by omega) (by omega) (by omega) (by omega)
      refine ⟨ws', ds', h3, fun w hw => (h4 w hw).mono (by omega), ?_⟩
      refine sem1_rt rfl (Γ' := [.val (.int many), .un, a]) ?_
      unfold d_law_like_words
      refine (dSeq_nx (Γ1 := [.mu .par (dr ds1), .val (.int many), .mu .own (.lst (sls ws)), .un]) (by simp [e1])).trans ?_
      refine (dSeq_nx (Γ1 := [.mu .par (dr ds'), .val (.int many), .mu .own (.lst (sls ws')), a]) ?_).trans ?_
      · have hi : dBAnd (dTr (dOp gGt (dNm 1) (dInt 0))) (dTr (dOp gEq (fz (dC1 (m_law_take) 0 (dCons (dInt 2) (dNil)))) (dInt 0))) [.mu .par (dr ds1), .val (.int many), .mu .own (.lst (sls ws)), .un] = some (true, [.mu .par (dr ds2), .val (.int many), .mu .own (.lst (sls ws)), .un]) := by simp [h0, e2]
        unfold dIfS
        rw [hi]
        dsimp only
        rw [if_pos rfl]
        exact (dFor_of (xs := rgP 1 (many - 1)) (by simp [f2])).trans e3
      · simp
    · refine ⟨ws, ds2, h1, fun w hw => (h2 w hw).mono (by omega), ?_⟩
      simp [m_law_like_words, d_law_like_words, e1, h0, e2, c]
  · refine ⟨ws, ds1, h1, fun w hw => (h2 w hw).mono (by omega), ?_⟩
    simp [m_law_like_words, d_law_like_words, e1, h0]
/-! ### towns -/
abbrev Pl := Str × List (Option Nat)
def encO : Option Nat → PV
  | none => .non
  | some g => .int g
def encR (row : List (Option Nat)) : List PV := row.map encO
def encP (p : Pl) : PV := .tup [.str p.1, .tup (encR p.2)]
def encT (t : List Pl) : PV := .tup (t.map encP)
structure OKP (n : Nat) (p : Pl) : Prop where
  w : okS 300 p.1
  len : p.2.length ≤ 10
  has : 0 < p.2.length
  goal : ∀ g, some g ∈ p.2 → g < n
theorem base_eq (ds : List Int) (most doors : Nat) (ws : List Str) (h1 : 0 < most) (h2 : most ≤ 100) (h3 : doors ≤ 10) (h4 : 0 < doors) (hw : ws ≠ []) (ok : ∀ w ∈ ws, okS 300 w) :
    ∃ (t : List Pl) (ds' : List Int), 0 < t.length ∧ t.length ≤ most ∧ (∀ p ∈ t, OKP t.length p) ∧ m_law_base (dr ds) [.int most, .int doors, .lst (sls ws)] = some (.val (encT t), dr ds') := by
  obtain ⟨m0, ds1, hm, e1⟩ := take_small ds most h1
  let many := 1 + m0
  have inner : ∀ (ds : List Int) (told : List PV) (k s8 s9 : Sl), ∃ (row : List (Option Nat)) (ds' : List Int) (s8' s9' : Sl), row.length = doors ∧ (∀ g, some g ∈ row → g < many) ∧
      dFor (dIt itR1 (dNm 2)) (gN 8) (dSeq (dSet 9 (dC1 (m_law_take) 0 (dCons (dNm 4) (dNil))))
        (dEx (dMt gAppend 7 (dCons (dOp gIx (fz (dLst (dCons (dNm 9) (dCons (dNon) (dNil))))) (dUn gInt (dOp gEq (fz (dC1 (m_law_take) 0 (dCons (dInt 8) (dNil)))) (dInt 0)))) (dNil))))) [.mu .par (dr ds), .val (.int most), .val (.int doors), .val (.lst (sls ws)), .val (.int many), .mu .own (.lst told), k, .mu .own (.lst []), s8, s9] = some (.nx [.mu .par (dr ds'), .val (.int most), .val (.int doors), .val (.lst (sls ws)), .val (.int many), .mu .own (.lst told), k, .mu .own (.lst (encR row)), s8', s9']) := by
    intro ds told k s8 s9
    let I : Nat → Ev → Prop := fun j Γ => ∃ (ds : List Int) (row : List (Option Nat)) (a b : Sl), row.length = j ∧ (∀ g, some g ∈ row → g < many) ∧ Γ = [.mu .par (dr ds), .val (.int most), .val (.int doors), .val (.lst (sls ws)), .val (.int many), .mu .own (.lst told), k, .mu .own (.lst (encR row)), a, b]
    obtain ⟨Γ', e3, ds', row, a, b, q1, q2, rfl⟩ := loopD_inv (step := dTurn (gN 8) (dSeq (dSet 9 (dC1 (m_law_take) 0 (dCons (dNm 4) (dNil))))
        (dEx (dMt gAppend 7 (dCons (dOp gIx (fz (dLst (dCons (dNm 9) (dCons (dNon) (dNil))))) (dUn gInt (dOp gEq (fz (dC1 (m_law_take) 0 (dCons (dInt 8) (dNil)))) (dInt 0)))) (dNil)))))) I (rgP 0 doors) 0 [.mu .par (dr ds), .val (.int most), .val (.int doors), .val (.lst (sls ws)), .val (.int many), .mu .own (.lst told), k, .mu .own (.lst (encR [])), s8, s9] ⟨ds, [], _, _, rfl, (fun _ h => by cases h), rfl⟩ fun j x Γ hx ⟨ds, row, a, b, q1, q2, hΓ⟩ => by
      obtain ⟨hk, rfl⟩ := rgP_get hx
      subst hΓ
      obtain ⟨g, ds1, hg, e1⟩ := take_small ds many (by omega)
      obtain ⟨t, ds2, ht, e2⟩ := take_eq ds1 8 (by decide)
      have f1 : fits (row.length + 1) = true := fits_of (by omega)
      have il : ∀ r : List (Option Nat), (encR r).length = r.length := fun r => List.length_map _
      by_cases c : t = 0
      · subst c
        refine ⟨[.mu .par (dr ds2), .val (.int most), .val (.int doors), .val (.lst (sls ws)), .val (.int many), .mu .own (.lst told), k, .mu .own (.lst (encR (row ++ [none]))), .val (.int (0 + (j : Int))), .val (.int g)], .inl ?_, ds2, _, _, _, by rw [List.length_append, q1]; rfl, fun v hv => ?_, rfl⟩
        · simp [e1, e2, mkL, il, f1, encR, encO]
        · rcases List.mem_append.mp hv with hv | hv
          · exact q2 v hv
          · simp at hv
      · refine ⟨[.mu .par (dr ds2), .val (.int most), .val (.int doors), .val (.lst (sls ws)), .val (.int many), .mu .own (.lst told), k, .mu .own (.lst (encR (row ++ [some g]))), .val (.int (0 + (j : Int))), .val (.int g)], .inl ?_, ds2, _, _, _, by rw [List.length_append, q1]; rfl, fun v hv => ?_, rfl⟩
        · simp [e1, e2, c, mkL, il, f1, encR, encO]
        · rcases List.mem_append.mp hv with hv | hv
          · exact q2 v hv
          · simp at hv
            omega
    rw [rgP_length, Nat.zero_add] at q1
    exact ⟨row, ds', a, b, q1, q2, (dFor_of (xs := rgP 0 doors) (by simp [itR1_nat (show doors ≤ 1000000 by omega)]; rfl)).trans e3⟩
  let I : Nat → Ev → Prop := fun k Γ => ∃ (ds : List Int) (t : List Pl) (a b c d : Sl), t.length = k ∧ (∀ p ∈ t, OKP many p) ∧ Γ = [.mu .par (dr ds), .val (.int most), .val (.int doors), .val (.lst (sls ws)), .val (.int many), .mu .own (.lst (t.map encP)), a, b, c, d]
  obtain ⟨Γ', e3, ds', t, a, b, c, d, q1, q2, rfl⟩ := loopD_inv (step := dTurn (gN 6) (dSeq (dSet 7 (dLst (dNil)))
        (dSeq (dFor (dIt itR1 (dNm 2)) (gN 8) (dSeq (dSet 9 (dC1 (m_law_take) 0 (dCons (dNm 4) (dNil))))
        (dEx (dMt gAppend 7 (dCons (dOp gIx (fz (dLst (dCons (dNm 9) (dCons (dNon) (dNil))))) (dUn gInt (dOp gEq (fz (dC1 (m_law_take) 0 (dCons (dInt 8) (dNil)))) (dInt 0)))) (dNil))))))
        (dEx (dMt gAppend 5 (dCons (dTup (dCons (fz (dC1 (m_law_pick) 0 (dCons (dNm 3) (dNil)))) (dCons (dUn gTupOf (dPk 7)) (dNil)))) (dNil))))))) I (rgP 0 many) 0 [.mu .par (dr ds1), .val (.int most), .val (.int doors), .val (.lst (sls ws)), .val (.int many), .mu .own (.lst []), .un, .un, .un, .un] ⟨ds1, [], _, _, _, _, rfl, (fun _ h => by cases h), rfl⟩ fun j x Γ hx ⟨ds, t, a, b, c, d, q1, q2, hΓ⟩ => by
    obtain ⟨hk, rfl⟩ := rgP_get hx
    subst hΓ
    obtain ⟨row, ds2, s8, s9, r1, r2, e4⟩ := inner ds (t.map encP) (.val (.int (0 + (j : Int)))) c d
    obtain ⟨y, ds3, hy, e5⟩ := pick_eq ds2 (.lst (sls ws)) (sls ws) (.inl rfl) (by simpa [sls] using hw)
    obtain ⟨w, hww, rfl⟩ := List.mem_map.mp hy
    have f1 : fits (t.length + 1) = true := fits_of (by omega)
    refine ⟨[.mu .par (dr ds3), .val (.int most), .val (.int doors), .val (.lst (sls ws)), .val (.int many), .mu .own (.lst ((t ++ [(w, row)]).map encP)), .val (.int (0 + (j : Int))), .mu .own (.lst (encR row)), s8, s9], .inl ?_, ds3, _, _, _, _, _, by rw [List.length_append, q1]; rfl, fun v hv => ?_, rfl⟩
    · show dSeq _ _ _ = _
      refine (dSeq_nx (Γ1 := [.mu .par (dr ds), .val (.int most), .val (.int doors), .val (.lst (sls ws)), .val (.int many), .mu .own (.lst (t.map encP)), .val (.int (0 + (j : Int))), .mu .own (.lst []), c, d]) (by simp [mkL])).trans ?_
      refine (dSeq_nx e4).trans ?_
      simp [e5, mkT, f1, encP]
    · rcases List.mem_append.mp hv with hv | hv
      · exact q2 v hv
      · cases List.mem_singleton.mp hv
        exact ⟨ok w hww, by show row.length ≤ 10; omega, by show 0 < row.length; omega, r2⟩
  rw [rgP_length, Nat.zero_add] at q1
  refine ⟨t, ds', by omega, by omega, by rw [q1]; exact q2, ?_⟩
  have em : itR1 (.int (1 + (m0 : Int))) = some (rgP 0 many) := itR1_int (by omega) (by omega)
  have ec : (many : Int) = 1 + (m0 : Int) := by omega
  refine sem1_rt rfl (Γ' := [.val (.int most), .val (.int doors), .val (.lst (sls ws)), .val (.int many), .mu .own (.lst (t.map encP)), a, b, c, d]) ?_
  unfold d_law_base
  refine (dSeq_nx (Γ1 := [.mu .par (dr ds1), .val (.int most), .val (.int doors), .val (.lst (sls ws)), .val (.int many), .un, .un, .un, .un, .un]) (by simp [e1, ec])).trans ?_
  refine (dSeq_nx (Γ1 := [.mu .par (dr ds1), .val (.int most), .val (.int doors), .val (.lst (sls ws)), .val (.int many), .mu .own (.lst []), .un, .un, .un, .un]) (by simp [mkL])).trans ?_
  refine (dSeq_nx ((dFor_of (xs := rgP 0 many) (by simp [ec, em])).trans e3)).trans ?_
  simp [encT]
/-! ### shuffled -/
theorem erase_perm : ∀ (l : List PV) (i : Nat) (h : i < l.length), (l[i] :: l.eraseIdx i).Perm l
  | a :: l, 0, _ => .refl _
  | a :: l, i + 1, h => ((List.Perm.swap a (l[i]'(Nat.lt_of_succ_lt_succ h)) (l.eraseIdx i)).trans (List.Perm.cons a (erase_perm l i (Nat.lt_of_succ_lt_succ h))))
theorem shuffled_eq (ds : List Int) (xs : List PV) (hl : xs.length ≤ 1000) (row : PV) (hr : gLstOf row = some (.new (.lst xs))) : ∃ (ys : List PV) (ds' : List Int), ys.Perm xs ∧ m_law_shuffled (dr ds) [row] = some (.new (.lst ys), dr ds') := by
  let I : Nat → Ev → Prop := fun k Γ => ∃ (ds : List Int) (left told : List PV) (a : Sl), told.length = k ∧ (told ++ left).Perm xs ∧ Γ = [.mu .par (dr ds), .val row, .mu .own (.lst left), .mu .own (.lst told), a]
  obtain ⟨Γ', e3, ds', left, told, a, h1, h2, rfl⟩ := loopD_inv (step := dTurn (gN 4) (dEx (dMt gAppend 3 (dCons (dMt gPopAt 2 (dCons (fz (dC1 (m_law_take) 0 (dCons (dUn gLen (dPk 2)) (dNil)))) (dNil))) (dNil))))) I (rgP 0 xs.length) 0 [.mu .par (dr ds), .val row, .mu .own (.lst xs), .mu .own (.lst []), .un] ⟨ds, xs, [], .un, rfl, .refl _, rfl⟩ fun k x Γ hx ⟨ds, left, told, a, h1, h2, hΓ⟩ => by
    obtain ⟨hk, rfl⟩ := rgP_get hx
    subst hΓ
    have hlen := h2.length_eq
    rw [List.length_append] at hlen
    obtain ⟨t, ds1, ht, e1⟩ := take_small ds left.length (by omega)
    have p1 : popOk (t : Int) = true := hide_of (P := fun i : Int => -(2 ^ 63) ≤ i ∧ i < 2 ^ 63) (by omega)
    have p2 : seqIndex? (t : Int) left.length = some t := by
      unfold seqIndex?
      simp
      omega
    have p3 : left[t]? = some left[t] := List.getElem?_eq_getElem ht
    have g : gPopAt left [.int t] = some (left[t], left.eraseIdx t) := by
      unfold gPopAt
      dsimp only
      rw [if_pos p1, p2]
      dsimp only
      rw [p3]
    have f1 : fits (told.length + 1) = true := fits_of (by omega)
    refine ⟨[.mu .par (dr ds1), .val row, .mu .own (.lst (left.eraseIdx t)), .mu .own (.lst (told ++ [left[t]])), .val (.int (0 + (k : Int)))], .inl ?_, ds1, _, _, _, by rw [List.length_append, h1]; rfl, ?_, rfl⟩
    · simp [e1, g, f1]
    · refine List.Perm.trans ?_ h2
      rw [List.append_assoc]
      exact List.Perm.append_left told (erase_perm left t ht)
  rw [rgP_length, Nat.zero_add] at h1
  have hnil : left = [] := by
    have := h2.length_eq
    rw [List.length_append] at this
    exact List.eq_nil_of_length_eq_zero (by omega)
  subst hnil
  rw [List.append_nil] at h2
  refine ⟨told, ds', h2, ?_⟩
  refine sem1_rt rfl (Γ' := [.val row, .mu .own (.lst []), .un, a]) ?_
  unfold d_law_shuffled
  refine (dSeq_nx (Γ1 := [.mu .par (dr ds), .val row, .mu .own (.lst xs), .un, .un]) (by simp [-gLstOf, hr])).trans ?_
  refine (dSeq_nx (Γ1 := [.mu .par (dr ds), .val row, .mu .own (.lst xs), .mu .own (.lst []), .un]) (by simp [mkL])).trans ?_
  refine (dSeq_nx ((dFor_of (xs := rgP 0 xs.length) (by simp [itR1_nat (show xs.length ≤ 1000000 by omega)])).trans e3)).trans ?_
  simp
/-! ### lift, side -/
def nls (xs : List Nat) : List PV := xs.map fun (i : Nat) => PV.int (i : Int)
@[simp] theorem nls_length (xs : List Nat) : (nls xs).length = xs.length := List.length_map _
theorem rgP_nls (n : Nat) : rgP 0 n = nls (List.range n) := by
  unfold rgP nls
  refine List.map_congr_left fun i _ => ?_
  rw [Int.zero_add]
theorem perm_nls {ys : List PV} {xs : List Nat} (h : ys.Perm (nls xs)) : ∃ zs : List Nat, ys = nls zs ∧ zs.Perm xs := by
  have h1 : ∀ ys : List PV, (∀ y ∈ ys, ∃ i : Nat, y = PV.int i) → ∃ zs, ys = nls zs := fun ys => by
    induction ys with
    | nil => exact fun _ => ⟨[], rfl⟩
    | cons y ys ih =>
      intro h
      obtain ⟨i, rfl⟩ := h y List.mem_cons_self
      obtain ⟨zs, rfl⟩ := ih fun z hz => h z (List.mem_cons_of_mem _ hz)
      exact ⟨i :: zs, rfl⟩
  obtain ⟨zs, rfl⟩ := h1 ys fun y hy => by
    obtain ⟨i, _, rfl⟩ := List.mem_map.mp (h.mem_iff.mp hy)
    exact ⟨i, rfl⟩
  refine ⟨zs, rfl, ?_⟩
  have : ∀ xs : List Nat, (nls xs).map (fun p => match p with | .int i => i.toNat | _ => 0) = xs := fun xs => by simp [nls, Function.comp_def]
  have h2 := h.map (fun p => match p with | .int i => i.toNat | _ => 0)
  rwa [this, this] at h2
theorem at_T {t : List Pl} {i : Nat} {p : Pl} (h : t[i]? = some p) : atI (t.map encP) (i : Int) = some (encP p) := atI_of (by rw [List.getElem?_map, h]; rfl)
theorem at_nls {xs : List Nat} {i : Nat} {x : Nat} (h : xs[i]? = some x) : atI (nls xs) (i : Int) = some (.int x) := atI_of (by unfold nls; rw [List.getElem?_map, h]; rfl)
theorem compL_if {α : Type} {vs : List Nat} {g : PV → Ev → Option Ev} {t : D Bool} {e : D PV} (en : α → PV) (p : α → Bool) (f : α → PV) (Γ : Ev) : ∀ (xs : List α), (∀ x ∈ xs, ∃ Γ1 Γ2, g (en x) Γ = some Γ1 ∧ t Γ1 = some (p x, Γ2) ∧ (p x = true → ∃ Γ3, e Γ2 = some (f x, Γ3) ∧ wipeE Γ3 vs = Γ) ∧ (p x = false → wipeE Γ2 vs = Γ)) → compL vs g t e (xs.map en) Γ = some ((xs.filter p).map f, Γ)
  | [], _ => rfl
  | x :: xs, h => by
    obtain ⟨Γ1, Γ2, h1, h2, h3, h4⟩ := h x List.mem_cons_self
    have ih := compL_if en p f Γ xs fun y hy => h y (List.mem_cons_of_mem _ hy)
    rw [List.map_cons]
    unfold compL
    rw [h1]
    dsimp only
    rw [h2]
    dsimp only
    cases hp : p x with
    | true =>
      obtain ⟨Γ3, h5, h6⟩ := h3 hp
      rw [if_pos rfl, h5]
      dsimp only
      rw [h6, ih, List.filter_cons, hp]
      rfl
    | false =>
      rw [if_neg Bool.false_ne_true, h4 hp, ih, List.filter_cons, hp]
      rfl
theorem encR_len (r : List (Option Nat)) : (encR r).length = r.length := List.length_map _
theorem encR_s (r : List (Option Nat)) (u : Nat) : encR (r ++ [some u]) = encR r ++ [.int u] := by simp [encR, encO]
theorem encR_n (r : List (Option Nat)) : encR (r ++ [none]) = encR r ++ [.non] := by simp [encR, encO]
def dLiftIn : DS := (dIfS (dTr (dIsN (dPk 8))) (dEx (dMt gAppend 7 (dCons (dNon) (dNil)))) (dEx (dMt gAppend 7 (dCons (fz (dC1 (m_law_pick) 0 (dCons (fz (dComp [4] (dIt itR1 (dUn gLen (dPk 3))) (gN 4) (dTr (dOp gEq (dIxN 3 (dNm 4)) (dNm 8))) (dNm 4))) (dNil)))) (dNil)))))
theorem lift_in (ds : List Int) (t : List Pl) (most : PV) (cover : List Nat) (hc : cover.length ≤ 100) (told : List PV) (k s6 s8 : Sl) (row : List (Option Nat)) (hrow : ∀ g, some g ∈ row → g ∈ cover) (hlen : row.length ≤ 10) : ∃ (row' : List (Option Nat)) (ds' : List Int) (s4' s8' : Sl), row'.length = row.length ∧ (∀ g, some g ∈ row' → g < cover.length) ∧
    loopD (dTurn (gN 8) dLiftIn) (encR row) [.mu .par (dr ds), .val (encT t), .val most, .val (.lst (nls cover)), k, .mu .own (.lst told), s6, .mu .own (.lst []), s8] = some (.nx [.mu .par (dr ds'), .val (encT t), .val most, .val (.lst (nls cover)), s4', .mu .own (.lst told), s6, .mu .own (.lst (encR row')), s8']) := by
  let I : Nat → Ev → Prop := fun j Γ => ∃ (ds : List Int) (r : List (Option Nat)) (a b : Sl), r.length = j ∧ (∀ g, some g ∈ r → g < cover.length) ∧ Γ = [.mu .par (dr ds), .val (encT t), .val most, .val (.lst (nls cover)), a, .mu .own (.lst told), s6, .mu .own (.lst (encR r)), b]
  obtain ⟨Γ', e3, ds', r, a, b, q1, q2, rfl⟩ := loopD_inv (step := dTurn (gN 8) dLiftIn) I (encR row) 0 [.mu .par (dr ds), .val (encT t), .val most, .val (.lst (nls cover)), k, .mu .own (.lst told), s6, .mu .own (.lst []), s8] ⟨ds, [], _, _, rfl, (fun _ h => by cases h), rfl⟩ fun j x Γ hx ⟨ds, r, a, b, q1, q2, hΓ⟩ => by
    subst hΓ
    unfold encR at hx
    rw [List.getElem?_map] at hx
    obtain ⟨g, hg, rfl⟩ := Option.map_eq_some_iff.mp hx
    have hj : j < row.length := (List.getElem?_eq_some_iff.mp hg).1
    have f1 : fits (r.length + 1) = true := fits_of (by omega)
    cases g with
    | none =>
      refine ⟨[.mu .par (dr ds), .val (encT t), .val most, .val (.lst (nls cover)), a, .mu .own (.lst told), s6, .mu .own (.lst (encR (r ++ [none]))), .val .non], .inl ?_, ds, _, _, _, by rw [List.length_append, q1]; rfl, fun v hv => ?_, rfl⟩
      · simp [dLiftIn, encO, encR_len, f1, encR_s, encR_n]
      · rcases List.mem_append.mp hv with hv | hv
        · exact q2 v hv
        · simp at hv
    | some g =>
      have hgc := hrow g (List.mem_of_getElem? hg)
      have hcp : compL [4] (gN 4) (dTr (dOp gEq (dIxN 3 (dNm 4)) (dNm 8))) (dNm 4) (rgP 0 cover.length) [.mu .par (dr ds), .val (encT t), .val most, .val (.lst (nls cover)), .un, .mu .own (.lst told), s6, .mu .own (.lst (encR r)), .val (.int g)] = some (nls ((List.range cover.length).filter fun i => cover[i]? == some g), [.mu .par (dr ds), .val (encT t), .val most, .val (.lst (nls cover)), .un, .mu .own (.lst told), s6, .mu .own (.lst (encR r)), .val (.int g)]) := by
        rw [rgP_nls]
        refine compL_if (fun i : Nat => PV.int (i : Int)) (fun i => cover[i]? == some g) _ _ _ fun i hi => ?_
        have hi' : i < cover.length := List.mem_range.mp hi
        have ei : cover[i]? = some cover[i] := List.getElem?_eq_getElem hi'
        have ea := at_nls ei
        refine ⟨[.mu .par (dr ds), .val (encT t), .val most, .val (.lst (nls cover)), .val (.int i), .mu .own (.lst told), s6, .mu .own (.lst (encR r)), .val (.int g)], [.mu .par (dr ds), .val (encT t), .val most, .val (.lst (nls cover)), .val (.int i), .mu .own (.lst told), s6, .mu .own (.lst (encR r)), .val (.int g)], rfl, ?_, fun _ => ⟨[.mu .par (dr ds), .val (encT t), .val most, .val (.lst (nls cover)), .val (.int i), .mu .own (.lst told), s6, .mu .own (.lst (encR r)), .val (.int g)], rfl, rfl⟩, fun _ => rfl⟩
        have : ((cover[i] : Int) == (g : Int)) = (cover[i]? == some g) := by
          rw [ei, Bool.eq_iff_iff]
          simp
          omega
        simp [ea, this]
      obtain ⟨i, hi, hci⟩ := List.mem_iff_getElem.mp hgc
      have hmem : i ∈ (List.range cover.length).filter fun i => cover[i]? == some g := by
        rw [List.mem_filter]
        exact ⟨List.mem_range.mpr hi, by rw [List.getElem?_eq_getElem hi, hci]; simp⟩
      obtain ⟨y, ds1, hy, e1⟩ := pick_eq ds (.lst (nls ((List.range cover.length).filter fun i => cover[i]? == some g))) _ (.inl rfl) (by
        intro hnil
        rw [List.map_eq_nil_iff.mp hnil] at hmem
        cases hmem)
      obtain ⟨u, hu, rfl⟩ := List.mem_map.mp hy
      have hu' : u < cover.length := List.mem_range.mp (List.mem_filter.mp hu).1
      have f2 : fits cover.length = true := fits_of (by omega)
      generalize (List.range cover.length).filter (fun i => cover[i]? == some g) = F at hcp e1
      refine ⟨[.mu .par (dr ds1), .val (encT t), .val most, .val (.lst (nls cover)), a, .mu .own (.lst told), s6, .mu .own (.lst (encR (r ++ [some u]))), .val (.int g)], .inl ?_, ds1, _, _, _, by rw [List.length_append, q1]; rfl, fun v hv => ?_, rfl⟩
      · simp [dLiftIn, encO, itR1_nat (show cover.length ≤ 1000000 by omega), rgP_length, f2, hcp, e1, encR_len, f1, encR_s, encR_n]
      · rcases List.mem_append.mp hv with hv | hv
        · exact q2 v hv
        · simp at hv
          omega
  rw [encR_len, Nat.zero_add] at q1
  exact ⟨r, ds', a, b, q1, q2, e3⟩
def dLiftOut : DS := (dSeq (dSet 7 (dLst (dNil)))
        (dSeq (dFor (dIt itP (dOp gIx (dIxN 1 (dNm 6)) (dInt 1))) (gN 8) dLiftIn)
        (dEx (dMt gAppend 5 (dCons (dTup (dCons (dOp gIx (dIxN 1 (dNm 6)) (dInt 0)) (dCons (dUn gTupOf (dPk 7)) (dNil)))) (dNil))))))
theorem lift_eq (ds : List Int) (t : List Pl) (ht : 0 < t.length) (ht2 : t.length ≤ 10) (ok : ∀ p ∈ t, OKP t.length p) (most : Nat) (hm : t.length ≤ most) (hm2 : most ≤ 50) : ∃ (t' : List Pl) (c : List PV) (ds' : List Int), 0 < t'.length ∧ t'.length ≤ most ∧ (∀ p ∈ t', OKP t'.length p) ∧ m_law_lift (dr ds) [encT t, .int most] = some (.new (.lst [encT t', .tup c]), dr ds') := by
  -- the cover
  let I : Nat → Ev → Prop := fun _ Γ => ∃ (ds : List Int) (cover : List Nat) (a : Sl), cover.length ≤ most ∧ (∀ g, g < t.length → g ∈ cover) ∧ (∀ c ∈ cover, c < t.length) ∧ Γ = [.mu .par (dr ds), .val (encT t), .val (.int most), .mu .own (.lst (nls cover)), a, .un, .un, .un, .un]
  obtain ⟨Γ', e3, ds1, cover, a, q1, q2, q3, rfl⟩ := loopD_inv (step := dTurn (gN 4) (dIfS (dBAnd (dTr (dOp gLt (dUn gLen (dPk 3)) (dNm 2))) (dTr (dOp gEq (fz (dC1 (m_law_take) 0 (dCons (dInt 2) (dNil)))) (dInt 1)))) (dEx (dMt gAppend 3 (dCons (dOp gMod (dUn gInt (dPk 4)) (dUn gLen (dPk 1))) (dNil)))) (dSkip))) I (rgP 0 (2 * t.length)) 0 [.mu .par (dr ds), .val (encT t), .val (.int most), .mu .own (.lst (nls (List.range t.length))), .un, .un, .un, .un, .un] ⟨ds, List.range t.length, .un, by rw [List.length_range]; exact hm, fun g hg => List.mem_range.mpr hg, fun c hc => List.mem_range.mp hc, rfl⟩ fun k x Γ hx ⟨ds, cover, a, q1, q2, q3, hΓ⟩ => by
    obtain ⟨hk, rfl⟩ := rgP_get hx
    subst hΓ
    rw [Int.zero_add]
    by_cases c1 : cover.length < most
    · obtain ⟨z, ds2, hz, e2⟩ := take_eq ds 2 (by decide)
      by_cases c2 : z = 1
      · subst c2
        have hmod : (k : Int).fmod t.length = ((k % t.length : Nat) : Int) := by
          rw [Int.fmod_eq_emod_of_nonneg _ (by omega)]
          omega
        have hlt : k % t.length < t.length := Nat.mod_lt _ ht
        have hne : t ≠ [] := List.length_pos_iff.mp ht
        have f1 : fits (cover.length + 1) = true := fits_of (by omega)
        refine ⟨[.mu .par (dr ds2), .val (encT t), .val (.int most), .mu .own (.lst (nls (cover ++ [k % t.length]))), .val (.int k), .un, .un, .un, .un], .inl ?_, ds2, _, _, by rw [List.length_append]; exact c1, fun g hg => List.mem_append_left _ (q2 g hg), fun c hc => ?_, rfl⟩
        · have hn : nls (cover ++ [k % t.length]) = nls cover ++ [.int ((k % t.length : Nat) : Int)] := by simp [nls]
          rw [hn]
          have lt : gLen (encT t) = some (.int t.length) := by simp [encT]
          have gm : gMod (.int k) (.int t.length) = some (.int ((k % t.length : Nat) : Int)) := by simp [hne, hmod]
          generalize ((k % t.length : Nat) : Int) = kk at *
          simp [-gLen, -gMod, lt, gm, show gLen (.lst (nls cover)) = some (.int cover.length) by simp, c1, e2, f1]
        · rcases List.mem_append.mp hc with hc | hc
          · exact q3 c hc
          · cases List.mem_singleton.mp hc
            exact hlt
      · have c2' : ¬ (z : Int) = 1 := by omega
        exact ⟨[.mu .par (dr ds2), .val (encT t), .val (.int most), .mu .own (.lst (nls cover)), .val (.int k), .un, .un, .un, .un], .inl (by simp [c1, e2, c2, c2']), ds2, cover, _, q1, q2, q3, rfl⟩
    · exact ⟨[.mu .par (dr ds), .val (encT t), .val (.int most), .mu .own (.lst (nls cover)), .val (.int k), .un, .un, .un, .un], .inl (by simp [c1]), ds, cover, _, q1, q2, q3, rfl⟩
  obtain ⟨ys, ds2, hperm, e4⟩ := shuffled_eq ds1 (nls cover) (by rw [nls_length]; omega) (.lst (nls cover)) rfl
  obtain ⟨cov, rfl, hp⟩ := perm_nls hperm
  have hcl := hp.length_eq
  have q2' : ∀ g, g < t.length → g ∈ cov := fun g hg => hp.mem_iff.mpr (q2 g hg)
  have q3' : ∀ c ∈ cov, c < t.length := fun c hc => q3 c (hp.mem_iff.mp hc)
  let J : Nat → Ev → Prop := fun k Γ => ∃ (ds : List Int) (t' : List Pl) (a b c d : Sl), t'.length = k ∧ (∀ p ∈ t', OKP cov.length p) ∧ Γ = [.mu .par (dr ds), .val (encT t), .val (.int most), .val (.lst (nls cov)), a, .mu .own (.lst (t'.map encP)), b, c, d]
  obtain ⟨Γ', e5, ds3, t', b, c, d, f, r1, r2, rfl⟩ := loopD_inv (step := dTurn (gN 6) dLiftOut) J (nls cov) 0 [.mu .par (dr ds2), .val (encT t), .val (.int most), .val (.lst (nls cov)), a, .mu .own (.lst []), .un, .un, .un] ⟨ds2, [], _, _, _, _, rfl, (fun _ h => by cases h), rfl⟩ fun k x Γ hx ⟨ds, t', a, b, c, d, r1, r2, hΓ⟩ => by
    subst hΓ
    unfold nls at hx
    rw [List.getElem?_map] at hx
    obtain ⟨p, hp, rfl⟩ := Option.map_eq_some_iff.mp hx
    have hk : k < cov.length := (List.getElem?_eq_some_iff.mp hp).1
    have hpt := q3' p (List.mem_of_getElem? hp)
    have ep : t[p]? = some t[p] := List.getElem?_eq_getElem hpt
    have op := ok _ (List.getElem_mem hpt)
    have ea := at_T ep
    generalize t[p] = pl at *
    obtain ⟨row', ds', s4', s8', l1, l2, e6⟩ := lift_in ds t (.int most) cov (by omega) (t'.map encP) a (.val (.int p)) d pl.2 (fun g hg => q2' g (op.goal g hg)) op.len
    have f1 : fits (t'.length + 1) = true := fits_of (by omega)
    have ixT : gIx (encT t) (.int p) = some (encP pl) := ea
    refine ⟨[.mu .par (dr ds'), .val (encT t), .val (.int most), .val (.lst (nls cov)), s4', .mu .own (.lst ((t' ++ [(pl.1, row')]).map encP)), .val (.int p), .mu .own (.lst (encR row')), s8'], .inl ?_, ds', _, _, _, _, _, by rw [List.length_append, r1]; rfl, fun v hv => ?_, rfl⟩
    · show dLiftOut _ = _
      unfold dLiftOut
      refine (dSeq_nx (Γ1 := [.mu .par (dr ds), .val (encT t), .val (.int most), .val (.lst (nls cov)), a, .mu .own (.lst (t'.map encP)), .val (.int p), .mu .own (.lst []), d]) (by simp [mkL])).trans ?_
      have i1 : gIx (encP pl) (.int 1) = some (.tup (encR pl.2)) := rfl
      have i0 : gIx (encP pl) (.int 0) = some (.str pl.1) := rfl
      have ep2 : PV.tup [.str pl.1, .tup (encR row')] = encP (pl.1, row') := rfl
      refine (dSeq_nx ((dFor_of (xs := encR pl.2) (by simp [-gIx, ixT, i1])).trans e6)).trans ?_
      simp [-gIx, ixT, i0, mkT, f1, ep2]
    · rcases List.mem_append.mp hv with hv | hv
      · exact r2 v hv
      · cases List.mem_singleton.mp hv
        exact ⟨op.w, by show row'.length ≤ 10; rw [l1]; exact op.len, by show 0 < row'.length; rw [l1]; exact op.has, l2⟩
  rw [nls_length, Nat.zero_add] at r1
  refine ⟨t', nls cov, ds3, ?_, by omega, by rw [r1]; exact r2, ?_⟩
  · rw [r1]
    exact List.length_pos_of_mem (q2' 0 ht)
  have lt : gLen (encT t) = some (.int t.length) := by simp [encT]
  have rg : itR1 (.int t.length) = some (nls (List.range t.length)) := by rw [itR1_nat (by omega), rgP_nls]
  have lr : gLRg (some (nls (List.range t.length))) = some (.new (.lst (nls (List.range t.length)))) := by
    unfold gLRg
    dsimp only
    rw [if_pos (fits_of (by rw [nls_length, List.length_range]; omega))]
  have m2 : gMul (.int 2) (.int t.length) = some (.int (2 * (t.length : Int))) := if_pos (mulOk_of (k := 2) (l := 20) (bd_lit (by decide)) (bd_of (by omega) (by omega)) (by omega))
  have rg2 : itR1 (.int (2 * (t.length : Int))) = some (rgP 0 (2 * t.length)) := itR1_int (by omega) (by omega)
  refine sem1_rt rfl (Γ' := [.val (encT t), .val (.int most), .val (.lst (nls cov)), b, .mu .own (.lst (t'.map encP)), c, d, f]) ?_
  unfold d_law_lift
  refine (dSeq_nx (Γ1 := [.mu .par (dr ds), .val (encT t), .val (.int most), .mu .own (.lst (nls (List.range t.length))), .un, .un, .un, .un, .un]) (by simp [-gLen, lt, rg, lr])).trans ?_
  refine (dSeq_nx ((dFor_of (xs := rgP 0 (2 * t.length)) (by simp [-gLen, lt, m2, rg2])).trans e3)).trans ?_
  refine (dSeq_nx (Γ1 := [.mu .par (dr ds2), .val (encT t), .val (.int most), .mu .own (.lst (nls cov)), a, .un, .un, .un, .un]) (by simp [e4])).trans ?_
  refine (dSeq_nx (Γ1 := [.mu .par (dr ds2), .val (encT t), .val (.int most), .mu .own (.lst (nls cov)), a, .mu .own (.lst []), .un, .un, .un]) (by simp [mkL])).trans ?_
  refine (dSeq_nx ((dFor_of (xs := nls cov) (by simp)).trans e5)).trans ?_
  simp [mkL, encT]
/-! ### sights, steps -/
structure OKT (t : List Pl) : Prop where
  pos : 0 < t.length
  few : t.length ≤ 60
  pl : ∀ p ∈ t, OKP t.length p
abbrev Sg := Str × List Int
def sgP (p : Pl) : Sg := (p.1, p.2.map fun o => if o.isSome then 1 else 0)
def encS (s : Sg) : PV := .tup [.str s.1, .tup (ils s.2)]
def sg (t : List Pl) (i : Nat) : Sg := sgP (t.getD i (Str.empty, []))
def stp (t : List Pl) (i d : Nat) : Option Nat := ((t.getD i (Str.empty, [])).2[d]?).join
theorem getD_at {t : List Pl} {i : Nat} (h : i < t.length) : t[i]? = some (t.getD i (Str.empty, [])) := by simp [List.getD, h]
theorem stp_lt {t : List Pl} (ok : OKT t) {i d j : Nat} (hi : i < t.length) (h : stp t i d = some j) : j < t.length := by
  have hp := ok.pl _ (List.mem_of_getElem? (getD_at hi))
  unfold stp at h
  generalize t.getD i (Str.empty, []) = p at *
  cases e : p.2[d]? with
  | none => rw [e] at h; cases h
  | some o =>
    rw [e] at h
    have : o = some j := h
    subst this
    exact hp.goal j (List.mem_of_getElem? e)
theorem ixT {t : List Pl} {i : Nat} (h : i < t.length) : gIx (encT t) (.int i) = some (encP (t.getD i (Str.empty, []))) := at_T (getD_at h)
theorem ixP0 (p : Pl) : gIx (encP p) (.int 0) = some (.str p.1) := rfl
theorem ixP1 (p : Pl) : gIx (encP p) (.int 1) = some (.tup (encR p.2)) := rfl
theorem fitP {t : List Pl} (ok : OKT t) {i : Nat} (hi : i < t.length) : fits (encR (t.getD i (Str.empty, [])).2).length = true := fits_of (by
  have := (ok.pl _ (List.mem_of_getElem? (getD_at hi))).len
  rw [encR_len]
  omega)
theorem sight_at_eq {t : List Pl} (ok : OKT t) {i : Nat} (hi : i < t.length) : m_sight_at [encT t, .int i] = some (.val (encS (sg t i))) := by
  have e1 := ixT hi
  have f1 := fitP ok hi
  unfold sg
  generalize t.getD i (Str.empty, []) = p at *
  have hc : ∀ Γ0 Γ1 Γ2 Γ3 : Sl, compL [4] (gN 4) dYes (dIf (dTr (dIsN (dPk 4))) (dInt 0) (dInt 1)) (encR p.2) [Γ0, Γ1, Γ2, Γ3, .un] = some (ils (sgP p).2, [Γ0, Γ1, Γ2, Γ3, .un]) := fun a b c d => by
    have e : ils (sgP p).2 = p.2.map fun o => PV.int (if o.isSome then 1 else 0) := by simp [ils, sgP, Function.comp_def]
    rw [e]
    refine compL_on encO _ _ p.2 fun o _ => ⟨[a, b, c, d, .val (encO o)], _, [a, b, c, d, .val (encO o)], rfl, rfl, ?_, rfl⟩
    cases o <;> simp [encO]
  have e2 : encP p = .tup [.str p.1, .tup (encR p.2)] := rfl
  rw [e2] at e1
  simp [-gIx, m_sight_at, d_sight_at, e1, f1, hc, mkT, encS]
  rfl
theorem law_sight_eq {t : List Pl} (ok : OKT t) {i : Nat} (hi : i < t.length) : m_law_sight [encT t, .int i] = some (.val (encS (sg t i))) := by
  have e1 := ixT hi
  have f1 := fitP ok hi
  unfold sg
  generalize t.getD i (Str.empty, []) = p at *
  have hc : ∀ Γ0 Γ1 : Sl, compL [2] (gN 2) dYes (dUn gInt (dNotN (dPk 2))) (encR p.2) [Γ0, Γ1, .un] = some (ils (sgP p).2, [Γ0, Γ1, .un]) := fun a b => by
    have e : ils (sgP p).2 = p.2.map fun o => PV.int (if o.isSome then 1 else 0) := by simp [ils, sgP, Function.comp_def]
    rw [e]
    refine compL_on encO _ _ p.2 fun o _ => ⟨[a, b, .val (encO o)], _, [a, b, .val (encO o)], rfl, rfl, ?_, rfl⟩
    cases o <;> simp [encO]
  simp [-gIx, m_law_sight, d_law_sight, e1, ixP0, ixP1, f1, hc, mkT, encS]
  rfl
theorem at_R {r : List (Option Nat)} {d : Nat} (h : d < r.length) : gIx (.tup (encR r)) (.int d) = some (encO (r[d]?).join) := by
  have e : r[d]? = some r[d] := List.getElem?_eq_getElem h
  rw [e]
  exact atI_of (by unfold encR; rw [List.getElem?_map, e]; rfl)
theorem step_eq {t : List Pl} (ok : OKT t) {i : Nat} (d : Nat) (hi : i < t.length) : m_step_from [encT t, .int i, .int d] = some (.val (encO (stp t i d))) := by
  have e1 := ixT hi
  unfold stp
  generalize t.getD i (Str.empty, []) = p at *
  by_cases c : d < p.2.length
  · have e2 := at_R c
    have c2 : ¬ p.2.length ≤ d := by omega
    simp [-gIx, m_step_from, d_step_from, e1, ixP1, encR_len, c2, e2]
  · have c2 : p.2.length ≤ d := by omega
    rw [List.getElem?_eq_none c2]
    simp [-gIx, m_step_from, d_step_from, e1, ixP1, encR_len, c2, encO]
theorem goal_eq {t : List Pl} (ok : OKT t) {i : Nat} (d : Nat) (hi : i < t.length) : m_law_goal [encT t, .int i, .int d] = some (.val (encO (stp t i d))) := by
  have e1 := ixT hi
  unfold stp
  generalize t.getD i (Str.empty, []) = p at *
  have c0 : ¬ ((d : Int) < 0) := by omega
  by_cases c : d < p.2.length
  · have e2 := at_R c
    have c2 : ¬ p.2.length ≤ d := by omega
    simp [-gIx, m_law_goal, d_law_goal, e1, ixP1, encR_len, c0, c2, e2]
  · have c2 : p.2.length ≤ d := by omega
    rw [List.getElem?_eq_none c2]
    simp [-gIx, m_law_goal, d_law_goal, e1, ixP1, encR_len, c0, c2, encO]
def endd (t : List Pl) : Nat → List Nat → Option Nat
  | i, [] => some i
  | i, d :: w => match stp t i d with
    | some j => endd t j w
    | none => none
theorem end_loop {t : List Pl} (ok : OKT t) (f : List PV → Option Rs) (hf : ∀ i d : Nat, i < t.length → f [encT t, .int i, .int d] = some (.val (encO (stp t i d)))) (p2 p3 : Sl) : ∀ (w : List Nat) (i : Nat) (s : Sl), i < t.length →
    (∃ (j : Nat) (s' : Sl), endd t i w = some j ∧ j < t.length ∧ loopD (dTurn (gN 4) (dSeq (dSet 3 (dC0 f (dCons (dNm 0) (dCons (dNm 3) (dCons (dNm 4) (dNil))))))
        (dIfS (dTr (dIsN (dPk 3))) (dRt (vl (dNon))) (dSkip)))) (nls w) [.val (encT t), p2, p3, .val (.int i), s] = some (.nx [.val (encT t), p2, p3, .val (.int j), s'])) ∨
    (endd t i w = none ∧ ∃ Γ', loopD (dTurn (gN 4) (dSeq (dSet 3 (dC0 f (dCons (dNm 0) (dCons (dNm 3) (dCons (dNm 4) (dNil))))))
        (dIfS (dTr (dIsN (dPk 3))) (dRt (vl (dNon))) (dSkip)))) (nls w) [.val (encT t), p2, p3, .val (.int i), s] = some (.rt (.val .non) Γ'))
  | [], i, s, hi => .inl ⟨i, s, rfl, hi, rfl⟩
  | d :: w, i, s, hi => by
    have h1 := hf i d hi
    have ex : nls (d :: w) = .int d :: nls w := rfl
    rw [ex]
    unfold endd loopD
    cases e : stp t i d with
    | none =>
      rw [e] at h1
      refine .inr ⟨rfl, [.val (encT t), p2, p3, .val .non, .val (.int d)], ?_⟩
      simp [h1, encO]
    | some j =>
      rw [e] at h1
      have ht : dTurn (gN 4) (dSeq (dSet 3 (dC0 f (dCons (dNm 0) (dCons (dNm 3) (dCons (dNm 4) (dNil))))))
        (dIfS (dTr (dIsN (dPk 3))) (dRt (vl (dNon))) (dSkip))) (.int d) [.val (encT t), p2, p3, .val (.int i), s] = some (.nx [.val (encT t), p2, p3, .val (.int j), .val (.int d)]) := by simp [h1, encO]
      rw [ht]
      exact end_loop ok f hf p2 p3 w j _ (stp_lt ok hi e)
theorem led_to_eq {t : List Pl} (ok : OKT t) {i : Nat} (w : List Nat) (hi : i < t.length) : m_led_to [encT t, .int i, .tup (nls w)] = some (.val (encO (endd t i w))) := by
  rcases end_loop ok m_step_from (fun i d h => step_eq ok d h) (.val (.int i)) (.val (.tup (nls w))) w i .un hi with ⟨j, s', e1, _, e2⟩ | ⟨e1, Γ', e2⟩
  · simp [m_led_to, d_led_to, e1, e2, encO]
  · simp [m_led_to, d_led_to, e1, e2, encO]
theorem law_end_eq {t : List Pl} (ok : OKT t) {i : Nat} (w : List Nat) (hi : i < t.length) : m_law_end [encT t, .int i, .tup (nls w)] = some (.val (encO (endd t i w))) := by
  rcases end_loop ok m_law_goal (fun i d h => goal_eq ok d h) (.val (.int i)) (.val (.tup (nls w))) w i .un hi with ⟨j, s', e1, _, e2⟩ | ⟨e1, Γ', e2⟩
  · simp [m_law_end, d_law_end, e1, e2, encO]
  · simp [m_law_end, d_law_end, e1, e2, encO]
def tl (t : List Pl) : Nat → List Nat → Option (List Sg)
  | _, [] => some []
  | i, d :: w => match stp t i d with
    | some j => (tl t j w).map (sg t j :: ·)
    | none => none
def ses (l : List Sg) : List PV := l.map encS
@[simp] theorem ses_length (l : List Sg) : (ses l).length = l.length := List.length_map _
theorem ses_app (l : List Sg) (s : Sg) : ses l ++ [encS s] = ses (l ++ [s]) := by simp [ses]
theorem shown_loop {t : List Pl} (ok : OKT t) (p1 p2 : Sl) : ∀ (w : List Nat) (i : Nat) (acc : List Sg) (s : Sl), acc.length + w.length ≤ 1000 → i < t.length →
    (∃ (l : List Sg) (s' s'' : Sl), tl t i w = some l ∧ loopD (dTurn (gN 5) (dSeq (dSet 4 (dC0 (m_law_goal) (dCons (dNm 0) (dCons (dNm 4) (dCons (dNm 5) (dNil))))))
        (dSeq (dIfS (dTr (dIsN (dPk 4))) (dRt (vl (dNon))) (dSkip))
        (dEx (dMt gAppend 3 (dCons (fz (dC0 (m_law_sight) (dCons (dNm 0) (dCons (dNm 4) (dNil))))) (dNil))))))) (nls w) [.val (encT t), p1, p2, .mu .own (.lst (ses acc)), .val (.int i), s] = some (.nx [.val (encT t), p1, p2, .mu .own (.lst (ses (acc ++ l))), s', s''])) ∨
    (tl t i w = none ∧ ∃ Γ', loopD (dTurn (gN 5) (dSeq (dSet 4 (dC0 (m_law_goal) (dCons (dNm 0) (dCons (dNm 4) (dCons (dNm 5) (dNil))))))
        (dSeq (dIfS (dTr (dIsN (dPk 4))) (dRt (vl (dNon))) (dSkip))
        (dEx (dMt gAppend 3 (dCons (fz (dC0 (m_law_sight) (dCons (dNm 0) (dCons (dNm 4) (dNil))))) (dNil))))))) (nls w) [.val (encT t), p1, p2, .mu .own (.lst (ses acc)), .val (.int i), s] = some (.rt (.val .non) Γ'))
  | [], i, acc, s, _, hi => .inl ⟨[], _, _, rfl, by rw [List.append_nil]; rfl⟩
  | d :: w, i, acc, s, hl, hi => by
    have h1 := goal_eq ok d hi
    have ex : nls (d :: w) = .int d :: nls w := rfl
    rw [ex]
    rw [List.length_cons] at hl
    unfold tl loopD
    cases e : stp t i d with
    | none =>
      rw [e] at h1
      refine .inr ⟨rfl, [.val (encT t), p1, p2, .mu .own (.lst (ses acc)), .val .non, .val (.int d)], ?_⟩
      simp [h1, encO]
    | some j =>
      rw [e] at h1
      have h2 := law_sight_eq ok (stp_lt ok hi e)
      have f1 : fits (acc.length + 1) = true := fits_of (by omega)
      have ht : dTurn (gN 5) (dSeq (dSet 4 (dC0 (m_law_goal) (dCons (dNm 0) (dCons (dNm 4) (dCons (dNm 5) (dNil))))))
        (dSeq (dIfS (dTr (dIsN (dPk 4))) (dRt (vl (dNon))) (dSkip))
        (dEx (dMt gAppend 3 (dCons (fz (dC0 (m_law_sight) (dCons (dNm 0) (dCons (dNm 4) (dNil))))) (dNil)))))) (.int d) [.val (encT t), p1, p2, .mu .own (.lst (ses acc)), .val (.int i), s] = some (.nx [.val (encT t), p1, p2, .mu .own (.lst (ses (acc ++ [sg t j]))), .val (.int j), .val (.int d)]) := by simp [h1, h2, f1, encO, ses_app]
      rw [ht]
      rcases shown_loop ok p1 p2 w j (acc ++ [sg t j]) _ (by simp; omega) (stp_lt ok hi e) with ⟨l, s', s'', e1, e2⟩ | ⟨e1, Γ', e2⟩
      · refine .inl ⟨sg t j :: l, s', s'', by dsimp only; rw [e1]; rfl, ?_⟩
        dsimp only
        rw [e2, List.append_assoc]
        rfl
      · exact .inr ⟨by dsimp only; rw [e1]; rfl, Γ', e2⟩
theorem along_loop {t : List Pl} (ok : OKT t) (p1 p2 : Sl) : ∀ (w : List Nat) (i : Nat) (acc : List Sg) (s : Sl), acc.length + w.length ≤ 1000 → i < t.length →
    (∃ (l : List Sg) (s' s'' : Sl), tl t i w = some l ∧ loopD (dTurn (gN 5) (dSeq (dSet 3 (dC0 (m_step_from) (dCons (dNm 0) (dCons (dNm 3) (dCons (dNm 5) (dNil))))))
        (dSeq (dIfS (dTr (dIsN (dPk 3))) (dRt (vl (dNon))) (dSkip))
        (dEx (dMt gAppend 4 (dCons (fz (dC0 (m_sight_at) (dCons (dNm 0) (dCons (dNm 3) (dNil))))) (dNil))))))) (nls w) [.val (encT t), p1, p2, .val (.int i), .mu .own (.lst (ses acc)), s] = some (.nx [.val (encT t), p1, p2, s', .mu .own (.lst (ses (acc ++ l))), s''])) ∨
    (tl t i w = none ∧ ∃ Γ', loopD (dTurn (gN 5) (dSeq (dSet 3 (dC0 (m_step_from) (dCons (dNm 0) (dCons (dNm 3) (dCons (dNm 5) (dNil))))))
        (dSeq (dIfS (dTr (dIsN (dPk 3))) (dRt (vl (dNon))) (dSkip))
        (dEx (dMt gAppend 4 (dCons (fz (dC0 (m_sight_at) (dCons (dNm 0) (dCons (dNm 3) (dNil))))) (dNil))))))) (nls w) [.val (encT t), p1, p2, .val (.int i), .mu .own (.lst (ses acc)), s] = some (.rt (.val .non) Γ'))
  | [], i, acc, s, _, hi => .inl ⟨[], _, _, rfl, by rw [List.append_nil]; rfl⟩
  | d :: w, i, acc, s, hl, hi => by
    have h1 := step_eq ok d hi
    have ex : nls (d :: w) = .int d :: nls w := rfl
    rw [ex]
    rw [List.length_cons] at hl
    unfold tl loopD
    cases e : stp t i d with
    | none =>
      rw [e] at h1
      refine .inr ⟨rfl, [.val (encT t), p1, p2, .val .non, .mu .own (.lst (ses acc)), .val (.int d)], ?_⟩
      simp [h1, encO]
    | some j =>
      rw [e] at h1
      have h2 := sight_at_eq ok (stp_lt ok hi e)
      have f1 : fits (acc.length + 1) = true := fits_of (by omega)
      have ht : dTurn (gN 5) (dSeq (dSet 3 (dC0 (m_step_from) (dCons (dNm 0) (dCons (dNm 3) (dCons (dNm 5) (dNil))))))
        (dSeq (dIfS (dTr (dIsN (dPk 3))) (dRt (vl (dNon))) (dSkip))
        (dEx (dMt gAppend 4 (dCons (fz (dC0 (m_sight_at) (dCons (dNm 0) (dCons (dNm 3) (dNil))))) (dNil)))))) (.int d) [.val (encT t), p1, p2, .val (.int i), .mu .own (.lst (ses acc)), s] = some (.nx [.val (encT t), p1, p2, .val (.int j), .mu .own (.lst (ses (acc ++ [sg t j]))), .val (.int d)]) := by simp [h1, h2, f1, encO, ses_app]
      rw [ht]
      rcases along_loop ok p1 p2 w j (acc ++ [sg t j]) _ (by simp; omega) (stp_lt ok hi e) with ⟨l, s', s'', e1, e2⟩ | ⟨e1, Γ', e2⟩
      · refine .inl ⟨sg t j :: l, s', s'', by dsimp only; rw [e1]; rfl, ?_⟩
        dsimp only
        rw [e2, List.append_assoc]
        rfl
      · exact .inr ⟨by dsimp only; rw [e1]; rfl, Γ', e2⟩
def encL : Option (List Sg) → PV
  | none => .non
  | some l => .tup (ses l)
def shw (t : List Pl) (i : Nat) (w : List Nat) : Option (List Sg) := (tl t i w).map (sg t i :: ·)
theorem shown_eq {t : List Pl} (ok : OKT t) {i : Nat} (w : List Nat) (hw : w.length ≤ 900) (hi : i < t.length) : m_law_shown [encT t, .int i, .tup (nls w)] = some (.val (encL (shw t i w))) := by
  have h2 := law_sight_eq ok hi
  have e0 : [encS (sg t i)] = ses [sg t i] := rfl
  rcases shown_loop ok (.val (.int i)) (.val (.tup (nls w))) w i [sg t i] .un (by simp; omega) hi with ⟨l, s', s'', e1, e2⟩ | ⟨e1, Γ', e2⟩
  · simp [m_law_shown, d_law_shown, h2, mkL, e0, shw, e1, e2, encL]
  · simp [m_law_shown, d_law_shown, h2, mkL, e0, shw, e1, e2, encL]
theorem along_eq {t : List Pl} (ok : OKT t) {i : Nat} (w : List Nat) (hw : w.length ≤ 900) (hi : i < t.length) : m_sights_along [encT t, .int i, .tup (nls w)] = some (.val (encL (shw t i w))) := by
  have h2 := sight_at_eq ok hi
  have e0 : [encS (sg t i)] = ses [sg t i] := rfl
  rcases along_loop ok (.val (.int i)) (.val (.tup (nls w))) w i [sg t i] .un (by simp; omega) hi with ⟨l, s', s'', e1, e2⟩ | ⟨e1, Γ', e2⟩
  · simp [m_sights_along, d_sights_along, h2, mkL, e0, shw, e1, e2, encL]
  · simp [m_sights_along, d_sights_along, h2, mkL, e0, shw, e1, e2, encL]
/-! ### equality of sights -/
theorem eqvAll_map {α : Type} [DecidableEq α] (en : α → PV) (P : α → Prop) (he : ∀ a b, pvEq (en a) (en b) = decide (a = b)) : ∀ (xs ys : List α), PyData.eqvAll (toPDs (xs.map en)) (toPDs (ys.map en)) = decide (xs = ys)
  | [], [] => by simp [toPDs, PyData.eqvAll]
  | [], y :: ys => by simp [toPDs, PyData.eqvAll]
  | x :: xs, [] => by simp [toPDs, PyData.eqvAll]
  | x :: xs, y :: ys => by
    have h := he x y
    unfold pvEq at h
    simp only [List.map_cons, toPDs, PyData.eqvAll, h, eqvAll_map en P he xs ys]
    rw [Bool.eq_iff_iff]
    simp
theorem pvEq_tup {α : Type} [DecidableEq α] (en : α → PV) (he : ∀ a b, pvEq (en a) (en b) = decide (a = b)) (xs ys : List α) : pvEq (.tup (xs.map en)) (.tup (ys.map en)) = decide (xs = ys) := by
  show PyData.eqv (toPD (.tup (xs.map en))) (toPD (.tup (ys.map en))) = _
  simp only [toPD, PyData.eqv]
  exact eqvAll_map en (fun _ => True) he xs ys
theorem pvEq_encS (a b : Sg) : pvEq (encS a) (encS b) = decide (a = b) := by
  have h := pvEq_tup PV.int (fun i j => by rw [pvEq_int, Bool.eq_iff_iff]; simp) a.2 b.2
  unfold pvEq at h
  show PyData.eqv (toPD (encS a)) (toPD (encS b)) = _
  simp only [encS, toPD, toPDs, PyData.eqv, PyData.eqvAll]
  simp only [toPD, PyData.eqv] at h
  unfold ils
  rw [h, Bool.eq_iff_iff]
  obtain ⟨a1, a2⟩ := a
  obtain ⟨b1, b2⟩ := b
  simp
theorem pvEq_encL (a : Option (List Sg)) (b : List Sg) : pvEq (encL a) (.tup (ses b)) = decide (a = some b) := by
  cases a with
  | none => rfl
  | some a =>
    have := pvEq_tup encS pvEq_encS a b
    show pvEq (.tup (ses a)) (.tup (ses b)) = _
    unfold ses
    rw [this, Bool.eq_iff_iff]
    simp
theorem lay_ils : ∀ xs : List Int, PyData.canLayAll0 (toPDs (ils xs)) = true ∧ PyData.depthAll (toPDs (ils xs)) = 0
  | [] => by simp [ils, toPDs, PyData.canLayAll0, PyData.depthAll]
  | x :: xs => by
    obtain ⟨a, b⟩ := lay_ils xs
    have e : ils (x :: xs) = .int x :: ils xs := rfl
    rw [e]
    simp [toPDs, toPD, PyData.canLayAll0, PyData.depthAll, PyData.canLay0, PyData.depth, a, b]
theorem lay_encS {s : Sg} (h : PyData.strOk s.1 = true) : PyData.canLay0 (toPD (encS s)) = true ∧ PyData.depth (toPD (encS s)) = 2 := by
  obtain ⟨a, b⟩ := lay_ils s.2
  simp [encS, toPD, toPDs, PyData.canLay0, PyData.canLayAll0, PyData.depth, PyData.depthAll, h, a, b]
theorem shp_encS {s : Sg} (h : PyData.strOk s.1 = true) : shp (encS s) = true := by
  obtain ⟨a, b⟩ := lay_encS h
  unfold shp SeqAt.shaped
  rw [a, b]
  rfl
theorem lay_ses : ∀ {l : List Sg}, (∀ s ∈ l, PyData.strOk s.1 = true) → PyData.canLayAll0 (toPDs (ses l)) = true ∧ PyData.depthAll (toPDs (ses l)) ≤ 2
  | [], _ => by simp [ses, toPDs, PyData.canLayAll0, PyData.depthAll]
  | s :: l, h => by
    obtain ⟨a, b⟩ := lay_ses (l := l) fun x hx => h x (List.mem_cons_of_mem _ hx)
    obtain ⟨c, d⟩ := lay_encS (h s List.mem_cons_self)
    have e : ses (s :: l) = encS s :: ses l := rfl
    rw [e]
    simp only [toPDs, PyData.canLayAll0, PyData.depthAll, c, d, a]
    exact ⟨rfl, by omega⟩
theorem shp_ses {l : List Sg} (h : ∀ s ∈ l, PyData.strOk s.1 = true) : shp (.tup (ses l)) = true := by
  obtain ⟨a, b⟩ := lay_ses h
  unfold shp SeqAt.shaped
  simp only [toPD, PyData.canLay0, PyData.depth, a]
  simp
  omega
theorem sg_ok {t : List Pl} (ok : OKT t) {i : Nat} (hi : i < t.length) : PyData.strOk (sg t i).1 = true := (ok.pl _ (List.mem_of_getElem? (getD_at hi))).w.1
theorem tl_ok {t : List Pl} (ok : OKT t) : ∀ (w : List Nat) {i : Nat} {l : List Sg}, i < t.length → tl t i w = some l → ∀ s ∈ l, PyData.strOk s.1 = true
  | [], i, l, hi, h => by cases h; exact fun _ h => by cases h
  | d :: w, i, l, hi, h => by
    unfold tl at h
    cases e : stp t i d with
    | none => rw [e] at h; cases h
    | some j =>
      rw [e] at h
      obtain ⟨m, hm, rfl⟩ := Option.map_eq_some_iff.mp h
      intro s hs
      rcases List.mem_cons.mp hs with rfl | hs
      · exact sg_ok ok (stp_lt ok hi e)
      · exact tl_ok ok w (stp_lt ok hi e) hm s hs
theorem shp_encL {t : List Pl} (ok : OKT t) (w : List Nat) {i : Nat} (hi : i < t.length) : shp (encL (shw t i w)) = true := by
  unfold shw
  cases e : tl t i w with
  | none => rfl
  | some l =>
    refine shp_ses fun s hs => ?_
    rcases List.mem_cons.mp hs with rfl | hs
    · exact sg_ok ok hi
    · exact tl_ok ok w hi e s hs
/-! ### misfits -/
def SOK (S : List Sg) : Prop := ∀ s ∈ S, PyData.strOk s.1 = true
def mfx (t : List Pl) (w : List Nat) (S : List Sg) (now k : Nat) : Nat → PV
  | 0 => .non
  | n + 1 => match (if k = 0 then some now else stp t now (w.getD (k - 1) 0)) with
    | none => .tup [.int k, .str "door"]
    | some j => if S[k]? = some (sg t j) then mfx t w S j (k + 1) n else .tup [.int k, .str "sight"]
theorem rgP_cons (k n : Nat) : rgP (k : Int) (n + 1) = .int k :: rgP ((k + 1 : Nat) : Int) n := by
  unfold rgP
  simp [List.range_succ_eq_map, Function.comp_def]
  intro a _
  omega
theorem gNe_S {a b : Sg} (ha : PyData.strOk a.1 = true) (hb : PyData.strOk b.1 = true) : gNe (encS a) (encS b) = some (.bl (!decide (a = b))) := by
  unfold gNe
  rw [shp_encS ha, shp_encS hb, pvEq_encS]
  rfl
theorem gEq_S {a b : Sg} (ha : PyData.strOk a.1 = true) (hb : PyData.strOk b.1 = true) : gEq (encS a) (encS b) = some (.bl (decide (a = b))) := by
  unfold gEq
  rw [shp_encS ha, shp_encS hb, pvEq_encS]
  rfl
theorem at_w {w : List Nat} {d : Nat} (h : d < w.length) : gIx (.tup (nls w)) (.int d) = some (.int (w.getD d 0)) := by
  have e : w[d]? = some (w.getD d 0) := by simp [List.getD, h]
  exact at_nls e
theorem at_S {S : List Sg} {k : Nat} {s : Sg} (h : S[k]? = some s) : gIx (.tup (ses S)) (.int k) = some (encS s) := atI_of (by unfold ses; rw [List.getElem?_map, h]; rfl)
def dLMis : DS := (dSeq (dIfS (dTr (dOp gGt (dNm 5) (dInt 0))) (dSeq (dSet 4 (dC0 (m_law_goal) (dCons (dNm 0) (dCons (dNm 4) (dCons (dIxN 1 (dOp gSub (dNm 5) (dInt 1))) (dNil))))))
        (dIfS (dTr (dIsN (dPk 4))) (dRt (vl (dTup (dCons (dNm 5) (dCons (dStr "door") (dNil)))))) (dSkip))) (dSkip))
        (dIfS (dTr (dOp gNe (fz (dC0 (m_law_sight) (dCons (dNm 0) (dCons (dNm 4) (dNil))))) (dIxN 2 (dNm 5)))) (dRt (vl (dTup (dCons (dNm 5) (dCons (dStr "sight") (dNil)))))) (dSkip)))
theorem law_mis_loop {t : List Pl} (ok : OKT t) (w : List Nat) (S : List Sg) (hS : S.length = w.length + 1) (so : SOK S) (p3 : Sl) : ∀ (n k now : Nat) (s : Sl), now < t.length → k + n = S.length →
    (mfx t w S now k n = .non ∧ ∃ Γ', loopD (dTurn (gN 5) dLMis) (rgP (k : Int) n) [.val (encT t), .val (.tup (nls w)), .val (.tup (ses S)), p3, .val (.int now), s] = some (.nx Γ')) ∨
    ∃ Γ', loopD (dTurn (gN 5) dLMis) (rgP (k : Int) n) [.val (encT t), .val (.tup (nls w)), .val (.tup (ses S)), p3, .val (.int now), s] = some (.rt (.val (mfx t w S now k n)) Γ')
  | 0, k, now, s, hn, hk => .inl ⟨rfl, _, rfl⟩
  | n + 1, k, now, s, hn, hk => by
    rw [rgP_cons]
    unfold mfx loopD
    have hkS : k < S.length := by omega
    have eS : S[k]? = some S[k] := List.getElem?_eq_getElem hkS
    have oS := so _ (List.getElem_mem hkS)
    have aS := at_S eS
    generalize S[k] = sk at eS oS aS
    have fin : ∀ j : Nat, j < t.length → (dIfS (dTr (dOp gNe (fz (dC0 (m_law_sight) (dCons (dNm 0) (dCons (dNm 4) (dNil))))) (dIxN 2 (dNm 5)))) (dRt (vl (dTup (dCons (dNm 5) (dCons (dStr "sight") (dNil)))))) (dSkip)) [.val (encT t), .val (.tup (nls w)), .val (.tup (ses S)), p3, .val (.int j), .val (.int k)] = (if sk = sg t j then some (.nx [.val (encT t), .val (.tup (nls w)), .val (.tup (ses S)), p3, .val (.int j), .val (.int k)]) else some (.rt (.val (.tup [.int k, .str "sight"])) [.val (encT t), .val (.tup (nls w)), .val (.tup (ses S)), p3, .val (.int j), .val (.int k)])) := fun j hj => by
      have h2 := law_sight_eq ok hj
      have h3 := gNe_S (sg_ok ok hj) oS
      by_cases c : sk = sg t j
      · subst c
        simp [-gNe, -gIx, h2, aS, h3]
      · have c' : ¬ sg t j = sk := fun z => c z.symm
        simp [-gNe, -gIx, h2, aS, h3, c, c', mkT]
    have go : ∀ j : Nat, j < t.length → (dTurn (gN 5) dLMis (.int k) [.val (encT t), .val (.tup (nls w)), .val (.tup (ses S)), p3, .val (.int now), s] = (if sk = sg t j then some (.nx [.val (encT t), .val (.tup (nls w)), .val (.tup (ses S)), p3, .val (.int j), .val (.int k)]) else some (.rt (.val (.tup [.int k, .str "sight"])) [.val (encT t), .val (.tup (nls w)), .val (.tup (ses S)), p3, .val (.int j), .val (.int k)]))) →
        (if S[k]? = some (sg t j) then mfx t w S j (k + 1) n else .tup [.int k, .str "sight"]) = .non ∧ (∃ Γ', (match dTurn (gN 5) dLMis (.int k) [.val (encT t), .val (.tup (nls w)), .val (.tup (ses S)), p3, .val (.int now), s] with
          | some (.nx Γ1) => loopD (dTurn (gN 5) dLMis) (rgP ((k + 1 : Nat) : Int) n) Γ1
          | some (.ct Γ1) => loopD (dTurn (gN 5) dLMis) (rgP ((k + 1 : Nat) : Int) n) Γ1
          | some (.bk Γ1) => some (.nx Γ1)
          | some (.rt r Γ1) => some (.rt r Γ1)
          | none => none) = some (.nx Γ')) ∨ (∃ Γ', (match dTurn (gN 5) dLMis (.int k) [.val (encT t), .val (.tup (nls w)), .val (.tup (ses S)), p3, .val (.int now), s] with
          | some (.nx Γ1) => loopD (dTurn (gN 5) dLMis) (rgP ((k + 1 : Nat) : Int) n) Γ1
          | some (.ct Γ1) => loopD (dTurn (gN 5) dLMis) (rgP ((k + 1 : Nat) : Int) n) Γ1
          | some (.bk Γ1) => some (.nx Γ1)
          | some (.rt r Γ1) => some (.rt r Γ1)
          | none => none) = some (.rt (.val (if S[k]? = some (sg t j) then mfx t w S j (k + 1) n else .tup [.int k, .str "sight"])) Γ')) := fun j hj e => by
      rw [e, eS]
      by_cases c : sk = sg t j
      · rw [if_pos c, if_pos (by rw [c])]
        exact law_mis_loop ok w S hS so p3 n (k + 1) j _ hj (by omega)
      · rw [if_neg c, if_neg (fun z => c (Option.some.inj z))]
        exact .inr ⟨_, rfl⟩
    by_cases k0 : k = 0
    · subst k0
      rw [if_pos rfl]
      refine go now hn ?_
      rw [← fin now hn]
      show dLMis _ = _
      unfold dLMis
      exact dSeq_nx (by simp)
    · rw [if_neg k0]
      obtain ⟨d, hd⟩ : ∃ d, k = d + 1 := ⟨k - 1, by omega⟩
      have hk1 : (k : Int) - 1 = (d : Int) := by omega
      have hd1 : k - 1 = d := by omega
      have kp : 0 < k := by omega
      have aw := at_w (w := w) (d := d) (by omega)
      have h1 := goal_eq ok (w.getD d 0) hn
      rw [hd1]
      generalize w.getD d 0 = dd at aw h1 ⊢
      cases e : stp t now dd with
      | none =>
        rw [e] at h1
        refine .inr ⟨[.val (encT t), .val (.tup (nls w)), .val (.tup (ses S)), p3, .val .non, .val (.int k)], ?_⟩
        have ht : dTurn (gN 5) dLMis (.int k) [.val (encT t), .val (.tup (nls w)), .val (.tup (ses S)), p3, .val (.int now), s] = some (.rt (.val (.tup [.int k, .str "door"])) [.val (encT t), .val (.tup (nls w)), .val (.tup (ses S)), p3, .val .non, .val (.int k)]) := by
          show dLMis _ = _
          unfold dLMis
          refine dSeq_rt ?_
          simp [-gIx, kp, hk1, aw, h1, encO, mkT]
        rw [ht]
      | some j =>
        rw [e] at h1
        refine go j (stp_lt ok hn e) ?_
        rw [← fin j (stp_lt ok hn e)]
        show dLMis _ = _
        unfold dLMis
        refine dSeq_nx ?_
        simp [-gIx, kp, hk1, aw, h1, encO]
theorem law_misfit_eq {t : List Pl} (ok : OKT t) (w : List Nat) (S : List Sg) (hS : S.length = w.length + 1) (hw : w.length ≤ 900) (so : SOK S) {i : Nat} (hi : i < t.length) : m_law_misfit [encT t, .tup (nls w), .tup (ses S), .int i] = some (.val (mfx t w S i 0 S.length)) := by
  have r : itR1 (.int S.length) = some (rgP ((0 : Nat) : Int) S.length) := itR1_nat (by omega)
  unfold m_law_misfit d_law_misfit
  rcases law_mis_loop ok w S hS so (.val (.int i)) S.length 0 i .un hi (by omega) with ⟨e1, Γ', e2⟩ | ⟨Γ', e2⟩
  · refine sem0_rt rfl (Γ' := Γ') ?_
    refine (dSeq_nx (Γ1 := [.val (encT t), .val (.tup (nls w)), .val (.tup (ses S)), .val (.int i), .val (.int i), .un]) (by simp)).trans ?_
    refine (dSeq_nx ((dFor_of (xs := rgP ((0 : Nat) : Int) S.length) (by simp [r])).trans e2)).trans ?_
    rw [e1]
    simp
  · refine sem0_rt rfl (Γ' := Γ') ?_
    refine (dSeq_nx (Γ1 := [.val (encT t), .val (.tup (nls w)), .val (.tup (ses S)), .val (.int i), .val (.int i), .un]) (by simp)).trans ?_
    exact dSeq_rt ((dFor_of (xs := rgP ((0 : Nat) : Int) S.length) (by simp [r])).trans e2)
def dPMis : DS := (dSeq (dIfS (dTr (dOp gGt (dNm 5) (dInt 0))) (dSeq (dSet 4 (dC0 (m_step_from) (dCons (dNm 0) (dCons (dNm 4) (dCons (dIxN 1 (dOp gSub (dNm 5) (dInt 1))) (dNil))))))
        (dIfS (dTr (dIsN (dPk 4))) (dRt (vl (dTup (dCons (dNm 5) (dCons (dStr "door") (dNil)))))) (dSkip))) (dSkip))
        (dIfS (dTr (dOp gNe (fz (dC0 (m_sight_at) (dCons (dNm 0) (dCons (dNm 4) (dNil))))) (dNm 6))) (dRt (vl (dTup (dCons (dNm 5) (dCons (dStr "sight") (dNil)))))) (dSkip)))
theorem p_mis_loop {t : List Pl} (ok : OKT t) (w : List Nat) (S : List Sg) (hS : S.length = w.length + 1) (so : SOK S) (p3 : Sl) : ∀ (Sd : List Sg) (k now : Nat) (s s6 : Sl), now < t.length → S.drop k = Sd →
    (mfx t w S now k Sd.length = .non ∧ ∃ Γ', loopD (dTurn (gT 2 (gsC (gN 5) (gsC (gN 6) (gsN)))) dPMis) (enumP k (ses Sd)) [.val (encT t), .val (.tup (nls w)), .val (.tup (ses S)), p3, .val (.int now), s, s6] = some (.nx Γ')) ∨
    ∃ Γ', loopD (dTurn (gT 2 (gsC (gN 5) (gsC (gN 6) (gsN)))) dPMis) (enumP k (ses Sd)) [.val (encT t), .val (.tup (nls w)), .val (.tup (ses S)), p3, .val (.int now), s, s6] = some (.rt (.val (mfx t w S now k Sd.length)) Γ')
  | [], k, now, s, s6, hn, hk => .inl ⟨rfl, _, rfl⟩
  | sk :: Sd, k, now, s, s6, hn, hk => by
    have eS : S[k]? = some sk := by
      have := congrArg (·[0]?) hk
      simpa using this
    have hk2 : S.drop (k + 1) = Sd := by
      rw [← List.drop_drop (i := 1) (j := k)] <;> simp [hk]
    have hkS : k < S.length := (List.getElem?_eq_some_iff.mp eS).1
    have oS := so _ (List.mem_of_getElem? eS)
    have ex : enumP k (ses (sk :: Sd)) = .tup [.int (k : Nat), encS sk] :: enumP (k + 1) (ses Sd) := rfl
    rw [ex, List.length_cons]
    unfold mfx loopD
    have fin : ∀ j : Nat, j < t.length → (dIfS (dTr (dOp gNe (fz (dC0 (m_sight_at) (dCons (dNm 0) (dCons (dNm 4) (dNil))))) (dNm 6))) (dRt (vl (dTup (dCons (dNm 5) (dCons (dStr "sight") (dNil)))))) (dSkip)) [.val (encT t), .val (.tup (nls w)), .val (.tup (ses S)), p3, .val (.int j), .val (.int k), .val (encS sk)] = (if sk = sg t j then some (.nx [.val (encT t), .val (.tup (nls w)), .val (.tup (ses S)), p3, .val (.int j), .val (.int k), .val (encS sk)]) else some (.rt (.val (.tup [.int k, .str "sight"])) [.val (encT t), .val (.tup (nls w)), .val (.tup (ses S)), p3, .val (.int j), .val (.int k), .val (encS sk)])) := fun j hj => by
      have h2 := sight_at_eq ok hj
      have h3 := gNe_S (sg_ok ok hj) oS
      by_cases c : sk = sg t j
      · subst c
        simp [-gNe, -gIx, h2, h3]
      · have c' : ¬ sg t j = sk := fun z => c z.symm
        simp [-gNe, -gIx, h2, h3, c, c', mkT]
    have go : ∀ j : Nat, j < t.length → (dTurn (gT 2 (gsC (gN 5) (gsC (gN 6) (gsN)))) dPMis (.tup [.int (k : Nat), encS sk]) [.val (encT t), .val (.tup (nls w)), .val (.tup (ses S)), p3, .val (.int now), s, s6] = (if sk = sg t j then some (.nx [.val (encT t), .val (.tup (nls w)), .val (.tup (ses S)), p3, .val (.int j), .val (.int k), .val (encS sk)]) else some (.rt (.val (.tup [.int k, .str "sight"])) [.val (encT t), .val (.tup (nls w)), .val (.tup (ses S)), p3, .val (.int j), .val (.int k), .val (encS sk)]))) →
        (if S[k]? = some (sg t j) then mfx t w S j (k + 1) Sd.length else .tup [.int k, .str "sight"]) = .non ∧ (∃ Γ', (match dTurn (gT 2 (gsC (gN 5) (gsC (gN 6) (gsN)))) dPMis (.tup [.int (k : Nat), encS sk]) [.val (encT t), .val (.tup (nls w)), .val (.tup (ses S)), p3, .val (.int now), s, s6] with
          | some (.nx Γ1) => loopD (dTurn (gT 2 (gsC (gN 5) (gsC (gN 6) (gsN)))) dPMis) (enumP (k + 1) (ses Sd)) Γ1
          | some (.ct Γ1) => loopD (dTurn (gT 2 (gsC (gN 5) (gsC (gN 6) (gsN)))) dPMis) (enumP (k + 1) (ses Sd)) Γ1
          | some (.bk Γ1) => some (.nx Γ1)
          | some (.rt r Γ1) => some (.rt r Γ1)
          | none => none) = some (.nx Γ')) ∨ (∃ Γ', (match dTurn (gT 2 (gsC (gN 5) (gsC (gN 6) (gsN)))) dPMis (.tup [.int (k : Nat), encS sk]) [.val (encT t), .val (.tup (nls w)), .val (.tup (ses S)), p3, .val (.int now), s, s6] with
          | some (.nx Γ1) => loopD (dTurn (gT 2 (gsC (gN 5) (gsC (gN 6) (gsN)))) dPMis) (enumP (k + 1) (ses Sd)) Γ1
          | some (.ct Γ1) => loopD (dTurn (gT 2 (gsC (gN 5) (gsC (gN 6) (gsN)))) dPMis) (enumP (k + 1) (ses Sd)) Γ1
          | some (.bk Γ1) => some (.nx Γ1)
          | some (.rt r Γ1) => some (.rt r Γ1)
          | none => none) = some (.rt (.val (if S[k]? = some (sg t j) then mfx t w S j (k + 1) Sd.length else .tup [.int k, .str "sight"])) Γ')) := fun j hj e => by
      rw [e, eS]
      by_cases c : sk = sg t j
      · rw [if_pos c, if_pos (by rw [c])]
        exact p_mis_loop ok w S hS so p3 Sd (k + 1) j _ _ hj hk2
      · rw [if_neg c, if_neg (fun z => c (Option.some.inj z))]
        exact .inr ⟨_, rfl⟩
    have step : ∀ o, dPMis [.val (encT t), .val (.tup (nls w)), .val (.tup (ses S)), p3, .val (.int now), .val (.int k), .val (encS sk)] = o → dTurn (gT 2 (gsC (gN 5) (gsC (gN 6) (gsN)))) dPMis (.tup [.int (k : Nat), encS sk]) [.val (encT t), .val (.tup (nls w)), .val (.tup (ses S)), p3, .val (.int now), s, s6] = o := fun o h => h
    by_cases k0 : k = 0
    · subst k0
      rw [if_pos rfl]
      refine go now hn (step _ ?_)
      rw [← fin now hn]
      unfold dPMis
      exact dSeq_nx (by simp)
    · rw [if_neg k0]
      obtain ⟨d, hd⟩ : ∃ d, k = d + 1 := ⟨k - 1, by omega⟩
      have hk1 : (k : Int) - 1 = (d : Int) := by omega
      have hd1 : k - 1 = d := by omega
      have kp : 0 < k := by omega
      have aw := at_w (w := w) (d := d) (by omega)
      have h1 := step_eq ok (w.getD d 0) hn
      rw [hd1]
      generalize w.getD d 0 = dd at aw h1 ⊢
      cases e : stp t now dd with
      | none =>
        rw [e] at h1
        refine .inr ⟨[.val (encT t), .val (.tup (nls w)), .val (.tup (ses S)), p3, .val .non, .val (.int k), .val (encS sk)], ?_⟩
        have ht := step (some (.rt (.val (.tup [.int k, .str "door"])) [.val (encT t), .val (.tup (nls w)), .val (.tup (ses S)), p3, .val .non, .val (.int k), .val (encS sk)])) (by
          unfold dPMis
          refine dSeq_rt ?_
          simp [-gIx, kp, hk1, aw, h1, encO, mkT])
        rw [ht]
      | some j =>
        rw [e] at h1
        refine go j (stp_lt ok hn e) (step _ ?_)
        rw [← fin j (stp_lt ok hn e)]
        unfold dPMis
        refine dSeq_nx ?_
        simp [-gIx, kp, hk1, aw, h1, encO]
theorem misfit_eq {t : List Pl} (ok : OKT t) (w : List Nat) (S : List Sg) (hS : S.length = w.length + 1) (hw : w.length ≤ 900) (so : SOK S) {i : Nat} (hi : i < t.length) : m_misfit_of [encT t, .tup (nls w), .tup (ses S), .int i] = some (.val (mfx t w S i 0 S.length)) := by
  unfold m_misfit_of d_misfit_of
  rcases p_mis_loop ok w S hS so (.val (.int i)) S 0 i .un .un hi (by simp) with ⟨e1, Γ', e2⟩ | ⟨Γ', e2⟩
  · refine sem0_rt rfl (Γ' := Γ') ?_
    refine (dSeq_nx (Γ1 := [.val (encT t), .val (.tup (nls w)), .val (.tup (ses S)), .val (.int i), .val (.int i), .un, .un]) (by simp)).trans ?_
    refine (dSeq_nx ((dFor_of (xs := enumP 0 (ses S)) (by simp)).trans e2)).trans ?_
    rw [e1]
    simp
  · refine sem0_rt rfl (Γ' := Γ') ?_
    refine (dSeq_nx (Γ1 := [.val (encT t), .val (.tup (nls w)), .val (.tup (ses S)), .val (.int i), .val (.int i), .un, .un]) (by simp)).trans ?_
    exact dSeq_rt ((dFor_of (xs := enumP 0 (ses S)) (by simp)).trans e2)
theorem mfx_tail {t : List Pl} {w : List Nat} {S : List Sg} (hS : S.length = w.length + 1) : ∀ (n k now : Nat), 1 ≤ k → k + n = S.length → (mfx t w S now k n = .non ↔ tl t now (w.drop (k - 1)) = some (S.drop k))
  | 0, k, now, h1, hk => by
    rw [List.drop_of_length_le (by omega), List.drop_of_length_le (by omega)]
    simp [mfx, tl]
  | n + 1, k, now, h1, hk => by
    have hkS : k < S.length := by omega
    have eS : S[k]? = some S[k] := List.getElem?_eq_getElem hkS
    have hkw : k - 1 < w.length := by omega
    have ew : w.getD (k - 1) 0 = w[k - 1] := by simp [List.getD, hkw]
    rw [List.drop_eq_getElem_cons hkS, List.drop_eq_getElem_cons hkw, show k - 1 + 1 = k by omega]
    unfold mfx tl
    rw [if_neg (by omega), ew]
    cases stp t now w[k - 1] with
    | none => simp
    | some j =>
      dsimp only
      rw [eS]
      by_cases c : S[k] = sg t j
      · rw [if_pos (by rw [c]), mfx_tail hS n (k + 1) j (by omega) (by omega), c]
        simp
      · rw [if_neg (fun z => c (Option.some.inj z))]
        constructor
        · intro h
          cases h
        · intro h
          obtain ⟨m, _, hm⟩ := Option.map_eq_some_iff.mp h
          exact absurd (List.cons.inj hm).1.symm c
theorem mfx_iff {t : List Pl} {w : List Nat} {S : List Sg} (hS : S.length = w.length + 1) (i : Nat) : mfx t w S i 0 S.length = .non ↔ shw t i w = some S := by
  cases S with
  | nil => simp at hS
  | cons s S =>
    have h := mfx_tail (t := t) hS S.length 1 i (by omega) (by rw [List.length_cons]; omega)
    rw [List.length_cons]
    unfold mfx shw
    rw [if_pos rfl]
    dsimp only
    by_cases c : s = sg t i
    · rw [if_pos (by rw [List.getElem?_cons_zero, c]), h]
      simp [c]
    · rw [List.getElem?_cons_zero, if_neg (fun z => c (Option.some.inj z))]
      constructor
      · intro z
        cases z
      · intro z
        obtain ⟨m, _, hm⟩ := Option.map_eq_some_iff.mp z
        exact absurd (List.cons.inj hm).1.symm c
/-! ### sets of places -/
def srt (xs : List Int) : List Int := isort (dedI xs)
def cst (xs : List Nat) : List Int := xs.map fun (i : Nat) => (i : Int)
theorem nls_ils (xs : List Nat) : nls xs = ils (cst xs) := by simp [nls, ils, cst, Function.comp_def]
theorem kDed_ils (xs : List Int) : (kDed (ils xs)).map kPV = ils (dedI xs) := by
  have h : ∀ (xs ks : List Int), (ils xs).foldl (fun ks y => kAdd ks (keyOfP y)) (ks.map Sum.inl) = ((xs.foldl addI ks).map Sum.inl : List Key) := fun xs => by
    induction xs with
    | nil => exact fun ks => rfl
    | cons x xs ih =>
      intro ks
      have e : ils (x :: xs) = .int x :: ils xs := rfl
      rw [e, List.foldl_cons, List.foldl_cons, ← ih]
      congr 1
      show kAdd (ks.map Sum.inl) (.inl x) = (addI ks x).map Sum.inl
      unfold kAdd addI
      have hc : (((ks.map Sum.inl : List Key)).any fun y => decide (y = .inl x)) = decide (x ∈ ks) := by
        rw [Bool.eq_iff_iff, decide_eq_true_iff, List.any_map, List.any_eq_true]
        constructor
        · rintro ⟨y, hy, e⟩
          have : y = x := by simpa using e
          exact this ▸ hy
        · intro hx
          exact ⟨x, hx, by simp⟩
      rw [hc]
      by_cases c : x ∈ ks
      · rw [if_pos c, if_pos (by simpa using c)]
      · rw [if_neg c, if_neg (by simpa using c)]
        simp
  have := h xs []
  unfold kDed
  rw [List.map_nil] at this
  rw [this]
  simp [ils, kPV, dedI, Function.comp_def]
theorem index_set_eq (xs : List Int) (hl : xs.length ≤ 1000) : m_index_set [.lst (ils xs)] = some (.val (.tup (ils (srt xs)))) := by
  have f1 : fits (ils xs).length = true := fits_of (by simp; omega)
  have hc : ∀ a : Sl, compL [1] (gN 1) dYes (dNm 1) (ils xs) [a, .un] = some (ils xs, [a, .un]) := fun a => comp_ils (f := PV.int) (fun x _ => rfl) rfl
  have ik : (ils xs).all isK = true := List.all_eq_true.mpr fun y hy => by
    obtain ⟨i, _, rfl⟩ := List.mem_map.mp hy
    rfl
  have gs : gSorted (.lst (ils (dedI xs))) = some (.new (.lst (ils (srt xs)))) := by
    unfold gSorted
    dsimp only
    rw [pInts_ils]
    rfl
  have itl : itP (.lst (ils xs)) = some (ils xs) := rfl
  simp [-itP, -ils_length, m_index_set, d_index_set, itl, f1, hc, ik, kDed_ils, gs]
theorem srt_eq {xs : List Int} {n : Nat} {P : Nat → Bool} (h : ∀ k : Int, k ∈ xs ↔ ∃ i : Nat, k = i ∧ i < n ∧ P i = true) : ils (srt xs) = nls ((List.range n).filter P) := by
  have hp : (cst ((List.range n).filter P)).Pairwise (· < ·) := by
    unfold cst
    rw [List.pairwise_map]
    refine List.Pairwise.filter _ ?_
    exact List.pairwise_lt_range.imp fun h => by omega
  rw [nls_ils]
  unfold srt
  rw [← sortSet_eq hp fun k => ?_]
  rw [h k]
  unfold cst
  rw [List.mem_map]
  constructor
  · rintro ⟨i, hi, rfl⟩
    exact ⟨i, rfl, List.mem_range.mp (List.mem_filter.mp hi).1, (List.mem_filter.mp hi).2⟩
  · rintro ⟨i, rfl, h1, h2⟩
    exact ⟨i, List.mem_filter.mpr ⟨List.mem_range.mpr h1, h2⟩, rfl⟩
theorem T_len {t : List Pl} : gLen (encT t) = some (.int t.length) := by simp [encT]
theorem T_rg {t : List Pl} (ok : OKT t) : itR1 (.int t.length) = some (nls (List.range t.length)) := by
  rw [itR1_nat (by have := ok.few; omega), rgP_nls]
theorem T_fit {t : List Pl} (ok : OKT t) : fits (nls (List.range t.length)).length = true := fits_of (by rw [nls_length, List.length_range]; have := ok.few; omega)
theorem wipe1 {Γ : Ev} {i : Nat} (hi : Γ[i]? = some .un) (s : Sl) : wipeE (Γ.set i s) [i] = Γ := by
  unfold wipeE
  unfold wipeE
  rw [List.set_set]
  apply List.ext_getElem?
  intro j
  rw [List.getElem?_set]
  split
  · rename_i e
    subst e
    split
    · exact hi.symm
    · rw [List.getElem?_eq_none (by omega)]
  · rfl
theorem comp_rg {i : Nat} {c : D Bool} {Γ : Ev} (n : Nat) (p : Nat → Bool) (hc : ∀ k < n, c (Γ.set i (.val (.int (k : Nat)))) = some (p k, Γ.set i (.val (.int (k : Nat))))) (hi : Γ[i]? = some .un) : compL [i] (gN i) c (dNm i) (nls (List.range n)) Γ = some (nls ((List.range n).filter p), Γ) := by
  have hb2 : ∀ k : Nat, wipeE (Γ.set i (.val (.int (k : Nat)))) [i] = Γ := fun k => wipe1 hi _
  have hl : i < Γ.length := (List.getElem?_eq_some_iff.mp hi).1
  refine compL_if (fun k : Nat => PV.int (k : Int)) p _ _ _ fun k hk => ⟨Γ.set i (.val (.int (k : Nat))), _, rfl, hc k (List.mem_range.mp hk), fun _ => ⟨Γ.set i (.val (.int (k : Nat))), ?_, hb2 k⟩, fun _ => hb2 k⟩
  unfold dNm
  rw [List.getElem?_set_self hl]
theorem gEq_L {t : List Pl} (ok : OKT t) (w : List Nat) {S : List Sg} (so : SOK S) {i : Nat} (hi : i < t.length) : gEq (encL (shw t i w)) (.tup (ses S)) = some (.bl (decide (shw t i w = some S))) := by
  unfold gEq
  rw [shp_encL ok w hi, shp_ses so, pvEq_encL]
  rfl
def fitF (t : List Pl) (w : List Nat) (S : List Sg) : List Nat := (List.range t.length).filter fun i => decide (shw t i w = some S)
theorem fitting_eq {t : List Pl} (ok : OKT t) (w : List Nat) (hw : w.length ≤ 900) {S : List Sg} (so : SOK S) : m_fitting_places [encT t, .tup (nls w), .tup (ses S)] = some (.val (.tup (nls (fitF t w S)))) := by
  have hc : compL [3] (gN 3) (dTr (dOp gEq (fz (dC0 (m_sights_along) (dCons (dNm 0) (dCons (dNm 3) (dCons (dNm 1) (dNil)))))) (dNm 2))) (dNm 3) (nls (List.range t.length)) [.val (encT t), .val (.tup (nls w)), .val (.tup (ses S)), .un] = some (nls (fitF t w S), [.val (encT t), .val (.tup (nls w)), .val (.tup (ses S)), .un]) :=
    comp_rg _ _ (fun k hk => by
      have h1 := along_eq ok w hw hk
      have h2 := gEq_L ok w so hk
      simp [-gEq, h1, h2]) rfl
  simp [-gLen, -nls_length, m_fitting_places, d_fitting_places, T_len, T_rg ok, T_fit ok, hc]
def endF (t : List Pl) (w : List Nat) (S : List Sg) : List Int := (fitF t w S).map fun i => (((endd t i w).getD 0 : Nat) : Int)
theorem fit_end {t : List Pl} {w : List Nat} {i : Nat} {l : List Sg} (h : tl t i w = some l) : ∃ j, endd t i w = some j := by
  induction w generalizing i l with
  | nil => exact ⟨i, rfl⟩
  | cons d w ih =>
    unfold tl at h
    unfold endd
    cases e : stp t i d with
    | none => rw [e] at h; cases h
    | some j =>
      rw [e] at h
      obtain ⟨m, hm, _⟩ := Option.map_eq_some_iff.mp h
      exact ih hm
theorem fitF_mem {t : List Pl} {w : List Nat} {S : List Sg} {i : Nat} (h : i ∈ fitF t w S) : i < t.length ∧ shw t i w = some S := by
  have := List.mem_filter.mp h
  exact ⟨List.mem_range.mp this.1, of_decide_eq_true this.2⟩
theorem fitF_end {t : List Pl} {w : List Nat} {S : List Sg} {i : Nat} (h : i ∈ fitF t w S) : ∃ j, endd t i w = some j := by
  obtain ⟨m, hm, _⟩ := Option.map_eq_some_iff.mp (fitF_mem h).2
  exact fit_end hm
theorem fitF_len {t : List Pl} (ok : OKT t) (w : List Nat) (S : List Sg) : (fitF t w S).length ≤ 60 := by
  have h := List.length_filter_le (fun i => decide (shw t i w = some S)) (List.range t.length)
  rw [List.length_range] at h
  exact Nat.le_trans h ok.few
theorem comp_ends {t : List Pl} {w : List Nat} {S : List Sg} {i : Nat} {e : D PV} {Γ : Ev} (he : ∀ k, k < t.length → e (Γ.set i (.val (.int (k : Nat)))) = some (encO (endd t k w), Γ.set i (.val (.int (k : Nat))))) (hi : Γ[i]? = some .un) : compL [i] (gN i) dYes e (nls (fitF t w S)) Γ = some (ils (endF t w S), Γ) := by
  have e1 : ils (endF t w S) = (fitF t w S).map fun i => PV.int (((endd t i w).getD 0 : Nat) : Int) := by simp [ils, endF, Function.comp_def]
  rw [e1]
  refine compL_on (fun k : Nat => PV.int (k : Int)) _ _ _ fun k hk => ⟨Γ.set i (.val (.int (k : Nat))), _, Γ.set i (.val (.int (k : Nat))), rfl, rfl, ?_, ?_⟩
  · rw [he k (fitF_mem hk).1]
    obtain ⟨j, hj⟩ := fitF_end hk
    rw [hj]
    rfl
  · unfold wipeE
    unfold wipeE
    rw [List.set_set]
    apply List.ext_getElem?
    intro j
    rw [List.getElem?_set]
    split
    · rename_i e
      subst e
      split
      · exact hi.symm
      · rw [List.getElem?_eq_none (by omega)]
    · rfl
theorem standing_eq {t : List Pl} (ok : OKT t) (w : List Nat) (hw : w.length ≤ 900) {S : List Sg} (so : SOK S) : m_standing_places [encT t, .tup (nls w), .tup (ses S)] = some (.val (.tup (ils (srt (endF t w S))))) := by
  have hl := fitF_len ok w S
  have hc : compL [3] (gN 3) dYes (fz (dC0 (m_led_to) (dCons (dNm 0) (dCons (dNm 3) (dCons (dNm 1) (dNil)))))) (nls (fitF t w S)) [.val (encT t), .val (.tup (nls w)), .val (.tup (ses S)), .un] = some (ils (endF t w S), [.val (encT t), .val (.tup (nls w)), .val (.tup (ses S)), .un]) :=
    comp_ends (fun k hk => by
      have h1 := led_to_eq ok w hk
      simp [h1]) rfl
  have ix := index_set_eq (endF t w S) (by simp [endF]; omega)
  have f1 : fits (nls (fitF t w S)).length = true := fits_of (by rw [nls_length]; omega)
  have itl : itP (.tup (nls (fitF t w S))) = some (nls (fitF t w S)) := rfl
  simp [-itP, -nls_length, m_standing_places, d_standing_places, fitting_eq ok w hw so, itl, f1, hc, ix]
/-! ### standing behind a door -/
def nxt (t : List Pl) (N : List Nat) (d : Nat) (s : Sg) : List Nat := (List.range t.length).filter fun k => (N.any fun i => decide (stp t i d = some k)) && decide (sg t k = s)
def gls (t : List Pl) (N : List Nat) (d : Nat) : List PV := N.map fun i => encO (stp t i d)
theorem gIn_gls {t : List Pl} {N : List Nat} {d k : Nat} : gIn (.int k) (.lst (gls t N d)) = some (N.any fun i => decide (stp t i d = some k)) := by
  have h : (gls t N d).all pflat = true := List.all_eq_true.mpr fun y hy => by
    obtain ⟨z, _, rfl⟩ := List.mem_map.mp hy
    cases stp t z d <;> rfl
  have e : ((gls t N d).any fun q => pfEq q (.int k)) = (N.any fun i => decide (stp t i d = some k)) := by
    unfold gls
    rw [List.any_map]
    congr 1
    funext i
    show pfEq (encO (stp t i d)) (.int k) = _
    cases stp t i d with
    | none => rfl
    | some j =>
      show (((j : Nat) : Int) == (k : Int)) = _
      rw [Bool.eq_iff_iff]
      simp
      omega
  unfold gIn
  dsimp only
  rw [h, e]
  rfl
theorem behind_all_eq {t : List Pl} (ok : OKT t) (N : List Nat) (hN : ∀ i ∈ N, i < t.length) (hl : N.length ≤ 1000) (d : Nat) {s : Sg} (so : PyData.strOk s.1 = true) : m_law_behind_all [encT t, .tup (nls N), .int d, encS s] = some (.val (.tup (nls (nxt t N d s)))) := by
  have f1 : fits (nls N).length = true := fits_of (by rw [nls_length]; omega)
  have hc1 : compL [5] (gN 5) dYes (fz (dC0 (m_law_goal) (dCons (dNm 0) (dCons (dNm 5) (dCons (dNm 2) (dNil)))))) (nls N) [.val (encT t), .val (.tup (nls N)), .val (.int d), .val (encS s), .un, .un, .un] = some (gls t N d, [.val (encT t), .val (.tup (nls N)), .val (.int d), .val (encS s), .un, .un, .un]) :=
    compL_on (fun k : Nat => PV.int (k : Int)) _ _ _ fun k hk => ⟨[.val (encT t), .val (.tup (nls N)), .val (.int d), .val (encS s), .un, .val (.int k), .un], _, [.val (encT t), .val (.tup (nls N)), .val (.int d), .val (encS s), .un, .val (.int k), .un], rfl, rfl, by simp [goal_eq ok d (hN k hk)], rfl⟩
  have hc2 : compL [6] (gN 6) (dBAnd (dTr (dIn (dNm 6) (dPk 4))) (dTr (dOp gEq (fz (dC0 (m_law_sight) (dCons (dNm 0) (dCons (dNm 6) (dNil))))) (dNm 3)))) (dNm 6) (nls (List.range t.length)) [.val (encT t), .val (.tup (nls N)), .val (.int d), .val (encS s), .mu .own (.lst (gls t N d)), .un, .un] = some (nls (nxt t N d s), [.val (encT t), .val (.tup (nls N)), .val (.int d), .val (encS s), .mu .own (.lst (gls t N d)), .un, .un]) :=
    comp_rg _ _ (fun k hk => by
      have h1 := law_sight_eq ok hk
      have h2 := gEq_S (sg_ok ok hk) so
      cases c : (N.any fun i => decide (stp t i d = some k)) with
      | false => simp [-gEq, gIn_gls, c]
      | true => simp [-gEq, gIn_gls, c, h1, h2]) rfl
  have itl : itP (.tup (nls N)) = some (nls N) := rfl
  unfold m_law_behind_all d_law_behind_all
  refine sem0_rt rfl (Γ' := [.val (encT t), .val (.tup (nls N)), .val (.int d), .val (encS s), .mu .own (.lst (gls t N d)), .un, .un]) ?_
  refine (dSeq_nx (Γ1 := [.val (encT t), .val (.tup (nls N)), .val (.int d), .val (encS s), .mu .own (.lst (gls t N d)), .un, .un]) (by simp [-itP, -nls_length, itl, f1, hc1])).trans ?_
  simp [-gLen, -nls_length, T_len, T_rg ok, T_fit ok, hc2]
def glF (t : List Pl) (N : List Nat) (d : Nat) (s : Sg) : List Int := (N.filterMap fun i => (stp t i d).bind fun k => if sg t k = s then some (k : Int) else none)
theorem glF_mem {t : List Pl} {N : List Nat} {d : Nat} {s : Sg} {z : Int} : z ∈ glF t N d s ↔ ∃ i ∈ N, ∃ k, stp t i d = some k ∧ sg t k = s ∧ z = k := by
  unfold glF
  rw [List.mem_filterMap]
  constructor
  · rintro ⟨i, hi, h⟩
    obtain ⟨k, h1, h2⟩ := Option.bind_eq_some_iff.mp h
    split at h2
    · exact ⟨i, hi, k, h1, by assumption, (Option.some.inj h2).symm⟩
    · cases h2
  · rintro ⟨i, hi, k, h1, h2, rfl⟩
    exact ⟨i, hi, by rw [h1]; simp [h2]⟩
theorem behind_eq {t : List Pl} (ok : OKT t) (N : List Nat) (hN : ∀ i ∈ N, i < t.length) (hl : N.length ≤ 1000) (d : Nat) {s : Sg} (so : PyData.strOk s.1 = true) : m_standing_behind [encT t, .tup (nls N), .int d, encS s] = some (.val (.tup (nls (nxt t N d s)))) := by
  have f1 : fits (nls N).length = true := fits_of (by rw [nls_length]; omega)
  have hc1 : compL [5] (gN 5) dYes (fz (dC0 (m_step_from) (dCons (dNm 0) (dCons (dNm 5) (dCons (dNm 2) (dNil)))))) (nls N) [.val (encT t), .val (.tup (nls N)), .val (.int d), .val (encS s), .un, .un, .un] = some (gls t N d, [.val (encT t), .val (.tup (nls N)), .val (.int d), .val (encS s), .un, .un, .un]) :=
    compL_on (fun k : Nat => PV.int (k : Int)) _ _ _ fun k hk => ⟨[.val (encT t), .val (.tup (nls N)), .val (.int d), .val (encS s), .un, .val (.int k), .un], _, [.val (encT t), .val (.tup (nls N)), .val (.int d), .val (encS s), .un, .val (.int k), .un], rfl, rfl, by simp [step_eq ok d (hN k hk)], rfl⟩
  have aux : ∀ M : List Nat, (∀ i ∈ M, i < t.length) → compL [6] (gN 6) (dBAnd (dTr (dNotN (dPk 6))) (dTr (dOp gEq (fz (dC0 (m_sight_at) (dCons (dNm 0) (dCons (dNm 6) (dNil))))) (dNm 3)))) (dNm 6) (gls t M d) [.val (encT t), .val (.tup (nls N)), .val (.int d), .val (encS s), .mu .lck (.lst (gls t N d)), .un, .un] = some (ils (glF t M d s), [.val (encT t), .val (.tup (nls N)), .val (.int d), .val (encS s), .mu .lck (.lst (gls t N d)), .un, .un]) := fun M => by
    induction M with
    | nil => exact fun _ => rfl
    | cons i M ih =>
      intro h
      have ih' := ih fun j hj => h j (List.mem_cons_of_mem _ hj)
      have hi := h i List.mem_cons_self
      have ex : gls t (i :: M) d = encO (stp t i d) :: gls t M d := rfl
      rw [ex]
      unfold compL
      have ic : ∀ (z : Int) (l : List Int), ils (z :: l) = .int z :: ils l := fun _ _ => rfl
      cases e : stp t i d with
      | none =>
        have eg : glF t (i :: M) d s = glF t M d s := by simp [glF, e]
        rw [eg]
        simp [encO]
        exact ih'
      | some k =>
        have h1 := sight_at_eq ok (stp_lt ok hi e)
        have h2 := gEq_S (sg_ok ok (stp_lt ok hi e)) so
        by_cases c : sg t k = s
        · have eg : glF t (i :: M) d s = (k : Int) :: glF t M d s := by simp [glF, e, c]
          rw [eg, ic]
          rw [c] at h1 h2
          simp [-gEq, encO, h1, h2, ih']
        · have eg : glF t (i :: M) d s = glF t M d s := by simp [glF, e, c]
          rw [eg]
          simp [-gEq, encO, h1, h2, c, ih']
  have hc2 := aux N hN
  have ix := index_set_eq (glF t N d s) (by
    have : (glF t N d s).length ≤ N.length := List.length_filterMap_le _ _
    omega)
  have es : ils (srt (glF t N d s)) = nls (nxt t N d s) := srt_eq fun z => by
    rw [glF_mem]
    constructor
    · rintro ⟨i, hi, k, h1, h2, rfl⟩
      refine ⟨k, rfl, stp_lt ok (hN i hi) h1, ?_⟩
      simp only [Bool.and_eq_true, List.any_eq_true, decide_eq_true_eq]
      exact ⟨⟨i, hi, h1⟩, h2⟩
    · rintro ⟨k, rfl, _, h⟩
      simp only [Bool.and_eq_true, List.any_eq_true, decide_eq_true_eq] at h
      obtain ⟨⟨i, hi, h1⟩, h2⟩ := h
      exact ⟨i, hi, k, h1, h2, rfl⟩
  rw [es] at ix
  have itl : itP (.tup (nls N)) = some (nls N) := rfl
  have f2 : fits (gls t N d).length = true := fits_of (by simp [gls]; omega)
  unfold m_standing_behind d_standing_behind
  refine sem0_rt rfl (Γ' := [.val (encT t), .val (.tup (nls N)), .val (.int d), .val (encS s), .mu .own (.lst (gls t N d)), .un, .un]) ?_
  refine (dSeq_nx (Γ1 := [.val (encT t), .val (.tup (nls N)), .val (.int d), .val (encS s), .mu .own (.lst (gls t N d)), .un, .un]) (by simp [-itP, -nls_length, itl, f1, hc1])).trans ?_
  simp [f2, hc2, ix]
/-! ### the places reached -/
theorem endd_snoc {t : List Pl} : ∀ (w : List Nat) (i d : Nat), endd t i (w ++ [d]) = (endd t i w).bind fun j => stp t j d
  | [], i, d => by
    have e : (endd t i []).bind (fun j => stp t j d) = stp t i d := rfl
    rw [e]
    simp only [List.nil_append, endd]
    cases stp t i d <;> rfl
  | x :: w, i, d => by
    simp only [List.cons_append, endd]
    cases stp t i x with
    | none => rfl
    | some j => exact endd_snoc w j d
theorem tl_snoc {t : List Pl} : ∀ (w : List Nat) (i d : Nat), tl t i (w ++ [d]) = (tl t i w).bind fun l => ((endd t i w).bind fun j => stp t j d).map fun k => l ++ [sg t k]
  | [], i, d => by
    have e : (endd t i []).bind (fun j => stp t j d) = stp t i d := rfl
    rw [e]
    simp only [List.nil_append, tl]
    cases stp t i d <;> rfl
  | x :: w, i, d => by
    simp only [List.cons_append, tl, endd]
    cases stp t i x with
    | none => rfl
    | some j =>
      dsimp only
      rw [tl_snoc w j d]
      generalize ((endd t j w).bind fun j => stp t j d) = o
      cases tl t j w <;> cases o <;> rfl
def rch (t : List Pl) (w : List Nat) (S : List Sg) (k : Nat) : List Nat := (List.range t.length).filter fun j => (List.range t.length).any fun i => decide (endd t i (w.take k) = some j ∧ shw t i (w.take k) = some (S.take (k + 1)))
theorem rch_mem {t : List Pl} {w : List Nat} {S : List Sg} {k j : Nat} : j ∈ rch t w S k ↔ j < t.length ∧ ∃ i, i < t.length ∧ endd t i (w.take k) = some j ∧ shw t i (w.take k) = some (S.take (k + 1)) := by
  unfold rch
  rw [List.mem_filter, List.mem_range, List.any_eq_true]
  simp only [List.mem_range, decide_eq_true_eq]
theorem take_snoc {α : Type} {w : List α} {k : Nat} {d : α} (h : w[k]? = some d) : w.take (k + 1) = w.take k ++ [d] := by
  rw [List.take_succ, h]
  rfl
theorem rch_zero {t : List Pl} {w : List Nat} {S : List Sg} {s : Sg} (h : S[0]? = some s) : rch t w S 0 = (List.range t.length).filter fun i => decide (sg t i = s) := by
  unfold rch
  refine List.filter_congr fun j hj => ?_
  have hj := List.mem_range.mp hj
  rw [Bool.eq_iff_iff, List.any_eq_true]
  have e1 : S.take (0 + 1) = [s] := by
    rw [take_snoc h]
    simp
  simp only [List.take_zero, endd, shw, tl, e1, decide_eq_true_eq, List.mem_range]
  constructor
  · rintro ⟨i, _, h1, h2⟩
    have : i = j := by simpa using h1
    subst this
    simpa using h2
  · intro h
    exact ⟨j, hj, rfl, by simp [h]⟩
theorem rch_succ {t : List Pl} (ok : OKT t) {w : List Nat} {S : List Sg} {k d : Nat} {s : Sg} (hd : w[k]? = some d) (hs : S[k + 1]? = some s) : nxt t (rch t w S k) d s = rch t w S (k + 1) := by
  have hw : k < w.length := (List.getElem?_eq_some_iff.mp hd).1
  unfold nxt
  unfold rch
  refine List.filter_congr fun j hj => ?_
  have hj := List.mem_range.mp hj
  rw [Bool.eq_iff_iff, Bool.and_eq_true, List.any_eq_true, List.any_eq_true]
  simp only [decide_eq_true_eq]
  rw [take_snoc hd, take_snoc hs]
  constructor
  · rintro ⟨⟨p, hp, h1⟩, h2⟩
    obtain ⟨_, i, hi, h3, h4⟩ := rch_mem.mp hp
    refine ⟨i, List.mem_range.mpr hi, ?_, ?_⟩
    · rw [endd_snoc, h3]
      exact h1
    · unfold shw at h4 ⊢
      obtain ⟨l, hl, e⟩ := Option.map_eq_some_iff.mp h4
      rw [tl_snoc, hl, h3]
      simp [h1, h2, ← e]
  · rintro ⟨i, hi, h1, h2⟩
    have hi := List.mem_range.mp hi
    rw [endd_snoc] at h1
    obtain ⟨p, hp, hpd⟩ := Option.bind_eq_some_iff.mp h1
    unfold shw at h2
    rw [tl_snoc, hp] at h2
    obtain ⟨l, hl, e⟩ := Option.map_eq_some_iff.mp h2
    obtain ⟨m, hm, e2⟩ := Option.bind_eq_some_iff.mp hl
    simp [hpd] at e2
    subst e2
    rw [← List.cons_append] at e
    have e3 := List.append_inj' e rfl
    have e4 : sg t j = s := by simpa using e3.2
    refine ⟨⟨p, rch_mem.mpr ⟨?_, i, hi, hp, ?_⟩, hpd⟩, e4⟩
    · have : ∀ (w : List Nat) (i p : Nat), i < t.length → endd t i w = some p → p < t.length := fun w => by
        induction w with
        | nil => intro i p hi h; cases h; exact hi
        | cons x w ih =>
          intro i p hi h
          unfold endd at h
          cases e : stp t i x with
          | none => rw [e] at h; cases h
          | some q =>
            rw [e] at h
            exact ih q p (stp_lt ok hi e) h
      exact this _ i p hi hp
    · unfold shw
      rw [hm]
      simp [e3.1]
theorem rch_end {t : List Pl} (ok : OKT t) {w : List Nat} {S : List Sg} (hS : S.length = w.length + 1) : ils (srt (endF t w S)) = nls (rch t w S w.length) := srt_eq fun z => by
  have e1 : w.take w.length = w := List.take_length
  have e2 : S.take (w.length + 1) = S := by rw [← hS]; exact List.take_length
  unfold endF
  rw [List.mem_map]
  constructor
  · rintro ⟨i, hi, rfl⟩
    obtain ⟨j, hj⟩ := fitF_end hi
    have hm := fitF_mem hi
    have hr : j ∈ rch t w S w.length := rch_mem.mpr ⟨by
      have : ∀ (w : List Nat) (i p : Nat), i < t.length → endd t i w = some p → p < t.length := fun w => by
        induction w with
        | nil => intro i p hi h; cases h; exact hi
        | cons x w ih =>
          intro i p hi h
          unfold endd at h
          cases e : stp t i x with
          | none => rw [e] at h; cases h
          | some q =>
            rw [e] at h
            exact ih q p (stp_lt ok hi e) h
      exact this _ i j hm.1 hj, i, hm.1, by rw [e1]; exact hj, by rw [e1, e2]; exact hm.2⟩
    rw [hj]
    exact ⟨j, rfl, List.mem_range.mp (List.mem_filter.mp hr).1, (List.mem_filter.mp hr).2⟩
  · rintro ⟨j, rfl, hj, h⟩
    have hr : j ∈ rch t w S w.length := List.mem_filter.mpr ⟨List.mem_range.mpr hj, h⟩
    obtain ⟨_, i, hi, h1, h2⟩ := rch_mem.mp hr
    rw [e1] at h1 h2
    rw [e2] at h2
    refine ⟨i, List.mem_filter.mpr ⟨List.mem_range.mpr hi, decide_eq_true h2⟩, ?_⟩
    rw [h1]
    rfl
theorem fine_mfx {t : List Pl} {w : List Nat} {S : List Sg} : ∀ (n k now : Nat), fine 8 (mfx t w S now k n)
  | 0, k, now => trivial
  | n + 1, k, now => by
    have hd : PyData.strOk ("door" : Str) = true := by decide +kernel
    have hs : PyData.strOk ("sight" : Str) = true := by decide +kernel
    unfold mfx
    cases (if k = 0 then some now else stp t now (w.getD (k - 1) 0)) with
    | none =>
      refine fine_tup (by simp) fun x hx => ?_
      simp only [List.mem_cons, List.not_mem_nil, or_false] at hx
      rcases hx with rfl | rfl
      · trivial
      · exact hd
    | some j =>
      dsimp only
      split
      · exact fine_mfx n (k + 1) j
      · refine fine_tup (by simp) fun x hx => ?_
        simp only [List.mem_cons, List.not_mem_nil, or_false] at hx
        rcases hx with rfl | rfl
        · trivial
        · exact hs
theorem pvN_iff (p : PV) : pvN p = true ↔ p = .non := by cases p <;> simp [pvN]
theorem pvN_mfx {t : List Pl} {w : List Nat} {S : List Sg} (hS : S.length = w.length + 1) (i : Nat) : pvN (mfx t w S i 0 S.length) = decide (shw t i w = some S) := by
  rw [Bool.eq_iff_iff, pvN_iff, mfx_iff hS, decide_eq_true_iff]
theorem same_tI {xs : List Int} (h : xs.length ≤ 1000) : m_law_same 8 [.tup (ils xs), .tup (ils xs)] = some (.val (.bl true)) := same_refl 8 _ (fine_tup (by simp; omega) fine_ils)
theorem same_tN {xs : List Nat} (h : xs.length ≤ 1000) : m_law_same 8 [.tup (nls xs), .tup (nls xs)] = some (.val (.bl true)) := by
  rw [nls_ils]
  exact same_tI (by simpa [cst] using h)
theorem isort_len (xs : List Int) : (isort xs).length = xs.length := (List.mergeSort_perm xs _).length_eq
theorem dedI_len (xs : List Int) : (dedI xs).length ≤ xs.length := by
  have h : ∀ (xs ks : List Int), (xs.foldl addI ks).length ≤ ks.length + xs.length := fun xs => by
    induction xs with
    | nil => exact fun ks => Nat.le_refl _
    | cons x xs ih =>
      intro ks
      have h1 := ih (addI ks x)
      have h2 : (addI ks x).length ≤ ks.length + 1 := by
        unfold addI
        split
        · omega
        · simp
      simp only [List.foldl_cons, List.length_cons]
      omega
  simpa [dedI] using h xs []
theorem srt_len (xs : List Int) : (srt xs).length ≤ xs.length := by
  unfold srt
  rw [isort_len]
  exact dedI_len xs
theorem gSortSet_eq {xs : List Int} (h : xs.length < 64) : gSortSet (.lst (ils xs)) = some (.new (.lst (ils (srt xs)))) := by
  unfold gSortSet
  dsimp only
  rw [pInts_ils]
  show (if few xs.length = true then _ else _) = _
  rw [if_pos (few_of h)]
  rfl
def sureP (xs : List Int) : PV := if xs.length = 1 then .int (xs.getD 0 0) else .non
theorem fine_sure (xs : List Int) : fine 8 (sureP xs) := by
  unfold sureP
  split <;> trivial
theorem at0 {xs : List Int} (h : xs.length = 1) : gIx (.tup (ils xs)) (.int 0) = some (.int (xs.getD 0 0)) := by
  match xs, h with
  | [x], _ => rfl
theorem surely_eq {t : List Pl} (ok : OKT t) (w : List Nat) (hw : w.length ≤ 900) {S : List Sg} (so : SOK S) : m_surely_at [encT t, .tup (nls w), .tup (ses S)] = some (.val (sureP (srt (endF t w S)))) := by
  have h := standing_eq ok w hw so
  generalize srt (endF t w S) = r at h
  have lr : gLen (.tup (ils r)) = some (.int r.length) := by simp
  unfold sureP
  by_cases c : r.length = 1
  · have h0 := at0 c
    have c' : (r.length : Int) = 1 := by omega
    rw [if_pos c]
    simp [-gIx, -gLen, m_surely_at, d_surely_at, h, lr, c', h0]
  · have c' : ¬ (r.length : Int) = 1 := by omega
    rw [if_neg c]
    simp [-gLen, m_surely_at, d_surely_at, h, lr, c']
theorem shp_tI (xs : List Int) : shp (.tup (ils xs)) = true := by
  obtain ⟨a, b⟩ := lay_ils xs
  unfold shp SeqAt.shaped
  simp [toPD, PyData.canLay0, PyData.depth, a, b]
theorem gEq_self (xs : List Int) : gEq (.tup (ils xs)) (.tup (ils xs)) = some (.bl true) := by
  unfold gEq
  rw [shp_tI]
  have := pvEq_tup PV.int (fun i j => by rw [pvEq_int, Bool.eq_iff_iff]; simp) xs xs
  unfold ils at this ⊢
  rw [this]
  simp
theorem stands_so_eq {t : List Pl} (ok : OKT t) (w : List Nat) (hw : w.length ≤ 900) {S : List Sg} (hS : S.length = w.length + 1) (so : SOK S) : m_law_stands_so [encT t, .tup (nls w), .tup (ses S)] = some (.val (.bl true)) := by
  let rows : List PV := (List.range t.length).map fun i => mfx t w S i 0 S.length
  have hfew := ok.few
  have hr : ∀ i, i < t.length → gIx (.lst rows) (.int (i : Nat)) = some (mfx t w S i 0 S.length) := fun i hi => atI_of (by
    show rows[i]? = _
    simp [rows, hi])
  have c1 : compL [4] (gN 4) dYes (fz (dC0 (m_law_misfit) (dCons (dNm 0) (dCons (dNm 1) (dCons (dNm 2) (dCons (dNm 4) (dNil))))))) (nls (List.range t.length)) [.val (encT t), .val (.tup (nls w)), .val (.tup (ses S)), .un, .un, .un, .un, .un, .un, .un, .un] = some (rows, [.val (encT t), .val (.tup (nls w)), .val (.tup (ses S)), .un, .un, .un, .un, .un, .un, .un, .un]) :=
    compL_on (fun k : Nat => PV.int (k : Int)) _ _ _ fun k hk => ⟨[.val (encT t), .val (.tup (nls w)), .val (.tup (ses S)), .un, .val (.int k), .un, .un, .un, .un, .un, .un], _, [.val (encT t), .val (.tup (nls w)), .val (.tup (ses S)), .un, .val (.int k), .un, .un, .un, .un, .un, .un], rfl, rfl, by simp [law_misfit_eq ok w S hS hw so (List.mem_range.mp hk)], rfl⟩
  let I : Nat → Ev → Prop := fun _ Γ => ∃ a, Γ = [.val (encT t), .val (.tup (nls w)), .val (.tup (ses S)), .mu .own (.lst rows), a, .un, .un, .un, .un, .un, .un]
  obtain ⟨Γ', e2, a, rfl⟩ := loopD_inv (step := dTurn (gN 4) (dIfS (dBNot (dTr (fz (dC0 (m_law_same 8) (dCons (fz (dC0 (m_misfit_of) (dCons (dNm 0) (dCons (dNm 1) (dCons (dNm 2) (dCons (dNm 4) (dNil))))))) (dCons (dIxN 3 (dNm 4)) (dNil))))))) (dRt (vl (dBl false))) (dSkip))) I (nls (List.range t.length)) 0 [.val (encT t), .val (.tup (nls w)), .val (.tup (ses S)), .mu .own (.lst rows), .un, .un, .un, .un, .un, .un, .un] ⟨_, rfl⟩ fun k x Γ hx ⟨a, hΓ⟩ => by
    subst hΓ
    obtain ⟨i, hi, rfl⟩ := List.mem_map.mp (List.mem_of_getElem? hx)
    have hi := List.mem_range.mp hi
    have h1 := misfit_eq ok w S hS hw so hi
    have h2 := same_refl 8 _ (fine_mfx (t := t) (w := w) (S := S) S.length 0 i)
    have h3 := hr i hi
    exact ⟨[.val (encT t), .val (.tup (nls w)), .val (.tup (ses S)), .mu .own (.lst rows), .val (.int i), .un, .un, .un, .un, .un, .un], .inl (by simp [-gIx, h1, h2, h3]), _, rfl⟩
  have c3 : compL [4] (gN 4) (dTr (dIsN (dIxN 3 (dNm 4)))) (dNm 4) (nls (List.range t.length)) [.val (encT t), .val (.tup (nls w)), .val (.tup (ses S)), .mu .own (.lst rows), .un, .un, .un, .un, .un, .un, .un] = some (nls (fitF t w S), [.val (encT t), .val (.tup (nls w)), .val (.tup (ses S)), .mu .own (.lst rows), .un, .un, .un, .un, .un, .un, .un]) :=
    comp_rg _ _ (fun k hk => by
      have h3 := hr k hk
      simp [-gIx, -pvN, h3, pvN_mfx hS]) rfl
  have c4 : compL [4] (gN 4) dYes (fz (dC0 (m_law_end) (dCons (dNm 0) (dCons (dNm 4) (dCons (dNm 1) (dNil)))))) (nls (fitF t w S)) [.val (encT t), .val (.tup (nls w)), .val (.tup (ses S)), .mu .own (.lst rows), .un, .val (.tup (nls (fitF t w S))), .un, .un, .un, .un, .un] = some (ils (endF t w S), [.val (encT t), .val (.tup (nls w)), .val (.tup (ses S)), .mu .own (.lst rows), .un, .val (.tup (nls (fitF t w S))), .un, .un, .un, .un, .un]) :=
    comp_ends (fun k hk => by simp [law_end_eq ok w hk]) rfl
  have hfl := fitF_len ok w S
  have hel : (endF t w S).length ≤ 60 := by simpa [endF] using hfl
  have g5 := gSortSet_eq (xs := endF t w S) (by omega)
  have hsl := srt_len (endF t w S)
  have q1 := fitting_eq ok w hw so
  have q2 := standing_eq ok w hw so
  have q3 := surely_eq ok w hw so
  have s1 := same_tN (xs := fitF t w S) (by omega)
  have s2 := same_tI (xs := srt (endF t w S)) (by omega)
  have s3 := same_refl 8 _ (fine_sure (srt (endF t w S)))
  have hend := rch_end ok hS
  obtain ⟨s0, hs0⟩ : ∃ s0, S[0]? = some s0 := ⟨S[0], List.getElem?_eq_getElem (by omega)⟩
  have os0 := so s0 (List.mem_of_getElem? hs0)
  have a0 : gIx (.tup (ses S)) (.int 0) = some (encS s0) := at_S hs0
  have z0 := rch_zero (t := t) (w := w) hs0
  have c6 : ∀ a b c, compL [4] (gN 4) (dTr (dOp gEq (fz (dC0 (m_law_sight) (dCons (dNm 0) (dCons (dNm 4) (dNil))))) (dIxN 2 (dInt 0)))) (dNm 4) (nls (List.range t.length)) [.val (encT t), .val (.tup (nls w)), .val (.tup (ses S)), .mu .own (.lst rows), .un, a, b, c, .un, .un, .un] = some (nls (rch t w S 0), [.val (encT t), .val (.tup (nls w)), .val (.tup (ses S)), .mu .own (.lst rows), .un, a, b, c, .un, .un, .un]) := fun a b c => by
    rw [z0]
    exact comp_rg _ _ (fun k hk => by
      have h1 := law_sight_eq ok hk
      have h2 := gEq_S (sg_ok ok hk) os0
      simp [-gIx, -gEq, h1, a0, h2]) rfl
  generalize hE : srt (endF t w S) = E at *
  generalize hF : fitF t w S = F at *
  have lE : gLen (.tup (ils E)) = some (.int E.length) := by simp
  let J : Nat → Ev → Prop := fun k Γ => ∃ x y, Γ = [.val (encT t), .val (.tup (nls w)), .val (.tup (ses S)), .mu .own (.lst rows), a, .val (.tup (nls F)), .val (.tup (ils E)), .val (sureP E), .val (.tup (nls (rch t w S k))), x, y]
  obtain ⟨Γ', e7, x, y, rfl⟩ := loopD_inv (step := dTurn (gN 9) (dSeq (dSet 10 (dC0 (m_law_behind_all) (dCons (dNm 0) (dCons (dNm 8) (dCons (dIxN 1 (dNm 9)) (dCons (dIxN 2 (dOp gAdd (dNm 9) (dInt 1))) (dNil)))))))
        (dSeq (dSet 8 (dC0 (m_standing_behind) (dCons (dNm 0) (dCons (dNm 8) (dCons (dIxN 1 (dNm 9)) (dCons (dIxN 2 (dOp gAdd (dNm 9) (dInt 1))) (dNil)))))))
        (dIfS (dBNot (dTr (fz (dC0 (m_law_same 8) (dCons (dNm 8) (dCons (dNm 10) (dNil))))))) (dRt (vl (dBl false))) (dSkip))))) J (rgP 0 w.length) 0 [.val (encT t), .val (.tup (nls w)), .val (.tup (ses S)), .mu .own (.lst rows), a, .val (.tup (nls F)), .val (.tup (ils E)), .val (sureP E), .val (.tup (nls (rch t w S 0))), .un, .un] ⟨_, _, rfl⟩ fun k x Γ hx ⟨u, v, hΓ⟩ => by
    subst hΓ
    obtain ⟨hk, rfl⟩ := rgP_get hx
    rw [Int.zero_add, Nat.zero_add]
    have hd : w[k]? = some (w.getD k 0) := by simp [List.getD, hk]
    have aw := at_w hk
    generalize w.getD k 0 = d at hd aw
    obtain ⟨s, hs⟩ : ∃ s, S[k + 1]? = some s := ⟨S[k + 1], List.getElem?_eq_getElem (by omega)⟩
    have as : gIx (.tup (ses S)) (.int ((k : Int) + 1)) = some (encS s) := at_S hs
    have os := so s (List.mem_of_getElem? hs)
    have hN : ∀ i ∈ rch t w S k, i < t.length := fun i hi => (rch_mem.mp hi).1
    have hNl : ∀ k, (rch t w S k).length ≤ 60 := fun k => by
      have h := List.length_filter_le (fun j => (List.range t.length).any fun i => decide (endd t i (w.take k) = some j ∧ shw t i (w.take k) = some (S.take (k + 1)))) (List.range t.length)
      rw [List.length_range] at h
      exact Nat.le_trans h ok.few
    have b1 := behind_all_eq ok _ hN (by have := hNl k; omega) d os
    have b2 := behind_eq ok _ hN (by have := hNl k; omega) d os
    rw [rch_succ ok hd hs] at b1 b2
    have sm := same_tN (xs := rch t w S (k + 1)) (by have := hNl (k + 1); omega)
    refine ⟨[.val (encT t), .val (.tup (nls w)), .val (.tup (ses S)), .mu .own (.lst rows), a, .val (.tup (nls F)), .val (.tup (ils E)), .val (sureP E), .val (.tup (nls (rch t w S (k + 1)))), .val (.int k), .val (.tup (nls (rch t w S (k + 1))))], .inl ?_, _, _, rfl⟩
    simp [-gIx, aw, as, b1, b2, sm]
  rw [rgP_length, Nat.zero_add] at e7
  have fr := T_fit ok
  have fF : fits (nls F).length = true := fits_of (by rw [nls_length]; omega)
  have itF : itP (.tup (nls F)) = some (nls F) := rfl
  have lw : gLen (.tup (nls w)) = some (.int w.length) := by simp
  have gE := gEq_self E
  refine sem0_rt rfl (Γ' := [.val (encT t), .val (.tup (nls w)), .val (.tup (ses S)), .mu .own (.lst rows), a, .val (.tup (nls F)), .val (.tup (ils E)), .val (sureP E), .val (.tup (nls (rch t w S w.length))), x, y]) ?_
  unfold d_law_stands_so
  refine (dSeq_nx (Γ1 := [.val (encT t), .val (.tup (nls w)), .val (.tup (ses S)), .mu .own (.lst rows), .un, .un, .un, .un, .un, .un, .un]) (by simp [-gLen, -nls_length, T_len, T_rg ok, fr, c1])).trans ?_
  refine (dSeq_nx ((dFor_of (xs := nls (List.range t.length)) (by simp [-gLen, T_len, T_rg ok])).trans e2)).trans ?_
  refine (dSeq_nx (Γ1 := [.val (encT t), .val (.tup (nls w)), .val (.tup (ses S)), .mu .own (.lst rows), a, .val (.tup (nls F)), .un, .un, .un, .un, .un]) (by simp [-gLen, -nls_length, T_len, T_rg ok, fr, c3])).trans ?_
  refine (dSeq_nx (Γ1 := [.val (encT t), .val (.tup (nls w)), .val (.tup (ses S)), .mu .own (.lst rows), a, .val (.tup (nls F)), .val (.tup (ils E)), .un, .un, .un, .un]) (by simp [-itP, -nls_length, itF, fF, c4, g5])).trans ?_
  refine (dSeq_nx (Γ1 := [.val (encT t), .val (.tup (nls w)), .val (.tup (ses S)), .mu .own (.lst rows), a, .val (.tup (nls F)), .val (.tup (ils E)), .un, .un, .un, .un]) (by simp [q1, q2, s1, s2])).trans ?_
  refine (dSeq_nx (Γ1 := [.val (encT t), .val (.tup (nls w)), .val (.tup (ses S)), .mu .own (.lst rows), a, .val (.tup (nls F)), .val (.tup (ils E)), .val .non, .un, .un, .un]) (by simp)).trans ?_
  refine (dSeq_nx (Γ1 := [.val (encT t), .val (.tup (nls w)), .val (.tup (ses S)), .mu .own (.lst rows), a, .val (.tup (nls F)), .val (.tup (ils E)), .val (sureP E), .un, .un, .un]) ?_).trans ?_
  · unfold sureP
    by_cases c : E.length = 1
    · have h0 := at0 c
      have c' : (E.length : Int) = 1 := by omega
      rw [if_pos c]
      simp [-gIx, -gLen, lE, c', h0]
    · have c' : ¬ (E.length : Int) = 1 := by omega
      rw [if_neg c]
      simp [-gLen, lE, c']
  refine (dSeq_nx (Γ1 := [.val (encT t), .val (.tup (nls w)), .val (.tup (ses S)), .mu .own (.lst rows), a, .val (.tup (nls F)), .val (.tup (ils E)), .val (sureP E), .un, .un, .un]) (by simp [q3, s3])).trans ?_
  refine (dSeq_nx (Γ1 := [.val (encT t), .val (.tup (nls w)), .val (.tup (ses S)), .mu .own (.lst rows), a, .val (.tup (nls F)), .val (.tup (ils E)), .val (sureP E), .val (.tup (nls (rch t w S 0))), .un, .un]) (by simp [-gLen, -nls_length, T_len, T_rg ok, fr, c6])).trans ?_
  refine (dSeq_nx ((dFor_of (xs := rgP 0 w.length) (by simp [-gLen, lw, itR1_nat (show w.length ≤ 1000000 by omega)])).trans e7)).trans ?_
  rw [← hend]
  simp [-gEq, gE]
/-! ### walks, changes -/
theorem opens_eq {t : List Pl} (ok : OKT t) {i : Nat} (hi : i < t.length) : ∃ o : List Nat, o.length ≤ 10 ∧ (∀ d ∈ o, ∃ j, stp t i d = some j) ∧ m_law_opens [encT t, .int i] = some (.new (.lst (nls o))) := by
  have e1 := ixT hi
  have op := (ok.pl _ (List.mem_of_getElem? (getD_at hi))).len
  have e3 : ∀ k, ((t.getD i (Str.empty, [])).2[k]?).join = stp t i k := fun _ => rfl
  generalize t.getD i (Str.empty, []) = p at *
  refine ⟨(List.range p.2.length).filter fun d => (stp t i d).isSome, ?_, fun d hd => Option.isSome_iff_exists.mp (List.mem_filter.mp hd).2, ?_⟩
  · have h := List.length_filter_le (fun d => (stp t i d).isSome) (List.range p.2.length)
    rw [List.length_range] at h
    omega
  · have hc : compL [2] (gN 2) (dTr (dNotN (dOp gIx (dOp gIx (dIxN 0 (dNm 1)) (dInt 1)) (dNm 2)))) (dNm 2) (nls (List.range p.2.length)) [.val (encT t), .val (.int i), .un] = some (nls ((List.range p.2.length).filter fun d => (stp t i d).isSome), [.val (encT t), .val (.int i), .un]) :=
      comp_rg _ _ (fun k hk => by
        have h2 := at_R hk
        rw [e3] at h2
        have e4 : (!pvN (encO (stp t i k))) = (stp t i k).isSome := by cases stp t i k <;> rfl
        simp [-gIx, -pvN, e1, ixP1, h2, e4]) rfl
    have lr : gLen (.tup (encR p.2)) = some (.int p.2.length) := by simp [encR_len]
    have rg : itR1 (.int p.2.length) = some (nls (List.range p.2.length)) := by rw [itR1_nat (by omega), rgP_nls]
    have f1 : fits (nls (List.range p.2.length)).length = true := fits_of (by rw [nls_length, List.length_range]; omega)
    generalize ((List.range p.2.length).filter fun d => (stp t i d).isSome) = F at hc ⊢
    simp [-gIx, -gLen, -nls_length, m_law_opens, d_law_opens, e1, ixP1, lr, rg, f1, hc]
theorem walk_eq (ds : List Int) {t : List Pl} (ok : OKT t) {i : Nat} (hi : i < t.length) (most : Nat) (hm : most ≤ 500) : ∃ (w : List Nat) (l : List Sg) (ds' : List Int), w.length ≤ most ∧ tl t i w = some l ∧ m_law_walk (dr ds) [encT t, .int i, .int most] = some (.val (.tup (nls w)), dr ds') := by
  obtain ⟨n, ds1, hn, e1⟩ := take_small ds (most + 1) (by omega)
  let I : Nat → Ev → Prop := fun k Γ => ∃ (ds : List Int) (w : List Nat) (l : List Sg) (j : Nat) (a b c : Sl), w.length ≤ k ∧ tl t i w = some l ∧ endd t i w = some j ∧ j < t.length ∧ Γ = [.mu .par (dr ds), .val (encT t), .val (.int i), .val (.int most), .val (.tup (nls w)), .val (.int j), a, b, c]
  obtain ⟨Γ', e2, ds2, w, l, j, a, b, c, h1, h2, _, _, rfl⟩ := loopD_inv (step := dTurn (gN 6) (dSeq (dSet 7 (dC0 (m_law_opens) (dCons (dNm 1) (dCons (dNm 5) (dNil)))))
        (dIfS (dTr (dOp gGt (dUn gLen (dPk 7)) (dInt 0))) (dSeq (dSet 8 (dC1 (m_law_pick) 0 (dCons (dNm 7) (dNil))))
        (dSeq (dSet 4 (vl (dOp gAdd (dNm 4) (dTup (dCons (dNm 8) (dNil))))))
        (dSet 5 (vl (dOp gIx (dOp gIx (dIxN 1 (dNm 5)) (dInt 1)) (dNm 8)))))) (dSkip)))) I (rgP 0 n) 0 [.mu .par (dr ds1), .val (encT t), .val (.int i), .val (.int most), .val (.tup (nls [])), .val (.int i), .un, .un, .un] ⟨ds1, [], [], i, _, _, _, Nat.le_refl _, rfl, rfl, hi, rfl⟩ fun k x Γ hx ⟨ds, w, l, j, a, b, c, h1, h2, h3, h4, hΓ⟩ => by
    subst hΓ
    obtain ⟨hk, rfl⟩ := rgP_get hx
    obtain ⟨o, o1, o2, o3⟩ := opens_eq ok h4
    by_cases z : o = []
    · subst z
      refine ⟨[.mu .par (dr ds), .val (encT t), .val (.int i), .val (.int most), .val (.tup (nls w)), .val (.int j), .val (.int (0 + (k : Int))), .mu .own (.lst (nls [])), c], .inl (by simp [o3]), ds, w, l, j, _, _, _, by omega, h2, h3, h4, rfl⟩
    · obtain ⟨y, ds', hy, e⟩ := pick_eq ds (.lst (nls o)) (nls o) (.inl rfl) (by simpa [nls] using z)
      obtain ⟨d, hd, rfl⟩ := List.mem_map.mp hy
      obtain ⟨q, hq⟩ := o2 d hd
      have ho : 0 < o.length := List.length_pos_iff.mpr z
      have ex := ixT h4
      have hdl : d < (t.getD j (Str.empty, [])).2.length := by
        have hq' := hq
        unfold stp at hq'
        by_cases c : d < (t.getD j (Str.empty, [])).2.length
        · exact c
        · rw [List.getElem?_eq_none (by omega)] at hq'
          cases hq'
      have hr := at_R hdl
      have hs : ((t.getD j (Str.empty, [])).2[d]?).join = some q := hq
      rw [hs] at hr
      generalize t.getD j (Str.empty, []) = p at *
      have f1 : fits (w.length + 1) = true := fits_of (by omega)
      have ap : nls w ++ [.int (d : Nat)] = nls (w ++ [d]) := by simp [nls]
      refine ⟨[.mu .par (dr ds'), .val (encT t), .val (.int i), .val (.int most), .val (.tup (nls (w ++ [d]))), .val (.int q), .val (.int (0 + (k : Int))), .val (.lst (nls o)), .val (.int d)], .inl ?_, ds', w ++ [d], l ++ [sg t q], q, _, _, _, by simp; omega, ?_, ?_, stp_lt ok h4 hq, rfl⟩
      · have lo : gLen (.lst (nls o)) = some (.int o.length) := by simp
        simp [-gIx, -gLen, o3, lo, ho, e, mkT, f1, ap, ex, ixP1, hr, encO]
      · rw [tl_snoc, h2, h3]
        simp [hq]
      · rw [endd_snoc, h3]
        exact hq
  rw [rgP_length, Nat.zero_add] at h1
  refine ⟨w, l, ds2, by omega, h2, ?_⟩
  rw [show ((most + 1 : Nat) : Int) = (most : Int) + 1 by omega] at e1
  refine sem1_rt rfl (Γ' := [.val (encT t), .val (.int i), .val (.int most), .val (.tup (nls w)), .val (.int j), a, b, c]) ?_
  unfold d_law_walk
  refine (dSeq_nx (Γ1 := [.mu .par (dr ds), .val (encT t), .val (.int i), .val (.int most), .val (.tup (nls [])), .un, .un, .un, .un]) (by simp [mkT, nls])).trans ?_
  refine (dSeq_nx (Γ1 := [.mu .par (dr ds), .val (encT t), .val (.int i), .val (.int most), .val (.tup (nls [])), .val (.int i), .un, .un, .un]) (by simp)).trans ?_
  refine (dSeq_nx ((dFor_of (xs := rgP 0 n) (Γ1 := [.mu .par (dr ds1), .val (encT t), .val (.int i), .val (.int most), .val (.tup (nls [])), .val (.int i), .un, .un, .un]) (by simp [e1, itR1_nat (show n ≤ 1000000 by omega)])).trans e2)).trans ?_
  simp
theorem cut_take (xs : List PV) (k : Nat) (h : k ≤ xs.length) : cutA xs none (some (k : Int)) = xs.take k := by
  unfold cutA
  rw [HT.sIx_nat, HT.sIx_none, Nat.min_eq_left h, List.drop_zero, Nat.sub_zero]
theorem cut_drop (xs : List PV) (k : Nat) (h : k ≤ xs.length) : cutA xs (some (k : Int)) none = xs.drop k := by
  unfold cutA
  rw [HT.sIx_nat, HT.sIx_none, Nat.min_eq_left h]
  exact List.take_of_length_le (by rw [List.length_drop]; omega)
theorem put_eq (xs : List PV) (k : Nat) (x : PV) (h : k < xs.length) (hl : xs.length ≤ 1000) : m_law_put [.tup xs, .int k, x] = some (.val (.tup (xs.set k x))) := by
  have e1 := cut_take xs k (by omega)
  have e2 : cutA xs (some ((k : Int) + 1)) none = xs.drop (k + 1) := cut_drop xs (k + 1) (by omega)
  have f1 : fits ((xs.take k).length + 1) = true := fits_of (by rw [List.length_take]; omega)
  have f2 : fits ((xs.take k ++ [x]).length + (xs.drop (k + 1)).length) = true := fits_of (by simp; omega)
  have e3 : xs.take k ++ [x] ++ xs.drop (k + 1) = xs.set k x := by
    rw [List.set_eq_take_append_cons_drop, if_pos h, List.append_assoc]
    rfl
  have g1 : gAdd (.tup (xs.take k)) (.tup [x]) = some (.tup (xs.take k ++ [x])) := if_pos f1
  have g2 : gAdd (.tup (xs.take k ++ [x])) (.tup (xs.drop (k + 1))) = some (.tup (xs.set k x)) := by
    rw [← e3]
    exact if_pos f2
  have s1 : gSl (.tup xs) none (some (k : Int)) = some (.val (.tup (xs.take k))) := by
    unfold gSl
    dsimp only
    rw [e1]
  have s2 : gSl (.tup xs) (some ((k : Int) + 1)) none = some (.val (.tup (xs.drop (k + 1)))) := by
    unfold gSl
    dsimp only
    rw [e2]
  have ga : gAdd (.int (k : Int)) (.int 1) = some (.int ((k : Int) + 1)) := rfl
  simp [-gAdd, -gSl, m_law_put, d_law_put, s1, s2, mkT, g1, g2, ga]
structure OKS (L : Nat) (s : Sg) : Prop where
  w : okS L s.1
  has : 0 < s.2.length
  len : s.2.length ≤ L
theorem OKS.mono {L M : Nat} {s : Sg} (h : OKS L s) (hl : L ≤ M) : OKS M s := ⟨h.w.mono hl, h.has, Nat.le_trans h.len hl⟩
theorem sg_OKS {t : List Pl} (ok : OKT t) {i : Nat} (hi : i < t.length) : OKS 300 (sg t i) := by
  have op := ok.pl _ (List.mem_of_getElem? (getD_at hi))
  have h1 := op.has
  have h2 := op.len
  refine ⟨op.w, ?_, ?_⟩
  · show 0 < (List.map _ _).length
    rw [List.length_map]
    exact h1
  · show (List.map _ _).length ≤ 300
    rw [List.length_map]
    omega
theorem okQ : okS 1 ("q" : Str) := ⟨by decide +kernel, by decide +kernel⟩
theorem other_eq (ds : List Int) {t : List Pl} (ok : OKT t) {L : Nat} (hL : 300 ≤ L) (hL2 : L ≤ 900) {s : Sg} (os : OKS L s) : ∃ (s' : Sg) (ds' : List Int), OKS (L + 1) s' ∧ m_law_other_sight (dr ds) [encT t, encS s] = some (.val (encS s'), dr ds') := by
  obtain ⟨k, ds1, hk, e1⟩ := take_eq ds 4 (by decide)
  have i0 : gIx (encS s) (.int 0) = some (.str s.1) := rfl
  have i1 : gIx (encS s) (.int 1) = some (.tup (ils s.2)) := rfl
  have hlen := os.len
  have hhas := os.has
  by_cases k0 : k = 0
  · subst k0
    obtain ⟨i, ds2, hi, e2⟩ := take_small ds1 t.length ok.pos
    refine ⟨sg t i, ds2, (sg_OKS ok hi).mono (by omega), ?_⟩
    simp [-gLen, m_law_other_sight, d_law_other_sight, e1, T_len, e2, law_sight_eq ok hi]
  · by_cases k1 : k = 1
    · subst k1
      refine ⟨(s.1 ++ "q", s.2), ds1, ⟨os.w.append okQ, os.has, by show s.2.length ≤ _; omega⟩, ?_⟩
      have f1 : fits (s.1.length + ("q" : Str).length) = true := fits_of (by have := os.w.2; have := okQ.2; omega)
      have en : PV.tup [.str (s.1 ++ "q"), .tup (ils s.2)] = encS (s.1 ++ "q", s.2) := rfl
      simp [-gIx, m_law_other_sight, d_law_other_sight, e1, i0, i1, f1, mkT, en]
    · by_cases k2 : k = 2
      · subst k2
        obtain ⟨b, ds2, hb, e2⟩ := take_eq ds1 2 (by decide)
        have f1 : fits (s.2.length + 1) = true := fits_of (by omega)
        refine ⟨(s.1, s.2 ++ [(b : Int)]), ds2, ⟨os.w.mono (by omega), by show 0 < (s.2 ++ _).length; simp, by show (s.2 ++ _).length ≤ _; simp; omega⟩, ?_⟩
        have en : PV.tup [.str s.1, .tup (ils (s.2 ++ [(b : Int)]))] = encS (s.1, s.2 ++ [(b : Int)]) := rfl
        simp [-gIx, m_law_other_sight, d_law_other_sight, e1, e2, i0, i1, f1, mkT, en]
      · obtain ⟨p, ds2, hp, e2⟩ := take_small ds1 s.2.length os.has
        have k1' : ¬ (k : Int) = 1 := by omega
        have k2' : ¬ (k : Int) = 2 := by omega
        have hpi : gIx (.tup (ils s.2)) (.int p) = some (.int s.2[p]) := atI_ils hp
        have pe := put_eq (ils s.2) p (.int (1 - s.2[p])) (by simpa using hp) (by simp; omega)
        rw [ils_set] at pe
        have gm : gMax2 (.int 1) (.int s.2.length) = some (.int s.2.length) := by
          unfold gMax2 gI
          dsimp only
          by_cases c : (s.2.length : Int) > 1
          · rw [if_pos c]
          · rw [if_neg c]
            congr 2
            omega
        have lg : gLen (.tup (ils s.2)) = some (.int s.2.length) := by simp
        have gs : gSub (.int 1) (.int s.2[p]) = some (.int (1 - s.2[p])) := rfl
        generalize s.2[p] = z at hpi pe gs
        have en : PV.tup [.str s.1, .tup (ils (s.2.set p (1 - z)))] = encS (s.1, s.2.set p (1 - z)) := rfl
        refine ⟨(s.1, s.2.set p (1 - z)), ds2, ⟨os.w.mono (by omega), by show 0 < (s.2.set _ _).length; rw [List.length_set]; exact hhas, by show (s.2.set _ _).length ≤ _; rw [List.length_set]; omega⟩, ?_⟩
        simp [-gIx, -gLen, -gMax2, -gSub, m_law_other_sight, d_law_other_sight, e1, k0, k1, k2, k1', k2', i0, i1, lg, gm, e2, hpi, gs, pe, mkT, en]
theorem plus_eq (o : Option Nat) (n : Nat) : m_law_plus [encO o, .int n] = some (.val (encO (o.map (· + n)))) := by
  cases o <;> simp [m_law_plus, d_law_plus, encO]
theorem side_eq {t u : List Pl} (h1 : 0 < t.length) (h2 : t.length ≤ 30) (h3 : u.length ≤ 30) (o1 : ∀ p ∈ t, OKP t.length p) (o2 : ∀ p ∈ u, OKP u.length p) : ∃ v : List Pl, OKT v ∧ m_law_side [encT t, encT u] = some (.val (encT v)) := by
  let sh : Pl → Pl := fun p => (p.1, p.2.map fun o => o.map (· + t.length))
  refine ⟨t ++ u.map sh, ⟨by simp; omega, by simp; omega, fun p hp => ?_⟩, ?_⟩
  · rw [List.length_append, List.length_map]
    rcases List.mem_append.mp hp with hp | hp
    · have := o1 p hp
      exact ⟨this.w, this.len, this.has, fun g hg => by have := this.goal g hg; omega⟩
    · obtain ⟨q, hq, rfl⟩ := List.mem_map.mp hp
      have := o2 q hq
      refine ⟨this.w, by show (List.map _ _).length ≤ 10; rw [List.length_map]; exact this.len, by show 0 < (List.map _ _).length; rw [List.length_map]; exact this.has, fun g hg => ?_⟩
      obtain ⟨o, ho, e⟩ := List.mem_map.mp hg
      obtain ⟨z, rfl, rfl⟩ := Option.map_eq_some_iff.mp e
      have := this.goal z ho
      omega
  · let I : Nat → Ev → Prop := fun k Γ => ∃ a, Γ = [.val (encT t), .val (encT u), .mu .own (.lst ((t ++ (u.take k).map sh).map encP)), a, .un]
    obtain ⟨Γ', e2, a, rfl⟩ := loopD_inv (step := dTurn (gN 3) (dEx (dMt gAppend 2 (dCons (dTup (dCons (dIxN 3 (dInt 0)) (dCons (dUn gTupOf (fz (dComp [4] (dIt itP (dIxN 3 (dInt 1))) (gN 4) (dYes) (fz (dC0 (m_law_plus) (dCons (dNm 4) (dCons (dUn gLen (dPk 0)) (dNil)))))))) (dNil)))) (dNil))))) I (u.map encP) 0 [.val (encT t), .val (encT u), .mu .own (.lst (t.map encP)), .un, .un] ⟨.un, by simp⟩ fun k x Γ hx ⟨a, hΓ⟩ => by
      subst hΓ
      rw [Nat.zero_add]
      rw [List.getElem?_map] at hx
      obtain ⟨p, hp, rfl⟩ := Option.map_eq_some_iff.mp hx
      have hk : k < u.length := (List.getElem?_eq_some_iff.mp hp).1
      have op := o2 p (List.mem_of_getElem? hp)
      have hl := op.len
      have e4 : (t ++ (u.take (k + 1)).map sh).map encP = (t ++ (u.take k).map sh).map encP ++ [encP (sh p)] := by
        rw [take_snoc hp]
        simp
      have f1 : fits ((t ++ (u.take k).map sh).map encP).length.succ = true := fits_of (by simp; omega)
      have f2 : fits (encR p.2).length = true := fits_of (by rw [encR_len]; omega)
      have hc : ∀ L : PV, compL [4] (gN 4) dYes (fz (dC0 (m_law_plus) (dCons (dNm 4) (dCons (dUn gLen (dPk 0)) (dNil))))) (encR p.2) [.val (encT t), .val (encT u), .mu .own L, .val (encP p), .un] = some (encR (sh p).2, [.val (encT t), .val (encT u), .mu .own L, .val (encP p), .un]) := fun L => by
        have er : encR (sh p).2 = p.2.map fun o => encO (o.map (· + t.length)) := by simp [encR, sh, Function.comp_def]
        rw [er]
        refine compL_on encO _ _ _ fun o _ => ⟨[.val (encT t), .val (encT u), .mu .own L, .val (encP p), .val (encO o)], _, [.val (encT t), .val (encT u), .mu .own L, .val (encP p), .val (encO o)], rfl, rfl, ?_, rfl⟩
        simp [-gLen, T_len, plus_eq]
      refine ⟨[.val (encT t), .val (encT u), .mu .own (.lst ((t ++ (u.take (k + 1)).map sh).map encP)), .val (encP p), .un], .inl ?_, _, rfl⟩
      rw [e4]
      have en : PV.tup [.str p.1, .tup (encR (sh p).2)] = encP (sh p) := rfl
      generalize (t ++ (u.take k).map sh).map encP = M at f1 ⊢
      have itl : itP (.tup (encR p.2)) = some (encR p.2) := rfl
      have f1' : fits (M.length + 1) = true := f1
      simp [-gIx, -itP, ixP0, ixP1, itl, f2, hc, mkT, en, f1']
    have e3 : (t ++ (u.take (0 + (u.map encP).length)).map sh) = t ++ u.map sh := by
      rw [Nat.zero_add, List.length_map, List.take_length]
    rw [e3] at e2
    have g1 : gLstOf (encT t) = some (.new (.lst (t.map encP))) := rfl
    have g2 : itP (encT u) = some (u.map encP) := rfl
    refine sem0_rt rfl (Γ' := [.val (encT t), .val (encT u), .mu .own (.lst ((t ++ u.map sh).map encP)), a, .un]) ?_
    unfold d_law_side
    refine (dSeq_nx (Γ1 := [.val (encT t), .val (encT u), .mu .own (.lst (t.map encP)), .un, .un]) (by simp [-gLstOf, g1])).trans ?_
    refine (dSeq_nx ((dFor_of (xs := u.map encP) (by simp [-itP, g2])).trans e2)).trans ?_
    simp [encT]
theorem tl_len {t : List Pl} : ∀ {w : List Nat} {i : Nat} {l : List Sg}, tl t i w = some l → l.length = w.length
  | [], i, l, h => by cases h; rfl
  | d :: w, i, l, h => by
    unfold tl at h
    cases e : stp t i d with
    | none => rw [e] at h; cases h
    | some j =>
      rw [e] at h
      obtain ⟨m, hm, rfl⟩ := Option.map_eq_some_iff.mp h
      simp [tl_len hm]
theorem tl_OKS {t : List Pl} (ok : OKT t) : ∀ {w : List Nat} {i : Nat} {l : List Sg}, i < t.length → tl t i w = some l → ∀ s ∈ l, OKS 300 s
  | [], i, l, hi, h => by cases h; exact fun _ h => by cases h
  | d :: w, i, l, hi, h => by
    unfold tl at h
    cases e : stp t i d with
    | none => rw [e] at h; cases h
    | some j =>
      rw [e] at h
      obtain ⟨m, hm, rfl⟩ := Option.map_eq_some_iff.mp h
      intro s hs
      rcases List.mem_cons.mp hs with rfl | hs
      · exact sg_OKS ok (stp_lt ok hi e)
      · exact tl_OKS ok (stp_lt ok hi e) hm s hs
def dK1 : DS := (dSeq (dSet 10 (dC1 (m_law_take) 1 (dCons (dUn gLen (dPk 4)) (dNil))))
        (dSeq (dSet 11 (dC1 (m_law_walk) 1 (dCons (dNm 4) (dCons (dNm 10) (dCons (dInt 40) (dNil))))))
        (dSeq (dSet 12 (dC0 (m_law_shown) (dCons (dNm 4) (dCons (dNm 10) (dCons (dNm 11) (dNil))))))
        (dSeq (dFor (dIt itR1 (fz (dC1 (m_law_take) 1 (dCons (dInt 3) (dNil))))) (gN 13) (dSeq (dSet 14 (dC1 (m_law_take) 1 (dCons (dUn gLen (dPk 12)) (dNil))))
        (dSet 12 (dC0 (m_law_put) (dCons (dNm 12) (dCons (dNm 14) (dCons (fz (dC1 (m_law_other_sight) 1 (dCons (dNm 4) (dCons (dIxN 12 (dNm 14)) (dNil))))) (dNil))))))))
        (dSeq (dIfS (dBAnd (dTr (dOp gGt (dUn gLen (dPk 11)) (dInt 0))) (dTr (dOp gEq (fz (dC1 (m_law_take) 1 (dCons (dInt 4) (dNil)))) (dInt 0)))) (dSet 11 (dC0 (m_law_put) (dCons (dNm 11) (dCons (fz (dC1 (m_law_take) 1 (dCons (dUn gLen (dPk 11)) (dNil)))) (dCons (fz (dC1 (m_law_take) 1 (dCons (dInt 5) (dNil)))) (dNil)))))) (dSkip))
        (dIfS (dBNot (dTr (fz (dC0 (m_law_stands_so) (dCons (dNm 4) (dCons (dNm 11) (dCons (dNm 12) (dNil)))))))) (dRt (vl (dBl false))) (dSkip)))))))
theorem turn_eq (ds : List Int) {t : List Pl} (ok : OKT t) (kv : PV) (p0 p2 p3 a5 a10 a11 a12 a13 a14 : Sl) : ∃ (ds' : List Int) (b10 b11 b12 b13 b14 : Sl), dTurn (gN 5) dK1 kv [p0, .mu .own (dr ds), p2, p3, .val (encT t), a5, .un, .un, .un, .un, a10, a11, a12, a13, a14] = some (.nx [p0, .mu .own (dr ds'), p2, p3, .val (encT t), .val kv, .un, .un, .un, .un, b10, b11, b12, b13, b14]) := by
  obtain ⟨i, ds1, hi, e1⟩ := take_small ds t.length ok.pos
  obtain ⟨w, l, ds2, hw, hl, e2⟩ := walk_eq ds1 ok hi 40 (by omega)
  rw [show ((40 : Nat) : Int) = 40 from rfl] at e2
  have e3 := shown_eq ok w (by omega) hi
  have hsh : shw t i w = some (sg t i :: l) := by
    unfold shw
    rw [hl]
    rfl
  rw [hsh] at e3
  have hS0 : (sg t i :: l).length = w.length + 1 := by simp [tl_len hl]
  have hO0 : ∀ s ∈ sg t i :: l, OKS 300 s := fun s hs => by
    rcases List.mem_cons.mp hs with rfl | hs
    · exact sg_OKS ok hi
    · exact tl_OKS ok hi hl s hs
  generalize sg t i :: l = S0 at e3 hS0 hO0
  obtain ⟨n, ds3, hn, e4⟩ := take_eq ds2 3 (by decide)
  have go : ∀ x : Sl, ∃ (ds' : List Int) (b11 b12 b13 b14 : Sl), dK1 [p0, .mu .own (dr ds), p2, p3, .val (encT t), x, .un, .un, .un, .un, a10, a11, a12, a13, a14] = some (.nx [p0, .mu .own (dr ds'), p2, p3, .val (encT t), x, .un, .un, .un, .un, .val (.int i), b11, b12, b13, b14]) := fun x => by
    let I : Nat → Ev → Prop := fun k Γ => ∃ (ds : List Int) (S : List Sg) (a b : Sl), S.length = w.length + 1 ∧ (∀ s ∈ S, OKS (300 + k) s) ∧ Γ = [p0, .mu .own (dr ds), p2, p3, .val (encT t), x, .un, .un, .un, .un, .val (.int i), .val (.tup (nls w)), .val (.tup (ses S)), a, b]
    obtain ⟨Γ', e5, ds4, S, a, b, h1, h2, rfl⟩ := loopD_inv (step := dTurn (gN 13) (dSeq (dSet 14 (dC1 (m_law_take) 1 (dCons (dUn gLen (dPk 12)) (dNil))))
        (dSet 12 (dC0 (m_law_put) (dCons (dNm 12) (dCons (dNm 14) (dCons (fz (dC1 (m_law_other_sight) 1 (dCons (dNm 4) (dCons (dIxN 12 (dNm 14)) (dNil))))) (dNil)))))))) I (rgP 0 n) 0 [p0, .mu .own (dr ds3), p2, p3, .val (encT t), x, .un, .un, .un, .un, .val (.int i), .val (.tup (nls w)), .val (.tup (ses S0)), a13, a14] ⟨ds3, S0, _, _, hS0, hO0, rfl⟩ fun k y Γ hx ⟨ds, S, a, b, h1, h2, hΓ⟩ => by
      obtain ⟨hk, rfl⟩ := rgP_get hx
      subst hΓ
      obtain ⟨q, ds', hq, e6⟩ := take_small ds S.length (by omega)
      have aS := at_S (List.getElem?_eq_getElem hq)
      obtain ⟨s', ds'', hs', e7⟩ := other_eq ds' ok (L := 300 + (0 + k)) (by omega) (by omega) (h2 _ (List.getElem_mem hq))
      have pe := put_eq (ses S) q (encS s') (by simpa using hq) (by simp; omega)
      have es : (ses S).set q (encS s') = ses (S.set q s') := by simp [ses]
      rw [es] at pe
      have lS : gLen (.tup (ses S)) = some (.int S.length) := by simp
      refine ⟨[p0, .mu .own (dr ds''), p2, p3, .val (encT t), x, .un, .un, .un, .un, .val (.int i), .val (.tup (nls w)), .val (.tup (ses (S.set q s'))), .val (.int (0 + (k : Int))), .val (.int q)], .inl ?_, ds'', _, _, _, by rw [List.length_set]; exact h1, fun s hs => ?_, rfl⟩
      · simp [-gIx, -gLen, lS, e6, aS, e7, pe]
      · rcases List.mem_or_eq_of_mem_set hs with hs | rfl
        · exact (h2 s hs).mono (by omega)
        · exact hs'
    have so : SOK S := fun s hs => (h2 s hs).w.1
    have lw : gLen (.tup (nls w)) = some (.int w.length) := by simp
    obtain ⟨w', ds5, hw', e8⟩ : ∃ (w' : List Nat) (ds5 : List Int), w'.length = w.length ∧ (dIfS (dBAnd (dTr (dOp gGt (dUn gLen (dPk 11)) (dInt 0))) (dTr (dOp gEq (fz (dC1 (m_law_take) 1 (dCons (dInt 4) (dNil)))) (dInt 0)))) (dSet 11 (dC0 (m_law_put) (dCons (dNm 11) (dCons (fz (dC1 (m_law_take) 1 (dCons (dUn gLen (dPk 11)) (dNil)))) (dCons (fz (dC1 (m_law_take) 1 (dCons (dInt 5) (dNil)))) (dNil)))))) (dSkip)) [p0, .mu .own (dr ds4), p2, p3, .val (encT t), x, .un, .un, .un, .un, .val (.int i), .val (.tup (nls w)), .val (.tup (ses S)), a, b] = some (.nx [p0, .mu .own (dr ds5), p2, p3, .val (encT t), x, .un, .un, .un, .un, .val (.int i), .val (.tup (nls w')), .val (.tup (ses S)), a, b]) := by
      by_cases c : 0 < w.length
      · obtain ⟨z, ds5, hz, e9⟩ := take_eq ds4 4 (by decide)
        by_cases c2 : z = 0
        · subst c2
          obtain ⟨q, ds6, hq, e10⟩ := take_small ds5 w.length c
          obtain ⟨r, ds7, hr, e11⟩ := take_eq ds6 5 (by decide)
          have pe := put_eq (nls w) q (.int r) (by simpa using hq) (by simp; omega)
          have es : (nls w).set q (.int r) = nls (w.set q r) := by simp [nls]
          rw [es] at pe
          exact ⟨w.set q r, ds7, by simp, by simp [-gLen, lw, c, e9, e10, e11, pe]⟩
        · exact ⟨w, ds5, rfl, by simp [-gLen, lw, c, e9, c2]⟩
      · exact ⟨w, ds4, rfl, by simp [-gLen, lw, c]⟩
    have e12 := stands_so_eq ok w' (by omega) (by omega : S.length = w'.length + 1) so
    refine ⟨ds5, .val (.tup (nls w')), .val (.tup (ses S)), a, b, ?_⟩
    unfold dK1
    refine (dSeq_nx (Γ1 := [p0, .mu .own (dr ds1), p2, p3, .val (encT t), x, .un, .un, .un, .un, .val (.int i), a11, a12, a13, a14]) (by simp [-gLen, T_len, e1])).trans ?_
    refine (dSeq_nx (Γ1 := [p0, .mu .own (dr ds2), p2, p3, .val (encT t), x, .un, .un, .un, .un, .val (.int i), .val (.tup (nls w)), a12, a13, a14]) (by simp [e2])).trans ?_
    refine (dSeq_nx (Γ1 := [p0, .mu .own (dr ds2), p2, p3, .val (encT t), x, .un, .un, .un, .un, .val (.int i), .val (.tup (nls w)), .val (.tup (ses S0)), a13, a14]) (by simp [e3, encL])).trans ?_
    refine (dSeq_nx ((dFor_of (xs := rgP 0 n) (Γ1 := [p0, .mu .own (dr ds3), p2, p3, .val (encT t), x, .un, .un, .un, .un, .val (.int i), .val (.tup (nls w)), .val (.tup (ses S0)), a13, a14]) (by simp [e4, itR1_nat (show n ≤ 1000000 by omega)])).trans e5)).trans ?_
    refine (dSeq_nx e8).trans ?_
    simp [e12]
  obtain ⟨ds', b11, b12, b13, b14, h⟩ := go (.val kv)
  exact ⟨ds', _, b11, b12, b13, b14, h⟩
theorem main (ns : List Int) (hns : ns.length ≤ 63) : m_law [.scr ns] = some (.val (.bl true)) := by
  obtain ⟨ds0, e0⟩ := draws_eq ns hns 400 (by omega)
  rw [show ((400 : Nat) : Int) = 400 from rfl] at e0
  obtain ⟨t1, ds1, ht1, e1⟩ := take_eq ds0 3 (by decide)
  obtain ⟨ws, ds2, hws, ow, e2⟩ := like_words_eq ds1 (1 + t1) (by omega)
  rw [show ((1 + t1 : Nat) : Int) = 1 + (t1 : Int) by omega] at e2
  have hwn : ws ≠ [] := List.length_pos_iff.mp (by omega)
  obtain ⟨t2, ds3, ht2, e3⟩ := take_eq ds2 3 (by decide)
  obtain ⟨T1, ds4, a1, a2, a3, e4⟩ := base_eq ds3 4 (1 + t2) ws (by omega) (by omega) (by omega) (by omega) hwn ow
  obtain ⟨T2, c, ds5, b1, b2, b3, e5⟩ := lift_eq ds4 T1 a1 (by omega) a3 8 (by omega) (by omega)
  obtain ⟨U, ds6, c1, c2, c3, e6⟩ := base_eq ds5 4 (1 + t2) ws (by omega) (by omega) (by omega) (by omega) hwn ow
  rw [show ((1 + t2 : Nat) : Int) = 1 + (t2 : Int) by omega] at e4 e6
  rw [show ((4 : Nat) : Int) = 4 from rfl] at e4 e6
  rw [show ((8 : Nat) : Int) = 8 from rfl] at e5
  obtain ⟨v, ok, e7⟩ := side_eq b1 (by omega) (by omega) b3 c3
  let I : Nat → Ev → Prop := fun _ Γ => ∃ (ds : List Int) (a5 a10 a11 a12 a13 a14 : Sl), Γ = [.val (.scr ns), .mu .own (dr ds), .val (.lst (sls ws)), .val (.int (1 + (t2 : Int))), .val (encT v), a5, .un, .un, .un, .un, a10, a11, a12, a13, a14]
  obtain ⟨Γ', e8, ds7, a5, a10, a11, a12, a13, a14, rfl⟩ := loopD_inv (step := dTurn (gN 5) dK1) I (rgP 0 2) 0 [.val (.scr ns), .mu .own (dr ds6), .val (.lst (sls ws)), .val (.int (1 + (t2 : Int))), .val (encT v), .un, .un, .un, .un, .un, .un, .un, .un, .un, .un] ⟨ds6, _, _, _, _, _, _, rfl⟩ fun k x Γ hx ⟨ds, a5, a10, a11, a12, a13, a14, hΓ⟩ => by
    subst hΓ
    obtain ⟨ds', b10, b11, b12, b13, b14, h⟩ := turn_eq ds ok x (.val (.scr ns)) (.val (.lst (sls ws))) (.val (.int (1 + (t2 : Int)))) a5 a10 a11 a12 a13 a14
    exact ⟨_, .inl h, ds', _, _, _, _, _, _, rfl⟩
  obtain ⟨d, ds8, hd, e9⟩ := take_eq ds7 4 (by decide)
  obtain ⟨i, ds9, hi, e10⟩ := take_small ds8 v.length ok.pos
  have e11 := law_sight_eq ok hi
  have os := sg_ok ok hi
  generalize sg v i = s at e11 os
  have e12 := behind_eq ok [] (fun i h => by cases h) (by simp) d os
  have n0 : nxt v [] d s = [] := by simp [nxt]
  rw [n0] at e12
  have hR : ∀ j ∈ List.range v.length, j < v.length := fun j hj => List.mem_range.mp hj
  have hRl : (List.range v.length).length ≤ 1000 := by
    rw [List.length_range]
    have := ok.few
    omega
  have e13 := behind_eq ok _ hR hRl d os
  have e14 := behind_all_eq ok _ hR hRl d os
  have hnl : (nxt v (List.range v.length) d s).length ≤ 1000 := by
    have h := List.length_filter_le (fun k => ((List.range v.length).any fun i => decide (stp v i d = some k)) && decide (sg v k = s)) (List.range v.length)
    exact Nat.le_trans h hRl
  have s1 := same_tN (xs := []) (by simp)
  have s2 := same_tN hnl
  have tr : gTRg (some (nls (List.range v.length))) = some (.tup (nls (List.range v.length))) := by
    unfold gTRg
    dsimp only
    rw [if_pos (T_fit ok)]
  have e20 : nls [] = [] := rfl
  rw [e20] at e12 s1
  generalize nls (nxt v (List.range v.length) d s) = NN at e13 e14 s2
  refine sem0_rt rfl (Γ' := [.val (.scr ns), .mu .own (dr ds9), .val (.lst (sls ws)), .val (.int (1 + (t2 : Int))), .val (encT v), a5, .val (.int d), .val (encS s), .val (.tup (nls (List.range v.length))), .val (.tup NN), a10, a11, a12, a13, a14]) ?_
  unfold d_law
  refine (dSeq_nx (Γ1 := [.val (.scr ns), .mu .own (dr ds0), .un, .un, .un, .un, .un, .un, .un, .un, .un, .un, .un, .un, .un]) (by simp [e0])).trans ?_
  refine (dSeq_nx (Γ1 := [.val (.scr ns), .mu .own (dr ds2), .mu .own (.lst (sls ws)), .un, .un, .un, .un, .un, .un, .un, .un, .un, .un, .un, .un]) (by simp [e1, e2])).trans ?_
  refine (dSeq_nx (Γ1 := [.val (.scr ns), .mu .own (dr ds3), .mu .own (.lst (sls ws)), .val (.int (1 + (t2 : Int))), .un, .un, .un, .un, .un, .un, .un, .un, .un, .un, .un]) (by simp [e3])).trans ?_
  refine (dSeq_nx (Γ1 := [.val (.scr ns), .mu .own (dr ds5), .val (.lst (sls ws)), .val (.int (1 + (t2 : Int))), .val (encT T2), .un, .un, .un, .un, .un, .un, .un, .un, .un, .un]) (by simp [e4, e5])).trans ?_
  refine (dSeq_nx (Γ1 := [.val (.scr ns), .mu .own (dr ds6), .val (.lst (sls ws)), .val (.int (1 + (t2 : Int))), .val (encT v), .un, .un, .un, .un, .un, .un, .un, .un, .un, .un]) (by simp [e6, e7])).trans ?_
  refine (dSeq_nx ((dFor_of (xs := rgP 0 2) (by simp [show itR1 (.int 2) = some (rgP 0 2) from itR1_nat (n := 2) (by omega)])).trans e8)).trans ?_
  refine (dSeq_nx (Γ1 := [.val (.scr ns), .mu .own (dr ds8), .val (.lst (sls ws)), .val (.int (1 + (t2 : Int))), .val (encT v), a5, .val (.int d), .un, .un, .un, a10, a11, a12, a13, a14]) (by simp [e9])).trans ?_
  refine (dSeq_nx (Γ1 := [.val (.scr ns), .mu .own (dr ds9), .val (.lst (sls ws)), .val (.int (1 + (t2 : Int))), .val (encT v), a5, .val (.int d), .val (encS s), .un, .un, a10, a11, a12, a13, a14]) (by simp [-gLen, T_len, e10, e11])).trans ?_
  refine (dSeq_nx (Γ1 := [.val (.scr ns), .mu .own (dr ds9), .val (.lst (sls ws)), .val (.int (1 + (t2 : Int))), .val (encT v), a5, .val (.int d), .val (encS s), .val (.tup (nls (List.range v.length))), .un, a10, a11, a12, a13, a14]) (by simp [-gLen, T_len, T_rg ok, tr])).trans ?_
  refine (dSeq_nx (Γ1 := [.val (.scr ns), .mu .own (dr ds9), .val (.lst (sls ws)), .val (.int (1 + (t2 : Int))), .val (encT v), a5, .val (.int d), .val (encS s), .val (.tup (nls (List.range v.length))), .un, a10, a11, a12, a13, a14]) (by simp [mkT, e12, s1])).trans ?_
  refine (dSeq_nx (Γ1 := [.val (.scr ns), .mu .own (dr ds9), .val (.lst (sls ws)), .val (.int (1 + (t2 : Int))), .val (encT v), a5, .val (.int d), .val (encS s), .val (.tup (nls (List.range v.length))), .val (.tup NN), a10, a11, a12, a13, a14]) (by simp [e14])).trans ?_
  simp [e13, s2]
/-! ### the text -/
def topS (i : Nat) : Stmt := PySem.Challenge.pw_mapwalked_k01_misfits_late.main.body.getD i (.Pass ⟨0, 0, 0, 0⟩)
abbrev s_law_take : Stmt := topS 15
abbrev s_law_pick : Stmt := topS 16
abbrev s_law_base : Stmt := topS 28
abbrev s_law_goal : Stmt := topS 21
abbrev s_law_sight : Stmt := topS 25
abbrev s_law_behind_all : Stmt := topS 34
abbrev s_law_draws : Stmt := topS 14
abbrev s_law_shuffled : Stmt := topS 18
abbrev s_law_lift : Stmt := topS 29
abbrev s_law_words : Stmt := topS 19
abbrev s_law_like_words : Stmt := topS 27
abbrev s_law_put : Stmt := topS 20
abbrev s_law_other_sight : Stmt := topS 33
abbrev s_law_same : Stmt := topS 17
abbrev s_law_shown : Stmt := topS 26
abbrev s_law_plus : Stmt := topS 30
abbrev s_law_side : Stmt := topS 31
abbrev s_law_end : Stmt := topS 23
abbrev s_law_misfit : Stmt := topS 32
abbrev s_sight_at : Stmt := topS 3
abbrev s_step_from : Stmt := topS 4
abbrev s_sights_along : Stmt := topS 6
abbrev s_fitting_places : Stmt := topS 8
abbrev s_misfit_of : Stmt := topS 12
abbrev s_index_set : Stmt := topS 1
abbrev s_standing_behind : Stmt := topS 11
abbrev s_led_to : Stmt := topS 5
abbrev s_standing_places : Stmt := topS 9
abbrev s_surely_at : Stmt := topS 10
abbrev s_law_stands_so : Stmt := topS 35
abbrev s_law_opens : Stmt := topS 22
abbrev s_law_walk : Stmt := topS 24
abbrev s_law : Stmt := topS 36
theorem sc_law_take : FnScope ["draws", "many"] ["draws", "many"] (defScope s_law_take) := ⟨rfl, rfl, rfl, by decide +kernel, rfl, by decide +kernel, by decide +kernel⟩
theorem sc_law_pick : FnScope ["draws", "row"] ["draws", "row"] (defScope s_law_pick) := ⟨rfl, rfl, rfl, by decide +kernel, rfl, by decide +kernel, by decide +kernel⟩
theorem sc_law_base : FnScope ["draws", "most", "doors", "words", "many", "told", "k", "row", "j", "goal"] ["draws", "most", "doors", "words"] (defScope s_law_base) := ⟨rfl, rfl, rfl, by decide +kernel, rfl, by decide +kernel, by decide +kernel⟩
theorem sc_law_goal : FnScope ["town", "place", "door", "doors"] ["town", "place", "door"] (defScope s_law_goal) := ⟨rfl, rfl, rfl, by decide +kernel, rfl, by decide +kernel, by decide +kernel⟩
theorem sc_law_sight : FnScope ["town", "place", "goal"] ["town", "place"] (defScope s_law_sight) := ⟨rfl, rfl, rfl, by decide +kernel, rfl, by decide +kernel, by decide +kernel⟩
theorem sc_law_behind_all : FnScope ["town", "places", "door", "sight", "goals", "place", "k"] ["town", "places", "door", "sight"] (defScope s_law_behind_all) := ⟨rfl, rfl, rfl, by decide +kernel, rfl, by decide +kernel, by decide +kernel⟩
theorem sc_law_draws : FnScope ["script", "many", "cells", "left", "draws", "k", "place", "cell", "mixed"] ["script", "many"] (defScope s_law_draws) := ⟨rfl, rfl, rfl, by decide +kernel, rfl, by decide +kernel, by decide +kernel⟩
theorem sc_law_shuffled : FnScope ["draws", "row", "left", "told", "k"] ["draws", "row"] (defScope s_law_shuffled) := ⟨rfl, rfl, rfl, by decide +kernel, rfl, by decide +kernel, by decide +kernel⟩
theorem sc_law_lift : FnScope ["draws", "town", "most", "cover", "k", "told", "place", "row", "goal"] ["draws", "town", "most"] (defScope s_law_lift) := ⟨rfl, rfl, rfl, by decide +kernel, rfl, by decide +kernel, by decide +kernel⟩
theorem sc_law_words : FnScope ["draws", "many", "words", "k", "size", "word", "j", "other"] ["draws", "many"] (defScope s_law_words) := ⟨rfl, rfl, rfl, by decide +kernel, rfl, by decide +kernel, by decide +kernel⟩
theorem sc_law_like_words : FnScope ["draws", "many", "words", "k"] ["draws", "many"] (defScope s_law_like_words) := ⟨rfl, rfl, rfl, by decide +kernel, rfl, by decide +kernel, by decide +kernel⟩
theorem sc_law_put : FnScope ["row", "k", "thing"] ["row", "k", "thing"] (defScope s_law_put) := ⟨rfl, rfl, rfl, by decide +kernel, rfl, by decide +kernel, by decide +kernel⟩
theorem sc_law_other_sight : FnScope ["draws", "town", "sight", "kind", "spot"] ["draws", "town", "sight"] (defScope s_law_other_sight) := ⟨rfl, rfl, rfl, by decide +kernel, rfl, by decide +kernel, by decide +kernel⟩
theorem sc_law_same : FnScope ["actual", "due", "k"] ["actual", "due"] (defScope s_law_same) := ⟨rfl, rfl, rfl, by decide +kernel, rfl, by decide +kernel, by decide +kernel⟩
theorem sc_law_shown : FnScope ["town", "place", "walk", "told", "now", "door"] ["town", "place", "walk"] (defScope s_law_shown) := ⟨rfl, rfl, rfl, by decide +kernel, rfl, by decide +kernel, by decide +kernel⟩
theorem sc_law_plus : FnScope ["goal", "by"] ["goal", "by"] (defScope s_law_plus) := ⟨rfl, rfl, rfl, by decide +kernel, rfl, by decide +kernel, by decide +kernel⟩
theorem sc_law_side : FnScope ["one", "other", "told", "place", "goal"] ["one", "other"] (defScope s_law_side) := ⟨rfl, rfl, rfl, by decide +kernel, rfl, by decide +kernel, by decide +kernel⟩
theorem sc_law_end : FnScope ["town", "place", "walk", "now", "door"] ["town", "place", "walk"] (defScope s_law_end) := ⟨rfl, rfl, rfl, by decide +kernel, rfl, by decide +kernel, by decide +kernel⟩
theorem sc_law_misfit : FnScope ["town", "walk", "seen", "place", "now", "k"] ["town", "walk", "seen", "place"] (defScope s_law_misfit) := ⟨rfl, rfl, rfl, by decide +kernel, rfl, by decide +kernel, by decide +kernel⟩
theorem sc_sight_at : FnScope ["town", "place", "mark", "doors", "goal"] ["town", "place"] (defScope s_sight_at) := ⟨rfl, rfl, rfl, by decide +kernel, rfl, by decide +kernel, by decide +kernel⟩
theorem sc_step_from : FnScope ["town", "place", "door", "doors"] ["town", "place", "door"] (defScope s_step_from) := ⟨rfl, rfl, rfl, by decide +kernel, rfl, by decide +kernel, by decide +kernel⟩
theorem sc_sights_along : FnScope ["town", "place", "walk", "now", "seen", "door"] ["town", "place", "walk"] (defScope s_sights_along) := ⟨rfl, rfl, rfl, by decide +kernel, rfl, by decide +kernel, by decide +kernel⟩
theorem sc_fitting_places : FnScope ["town", "walk", "seen", "place"] ["town", "walk", "seen"] (defScope s_fitting_places) := ⟨rfl, rfl, rfl, by decide +kernel, rfl, by decide +kernel, by decide +kernel⟩
theorem sc_misfit_of : FnScope ["town", "walk", "seen", "place", "now", "time", "sight"] ["town", "walk", "seen", "place"] (defScope s_misfit_of) := ⟨rfl, rfl, rfl, by decide +kernel, rfl, by decide +kernel, by decide +kernel⟩
theorem sc_index_set : FnScope ["places", "place"] ["places"] (defScope s_index_set) := ⟨rfl, rfl, rfl, by decide +kernel, rfl, by decide +kernel, by decide +kernel⟩
theorem sc_standing_behind : FnScope ["town", "places", "door", "sight", "goals", "place", "goal"] ["town", "places", "door", "sight"] (defScope s_standing_behind) := ⟨rfl, rfl, rfl, by decide +kernel, rfl, by decide +kernel, by decide +kernel⟩
theorem sc_led_to : FnScope ["town", "place", "walk", "now", "door"] ["town", "place", "walk"] (defScope s_led_to) := ⟨rfl, rfl, rfl, by decide +kernel, rfl, by decide +kernel, by decide +kernel⟩
theorem sc_standing_places : FnScope ["town", "walk", "seen", "place"] ["town", "walk", "seen"] (defScope s_standing_places) := ⟨rfl, rfl, rfl, by decide +kernel, rfl, by decide +kernel, by decide +kernel⟩
theorem sc_surely_at : FnScope ["town", "walk", "seen", "places"] ["town", "walk", "seen"] (defScope s_surely_at) := ⟨rfl, rfl, rfl, by decide +kernel, rfl, by decide +kernel, by decide +kernel⟩
theorem sc_law_stands_so : FnScope ["town", "walk", "seen", "rows", "place", "fits", "ends", "sure", "now", "k", "due"] ["town", "walk", "seen"] (defScope s_law_stands_so) := ⟨rfl, rfl, rfl, by decide +kernel, rfl, by decide +kernel, by decide +kernel⟩
theorem sc_law_opens : FnScope ["town", "place", "k"] ["town", "place"] (defScope s_law_opens) := ⟨rfl, rfl, rfl, by decide +kernel, rfl, by decide +kernel, by decide +kernel⟩
theorem sc_law_walk : FnScope ["draws", "town", "place", "most", "walk", "now", "k", "doors", "door"] ["draws", "town", "place", "most"] (defScope s_law_walk) := ⟨rfl, rfl, rfl, by decide +kernel, rfl, by decide +kernel, by decide +kernel⟩
theorem sc_law : FnScope ["script", "draws", "words", "doors", "town", "turn", "door", "sight", "everywhere", "due", "start", "walk", "seen", "k", "spot"] ["script"] (defScope s_law) := ⟨rfl, rfl, rfl, by decide +kernel, rfl, by decide +kernel, by decide +kernel⟩
/-- what the top has left -/
structure Tx (K : PySem.W.Frag) (mg : Str → Option Value) where
  a_law_take : Addr
  fd_law_take : FuncData
  F_law_take : Fun K "_law_take" "_law_take" s_law_take a_law_take fd_law_take
  b_law_take : Binds K fd_law_take ["draws", "many"] []
  g_law_take : mg "_law_take" = some (.ref a_law_take)
  a_law_pick : Addr
  fd_law_pick : FuncData
  F_law_pick : Fun K "_law_pick" "_law_pick" s_law_pick a_law_pick fd_law_pick
  b_law_pick : Binds K fd_law_pick ["draws", "row"] []
  g_law_pick : mg "_law_pick" = some (.ref a_law_pick)
  a_law_base : Addr
  fd_law_base : FuncData
  F_law_base : Fun K "_law_base" "_law_base" s_law_base a_law_base fd_law_base
  b_law_base : Binds K fd_law_base ["draws", "most", "doors", "words"] []
  g_law_base : mg "_law_base" = some (.ref a_law_base)
  a_law_goal : Addr
  fd_law_goal : FuncData
  F_law_goal : Fun K "_law_goal" "_law_goal" s_law_goal a_law_goal fd_law_goal
  b_law_goal : Binds K fd_law_goal ["town", "place", "door"] []
  g_law_goal : mg "_law_goal" = some (.ref a_law_goal)
  a_law_sight : Addr
  fd_law_sight : FuncData
  F_law_sight : Fun K "_law_sight" "_law_sight" s_law_sight a_law_sight fd_law_sight
  b_law_sight : Binds K fd_law_sight ["town", "place"] []
  g_law_sight : mg "_law_sight" = some (.ref a_law_sight)
  a_law_behind_all : Addr
  fd_law_behind_all : FuncData
  F_law_behind_all : Fun K "_law_behind_all" "_law_behind_all" s_law_behind_all a_law_behind_all fd_law_behind_all
  b_law_behind_all : Binds K fd_law_behind_all ["town", "places", "door", "sight"] []
  g_law_behind_all : mg "_law_behind_all" = some (.ref a_law_behind_all)
  a_law_draws : Addr
  fd_law_draws : FuncData
  F_law_draws : Fun K "_law_draws" "_law_draws" s_law_draws a_law_draws fd_law_draws
  b_law_draws : Binds K fd_law_draws ["script", "many"] []
  g_law_draws : mg "_law_draws" = some (.ref a_law_draws)
  a_law_shuffled : Addr
  fd_law_shuffled : FuncData
  F_law_shuffled : Fun K "_law_shuffled" "_law_shuffled" s_law_shuffled a_law_shuffled fd_law_shuffled
  b_law_shuffled : Binds K fd_law_shuffled ["draws", "row"] []
  g_law_shuffled : mg "_law_shuffled" = some (.ref a_law_shuffled)
  a_law_lift : Addr
  fd_law_lift : FuncData
  F_law_lift : Fun K "_law_lift" "_law_lift" s_law_lift a_law_lift fd_law_lift
  b_law_lift : Binds K fd_law_lift ["draws", "town", "most"] []
  g_law_lift : mg "_law_lift" = some (.ref a_law_lift)
  a_law_words : Addr
  fd_law_words : FuncData
  F_law_words : Fun K "_law_words" "_law_words" s_law_words a_law_words fd_law_words
  b_law_words : Binds K fd_law_words ["draws", "many"] []
  g_law_words : mg "_law_words" = some (.ref a_law_words)
  a_law_like_words : Addr
  fd_law_like_words : FuncData
  F_law_like_words : Fun K "_law_like_words" "_law_like_words" s_law_like_words a_law_like_words fd_law_like_words
  b_law_like_words : Binds K fd_law_like_words ["draws", "many"] []
  g_law_like_words : mg "_law_like_words" = some (.ref a_law_like_words)
  a_law_put : Addr
  fd_law_put : FuncData
  F_law_put : Fun K "_law_put" "_law_put" s_law_put a_law_put fd_law_put
  b_law_put : Binds K fd_law_put ["row", "k", "thing"] []
  g_law_put : mg "_law_put" = some (.ref a_law_put)
  a_law_other_sight : Addr
  fd_law_other_sight : FuncData
  F_law_other_sight : Fun K "_law_other_sight" "_law_other_sight" s_law_other_sight a_law_other_sight fd_law_other_sight
  b_law_other_sight : Binds K fd_law_other_sight ["draws", "town", "sight"] []
  g_law_other_sight : mg "_law_other_sight" = some (.ref a_law_other_sight)
  a_law_same : Addr
  fd_law_same : FuncData
  F_law_same : Fun K "_law_same" "_law_same" s_law_same a_law_same fd_law_same
  b_law_same : Binds K fd_law_same ["actual", "due"] []
  g_law_same : mg "_law_same" = some (.ref a_law_same)
  a_law_shown : Addr
  fd_law_shown : FuncData
  F_law_shown : Fun K "_law_shown" "_law_shown" s_law_shown a_law_shown fd_law_shown
  b_law_shown : Binds K fd_law_shown ["town", "place", "walk"] []
  g_law_shown : mg "_law_shown" = some (.ref a_law_shown)
  a_law_plus : Addr
  fd_law_plus : FuncData
  F_law_plus : Fun K "_law_plus" "_law_plus" s_law_plus a_law_plus fd_law_plus
  b_law_plus : Binds K fd_law_plus ["goal", "by"] []
  g_law_plus : mg "_law_plus" = some (.ref a_law_plus)
  a_law_side : Addr
  fd_law_side : FuncData
  F_law_side : Fun K "_law_side" "_law_side" s_law_side a_law_side fd_law_side
  b_law_side : Binds K fd_law_side ["one", "other"] []
  g_law_side : mg "_law_side" = some (.ref a_law_side)
  a_law_end : Addr
  fd_law_end : FuncData
  F_law_end : Fun K "_law_end" "_law_end" s_law_end a_law_end fd_law_end
  b_law_end : Binds K fd_law_end ["town", "place", "walk"] []
  g_law_end : mg "_law_end" = some (.ref a_law_end)
  a_law_misfit : Addr
  fd_law_misfit : FuncData
  F_law_misfit : Fun K "_law_misfit" "_law_misfit" s_law_misfit a_law_misfit fd_law_misfit
  b_law_misfit : Binds K fd_law_misfit ["town", "walk", "seen", "place"] []
  g_law_misfit : mg "_law_misfit" = some (.ref a_law_misfit)
  a_sight_at : Addr
  fd_sight_at : FuncData
  F_sight_at : Fun K "sight_at" "sight_at" s_sight_at a_sight_at fd_sight_at
  b_sight_at : Binds K fd_sight_at ["town", "place"] []
  g_sight_at : mg "sight_at" = some (.ref a_sight_at)
  a_step_from : Addr
  fd_step_from : FuncData
  F_step_from : Fun K "step_from" "step_from" s_step_from a_step_from fd_step_from
  b_step_from : Binds K fd_step_from ["town", "place", "door"] []
  g_step_from : mg "step_from" = some (.ref a_step_from)
  a_sights_along : Addr
  fd_sights_along : FuncData
  F_sights_along : Fun K "sights_along" "sights_along" s_sights_along a_sights_along fd_sights_along
  b_sights_along : Binds K fd_sights_along ["town", "place", "walk"] []
  g_sights_along : mg "sights_along" = some (.ref a_sights_along)
  a_fitting_places : Addr
  fd_fitting_places : FuncData
  F_fitting_places : Fun K "fitting_places" "fitting_places" s_fitting_places a_fitting_places fd_fitting_places
  b_fitting_places : Binds K fd_fitting_places ["town", "walk", "seen"] []
  g_fitting_places : mg "fitting_places" = some (.ref a_fitting_places)
  a_misfit_of : Addr
  fd_misfit_of : FuncData
  F_misfit_of : Fun K "misfit_of" "misfit_of" s_misfit_of a_misfit_of fd_misfit_of
  b_misfit_of : Binds K fd_misfit_of ["town", "walk", "seen", "place"] []
  g_misfit_of : mg "misfit_of" = some (.ref a_misfit_of)
  a_index_set : Addr
  fd_index_set : FuncData
  F_index_set : Fun K "index_set" "index_set" s_index_set a_index_set fd_index_set
  b_index_set : Binds K fd_index_set ["places"] []
  g_index_set : mg "index_set" = some (.ref a_index_set)
  a_standing_behind : Addr
  fd_standing_behind : FuncData
  F_standing_behind : Fun K "standing_behind" "standing_behind" s_standing_behind a_standing_behind fd_standing_behind
  b_standing_behind : Binds K fd_standing_behind ["town", "places", "door", "sight"] []
  g_standing_behind : mg "standing_behind" = some (.ref a_standing_behind)
  a_led_to : Addr
  fd_led_to : FuncData
  F_led_to : Fun K "led_to" "led_to" s_led_to a_led_to fd_led_to
  b_led_to : Binds K fd_led_to ["town", "place", "walk"] []
  g_led_to : mg "led_to" = some (.ref a_led_to)
  a_standing_places : Addr
  fd_standing_places : FuncData
  F_standing_places : Fun K "standing_places" "standing_places" s_standing_places a_standing_places fd_standing_places
  b_standing_places : Binds K fd_standing_places ["town", "walk", "seen"] []
  g_standing_places : mg "standing_places" = some (.ref a_standing_places)
  a_surely_at : Addr
  fd_surely_at : FuncData
  F_surely_at : Fun K "surely_at" "surely_at" s_surely_at a_surely_at fd_surely_at
  b_surely_at : Binds K fd_surely_at ["town", "walk", "seen"] []
  g_surely_at : mg "surely_at" = some (.ref a_surely_at)
  a_law_stands_so : Addr
  fd_law_stands_so : FuncData
  F_law_stands_so : Fun K "_law_stands_so" "_law_stands_so" s_law_stands_so a_law_stands_so fd_law_stands_so
  b_law_stands_so : Binds K fd_law_stands_so ["town", "walk", "seen"] []
  g_law_stands_so : mg "_law_stands_so" = some (.ref a_law_stands_so)
  a_law_opens : Addr
  fd_law_opens : FuncData
  F_law_opens : Fun K "_law_opens" "_law_opens" s_law_opens a_law_opens fd_law_opens
  b_law_opens : Binds K fd_law_opens ["town", "place"] []
  g_law_opens : mg "_law_opens" = some (.ref a_law_opens)
  a_law_walk : Addr
  fd_law_walk : FuncData
  F_law_walk : Fun K "_law_walk" "_law_walk" s_law_walk a_law_walk fd_law_walk
  b_law_walk : Binds K fd_law_walk ["draws", "town", "place", "most"] []
  g_law_walk : mg "_law_walk" = some (.ref a_law_walk)
  a_law : Addr
  fd_law : FuncData
  F_law : Fun K "law" "law" s_law a_law fd_law
  b_law : Binds K fd_law ["script"] []
  g_law : mg "law" = some (.ref a_law)
  n_bool : mg "bool" = none
  n_enumerate : mg "enumerate" = none
  n_int : mg "int" = none
  n_isinstance : mg "isinstance" = none
  n_len : mg "len" = none
  n_list : mg "list" = none
  n_max : mg "max" = none
  n_range : mg "range" = none
  n_set : mg "set" = none
  n_sorted : mg "sorted" = none
  n_str : mg "str" = none
  n_tuple : mg "tuple" = none
section
variable {P : Program} {w : World} {K : PySem.W.Frag} {mg : Str → Option Value} {base : Heap}
theorem ok_law_take (T : Tx K mg) : FnOk P w K mg base CX0 1 T.a_law_take T.fd_law_take ["draws", "many"] (Sp1 K m_law_take) :=
  fn_ok1 T.F_law_take sc_law_take (by decide) fun cdv A outer s H E hr => by
    unfold d_law_take
    exact ss_cons (ss_if (sb_eq hr.units (sv_len (by rfl) T.n_len (sp_nm 0)) (sv_int)) (ss_one (ss_ret (SV_sr (sv_int)))) (ss_nil))
        (ss_one (ss_ret (SV_sr (sv_mod (sv_toint (by rfl) T.n_int (SV_sp (sv_mt0 0 PySem.F.slot_list_pop PySem.F.type_list_pop mt_pop mo_pop))) (sv_nm 1)))))
theorem ok_law_pick (T : Tx K mg) : FnOk P w K mg base CX0 2 T.a_law_pick T.fd_law_pick ["draws", "row"] (Sp1 K m_law_pick) :=
  fn_ok1 T.F_law_pick sc_law_pick (by decide) fun cdv A outer s H E hr => by
    unfold d_law_pick
    exact ss_one (ss_ret (SV_sr (sv_ixN 1 (SR_sv (sr_c1 0 (ok_law_take T) (hr.mono (by decide)) (by rfl) T.g_law_take T.F_law_take.kp T.b_law_take (sl_cons (sv_len (by rfl) T.n_len (sp_nm 1)) (sl_nil)))))))
theorem ok_law_base (T : Tx K mg) : FnOk P w K mg base CX0 3 T.a_law_base T.fd_law_base ["draws", "most", "doors", "words"] (Sp1 K m_law_base) :=
  fn_ok1 T.F_law_base sc_law_base (by decide) fun cdv A outer s H E hr => by
    unfold d_law_base
    exact ss_cons (ss_set 4 sc_law_base.nd (SV_sr (sv_add (sv_int) (SR_sv (sr_c1 0 (ok_law_take T) (hr.mono (by decide)) (by rfl) T.g_law_take T.F_law_take.kp T.b_law_take (sl_cons (sv_nm 1) (sl_nil)))))))
        (ss_cons (ss_set 5 sc_law_base.nd (sr_lst (sl_nil)))
        (ss_cons (ss_for PassesOwn.never rfl (si_range1 (by rfl) T.n_range (sv_nm 4)) (sg_name 6 sc_law_base.nd) (ss_cons (ss_set 7 sc_law_base.nd (sr_lst (sl_nil)))
        (ss_cons (ss_for PassesOwn.never rfl (si_range1 (by rfl) T.n_range (sv_nm 2)) (sg_name 8 sc_law_base.nd) (ss_cons (ss_set 9 sc_law_base.nd (sr_c1 0 (ok_law_take T) (hr.mono (by decide)) (by rfl) T.g_law_take T.F_law_take.kp T.b_law_take (sl_cons (sv_nm 4) (sl_nil))))
        (ss_one (ss_expr (sv_mt 7 PySem.F.slot_list_append PySem.F.type_list_append mt_append mo_append (sl_cons (sv_ix (SR_sv (sr_lst (sl_cons (sv_nm 9) (sl_cons (sv_non) (sl_nil))))) (sv_toint (by rfl) T.n_int (SV_sp (sv_eq hr.units (SR_sv (sr_c1 0 (ok_law_take T) (hr.mono (by decide)) (by rfl) T.g_law_take T.F_law_take.kp T.b_law_take (sl_cons (sv_int) (sl_nil)))) (sv_int))))) (sl_nil)))))))
        (ss_one (ss_expr (sv_mt 5 PySem.F.slot_list_append PySem.F.type_list_append mt_append mo_append (sl_cons (sv_tup (sl_cons (SR_sv (sr_c1 0 (ok_law_pick T) (hr.mono (by decide)) (by rfl) T.g_law_pick T.F_law_pick.kp T.b_law_pick (sl_cons (sv_nm 3) (sl_nil)))) (sl_cons (sv_tupleOf (by rfl) T.n_tuple (sp_nm 7)) (sl_nil)))) (sl_nil))))))))
        (ss_one (ss_ret (SV_sr (sv_tupleOf (by rfl) T.n_tuple (sp_nm 5)))))))
theorem ok_law_goal (T : Tx K mg) : FnOk P w K mg base CX0 1 T.a_law_goal T.fd_law_goal ["town", "place", "door"] (Sp0 K m_law_goal) :=
  fn_ok0 T.F_law_goal sc_law_goal fun cdv A outer s H E hr => by
    unfold d_law_goal
    exact ss_cons (ss_set 3 sc_law_goal.nd (SV_sr (sv_ix (sv_ixN 0 (sv_nm 1)) (sv_int))))
        (ss_cons (ss_if (sb_w (sw_or (sb_lt (sv_nm 2) (sv_int)) (sw_one (sb_ge (sv_nm 2) (sv_len (by rfl) T.n_len (sp_nm 3)))))) (ss_one (ss_ret (SV_sr (sv_non)))) (ss_nil))
        (ss_one (ss_ret (SV_sr (sv_ixN 3 (sv_nm 2))))))
theorem ok_law_sight (T : Tx K mg) : FnOk P w K mg base CX0 1 T.a_law_sight T.fd_law_sight ["town", "place"] (Sp0 K m_law_sight) :=
  fn_ok0 T.F_law_sight sc_law_sight fun cdv A outer s H E hr => by
    unfold d_law_sight
    exact ss_one (ss_ret (SV_sr (sv_tup (sl_cons (sv_ix (sv_ixN 0 (sv_nm 1)) (sv_int)) (sl_cons (sv_tupleOf (by rfl) T.n_tuple (SV_sp (SR_sv (sr_comp (own := [("goal", 2)]) rfl sc_law_sight.nd (si_val (sv_ix (sv_ixN 0 (sv_nm 1)) (sv_int))) (by kernel_rfl) (by decide) (fun _ _ _ _ _ => sg_name 2 sc_law_sight.nd) (fun _ _ _ _ _ => sif_nil) (fun _ _ _ _ _ => sv_toint (by rfl) T.n_int (SV_sp (sv_notN (sp_nm 2)))))))) (sl_nil))))))
theorem ok_law_behind_all (T : Tx K mg) : FnOk P w K mg base CX0 2 T.a_law_behind_all T.fd_law_behind_all ["town", "places", "door", "sight"] (Sp0 K m_law_behind_all) :=
  fn_ok0 T.F_law_behind_all sc_law_behind_all fun cdv A outer s H E hr => by
    unfold d_law_behind_all
    exact ss_cons (ss_set 4 sc_law_behind_all.nd (sr_comp (own := [("place", 5)]) rfl sc_law_behind_all.nd (si_val (sv_nm 1)) (by kernel_rfl) (by decide) (fun _ _ _ _ _ => sg_name 5 sc_law_behind_all.nd) (fun _ _ _ _ _ => sif_nil) (fun _ _ _ _ _ => SR_sv (sr_c0 (ok_law_goal T) (hr.mono (by decide)) (by rfl) T.g_law_goal T.F_law_goal.kp T.b_law_goal (sl_cons (sv_nm 0) (sl_cons (sv_nm 5) (sl_cons (sv_nm 2) (sl_nil))))))))
        (ss_one (ss_ret (SV_sr (sv_tupleOf (by rfl) T.n_tuple (SV_sp (SR_sv (sr_comp (own := [("k", 6)]) rfl sc_law_behind_all.nd (si_range1 (by rfl) T.n_range (sv_len (by rfl) T.n_len (sp_nm 0))) (by kernel_rfl) (by decide) (fun _ _ _ _ _ => sg_name 6 sc_law_behind_all.nd) (fun _ _ _ _ _ => sif_one (sb_w (sw_and (sb_in (sv_nm 6) (sp_nm 4)) (sw_one (sb_eq hr.units (SR_sv (sr_c0 (ok_law_sight T) (hr.mono (by decide)) (by rfl) T.g_law_sight T.F_law_sight.kp T.b_law_sight (sl_cons (sv_nm 0) (sl_cons (sv_nm 6) (sl_nil))))) (sv_nm 3)))))) (fun _ _ _ _ _ => sv_nm 6))))))))
theorem ok_law_draws (T : Tx K mg) : FnOk P w K mg base CX0 1 T.a_law_draws T.fd_law_draws ["script", "many"] (Sp0 K m_law_draws) :=
  fn_ok0 T.F_law_draws sc_law_draws fun cdv A outer s H E hr => by
    unfold d_law_draws
    exact ss_cons (ss_setLc (own := [("cell", 7)]) 2 rfl sc_law_draws.nd (sw_true rfl rfl rfl (by decide +kernel)) (si_val (SR_sv (sr_slN 0 (so_none) (so_some (sv_int))))) (by kernel_rfl) (by decide) (fun _ _ _ _ _ => sg_name 7 sc_law_draws.nd) (fun _ _ _ _ _ => sif_nil) (fun _ _ _ _ _ => sv_mod (sv_toint (by rfl) T.n_int (sp_nm 7)) (sv_shl (sv_int) (sv_int))))
        (ss_cons (ss_if (sb_eq hr.units (sv_len (by rfl) T.n_len (sp_nm 2)) (sv_int)) (ss_one (ss_expr (sv_mt 2 PySem.F.slot_list_append PySem.F.type_list_append mt_append mo_append (sl_cons (sv_int) (sl_nil))))) (ss_nil))
        (ss_cons (ss_set 3 sc_law_draws.nd (sr_listOf (by rfl) T.n_list (sp_nm 2)))
        (ss_cons (ss_set 4 sc_law_draws.nd (sr_lst (sl_nil)))
        (ss_cons (ss_for PassesOwn.never rfl (si_range1 (by rfl) T.n_range (sv_nm 1)) (sg_name 5 sc_law_draws.nd) (ss_cons (ss_set 6 sc_law_draws.nd (SV_sr (sv_mod (sv_toint (by rfl) T.n_int (sp_nm 5)) (sv_len (by rfl) T.n_len (sp_nm 2)))))
        (ss_one (ss_if (sb_w (sw_and (sb_ge (sv_ixN 2 (sv_nm 6)) (sv_pow (sv_int) (sv_int))) (sw_one (sb_gt (sv_ixN 3 (sv_nm 6)) (sv_int))))) (ss_cons (ss_expr (sv_mt 4 PySem.F.slot_list_append PySem.F.type_list_append mt_append mo_append (sl_cons (sv_mod (sv_toint (by rfl) T.n_int (SV_sp (sv_ixN 3 (sv_nm 6)))) (sv_int)) (sl_nil))))
        (ss_one (ss_sub 3 (sv_div (sv_ixN 3 (sv_nm 6)) (sv_int)) (sv_nm 6)))) (ss_cons (ss_set 8 sc_law_draws.nd (SV_sr (sv_mod (sv_toint (by rfl) T.n_int (SV_sp (sv_add (sv_add (sv_mul (sv_ixN 2 (sv_nm 6)) (sv_int)) (sv_mul (sv_nm 5) (sv_int))) (sv_int)))) (sv_int))))
        (ss_one (ss_expr (sv_mt 4 PySem.F.slot_list_append PySem.F.type_list_append mt_append mo_append (sl_cons (sv_mod (sv_toint (by rfl) T.n_int (SV_sp (sv_add (sv_add (sv_mul (sv_nm 8) (sv_nm 8)) (sv_mul (sv_int) (sv_nm 8))) (sv_nm 5)))) (sv_int)) (sl_nil))))))))))
        (ss_cons (ss_expr (sv_mt0 4 PySem.F.slot_list_reverse PySem.F.type_list_reverse mt_reverse mo_reverse))
        (ss_one (ss_retNm 4)))))))
theorem ok_law_shuffled (T : Tx K mg) : FnOk P w K mg base CX0 2 T.a_law_shuffled T.fd_law_shuffled ["draws", "row"] (Sp1 K m_law_shuffled) :=
  fn_ok1 T.F_law_shuffled sc_law_shuffled (by decide) fun cdv A outer s H E hr => by
    unfold d_law_shuffled
    exact ss_cons (ss_set 2 sc_law_shuffled.nd (sr_listOf (by rfl) T.n_list (sp_nm 1)))
        (ss_cons (ss_set 3 sc_law_shuffled.nd (sr_lst (sl_nil)))
        (ss_cons (ss_for PassesOwn.never rfl (si_range1 (by rfl) T.n_range (sv_len (by rfl) T.n_len (sp_nm 2))) (sg_name 4 sc_law_shuffled.nd) (ss_one (ss_expr (sv_mt 3 PySem.F.slot_list_append PySem.F.type_list_append mt_append mo_append (sl_cons (sv_mt 2 PySem.F.slot_list_pop PySem.F.type_list_pop mt_popAt mo_popAt (sl_cons (SR_sv (sr_c1 0 (ok_law_take T) (hr.mono (by decide)) (by rfl) T.g_law_take T.F_law_take.kp T.b_law_take (sl_cons (sv_len (by rfl) T.n_len (sp_nm 2)) (sl_nil)))) (sl_nil))) (sl_nil))))))
        (ss_one (ss_retNm 3))))
theorem ok_law_lift (T : Tx K mg) : FnOk P w K mg base CX0 3 T.a_law_lift T.fd_law_lift ["draws", "town", "most"] (Sp1 K m_law_lift) :=
  fn_ok1 T.F_law_lift sc_law_lift (by decide) fun cdv A outer s H E hr => by
    unfold d_law_lift
    exact ss_cons (ss_set 3 sc_law_lift.nd (sr_listRg1 rfl (by rfl) T.n_list (by rfl) T.n_range (sv_len (by rfl) T.n_len (sp_nm 1))))
        (ss_cons (ss_for PassesOwn.never rfl (si_range1 (by rfl) T.n_range (sv_mul (sv_int) (sv_len (by rfl) T.n_len (sp_nm 1)))) (sg_name 4 sc_law_lift.nd) (ss_one (ss_if (sb_w (sw_and (sb_lt (sv_len (by rfl) T.n_len (sp_nm 3)) (sv_nm 2)) (sw_one (sb_eq hr.units (SR_sv (sr_c1 0 (ok_law_take T) (hr.mono (by decide)) (by rfl) T.g_law_take T.F_law_take.kp T.b_law_take (sl_cons (sv_int) (sl_nil)))) (sv_int))))) (ss_one (ss_expr (sv_mt 3 PySem.F.slot_list_append PySem.F.type_list_append mt_append mo_append (sl_cons (sv_mod (sv_toint (by rfl) T.n_int (sp_nm 4)) (sv_len (by rfl) T.n_len (sp_nm 1))) (sl_nil))))) (ss_nil))))
        (ss_cons (ss_set 3 sc_law_lift.nd (sr_c1 0 (ok_law_shuffled T) (hr.mono (by decide)) (by rfl) T.g_law_shuffled T.F_law_shuffled.kp T.b_law_shuffled (sl_cons (sv_nm 3) (sl_nil))))
        (ss_cons (ss_set 5 sc_law_lift.nd (sr_lst (sl_nil)))
        (ss_cons (ss_for PassesOwn.never rfl (si_val (sv_nm 3)) (sg_name 6 sc_law_lift.nd) (ss_cons (ss_set 7 sc_law_lift.nd (sr_lst (sl_nil)))
        (ss_cons (ss_for PassesOwn.never rfl (si_val (sv_ix (sv_ixN 1 (sv_nm 6)) (sv_int))) (sg_name 8 sc_law_lift.nd) (ss_one (ss_if (sb_isN (sp_nm 8)) (ss_one (ss_expr (sv_mt 7 PySem.F.slot_list_append PySem.F.type_list_append mt_append mo_append (sl_cons (sv_non) (sl_nil))))) (ss_one (ss_expr (sv_mt 7 PySem.F.slot_list_append PySem.F.type_list_append mt_append mo_append (sl_cons (SR_sv (sr_c1 0 (ok_law_pick T) (hr.mono (by decide)) (by rfl) T.g_law_pick T.F_law_pick.kp T.b_law_pick (sl_cons (SR_sv (sr_comp (own := [("k", 4)]) rfl sc_law_lift.nd (si_range1 (by rfl) T.n_range (sv_len (by rfl) T.n_len (sp_nm 3))) (by kernel_rfl) (by decide) (fun _ _ _ _ _ => sg_name 4 sc_law_lift.nd) (fun _ _ _ _ _ => sif_one (sb_eq hr.units (sv_ixN 3 (sv_nm 4)) (sv_nm 8))) (fun _ _ _ _ _ => sv_nm 4))) (sl_nil)))) (sl_nil))))))))
        (ss_one (ss_expr (sv_mt 5 PySem.F.slot_list_append PySem.F.type_list_append mt_append mo_append (sl_cons (sv_tup (sl_cons (sv_ix (sv_ixN 1 (sv_nm 6)) (sv_int)) (sl_cons (sv_tupleOf (by rfl) T.n_tuple (sp_nm 7)) (sl_nil)))) (sl_nil))))))))
        (ss_one (ss_ret (sr_lst (sl_cons (sv_tupleOf (by rfl) T.n_tuple (sp_nm 5)) (sl_cons (sv_tupleOf (by rfl) T.n_tuple (sp_nm 3)) (sl_nil))))))))))
theorem ok_law_words (T : Tx K mg) : FnOk P w K mg base CX0 2 T.a_law_words T.fd_law_words ["draws", "many"] (Sp1 K m_law_words) :=
  fn_ok1 T.F_law_words sc_law_words (by decide) fun cdv A outer s H E hr => by
    unfold d_law_words
    exact ss_cons (ss_set 2 sc_law_words.nd (sr_lst (sl_nil)))
        (ss_cons (ss_for PassesOwn.never rfl (si_range1 (by rfl) T.n_range (sv_nm 1)) (sg_name 3 sc_law_words.nd) (ss_cons (ss_set 4 sc_law_words.nd (SV_sr (sv_add (sv_int) (SR_sv (sr_c1 0 (ok_law_take T) (hr.mono (by decide)) (by rfl) T.g_law_take T.F_law_take.kp T.b_law_take (sl_cons (sv_int) (sl_nil)))))))
        (ss_cons (ss_if (sb_eq hr.units (SR_sv (sr_c1 0 (ok_law_take T) (hr.mono (by decide)) (by rfl) T.g_law_take T.F_law_take.kp T.b_law_take (sl_cons (sv_int) (sl_nil)))) (sv_int)) (ss_one (ss_set 4 sc_law_words.nd (SV_sr (sv_add (sv_add (sv_nm 4) (sv_int)) (SR_sv (sr_c1 0 (ok_law_take T) (hr.mono (by decide)) (by rfl) T.g_law_take T.F_law_take.kp T.b_law_take (sl_cons (sv_int) (sl_nil)))))))) (ss_nil))
        (ss_cons (ss_set 5 sc_law_words.nd (SV_sr (sv_join (sv_str) (SV_sp (SR_sv (sr_comp (own := [("j", 6)]) rfl sc_law_words.nd (si_range1 (by rfl) T.n_range (sv_nm 4)) (by kernel_rfl) (by decide) (fun _ _ _ _ _ => sg_name 6 sc_law_words.nd) (fun _ _ _ _ _ => sif_nil) (fun _ _ _ _ _ => sv_ix (sv_str) (SR_sv (sr_c1 0 (ok_law_take T) (hr.mono (by decide)) (by rfl) T.g_law_take T.F_law_take.kp T.b_law_take (sl_cons (sv_int) (sl_nil)))))))))))
        (ss_cons (ss_if (sb_in (sv_nm 5) (sp_nm 2)) (ss_one (ss_set 5 sc_law_words.nd (SV_sr (sv_mulS (sv_str) (sv_add (sv_int) (sv_max rfl (by rfl) T.n_max (SV_sp (SR_sv (sr_cat (SR_sv (sr_lst (sl_cons (sv_int) (sl_nil)))) (SV_sp (SR_sv (sr_compN (own := [("other", 7)]) 2 rfl sc_law_words.nd (by kernel_rfl) (by decide) (fun _ _ _ _ _ => sg_name 7 sc_law_words.nd) (fun _ _ _ _ _ => sif_nil) (fun _ _ _ _ _ => sv_len (by rfl) T.n_len (sp_nm 7)))))))))))))) (ss_nil))
        (ss_one (ss_expr (sv_mt 2 PySem.F.slot_list_append PySem.F.type_list_append mt_append mo_append (sl_cons (sv_nm 5) (sl_nil))))))))))
        (ss_one (ss_retNm 2)))
theorem ok_law_like_words (T : Tx K mg) : FnOk P w K mg base CX0 3 T.a_law_like_words T.fd_law_like_words ["draws", "many"] (Sp1 K m_law_like_words) :=
  fn_ok1 T.F_law_like_words sc_law_like_words (by decide) fun cdv A outer s H E hr => by
    unfold d_law_like_words
    exact ss_cons (ss_set 2 sc_law_like_words.nd (sr_c1 0 (ok_law_words T) (hr.mono (by decide)) (by rfl) T.g_law_words T.F_law_words.kp T.b_law_words (sl_cons (sv_nm 1) (sl_nil))))
        (ss_cons (ss_if (sb_w (sw_and (sb_gt (sv_nm 1) (sv_int)) (sw_one (sb_eq hr.units (SR_sv (sr_c1 0 (ok_law_take T) (hr.mono (by decide)) (by rfl) T.g_law_take T.F_law_take.kp T.b_law_take (sl_cons (sv_int) (sl_nil)))) (sv_int))))) (ss_one (ss_for PassesOwn.never rfl (si_range2 (by rfl) T.n_range (sv_int) (sv_nm 1)) (sg_name 3 sc_law_like_words.nd) (ss_one (ss_sub 2 (SR_sv (sr_c1 0 (ok_law_pick T) (hr.mono (by decide)) (by rfl) T.g_law_pick T.F_law_pick.kp T.b_law_pick (sl_cons (SR_sv (sr_lst (sl_cons (sv_add (sv_ixN 2 (sv_sub (sv_nm 3) (sv_int))) (sv_str)) (sl_cons (sv_add (sv_str) (sv_ixN 2 (sv_sub (sv_nm 3) (sv_int)))) (sl_cons (sv_add (sv_ixN 2 (sv_sub (sv_nm 3) (sv_int))) (sv_str)) (sl_nil)))))) (sl_nil)))) (sv_nm 3))))) (ss_nil))
        (ss_one (ss_retNm 2)))
theorem ok_law_put (T : Tx K mg) : FnOk P w K mg base CX0 1 T.a_law_put T.fd_law_put ["row", "k", "thing"] (Sp0 K m_law_put) :=
  fn_ok0 T.F_law_put sc_law_put fun cdv A outer s H E hr => by
    unfold d_law_put
    exact ss_one (ss_ret (SV_sr (sv_add (sv_add (SR_sv (sr_slN 0 (so_none) (so_some (sv_nm 1)))) (sv_tup (sl_cons (sv_nm 2) (sl_nil)))) (SR_sv (sr_slN 0 (so_some (sv_add (sv_nm 1) (sv_int))) (so_none))))))
theorem ok_law_other_sight (T : Tx K mg) : FnOk P w K mg base CX0 2 T.a_law_other_sight T.fd_law_other_sight ["draws", "town", "sight"] (Sp1 K m_law_other_sight) :=
  fn_ok1 T.F_law_other_sight sc_law_other_sight (by decide) fun cdv A outer s H E hr => by
    unfold d_law_other_sight
    exact ss_cons (ss_set 3 sc_law_other_sight.nd (sr_c1 0 (ok_law_take T) (hr.mono (by decide)) (by rfl) T.g_law_take T.F_law_take.kp T.b_law_take (sl_cons (sv_int) (sl_nil))))
        (ss_cons (ss_if (sb_eq hr.units (sv_nm 3) (sv_int)) (ss_one (ss_ret (sr_c0 (ok_law_sight T) (hr.mono (by decide)) (by rfl) T.g_law_sight T.F_law_sight.kp T.b_law_sight (sl_cons (sv_nm 1) (sl_cons (SR_sv (sr_c1 0 (ok_law_take T) (hr.mono (by decide)) (by rfl) T.g_law_take T.F_law_take.kp T.b_law_take (sl_cons (sv_len (by rfl) T.n_len (sp_nm 1)) (sl_nil)))) (sl_nil)))))) (ss_nil))
        (ss_cons (ss_if (sb_eq hr.units (sv_nm 3) (sv_int)) (ss_one (ss_ret (SV_sr (sv_tup (sl_cons (sv_add (sv_ixN 2 (sv_int)) (sv_str)) (sl_cons (sv_ixN 2 (sv_int)) (sl_nil))))))) (ss_nil))
        (ss_cons (ss_if (sb_eq hr.units (sv_nm 3) (sv_int)) (ss_one (ss_ret (SV_sr (sv_tup (sl_cons (sv_ixN 2 (sv_int)) (sl_cons (sv_add (sv_ixN 2 (sv_int)) (sv_tup (sl_cons (SR_sv (sr_c1 0 (ok_law_take T) (hr.mono (by decide)) (by rfl) T.g_law_take T.F_law_take.kp T.b_law_take (sl_cons (sv_int) (sl_nil)))) (sl_nil)))) (sl_nil))))))) (ss_nil))
        (ss_cons (ss_set 4 sc_law_other_sight.nd (sr_c1 0 (ok_law_take T) (hr.mono (by decide)) (by rfl) T.g_law_take T.F_law_take.kp T.b_law_take (sl_cons (sv_max2 rfl (by rfl) T.n_max (sv_int) (sv_len (by rfl) T.n_len (SV_sp (sv_ixN 2 (sv_int))))) (sl_nil))))
        (ss_one (ss_ret (SV_sr (sv_tup (sl_cons (sv_ixN 2 (sv_int)) (sl_cons (SR_sv (sr_c0 (ok_law_put T) (hr.mono (by decide)) (by rfl) T.g_law_put T.F_law_put.kp T.b_law_put (sl_cons (sv_ixN 2 (sv_int)) (sl_cons (sv_nm 4) (sl_cons (sv_sub (sv_int) (sv_ix (sv_ixN 2 (sv_int)) (sv_nm 4))) (sl_nil)))))) (sl_nil)))))))))))
theorem ok_law_same (T : Tx K mg) : ∀ n : Nat, FnOk P w K mg base CX0 n T.a_law_same T.fd_law_same ["actual", "due"] (Sp0 K (m_law_same n))
  | 0 => ⟨fun vs H Q E ⟨_, _, _, _, _, h, _⟩ => (nomatch h), fun _ _ _ _ _ _ _ _ _ _ _ _ _ ⟨_, _, _, _, _, h, _⟩ => (nomatch h)⟩
  | n + 1 => fn_ok0 T.F_law_same sc_law_same fun cdv A outer s H E hr => by
    have ih := ok_law_same T n
    generalize m_law_same n = rec at ih ⊢
    unfold d_law_same
    exact ss_cons (ss_if (sb_val (sv_isi2 "tuple" "list" (by rfl) T.n_isinstance (by rfl) T.n_tuple (by decide +kernel) (by rfl) T.n_list (by decide +kernel) (sp_nm 1))) (ss_cons (ss_if (sb_w (sw_or (sb_ne hr.units (sv_isi "tuple" (by rfl) T.n_isinstance (by rfl) T.n_tuple (by decide +kernel) (sp_nm 0)) (sv_isi "tuple" (by rfl) T.n_isinstance (by rfl) T.n_tuple (by decide +kernel) (sp_nm 1))) (sw_one (sb_ne hr.units (sv_isi "list" (by rfl) T.n_isinstance (by rfl) T.n_list (by decide +kernel) (sp_nm 0)) (sv_isi "list" (by rfl) T.n_isinstance (by rfl) T.n_list (by decide +kernel) (sp_nm 1)))))) (ss_one (ss_ret (SV_sr (sv_bl)))) (ss_nil))
        (ss_cons (ss_if (sb_ne hr.units (sv_len (by rfl) T.n_len (sp_nm 0)) (sv_len (by rfl) T.n_len (sp_nm 1))) (ss_one (ss_ret (SV_sr (sv_bl)))) (ss_nil))
        (ss_one (ss_ret (SV_sr (sv_notIn (sv_bl) (SV_sp (SR_sv (sr_comp (own := [("k", 2)]) rfl sc_law_same.nd (si_range1 (by rfl) T.n_range (sv_len (by rfl) T.n_len (sp_nm 1))) (by kernel_rfl) (by decide) (fun _ _ _ _ _ => sg_name 2 sc_law_same.nd) (fun _ _ _ _ _ => sif_nil) (fun _ _ _ _ _ => SR_sv (sr_c0 (ih) hr (by rfl) T.g_law_same T.F_law_same.kp T.b_law_same (sl_cons (sv_ixN 0 (sv_nm 2)) (sl_cons (sv_ixN 1 (sv_nm 2)) (sl_nil)))))))))))))) (ss_nil))
        (ss_cons (ss_if (sb_w (sw_or (sb_ne hr.units (sv_isi "bool" (by rfl) T.n_isinstance (by rfl) T.n_bool (by decide +kernel) (sp_nm 0)) (sv_isi "bool" (by rfl) T.n_isinstance (by rfl) T.n_bool (by decide +kernel) (sp_nm 1))) (sw_one (sb_ne hr.units (sv_isi "int" (by rfl) T.n_isinstance (by rfl) T.n_int (by decide +kernel) (sp_nm 0)) (sv_isi "int" (by rfl) T.n_isinstance (by rfl) T.n_int (by decide +kernel) (sp_nm 1)))))) (ss_one (ss_ret (SV_sr (sv_bl)))) (ss_nil))
        (ss_cons (ss_if (sb_w (sw_or (sb_ne hr.units (sv_isi "str" (by rfl) T.n_isinstance (by rfl) T.n_str (by decide +kernel) (sp_nm 0)) (sv_isi "str" (by rfl) T.n_isinstance (by rfl) T.n_str (by decide +kernel) (sp_nm 1))) (sw_one (sb_ne hr.units (sv_isN (sp_nm 0)) (sv_isN (sp_nm 1)))))) (ss_one (ss_ret (SV_sr (sv_bl)))) (ss_nil))
        (ss_one (ss_ret (SV_sr (sv_eq hr.units (sv_nm 0) (sv_nm 1)))))))
theorem ok_law_shown (T : Tx K mg) : FnOk P w K mg base CX0 2 T.a_law_shown T.fd_law_shown ["town", "place", "walk"] (Sp0 K m_law_shown) :=
  fn_ok0 T.F_law_shown sc_law_shown fun cdv A outer s H E hr => by
    unfold d_law_shown
    exact ss_cons (ss_set 3 sc_law_shown.nd (sr_lst (sl_cons (SR_sv (sr_c0 (ok_law_sight T) (hr.mono (by decide)) (by rfl) T.g_law_sight T.F_law_sight.kp T.b_law_sight (sl_cons (sv_nm 0) (sl_cons (sv_nm 1) (sl_nil))))) (sl_nil))))
        (ss_cons (ss_set 4 sc_law_shown.nd (SV_sr (sv_nm 1)))
        (ss_cons (ss_for PassesOwn.never rfl (si_val (sv_nm 2)) (sg_name 5 sc_law_shown.nd) (ss_cons (ss_set 4 sc_law_shown.nd (sr_c0 (ok_law_goal T) (hr.mono (by decide)) (by rfl) T.g_law_goal T.F_law_goal.kp T.b_law_goal (sl_cons (sv_nm 0) (sl_cons (sv_nm 4) (sl_cons (sv_nm 5) (sl_nil))))))
        (ss_cons (ss_if (sb_isN (sp_nm 4)) (ss_one (ss_ret (SV_sr (sv_non)))) (ss_nil))
        (ss_one (ss_expr (sv_mt 3 PySem.F.slot_list_append PySem.F.type_list_append mt_append mo_append (sl_cons (SR_sv (sr_c0 (ok_law_sight T) (hr.mono (by decide)) (by rfl) T.g_law_sight T.F_law_sight.kp T.b_law_sight (sl_cons (sv_nm 0) (sl_cons (sv_nm 4) (sl_nil))))) (sl_nil))))))))
        (ss_one (ss_ret (SV_sr (sv_tupleOf (by rfl) T.n_tuple (sp_nm 3)))))))
theorem ok_law_plus (T : Tx K mg) : FnOk P w K mg base CX0 1 T.a_law_plus T.fd_law_plus ["goal", "by"] (Sp0 K m_law_plus) :=
  fn_ok0 T.F_law_plus sc_law_plus fun cdv A outer s H E hr => by
    unfold d_law_plus
    exact ss_cons (ss_if (sb_isN (sp_nm 0)) (ss_one (ss_ret (SV_sr (sv_non)))) (ss_nil))
        (ss_one (ss_ret (SV_sr (sv_add (sv_nm 0) (sv_nm 1)))))
theorem ok_law_side (T : Tx K mg) : FnOk P w K mg base CX0 2 T.a_law_side T.fd_law_side ["one", "other"] (Sp0 K m_law_side) :=
  fn_ok0 T.F_law_side sc_law_side fun cdv A outer s H E hr => by
    unfold d_law_side
    exact ss_cons (ss_set 2 sc_law_side.nd (sr_listOf (by rfl) T.n_list (sp_nm 0)))
        (ss_cons (ss_for PassesOwn.never rfl (si_val (sv_nm 1)) (sg_name 3 sc_law_side.nd) (ss_one (ss_expr (sv_mt 2 PySem.F.slot_list_append PySem.F.type_list_append mt_append mo_append (sl_cons (sv_tup (sl_cons (sv_ixN 3 (sv_int)) (sl_cons (sv_tupleOf (by rfl) T.n_tuple (SV_sp (SR_sv (sr_comp (own := [("goal", 4)]) rfl sc_law_side.nd (si_val (sv_ixN 3 (sv_int))) (by kernel_rfl) (by decide) (fun _ _ _ _ _ => sg_name 4 sc_law_side.nd) (fun _ _ _ _ _ => sif_nil) (fun _ _ _ _ _ => SR_sv (sr_c0 (ok_law_plus T) (hr.mono (by decide)) (by rfl) T.g_law_plus T.F_law_plus.kp T.b_law_plus (sl_cons (sv_nm 4) (sl_cons (sv_len (by rfl) T.n_len (sp_nm 0)) (sl_nil))))))))) (sl_nil)))) (sl_nil))))))
        (ss_one (ss_ret (SV_sr (sv_tupleOf (by rfl) T.n_tuple (sp_nm 2))))))
theorem ok_law_end (T : Tx K mg) : FnOk P w K mg base CX0 2 T.a_law_end T.fd_law_end ["town", "place", "walk"] (Sp0 K m_law_end) :=
  fn_ok0 T.F_law_end sc_law_end fun cdv A outer s H E hr => by
    unfold d_law_end
    exact ss_cons (ss_set 3 sc_law_end.nd (SV_sr (sv_nm 1)))
        (ss_cons (ss_for PassesOwn.never rfl (si_val (sv_nm 2)) (sg_name 4 sc_law_end.nd) (ss_cons (ss_set 3 sc_law_end.nd (sr_c0 (ok_law_goal T) (hr.mono (by decide)) (by rfl) T.g_law_goal T.F_law_goal.kp T.b_law_goal (sl_cons (sv_nm 0) (sl_cons (sv_nm 3) (sl_cons (sv_nm 4) (sl_nil))))))
        (ss_one (ss_if (sb_isN (sp_nm 3)) (ss_one (ss_ret (SV_sr (sv_non)))) (ss_nil)))))
        (ss_one (ss_retNm 3)))
theorem ok_law_misfit (T : Tx K mg) : FnOk P w K mg base CX0 2 T.a_law_misfit T.fd_law_misfit ["town", "walk", "seen", "place"] (Sp0 K m_law_misfit) :=
  fn_ok0 T.F_law_misfit sc_law_misfit fun cdv A outer s H E hr => by
    unfold d_law_misfit
    exact ss_cons (ss_set 4 sc_law_misfit.nd (SV_sr (sv_nm 3)))
        (ss_cons (ss_for PassesOwn.never rfl (si_range1 (by rfl) T.n_range (sv_len (by rfl) T.n_len (sp_nm 2))) (sg_name 5 sc_law_misfit.nd) (ss_cons (ss_if (sb_gt (sv_nm 5) (sv_int)) (ss_cons (ss_set 4 sc_law_misfit.nd (sr_c0 (ok_law_goal T) (hr.mono (by decide)) (by rfl) T.g_law_goal T.F_law_goal.kp T.b_law_goal (sl_cons (sv_nm 0) (sl_cons (sv_nm 4) (sl_cons (sv_ixN 1 (sv_sub (sv_nm 5) (sv_int))) (sl_nil))))))
        (ss_one (ss_if (sb_isN (sp_nm 4)) (ss_one (ss_ret (SV_sr (sv_tup (sl_cons (sv_nm 5) (sl_cons (sv_str) (sl_nil))))))) (ss_nil)))) (ss_nil))
        (ss_one (ss_if (sb_ne hr.units (SR_sv (sr_c0 (ok_law_sight T) (hr.mono (by decide)) (by rfl) T.g_law_sight T.F_law_sight.kp T.b_law_sight (sl_cons (sv_nm 0) (sl_cons (sv_nm 4) (sl_nil))))) (sv_ixN 2 (sv_nm 5))) (ss_one (ss_ret (SV_sr (sv_tup (sl_cons (sv_nm 5) (sl_cons (sv_str) (sl_nil))))))) (ss_nil)))))
        (ss_one (ss_ret (SV_sr (sv_non)))))
theorem ok_sight_at (T : Tx K mg) : FnOk P w K mg base CX0 1 T.a_sight_at T.fd_sight_at ["town", "place"] (Sp0 K m_sight_at) :=
  fn_ok0 T.F_sight_at sc_sight_at fun cdv A outer s H E hr => by
    unfold d_sight_at
    exact ss_cons (ss_asg (sv_ixN 0 (sv_nm 1)) (sg_tup rfl (sgs_cons (sg_name 2 sc_sight_at.nd) (sgs_cons (sg_name 3 sc_sight_at.nd) (sgs_nil)))))
        (ss_one (ss_ret (SV_sr (sv_tup (sl_cons (sv_nm 2) (sl_cons (sv_tupleOf (by rfl) T.n_tuple (SV_sp (SR_sv (sr_comp (own := [("goal", 4)]) rfl sc_sight_at.nd (si_val (sv_nm 3)) (by kernel_rfl) (by decide) (fun _ _ _ _ _ => sg_name 4 sc_sight_at.nd) (fun _ _ _ _ _ => sif_nil) (fun _ _ _ _ _ => sv_if (sb_isN (sp_nm 4)) (sv_int) (sv_int)))))) (sl_nil)))))))
theorem ok_step_from (T : Tx K mg) : FnOk P w K mg base CX0 1 T.a_step_from T.fd_step_from ["town", "place", "door"] (Sp0 K m_step_from) :=
  fn_ok0 T.F_step_from sc_step_from fun cdv A outer s H E hr => by
    unfold d_step_from
    exact ss_cons (ss_set 3 sc_step_from.nd (SV_sr (sv_ix (sv_ixN 0 (sv_nm 1)) (sv_int))))
        (ss_cons (ss_if (sb_ge (sv_nm 2) (sv_len (by rfl) T.n_len (sp_nm 3))) (ss_one (ss_ret (SV_sr (sv_non)))) (ss_nil))
        (ss_one (ss_ret (SV_sr (sv_ixN 3 (sv_nm 2))))))
theorem ok_sights_along (T : Tx K mg) : FnOk P w K mg base CX0 2 T.a_sights_along T.fd_sights_along ["town", "place", "walk"] (Sp0 K m_sights_along) :=
  fn_ok0 T.F_sights_along sc_sights_along fun cdv A outer s H E hr => by
    unfold d_sights_along
    exact ss_cons (ss_set 3 sc_sights_along.nd (SV_sr (sv_nm 1)))
        (ss_cons (ss_set 4 sc_sights_along.nd (sr_lst (sl_cons (SR_sv (sr_c0 (ok_sight_at T) (hr.mono (by decide)) (by rfl) T.g_sight_at T.F_sight_at.kp T.b_sight_at (sl_cons (sv_nm 0) (sl_cons (sv_nm 3) (sl_nil))))) (sl_nil))))
        (ss_cons (ss_for PassesOwn.never rfl (si_val (sv_nm 2)) (sg_name 5 sc_sights_along.nd) (ss_cons (ss_set 3 sc_sights_along.nd (sr_c0 (ok_step_from T) (hr.mono (by decide)) (by rfl) T.g_step_from T.F_step_from.kp T.b_step_from (sl_cons (sv_nm 0) (sl_cons (sv_nm 3) (sl_cons (sv_nm 5) (sl_nil))))))
        (ss_cons (ss_if (sb_isN (sp_nm 3)) (ss_one (ss_ret (SV_sr (sv_non)))) (ss_nil))
        (ss_one (ss_expr (sv_mt 4 PySem.F.slot_list_append PySem.F.type_list_append mt_append mo_append (sl_cons (SR_sv (sr_c0 (ok_sight_at T) (hr.mono (by decide)) (by rfl) T.g_sight_at T.F_sight_at.kp T.b_sight_at (sl_cons (sv_nm 0) (sl_cons (sv_nm 3) (sl_nil))))) (sl_nil))))))))
        (ss_one (ss_ret (SV_sr (sv_tupleOf (by rfl) T.n_tuple (sp_nm 4)))))))
theorem ok_fitting_places (T : Tx K mg) : FnOk P w K mg base CX0 3 T.a_fitting_places T.fd_fitting_places ["town", "walk", "seen"] (Sp0 K m_fitting_places) :=
  fn_ok0 T.F_fitting_places sc_fitting_places fun cdv A outer s H E hr => by
    unfold d_fitting_places
    exact ss_one (ss_ret (SV_sr (sv_tupleOf (by rfl) T.n_tuple (SV_sp (SR_sv (sr_comp (own := [("place", 3)]) rfl sc_fitting_places.nd (si_range1 (by rfl) T.n_range (sv_len (by rfl) T.n_len (sp_nm 0))) (by kernel_rfl) (by decide) (fun _ _ _ _ _ => sg_name 3 sc_fitting_places.nd) (fun _ _ _ _ _ => sif_one (sb_eq hr.units (SR_sv (sr_c0 (ok_sights_along T) (hr.mono (by decide)) (by rfl) T.g_sights_along T.F_sights_along.kp T.b_sights_along (sl_cons (sv_nm 0) (sl_cons (sv_nm 3) (sl_cons (sv_nm 1) (sl_nil)))))) (sv_nm 2))) (fun _ _ _ _ _ => sv_nm 3)))))))
theorem ok_misfit_of (T : Tx K mg) : FnOk P w K mg base CX0 2 T.a_misfit_of T.fd_misfit_of ["town", "walk", "seen", "place"] (Sp0 K m_misfit_of) :=
  fn_ok0 T.F_misfit_of sc_misfit_of fun cdv A outer s H E hr => by
    unfold d_misfit_of
    exact ss_cons (ss_set 4 sc_misfit_of.nd (SV_sr (sv_nm 3)))
        (ss_cons (ss_for PassesOwn.never rfl (si_enum (by rfl) T.n_enumerate (sv_nm 2)) (sg_tup rfl (sgs_cons (sg_name 5 sc_misfit_of.nd) (sgs_cons (sg_name 6 sc_misfit_of.nd) (sgs_nil)))) (ss_cons (ss_if (sb_gt (sv_nm 5) (sv_int)) (ss_cons (ss_set 4 sc_misfit_of.nd (sr_c0 (ok_step_from T) (hr.mono (by decide)) (by rfl) T.g_step_from T.F_step_from.kp T.b_step_from (sl_cons (sv_nm 0) (sl_cons (sv_nm 4) (sl_cons (sv_ixN 1 (sv_sub (sv_nm 5) (sv_int))) (sl_nil))))))
        (ss_one (ss_if (sb_isN (sp_nm 4)) (ss_one (ss_ret (SV_sr (sv_tup (sl_cons (sv_nm 5) (sl_cons (sv_str) (sl_nil))))))) (ss_nil)))) (ss_nil))
        (ss_one (ss_if (sb_ne hr.units (SR_sv (sr_c0 (ok_sight_at T) (hr.mono (by decide)) (by rfl) T.g_sight_at T.F_sight_at.kp T.b_sight_at (sl_cons (sv_nm 0) (sl_cons (sv_nm 4) (sl_nil))))) (sv_nm 6)) (ss_one (ss_ret (SV_sr (sv_tup (sl_cons (sv_nm 5) (sl_cons (sv_str) (sl_nil))))))) (ss_nil)))))
        (ss_one (ss_ret (SV_sr (sv_non)))))
theorem ok_index_set (T : Tx K mg) : FnOk P w K mg base CX0 1 T.a_index_set T.fd_index_set ["places"] (Sp0 K m_index_set) :=
  fn_ok0 T.F_index_set sc_index_set fun cdv A outer s H E hr => by
    unfold d_index_set
    exact ss_one (ss_ret (SV_sr (sv_tupleOf (by rfl) T.n_tuple (SV_sp (SR_sv (sr_sorted (by rfl) T.n_sorted (SV_sp (SR_sv (sr_listDc (own := [("place", 1)]) rfl sc_index_set.nd (by rfl) T.n_list (si_val (sv_nm 0)) (by kernel_rfl) (by decide) (fun _ _ _ _ _ => sg_name 1 sc_index_set.nd) (fun _ _ _ _ _ => sif_nil) (fun _ _ _ _ _ => sv_nm 1))))))))))
theorem ok_standing_behind (T : Tx K mg) : FnOk P w K mg base CX0 2 T.a_standing_behind T.fd_standing_behind ["town", "places", "door", "sight"] (Sp0 K m_standing_behind) :=
  fn_ok0 T.F_standing_behind sc_standing_behind fun cdv A outer s H E hr => by
    unfold d_standing_behind
    exact ss_cons (ss_setLc (own := [("place", 5)]) 4 rfl sc_standing_behind.nd (sw_true rfl rfl rfl (by decide +kernel)) (si_val (sv_nm 1)) (by kernel_rfl) (by decide) (fun _ _ _ _ _ => sg_name 5 sc_standing_behind.nd) (fun _ _ _ _ _ => sif_nil) (fun _ _ _ _ _ => SR_sv (sr_c0 (ok_step_from T) (hr.mono (by decide)) (by rfl) T.g_step_from T.F_step_from.kp T.b_step_from (sl_cons (sv_nm 0) (sl_cons (sv_nm 5) (sl_cons (sv_nm 2) (sl_nil)))))))
        (ss_one (ss_ret (sr_c0 (ok_index_set T) (hr.mono (by decide)) (by rfl) T.g_index_set T.F_index_set.kp T.b_index_set (sl_cons (SR_sv (sr_compN (own := [("goal", 6)]) 4 rfl sc_standing_behind.nd (by kernel_rfl) (by decide) (fun _ _ _ _ _ => sg_name 6 sc_standing_behind.nd) (fun _ _ _ _ _ => sif_one (sb_w (sw_and (sb_notN (sp_nm 6)) (sw_one (sb_eq hr.units (SR_sv (sr_c0 (ok_sight_at T) (hr.mono (by decide)) (by rfl) T.g_sight_at T.F_sight_at.kp T.b_sight_at (sl_cons (sv_nm 0) (sl_cons (sv_nm 6) (sl_nil))))) (sv_nm 3)))))) (fun _ _ _ _ _ => sv_nm 6))) (sl_nil)))))
theorem ok_led_to (T : Tx K mg) : FnOk P w K mg base CX0 2 T.a_led_to T.fd_led_to ["town", "place", "walk"] (Sp0 K m_led_to) :=
  fn_ok0 T.F_led_to sc_led_to fun cdv A outer s H E hr => by
    unfold d_led_to
    exact ss_cons (ss_set 3 sc_led_to.nd (SV_sr (sv_nm 1)))
        (ss_cons (ss_for PassesOwn.never rfl (si_val (sv_nm 2)) (sg_name 4 sc_led_to.nd) (ss_cons (ss_set 3 sc_led_to.nd (sr_c0 (ok_step_from T) (hr.mono (by decide)) (by rfl) T.g_step_from T.F_step_from.kp T.b_step_from (sl_cons (sv_nm 0) (sl_cons (sv_nm 3) (sl_cons (sv_nm 4) (sl_nil))))))
        (ss_one (ss_if (sb_isN (sp_nm 3)) (ss_one (ss_ret (SV_sr (sv_non)))) (ss_nil)))))
        (ss_one (ss_retNm 3)))
theorem ok_standing_places (T : Tx K mg) : FnOk P w K mg base CX0 4 T.a_standing_places T.fd_standing_places ["town", "walk", "seen"] (Sp0 K m_standing_places) :=
  fn_ok0 T.F_standing_places sc_standing_places fun cdv A outer s H E hr => by
    unfold d_standing_places
    exact ss_one (ss_ret (sr_c0 (ok_index_set T) (hr.mono (by decide)) (by rfl) T.g_index_set T.F_index_set.kp T.b_index_set (sl_cons (SR_sv (sr_comp (own := [("place", 3)]) rfl sc_standing_places.nd (si_val (SR_sv (sr_c0 (ok_fitting_places T) (hr.mono (by decide)) (by rfl) T.g_fitting_places T.F_fitting_places.kp T.b_fitting_places (sl_cons (sv_nm 0) (sl_cons (sv_nm 1) (sl_cons (sv_nm 2) (sl_nil))))))) (by kernel_rfl) (by decide) (fun _ _ _ _ _ => sg_name 3 sc_standing_places.nd) (fun _ _ _ _ _ => sif_nil) (fun _ _ _ _ _ => SR_sv (sr_c0 (ok_led_to T) (hr.mono (by decide)) (by rfl) T.g_led_to T.F_led_to.kp T.b_led_to (sl_cons (sv_nm 0) (sl_cons (sv_nm 3) (sl_cons (sv_nm 1) (sl_nil)))))))) (sl_nil))))
theorem ok_surely_at (T : Tx K mg) : FnOk P w K mg base CX0 5 T.a_surely_at T.fd_surely_at ["town", "walk", "seen"] (Sp0 K m_surely_at) :=
  fn_ok0 T.F_surely_at sc_surely_at fun cdv A outer s H E hr => by
    unfold d_surely_at
    exact ss_cons (ss_set 3 sc_surely_at.nd (sr_c0 (ok_standing_places T) (hr.mono (by decide)) (by rfl) T.g_standing_places T.F_standing_places.kp T.b_standing_places (sl_cons (sv_nm 0) (sl_cons (sv_nm 1) (sl_cons (sv_nm 2) (sl_nil))))))
        (ss_cons (ss_if (sb_eq hr.units (sv_len (by rfl) T.n_len (sp_nm 3)) (sv_int)) (ss_one (ss_ret (SV_sr (sv_ixN 3 (sv_int))))) (ss_nil))
        (ss_one (ss_ret (SV_sr (sv_non)))))
theorem ok_law_stands_so (T : Tx K mg) : FnOk P w K mg base CX0 9 T.a_law_stands_so T.fd_law_stands_so ["town", "walk", "seen"] (Sp0 K m_law_stands_so) :=
  fn_ok0 T.F_law_stands_so sc_law_stands_so fun cdv A outer s H E hr => by
    unfold d_law_stands_so
    exact ss_cons (ss_set 3 sc_law_stands_so.nd (sr_comp (own := [("place", 4)]) rfl sc_law_stands_so.nd (si_range1 (by rfl) T.n_range (sv_len (by rfl) T.n_len (sp_nm 0))) (by kernel_rfl) (by decide) (fun _ _ _ _ _ => sg_name 4 sc_law_stands_so.nd) (fun _ _ _ _ _ => sif_nil) (fun _ _ _ _ _ => SR_sv (sr_c0 (ok_law_misfit T) (hr.mono (by decide)) (by rfl) T.g_law_misfit T.F_law_misfit.kp T.b_law_misfit (sl_cons (sv_nm 0) (sl_cons (sv_nm 1) (sl_cons (sv_nm 2) (sl_cons (sv_nm 4) (sl_nil)))))))))
        (ss_cons (ss_for PassesOwn.never rfl (si_range1 (by rfl) T.n_range (sv_len (by rfl) T.n_len (sp_nm 0))) (sg_name 4 sc_law_stands_so.nd) (ss_one (ss_if (sb_not (sb_val (SR_sv (sr_c0 (ok_law_same T 8) (hr.mono (by decide)) (by rfl) T.g_law_same T.F_law_same.kp T.b_law_same (sl_cons (SR_sv (sr_c0 (ok_misfit_of T) (hr.mono (by decide)) (by rfl) T.g_misfit_of T.F_misfit_of.kp T.b_misfit_of (sl_cons (sv_nm 0) (sl_cons (sv_nm 1) (sl_cons (sv_nm 2) (sl_cons (sv_nm 4) (sl_nil))))))) (sl_cons (sv_ixN 3 (sv_nm 4)) (sl_nil))))))) (ss_one (ss_ret (SV_sr (sv_bl)))) (ss_nil))))
        (ss_cons (ss_set 5 sc_law_stands_so.nd (SV_sr (sv_tupleOf (by rfl) T.n_tuple (SV_sp (SR_sv (sr_comp (own := [("place", 4)]) rfl sc_law_stands_so.nd (si_range1 (by rfl) T.n_range (sv_len (by rfl) T.n_len (sp_nm 0))) (by kernel_rfl) (by decide) (fun _ _ _ _ _ => sg_name 4 sc_law_stands_so.nd) (fun _ _ _ _ _ => sif_one (sb_isN (SV_sp (sv_ixN 3 (sv_nm 4))))) (fun _ _ _ _ _ => sv_nm 4)))))))
        (ss_cons (ss_set 6 sc_law_stands_so.nd (SV_sr (sv_tupleOf (by rfl) T.n_tuple (SV_sp (SR_sv (sr_sortedSet rfl (by rfl) T.n_sorted (by rfl) T.n_set (SV_sp (SR_sv (sr_comp (own := [("place", 4)]) rfl sc_law_stands_so.nd (si_val (sv_nm 5)) (by kernel_rfl) (by decide) (fun _ _ _ _ _ => sg_name 4 sc_law_stands_so.nd) (fun _ _ _ _ _ => sif_nil) (fun _ _ _ _ _ => SR_sv (sr_c0 (ok_law_end T) (hr.mono (by decide)) (by rfl) T.g_law_end T.F_law_end.kp T.b_law_end (sl_cons (sv_nm 0) (sl_cons (sv_nm 4) (sl_cons (sv_nm 1) (sl_nil)))))))))))))))
        (ss_cons (ss_if (sb_w (sw_or (sb_not (sb_val (SR_sv (sr_c0 (ok_law_same T 8) (hr.mono (by decide)) (by rfl) T.g_law_same T.F_law_same.kp T.b_law_same (sl_cons (SR_sv (sr_c0 (ok_fitting_places T) (hr.mono (by decide)) (by rfl) T.g_fitting_places T.F_fitting_places.kp T.b_fitting_places (sl_cons (sv_nm 0) (sl_cons (sv_nm 1) (sl_cons (sv_nm 2) (sl_nil)))))) (sl_cons (sv_nm 5) (sl_nil))))))) (sw_one (sb_not (sb_val (SR_sv (sr_c0 (ok_law_same T 8) (hr.mono (by decide)) (by rfl) T.g_law_same T.F_law_same.kp T.b_law_same (sl_cons (SR_sv (sr_c0 (ok_standing_places T) (hr.mono (by decide)) (by rfl) T.g_standing_places T.F_standing_places.kp T.b_standing_places (sl_cons (sv_nm 0) (sl_cons (sv_nm 1) (sl_cons (sv_nm 2) (sl_nil)))))) (sl_cons (sv_nm 6) (sl_nil)))))))))) (ss_one (ss_ret (SV_sr (sv_bl)))) (ss_nil))
        (ss_cons (ss_set 7 sc_law_stands_so.nd (SV_sr (sv_non)))
        (ss_cons (ss_if (sb_eq hr.units (sv_len (by rfl) T.n_len (sp_nm 6)) (sv_int)) (ss_one (ss_set 7 sc_law_stands_so.nd (SV_sr (sv_ixN 6 (sv_int))))) (ss_nil))
        (ss_cons (ss_if (sb_not (sb_val (SR_sv (sr_c0 (ok_law_same T 8) (hr.mono (by decide)) (by rfl) T.g_law_same T.F_law_same.kp T.b_law_same (sl_cons (SR_sv (sr_c0 (ok_surely_at T) (hr.mono (by decide)) (by rfl) T.g_surely_at T.F_surely_at.kp T.b_surely_at (sl_cons (sv_nm 0) (sl_cons (sv_nm 1) (sl_cons (sv_nm 2) (sl_nil)))))) (sl_cons (sv_nm 7) (sl_nil))))))) (ss_one (ss_ret (SV_sr (sv_bl)))) (ss_nil))
        (ss_cons (ss_set 8 sc_law_stands_so.nd (SV_sr (sv_tupleOf (by rfl) T.n_tuple (SV_sp (SR_sv (sr_comp (own := [("place", 4)]) rfl sc_law_stands_so.nd (si_range1 (by rfl) T.n_range (sv_len (by rfl) T.n_len (sp_nm 0))) (by kernel_rfl) (by decide) (fun _ _ _ _ _ => sg_name 4 sc_law_stands_so.nd) (fun _ _ _ _ _ => sif_one (sb_eq hr.units (SR_sv (sr_c0 (ok_law_sight T) (hr.mono (by decide)) (by rfl) T.g_law_sight T.F_law_sight.kp T.b_law_sight (sl_cons (sv_nm 0) (sl_cons (sv_nm 4) (sl_nil))))) (sv_ixN 2 (sv_int)))) (fun _ _ _ _ _ => sv_nm 4)))))))
        (ss_cons (ss_for PassesOwn.never rfl (si_range1 (by rfl) T.n_range (sv_len (by rfl) T.n_len (sp_nm 1))) (sg_name 9 sc_law_stands_so.nd) (ss_cons (ss_set 10 sc_law_stands_so.nd (sr_c0 (ok_law_behind_all T) (hr.mono (by decide)) (by rfl) T.g_law_behind_all T.F_law_behind_all.kp T.b_law_behind_all (sl_cons (sv_nm 0) (sl_cons (sv_nm 8) (sl_cons (sv_ixN 1 (sv_nm 9)) (sl_cons (sv_ixN 2 (sv_add (sv_nm 9) (sv_int))) (sl_nil)))))))
        (ss_cons (ss_set 8 sc_law_stands_so.nd (sr_c0 (ok_standing_behind T) (hr.mono (by decide)) (by rfl) T.g_standing_behind T.F_standing_behind.kp T.b_standing_behind (sl_cons (sv_nm 0) (sl_cons (sv_nm 8) (sl_cons (sv_ixN 1 (sv_nm 9)) (sl_cons (sv_ixN 2 (sv_add (sv_nm 9) (sv_int))) (sl_nil)))))))
        (ss_one (ss_if (sb_not (sb_val (SR_sv (sr_c0 (ok_law_same T 8) (hr.mono (by decide)) (by rfl) T.g_law_same T.F_law_same.kp T.b_law_same (sl_cons (sv_nm 8) (sl_cons (sv_nm 10) (sl_nil))))))) (ss_one (ss_ret (SV_sr (sv_bl)))) (ss_nil))))))
        (ss_one (ss_ret (SV_sr (sv_eq hr.units (sv_nm 8) (sv_nm 6))))))))))))))
theorem ok_law_opens (T : Tx K mg) : FnOk P w K mg base CX0 1 T.a_law_opens T.fd_law_opens ["town", "place"] (Sp0 K m_law_opens) :=
  fn_ok0 T.F_law_opens sc_law_opens fun cdv A outer s H E hr => by
    unfold d_law_opens
    exact ss_one (ss_ret (sr_comp (own := [("k", 2)]) rfl sc_law_opens.nd (si_range1 (by rfl) T.n_range (sv_len (by rfl) T.n_len (SV_sp (sv_ix (sv_ixN 0 (sv_nm 1)) (sv_int))))) (by kernel_rfl) (by decide) (fun _ _ _ _ _ => sg_name 2 sc_law_opens.nd) (fun _ _ _ _ _ => sif_one (sb_notN (SV_sp (sv_ix (sv_ix (sv_ixN 0 (sv_nm 1)) (sv_int)) (sv_nm 2))))) (fun _ _ _ _ _ => sv_nm 2)))
theorem ok_law_walk (T : Tx K mg) : FnOk P w K mg base CX0 3 T.a_law_walk T.fd_law_walk ["draws", "town", "place", "most"] (Sp1 K m_law_walk) :=
  fn_ok1 T.F_law_walk sc_law_walk (by decide) fun cdv A outer s H E hr => by
    unfold d_law_walk
    exact ss_cons (ss_set 4 sc_law_walk.nd (SV_sr (sv_tup (sl_nil))))
        (ss_cons (ss_set 5 sc_law_walk.nd (SV_sr (sv_nm 2)))
        (ss_cons (ss_for PassesOwn.never rfl (si_range1 (by rfl) T.n_range (SR_sv (sr_c1 0 (ok_law_take T) (hr.mono (by decide)) (by rfl) T.g_law_take T.F_law_take.kp T.b_law_take (sl_cons (sv_add (sv_nm 3) (sv_int)) (sl_nil))))) (sg_name 6 sc_law_walk.nd) (ss_cons (ss_set 7 sc_law_walk.nd (sr_c0 (ok_law_opens T) (hr.mono (by decide)) (by rfl) T.g_law_opens T.F_law_opens.kp T.b_law_opens (sl_cons (sv_nm 1) (sl_cons (sv_nm 5) (sl_nil)))))
        (ss_one (ss_if (sb_gt (sv_len (by rfl) T.n_len (sp_nm 7)) (sv_int)) (ss_cons (ss_set 8 sc_law_walk.nd (sr_c1 0 (ok_law_pick T) (hr.mono (by decide)) (by rfl) T.g_law_pick T.F_law_pick.kp T.b_law_pick (sl_cons (sv_nm 7) (sl_nil))))
        (ss_cons (ss_set 4 sc_law_walk.nd (SV_sr (sv_add (sv_nm 4) (sv_tup (sl_cons (sv_nm 8) (sl_nil))))))
        (ss_one (ss_set 5 sc_law_walk.nd (SV_sr (sv_ix (sv_ix (sv_ixN 1 (sv_nm 5)) (sv_int)) (sv_nm 8))))))) (ss_nil)))))
        (ss_one (ss_retNm 4))))
theorem ok_law (T : Tx K mg) : FnOk P w K mg base CX0 10 T.a_law T.fd_law ["script"] (Sp0 K m_law) :=
  fn_ok0 T.F_law sc_law fun cdv A outer s H E hr => by
    unfold d_law
    exact ss_cons (ss_set 1 sc_law.nd (sr_c0 (ok_law_draws T) (hr.mono (by decide)) (by rfl) T.g_law_draws T.F_law_draws.kp T.b_law_draws (sl_cons (sv_nm 0) (sl_cons (sv_int) (sl_nil)))))
        (ss_cons (ss_set 2 sc_law.nd (sr_c1 1 (ok_law_like_words T) (hr.mono (by decide)) (by rfl) T.g_law_like_words T.F_law_like_words.kp T.b_law_like_words (sl_cons (sv_add (sv_int) (SR_sv (sr_c1 1 (ok_law_take T) (hr.mono (by decide)) (by rfl) T.g_law_take T.F_law_take.kp T.b_law_take (sl_cons (sv_int) (sl_nil))))) (sl_nil))))
        (ss_cons (ss_set 3 sc_law.nd (SV_sr (sv_add (sv_int) (SR_sv (sr_c1 1 (ok_law_take T) (hr.mono (by decide)) (by rfl) T.g_law_take T.F_law_take.kp T.b_law_take (sl_cons (sv_int) (sl_nil)))))))
        (ss_cons (ss_set 4 sc_law.nd (SV_sr (sv_ix (SR_sv (sr_c1 1 (ok_law_lift T) (hr.mono (by decide)) (by rfl) T.g_law_lift T.F_law_lift.kp T.b_law_lift (sl_cons (SR_sv (sr_c1 1 (ok_law_base T) (hr.mono (by decide)) (by rfl) T.g_law_base T.F_law_base.kp T.b_law_base (sl_cons (sv_int) (sl_cons (sv_nm 3) (sl_cons (sv_nm 2) (sl_nil)))))) (sl_cons (sv_int) (sl_nil))))) (sv_int))))
        (ss_cons (ss_set 4 sc_law.nd (sr_c0 (ok_law_side T) (hr.mono (by decide)) (by rfl) T.g_law_side T.F_law_side.kp T.b_law_side (sl_cons (sv_nm 4) (sl_cons (SR_sv (sr_c1 1 (ok_law_base T) (hr.mono (by decide)) (by rfl) T.g_law_base T.F_law_base.kp T.b_law_base (sl_cons (sv_int) (sl_cons (sv_nm 3) (sl_cons (sv_nm 2) (sl_nil)))))) (sl_nil)))))
        (ss_cons (ss_for PassesOwn.never rfl (si_range1 (by rfl) T.n_range (sv_int)) (sg_name 5 sc_law.nd) (ss_cons (ss_set 10 sc_law.nd (sr_c1 1 (ok_law_take T) (hr.mono (by decide)) (by rfl) T.g_law_take T.F_law_take.kp T.b_law_take (sl_cons (sv_len (by rfl) T.n_len (sp_nm 4)) (sl_nil))))
        (ss_cons (ss_set 11 sc_law.nd (sr_c1 1 (ok_law_walk T) (hr.mono (by decide)) (by rfl) T.g_law_walk T.F_law_walk.kp T.b_law_walk (sl_cons (sv_nm 4) (sl_cons (sv_nm 10) (sl_cons (sv_int) (sl_nil))))))
        (ss_cons (ss_set 12 sc_law.nd (sr_c0 (ok_law_shown T) (hr.mono (by decide)) (by rfl) T.g_law_shown T.F_law_shown.kp T.b_law_shown (sl_cons (sv_nm 4) (sl_cons (sv_nm 10) (sl_cons (sv_nm 11) (sl_nil))))))
        (ss_cons (ss_for PassesOwn.never rfl (si_range1 (by rfl) T.n_range (SR_sv (sr_c1 1 (ok_law_take T) (hr.mono (by decide)) (by rfl) T.g_law_take T.F_law_take.kp T.b_law_take (sl_cons (sv_int) (sl_nil))))) (sg_name 13 sc_law.nd) (ss_cons (ss_set 14 sc_law.nd (sr_c1 1 (ok_law_take T) (hr.mono (by decide)) (by rfl) T.g_law_take T.F_law_take.kp T.b_law_take (sl_cons (sv_len (by rfl) T.n_len (sp_nm 12)) (sl_nil))))
        (ss_one (ss_set 12 sc_law.nd (sr_c0 (ok_law_put T) (hr.mono (by decide)) (by rfl) T.g_law_put T.F_law_put.kp T.b_law_put (sl_cons (sv_nm 12) (sl_cons (sv_nm 14) (sl_cons (SR_sv (sr_c1 1 (ok_law_other_sight T) (hr.mono (by decide)) (by rfl) T.g_law_other_sight T.F_law_other_sight.kp T.b_law_other_sight (sl_cons (sv_nm 4) (sl_cons (sv_ixN 12 (sv_nm 14)) (sl_nil))))) (sl_nil)))))))))
        (ss_cons (ss_if (sb_w (sw_and (sb_gt (sv_len (by rfl) T.n_len (sp_nm 11)) (sv_int)) (sw_one (sb_eq hr.units (SR_sv (sr_c1 1 (ok_law_take T) (hr.mono (by decide)) (by rfl) T.g_law_take T.F_law_take.kp T.b_law_take (sl_cons (sv_int) (sl_nil)))) (sv_int))))) (ss_one (ss_set 11 sc_law.nd (sr_c0 (ok_law_put T) (hr.mono (by decide)) (by rfl) T.g_law_put T.F_law_put.kp T.b_law_put (sl_cons (sv_nm 11) (sl_cons (SR_sv (sr_c1 1 (ok_law_take T) (hr.mono (by decide)) (by rfl) T.g_law_take T.F_law_take.kp T.b_law_take (sl_cons (sv_len (by rfl) T.n_len (sp_nm 11)) (sl_nil)))) (sl_cons (SR_sv (sr_c1 1 (ok_law_take T) (hr.mono (by decide)) (by rfl) T.g_law_take T.F_law_take.kp T.b_law_take (sl_cons (sv_int) (sl_nil)))) (sl_nil))))))) (ss_nil))
        (ss_one (ss_if (sb_not (sb_val (SR_sv (sr_c0 (ok_law_stands_so T) (hr.mono (by decide)) (by rfl) T.g_law_stands_so T.F_law_stands_so.kp T.b_law_stands_so (sl_cons (sv_nm 4) (sl_cons (sv_nm 11) (sl_cons (sv_nm 12) (sl_nil)))))))) (ss_one (ss_ret (SV_sr (sv_bl)))) (ss_nil)))))))))
        (ss_cons (ss_set 6 sc_law.nd (sr_c1 1 (ok_law_take T) (hr.mono (by decide)) (by rfl) T.g_law_take T.F_law_take.kp T.b_law_take (sl_cons (sv_int) (sl_nil))))
        (ss_cons (ss_set 7 sc_law.nd (sr_c0 (ok_law_sight T) (hr.mono (by decide)) (by rfl) T.g_law_sight T.F_law_sight.kp T.b_law_sight (sl_cons (sv_nm 4) (sl_cons (SR_sv (sr_c1 1 (ok_law_take T) (hr.mono (by decide)) (by rfl) T.g_law_take T.F_law_take.kp T.b_law_take (sl_cons (sv_len (by rfl) T.n_len (sp_nm 4)) (sl_nil)))) (sl_nil)))))
        (ss_cons (ss_set 8 sc_law.nd (SV_sr (sv_tupRg1 rfl (by rfl) T.n_tuple (by rfl) T.n_range (sv_len (by rfl) T.n_len (sp_nm 4)))))
        (ss_cons (ss_if (sb_not (sb_val (SR_sv (sr_c0 (ok_law_same T 8) (hr.mono (by decide)) (by rfl) T.g_law_same T.F_law_same.kp T.b_law_same (sl_cons (SR_sv (sr_c0 (ok_standing_behind T) (hr.mono (by decide)) (by rfl) T.g_standing_behind T.F_standing_behind.kp T.b_standing_behind (sl_cons (sv_nm 4) (sl_cons (sv_tup (sl_nil)) (sl_cons (sv_nm 6) (sl_cons (sv_nm 7) (sl_nil))))))) (sl_cons (sv_tup (sl_nil)) (sl_nil))))))) (ss_one (ss_ret (SV_sr (sv_bl)))) (ss_nil))
        (ss_cons (ss_set 9 sc_law.nd (sr_c0 (ok_law_behind_all T) (hr.mono (by decide)) (by rfl) T.g_law_behind_all T.F_law_behind_all.kp T.b_law_behind_all (sl_cons (sv_nm 4) (sl_cons (sv_nm 8) (sl_cons (sv_nm 6) (sl_cons (sv_nm 7) (sl_nil)))))))
        (ss_one (ss_ret (sr_c0 (ok_law_same T 8) (hr.mono (by decide)) (by rfl) T.g_law_same T.F_law_same.kp T.b_law_same (sl_cons (SR_sv (sr_c0 (ok_standing_behind T) (hr.mono (by decide)) (by rfl) T.g_standing_behind T.F_standing_behind.kp T.b_standing_behind (sl_cons (sv_nm 4) (sl_cons (sv_nm 8) (sl_cons (sv_nm 6) (sl_cons (sv_nm 7) (sl_nil))))))) (sl_cons (sv_nm 9) (sl_nil))))))))))))))))
end
/-! ### the end -/
def spL (K : PySem.W.Frag) : Sp := fun vs H Q _ => ∃ (a : Addr) (ns : List Int), vs = [.ref a] ∧ SqL K H a (ns.map V.int) ∧ ns.length ≤ 63 ∧ ∀ H', Q (.bl true) H'
theorem ok_end {P : Program} {w : World} {K : PySem.W.Frag} {mg : Str → Option Value} {base : Heap} (T : Tx K mg) (main : ∀ ns : List Int, ns.length ≤ 63 → m_law [.scr ns] = some (.val (.bl true))) : FnOk P w K mg base CX0 10 T.a_law T.fd_law ["script"] (spL K) :=
  (ok_law T).imp fun vs H Q E ⟨a, ns, e, hS, hl, q⟩ => ⟨H, [.scr ns], _, fun _ _ h => h, by subst e; exact ⟨_, _, rfl, ⟨a, rfl, hS⟩, rfl⟩, main ns hl, fun x G' H' _ _ r => by cases (show x = V.bl true from r); exact q H'⟩
theorem all_mk {l : PySem.W.OpenLaw} {w : World} {K : PySem.W.Frag} {h : Heap} {mg : Str → Option Value} {fa : Addr} (main : ∀ ns : List Int, ns.length ≤ 63 → m_law [.scr ns] = some (.val (.bl true))) (X : K.In h) (G : h.Ns mainGlobals mg) (hfa : mg "law" = some (.ref fa))
    {f0 f1 f2 f3 f4 f5 f6 f7 f8 f9 f10 f11 f12 f13 f14 f15 f16 f17 f18 f19 f20 f21 f22 f23 f24 f25 f26 f27 f28 f29 f30 f31 f32 : Addr} {od0 an0 od1 an1 od2 an2 od3 an3 od4 an4 od5 an5 od6 an6 od7 an7 od8 an8 od9 an9 od10 an10 od11 an11 od12 an12 od13 an13 od14 an14 od15 an15 od16 an16 od17 an17 od18 an18 od19 an19 od20 an20 od21 an21 od22 an22 od23 an23 od24 an24 od25 an25 od26 an26 od27 an27 od28 an28 od29 an29 od30 an30 od31 an31 od32 an32 : Option Addr} {sl0 sl1 sl2 sl3 sl4 sl5 sl6 sl7 sl8 sl9 sl10 sl11 sl12 sl13 sl14 sl15 sl16 sl17 sl18 sl19 sl20 sl21 sl22 sl23 sl24 sl25 sl26 sl27 sl28 sl29 sl30 sl31 sl32 : Array (Option Value)} {oc0 kV0 dc0 pm0 cd0 ct0 oc1 kV1 dc1 pm1 cd1 ct1 oc2 kV2 dc2 pm2 cd2 ct2 oc3 kV3 dc3 pm3 cd3 ct3 oc4 kV4 dc4 pm4 cd4 ct4 oc5 kV5 dc5 pm5 cd5 ct5 oc6 kV6 dc6 pm6 cd6 ct6 oc7 kV7 dc7 pm7 cd7 ct7 oc8 kV8 dc8 pm8 cd8 ct8 oc9 kV9 dc9 pm9 cd9 ct9 oc10 kV10 dc10 pm10 cd10 ct10 oc11 kV11 dc11 pm11 cd11 ct11 oc12 kV12 dc12 pm12 cd12 ct12 oc13 kV13 dc13 pm13 cd13 ct13 oc14 kV14 dc14 pm14 cd14 ct14 oc15 kV15 dc15 pm15 cd15 ct15 oc16 kV16 dc16 pm16 cd16 ct16 oc17 kV17 dc17 pm17 cd17 ct17 oc18 kV18 dc18 pm18 cd18 ct18 oc19 kV19 dc19 pm19 cd19 ct19 oc20 kV20 dc20 pm20 cd20 ct20 oc21 kV21 dc21 pm21 cd21 ct21 oc22 kV22 dc22 pm22 cd22 ct22 oc23 kV23 dc23 pm23 cd23 ct23 oc24 kV24 dc24 pm24 cd24 ct24 oc25 kV25 dc25 pm25 cd25 ct25 oc26 kV26 dc26 pm26 cd26 ct26 oc27 kV27 dc27 pm27 cd27 ct27 oc28 kV28 dc28 pm28 cd28 ct28 oc29 kV29 dc29 pm29 cd29 ct29 oc30 kV30 dc30 pm30 cd30 ct30 oc31 kV31 dc31 pm31 cd31 ct31 oc32 kV32 dc32 pm32 cd32 ct32 : Value}
    (a0 : PySem.W.nsIn K mainGlobals "_law_take" = some (some (.ref f0))) (l0 : K.lookup f0 = some ⟨oc0, od0, .func (PySem.W.fnOf "_law_take" "_law_take" (defArgs s_law_take) (defBody s_law_take) (defScope s_law_take) .none kV0 dc0 pm0 an0 cd0 ct0), sl0⟩) (c0 : PySem.W.codeIn K cd0 "_law_take" = true) (k0 : PySem.W.keepIn K (.ref f0) = true)
    (a1 : PySem.W.nsIn K mainGlobals "_law_pick" = some (some (.ref f1))) (l1 : K.lookup f1 = some ⟨oc1, od1, .func (PySem.W.fnOf "_law_pick" "_law_pick" (defArgs s_law_pick) (defBody s_law_pick) (defScope s_law_pick) .none kV1 dc1 pm1 an1 cd1 ct1), sl1⟩) (c1 : PySem.W.codeIn K cd1 "_law_pick" = true) (k1 : PySem.W.keepIn K (.ref f1) = true)
    (a2 : PySem.W.nsIn K mainGlobals "_law_base" = some (some (.ref f2))) (l2 : K.lookup f2 = some ⟨oc2, od2, .func (PySem.W.fnOf "_law_base" "_law_base" (defArgs s_law_base) (defBody s_law_base) (defScope s_law_base) .none kV2 dc2 pm2 an2 cd2 ct2), sl2⟩) (c2 : PySem.W.codeIn K cd2 "_law_base" = true) (k2 : PySem.W.keepIn K (.ref f2) = true)
    (a3 : PySem.W.nsIn K mainGlobals "_law_goal" = some (some (.ref f3))) (l3 : K.lookup f3 = some ⟨oc3, od3, .func (PySem.W.fnOf "_law_goal" "_law_goal" (defArgs s_law_goal) (defBody s_law_goal) (defScope s_law_goal) .none kV3 dc3 pm3 an3 cd3 ct3), sl3⟩) (c3 : PySem.W.codeIn K cd3 "_law_goal" = true) (k3 : PySem.W.keepIn K (.ref f3) = true)
    (a4 : PySem.W.nsIn K mainGlobals "_law_sight" = some (some (.ref f4))) (l4 : K.lookup f4 = some ⟨oc4, od4, .func (PySem.W.fnOf "_law_sight" "_law_sight" (defArgs s_law_sight) (defBody s_law_sight) (defScope s_law_sight) .none kV4 dc4 pm4 an4 cd4 ct4), sl4⟩) (c4 : PySem.W.codeIn K cd4 "_law_sight" = true) (k4 : PySem.W.keepIn K (.ref f4) = true)
    (a5 : PySem.W.nsIn K mainGlobals "_law_behind_all" = some (some (.ref f5))) (l5 : K.lookup f5 = some ⟨oc5, od5, .func (PySem.W.fnOf "_law_behind_all" "_law_behind_all" (defArgs s_law_behind_all) (defBody s_law_behind_all) (defScope s_law_behind_all) .none kV5 dc5 pm5 an5 cd5 ct5), sl5⟩) (c5 : PySem.W.codeIn K cd5 "_law_behind_all" = true) (k5 : PySem.W.keepIn K (.ref f5) = true)
    (a6 : PySem.W.nsIn K mainGlobals "_law_draws" = some (some (.ref f6))) (l6 : K.lookup f6 = some ⟨oc6, od6, .func (PySem.W.fnOf "_law_draws" "_law_draws" (defArgs s_law_draws) (defBody s_law_draws) (defScope s_law_draws) .none kV6 dc6 pm6 an6 cd6 ct6), sl6⟩) (c6 : PySem.W.codeIn K cd6 "_law_draws" = true) (k6 : PySem.W.keepIn K (.ref f6) = true)
    (a7 : PySem.W.nsIn K mainGlobals "_law_shuffled" = some (some (.ref f7))) (l7 : K.lookup f7 = some ⟨oc7, od7, .func (PySem.W.fnOf "_law_shuffled" "_law_shuffled" (defArgs s_law_shuffled) (defBody s_law_shuffled) (defScope s_law_shuffled) .none kV7 dc7 pm7 an7 cd7 ct7), sl7⟩) (c7 : PySem.W.codeIn K cd7 "_law_shuffled" = true) (k7 : PySem.W.keepIn K (.ref f7) = true)
    (a8 : PySem.W.nsIn K mainGlobals "_law_lift" = some (some (.ref f8))) (l8 : K.lookup f8 = some ⟨oc8, od8, .func (PySem.W.fnOf "_law_lift" "_law_lift" (defArgs s_law_lift) (defBody s_law_lift) (defScope s_law_lift) .none kV8 dc8 pm8 an8 cd8 ct8), sl8⟩) (c8 : PySem.W.codeIn K cd8 "_law_lift" = true) (k8 : PySem.W.keepIn K (.ref f8) = true)
    (a9 : PySem.W.nsIn K mainGlobals "_law_words" = some (some (.ref f9))) (l9 : K.lookup f9 = some ⟨oc9, od9, .func (PySem.W.fnOf "_law_words" "_law_words" (defArgs s_law_words) (defBody s_law_words) (defScope s_law_words) .none kV9 dc9 pm9 an9 cd9 ct9), sl9⟩) (c9 : PySem.W.codeIn K cd9 "_law_words" = true) (k9 : PySem.W.keepIn K (.ref f9) = true)
    (a10 : PySem.W.nsIn K mainGlobals "_law_like_words" = some (some (.ref f10))) (l10 : K.lookup f10 = some ⟨oc10, od10, .func (PySem.W.fnOf "_law_like_words" "_law_like_words" (defArgs s_law_like_words) (defBody s_law_like_words) (defScope s_law_like_words) .none kV10 dc10 pm10 an10 cd10 ct10), sl10⟩) (c10 : PySem.W.codeIn K cd10 "_law_like_words" = true) (k10 : PySem.W.keepIn K (.ref f10) = true)
    (a11 : PySem.W.nsIn K mainGlobals "_law_put" = some (some (.ref f11))) (l11 : K.lookup f11 = some ⟨oc11, od11, .func (PySem.W.fnOf "_law_put" "_law_put" (defArgs s_law_put) (defBody s_law_put) (defScope s_law_put) .none kV11 dc11 pm11 an11 cd11 ct11), sl11⟩) (c11 : PySem.W.codeIn K cd11 "_law_put" = true) (k11 : PySem.W.keepIn K (.ref f11) = true)
    (a12 : PySem.W.nsIn K mainGlobals "_law_other_sight" = some (some (.ref f12))) (l12 : K.lookup f12 = some ⟨oc12, od12, .func (PySem.W.fnOf "_law_other_sight" "_law_other_sight" (defArgs s_law_other_sight) (defBody s_law_other_sight) (defScope s_law_other_sight) .none kV12 dc12 pm12 an12 cd12 ct12), sl12⟩) (c12 : PySem.W.codeIn K cd12 "_law_other_sight" = true) (k12 : PySem.W.keepIn K (.ref f12) = true)
    (a13 : PySem.W.nsIn K mainGlobals "_law_same" = some (some (.ref f13))) (l13 : K.lookup f13 = some ⟨oc13, od13, .func (PySem.W.fnOf "_law_same" "_law_same" (defArgs s_law_same) (defBody s_law_same) (defScope s_law_same) .none kV13 dc13 pm13 an13 cd13 ct13), sl13⟩) (c13 : PySem.W.codeIn K cd13 "_law_same" = true) (k13 : PySem.W.keepIn K (.ref f13) = true)
    (a14 : PySem.W.nsIn K mainGlobals "_law_shown" = some (some (.ref f14))) (l14 : K.lookup f14 = some ⟨oc14, od14, .func (PySem.W.fnOf "_law_shown" "_law_shown" (defArgs s_law_shown) (defBody s_law_shown) (defScope s_law_shown) .none kV14 dc14 pm14 an14 cd14 ct14), sl14⟩) (c14 : PySem.W.codeIn K cd14 "_law_shown" = true) (k14 : PySem.W.keepIn K (.ref f14) = true)
    (a15 : PySem.W.nsIn K mainGlobals "_law_plus" = some (some (.ref f15))) (l15 : K.lookup f15 = some ⟨oc15, od15, .func (PySem.W.fnOf "_law_plus" "_law_plus" (defArgs s_law_plus) (defBody s_law_plus) (defScope s_law_plus) .none kV15 dc15 pm15 an15 cd15 ct15), sl15⟩) (c15 : PySem.W.codeIn K cd15 "_law_plus" = true) (k15 : PySem.W.keepIn K (.ref f15) = true)
    (a16 : PySem.W.nsIn K mainGlobals "_law_side" = some (some (.ref f16))) (l16 : K.lookup f16 = some ⟨oc16, od16, .func (PySem.W.fnOf "_law_side" "_law_side" (defArgs s_law_side) (defBody s_law_side) (defScope s_law_side) .none kV16 dc16 pm16 an16 cd16 ct16), sl16⟩) (c16 : PySem.W.codeIn K cd16 "_law_side" = true) (k16 : PySem.W.keepIn K (.ref f16) = true)
    (a17 : PySem.W.nsIn K mainGlobals "_law_end" = some (some (.ref f17))) (l17 : K.lookup f17 = some ⟨oc17, od17, .func (PySem.W.fnOf "_law_end" "_law_end" (defArgs s_law_end) (defBody s_law_end) (defScope s_law_end) .none kV17 dc17 pm17 an17 cd17 ct17), sl17⟩) (c17 : PySem.W.codeIn K cd17 "_law_end" = true) (k17 : PySem.W.keepIn K (.ref f17) = true)
    (a18 : PySem.W.nsIn K mainGlobals "_law_misfit" = some (some (.ref f18))) (l18 : K.lookup f18 = some ⟨oc18, od18, .func (PySem.W.fnOf "_law_misfit" "_law_misfit" (defArgs s_law_misfit) (defBody s_law_misfit) (defScope s_law_misfit) .none kV18 dc18 pm18 an18 cd18 ct18), sl18⟩) (c18 : PySem.W.codeIn K cd18 "_law_misfit" = true) (k18 : PySem.W.keepIn K (.ref f18) = true)
    (a19 : PySem.W.nsIn K mainGlobals "sight_at" = some (some (.ref f19))) (l19 : K.lookup f19 = some ⟨oc19, od19, .func (PySem.W.fnOf "sight_at" "sight_at" (defArgs s_sight_at) (defBody s_sight_at) (defScope s_sight_at) .none kV19 dc19 pm19 an19 cd19 ct19), sl19⟩) (c19 : PySem.W.codeIn K cd19 "sight_at" = true) (k19 : PySem.W.keepIn K (.ref f19) = true)
    (a20 : PySem.W.nsIn K mainGlobals "step_from" = some (some (.ref f20))) (l20 : K.lookup f20 = some ⟨oc20, od20, .func (PySem.W.fnOf "step_from" "step_from" (defArgs s_step_from) (defBody s_step_from) (defScope s_step_from) .none kV20 dc20 pm20 an20 cd20 ct20), sl20⟩) (c20 : PySem.W.codeIn K cd20 "step_from" = true) (k20 : PySem.W.keepIn K (.ref f20) = true)
    (a21 : PySem.W.nsIn K mainGlobals "sights_along" = some (some (.ref f21))) (l21 : K.lookup f21 = some ⟨oc21, od21, .func (PySem.W.fnOf "sights_along" "sights_along" (defArgs s_sights_along) (defBody s_sights_along) (defScope s_sights_along) .none kV21 dc21 pm21 an21 cd21 ct21), sl21⟩) (c21 : PySem.W.codeIn K cd21 "sights_along" = true) (k21 : PySem.W.keepIn K (.ref f21) = true)
    (a22 : PySem.W.nsIn K mainGlobals "fitting_places" = some (some (.ref f22))) (l22 : K.lookup f22 = some ⟨oc22, od22, .func (PySem.W.fnOf "fitting_places" "fitting_places" (defArgs s_fitting_places) (defBody s_fitting_places) (defScope s_fitting_places) .none kV22 dc22 pm22 an22 cd22 ct22), sl22⟩) (c22 : PySem.W.codeIn K cd22 "fitting_places" = true) (k22 : PySem.W.keepIn K (.ref f22) = true)
    (a23 : PySem.W.nsIn K mainGlobals "misfit_of" = some (some (.ref f23))) (l23 : K.lookup f23 = some ⟨oc23, od23, .func (PySem.W.fnOf "misfit_of" "misfit_of" (defArgs s_misfit_of) (defBody s_misfit_of) (defScope s_misfit_of) .none kV23 dc23 pm23 an23 cd23 ct23), sl23⟩) (c23 : PySem.W.codeIn K cd23 "misfit_of" = true) (k23 : PySem.W.keepIn K (.ref f23) = true)
    (a24 : PySem.W.nsIn K mainGlobals "index_set" = some (some (.ref f24))) (l24 : K.lookup f24 = some ⟨oc24, od24, .func (PySem.W.fnOf "index_set" "index_set" (defArgs s_index_set) (defBody s_index_set) (defScope s_index_set) .none kV24 dc24 pm24 an24 cd24 ct24), sl24⟩) (c24 : PySem.W.codeIn K cd24 "index_set" = true) (k24 : PySem.W.keepIn K (.ref f24) = true)
    (a25 : PySem.W.nsIn K mainGlobals "standing_behind" = some (some (.ref f25))) (l25 : K.lookup f25 = some ⟨oc25, od25, .func (PySem.W.fnOf "standing_behind" "standing_behind" (defArgs s_standing_behind) (defBody s_standing_behind) (defScope s_standing_behind) .none kV25 dc25 pm25 an25 cd25 ct25), sl25⟩) (c25 : PySem.W.codeIn K cd25 "standing_behind" = true) (k25 : PySem.W.keepIn K (.ref f25) = true)
    (a26 : PySem.W.nsIn K mainGlobals "led_to" = some (some (.ref f26))) (l26 : K.lookup f26 = some ⟨oc26, od26, .func (PySem.W.fnOf "led_to" "led_to" (defArgs s_led_to) (defBody s_led_to) (defScope s_led_to) .none kV26 dc26 pm26 an26 cd26 ct26), sl26⟩) (c26 : PySem.W.codeIn K cd26 "led_to" = true) (k26 : PySem.W.keepIn K (.ref f26) = true)
    (a27 : PySem.W.nsIn K mainGlobals "standing_places" = some (some (.ref f27))) (l27 : K.lookup f27 = some ⟨oc27, od27, .func (PySem.W.fnOf "standing_places" "standing_places" (defArgs s_standing_places) (defBody s_standing_places) (defScope s_standing_places) .none kV27 dc27 pm27 an27 cd27 ct27), sl27⟩) (c27 : PySem.W.codeIn K cd27 "standing_places" = true) (k27 : PySem.W.keepIn K (.ref f27) = true)
    (a28 : PySem.W.nsIn K mainGlobals "surely_at" = some (some (.ref f28))) (l28 : K.lookup f28 = some ⟨oc28, od28, .func (PySem.W.fnOf "surely_at" "surely_at" (defArgs s_surely_at) (defBody s_surely_at) (defScope s_surely_at) .none kV28 dc28 pm28 an28 cd28 ct28), sl28⟩) (c28 : PySem.W.codeIn K cd28 "surely_at" = true) (k28 : PySem.W.keepIn K (.ref f28) = true)
    (a29 : PySem.W.nsIn K mainGlobals "_law_stands_so" = some (some (.ref f29))) (l29 : K.lookup f29 = some ⟨oc29, od29, .func (PySem.W.fnOf "_law_stands_so" "_law_stands_so" (defArgs s_law_stands_so) (defBody s_law_stands_so) (defScope s_law_stands_so) .none kV29 dc29 pm29 an29 cd29 ct29), sl29⟩) (c29 : PySem.W.codeIn K cd29 "_law_stands_so" = true) (k29 : PySem.W.keepIn K (.ref f29) = true)
    (a30 : PySem.W.nsIn K mainGlobals "_law_opens" = some (some (.ref f30))) (l30 : K.lookup f30 = some ⟨oc30, od30, .func (PySem.W.fnOf "_law_opens" "_law_opens" (defArgs s_law_opens) (defBody s_law_opens) (defScope s_law_opens) .none kV30 dc30 pm30 an30 cd30 ct30), sl30⟩) (c30 : PySem.W.codeIn K cd30 "_law_opens" = true) (k30 : PySem.W.keepIn K (.ref f30) = true)
    (a31 : PySem.W.nsIn K mainGlobals "_law_walk" = some (some (.ref f31))) (l31 : K.lookup f31 = some ⟨oc31, od31, .func (PySem.W.fnOf "_law_walk" "_law_walk" (defArgs s_law_walk) (defBody s_law_walk) (defScope s_law_walk) .none kV31 dc31 pm31 an31 cd31 ct31), sl31⟩) (c31 : PySem.W.codeIn K cd31 "_law_walk" = true) (k31 : PySem.W.keepIn K (.ref f31) = true)
    (a32 : PySem.W.nsIn K mainGlobals "law" = some (some (.ref f32))) (l32 : K.lookup f32 = some ⟨oc32, od32, .func (PySem.W.fnOf "law" "law" (defArgs s_law) (defBody s_law) (defScope s_law) .none kV32 dc32 pm32 an32 cd32 ct32), sl32⟩) (c32 : PySem.W.codeIn K cd32 "law" = true) (k32 : PySem.W.keepIn K (.ref f32) = true)
    (z0 : PySem.W.nsIn K mainGlobals "bool" = some none)
    (z1 : PySem.W.nsIn K mainGlobals "enumerate" = some none)
    (z2 : PySem.W.nsIn K mainGlobals "int" = some none)
    (z3 : PySem.W.nsIn K mainGlobals "isinstance" = some none)
    (z4 : PySem.W.nsIn K mainGlobals "len" = some none)
    (z5 : PySem.W.nsIn K mainGlobals "list" = some none)
    (z6 : PySem.W.nsIn K mainGlobals "max" = some none)
    (z7 : PySem.W.nsIn K mainGlobals "range" = some none)
    (z8 : PySem.W.nsIn K mainGlobals "set" = some none)
    (z9 : PySem.W.nsIn K mainGlobals "sorted" = some none)
    (z10 : PySem.W.nsIn K mainGlobals "str" = some none)
    (z11 : PySem.W.nsIn K mainGlobals "tuple" = some none)
    : ∃ fd : FuncData, (∀ (s : Shared) (v : Value), BindsTo s fd ⟨[v], []⟩ [("script", v)]) ∧ ∀ base : Heap, K.In base → base.Ns mainGlobals mg → FnOk l.prog w K mg base CX0 10 fa fd ["script"] (spL K) := by
  cases hfa.symm.trans (PySem.W.mg_of X G a32)
  exact ⟨_, fun s v => .of_eq rfl, fun base _ _ => ok_end (T := {
    a_law_take := f0, fd_law_take := _, F_law_take := fun_mk (st := s_law_take) l0 c0 k0, b_law_take := (fun_mk (st := s_law_take) l0 c0 k0).binds (ps := ["draws", "many"]) fun _ _ _ _ _ _ us hl => (match us, hl with | [_, _], _ => rfl), g_law_take := PySem.W.mg_of X G a0,
    a_law_pick := f1, fd_law_pick := _, F_law_pick := fun_mk (st := s_law_pick) l1 c1 k1, b_law_pick := (fun_mk (st := s_law_pick) l1 c1 k1).binds (ps := ["draws", "row"]) fun _ _ _ _ _ _ us hl => (match us, hl with | [_, _], _ => rfl), g_law_pick := PySem.W.mg_of X G a1,
    a_law_base := f2, fd_law_base := _, F_law_base := fun_mk (st := s_law_base) l2 c2 k2, b_law_base := (fun_mk (st := s_law_base) l2 c2 k2).binds (ps := ["draws", "most", "doors", "words"]) fun _ _ _ _ _ _ us hl => (match us, hl with | [_, _, _, _], _ => rfl), g_law_base := PySem.W.mg_of X G a2,
    a_law_goal := f3, fd_law_goal := _, F_law_goal := fun_mk (st := s_law_goal) l3 c3 k3, b_law_goal := (fun_mk (st := s_law_goal) l3 c3 k3).binds (ps := ["town", "place", "door"]) fun _ _ _ _ _ _ us hl => (match us, hl with | [_, _, _], _ => rfl), g_law_goal := PySem.W.mg_of X G a3,
    a_law_sight := f4, fd_law_sight := _, F_law_sight := fun_mk (st := s_law_sight) l4 c4 k4, b_law_sight := (fun_mk (st := s_law_sight) l4 c4 k4).binds (ps := ["town", "place"]) fun _ _ _ _ _ _ us hl => (match us, hl with | [_, _], _ => rfl), g_law_sight := PySem.W.mg_of X G a4,
    a_law_behind_all := f5, fd_law_behind_all := _, F_law_behind_all := fun_mk (st := s_law_behind_all) l5 c5 k5, b_law_behind_all := (fun_mk (st := s_law_behind_all) l5 c5 k5).binds (ps := ["town", "places", "door", "sight"]) fun _ _ _ _ _ _ us hl => (match us, hl with | [_, _, _, _], _ => rfl), g_law_behind_all := PySem.W.mg_of X G a5,
    a_law_draws := f6, fd_law_draws := _, F_law_draws := fun_mk (st := s_law_draws) l6 c6 k6, b_law_draws := (fun_mk (st := s_law_draws) l6 c6 k6).binds (ps := ["script", "many"]) fun _ _ _ _ _ _ us hl => (match us, hl with | [_, _], _ => rfl), g_law_draws := PySem.W.mg_of X G a6,
    a_law_shuffled := f7, fd_law_shuffled := _, F_law_shuffled := fun_mk (st := s_law_shuffled) l7 c7 k7, b_law_shuffled := (fun_mk (st := s_law_shuffled) l7 c7 k7).binds (ps := ["draws", "row"]) fun _ _ _ _ _ _ us hl => (match us, hl with | [_, _], _ => rfl), g_law_shuffled := PySem.W.mg_of X G a7,
    a_law_lift := f8, fd_law_lift := _, F_law_lift := fun_mk (st := s_law_lift) l8 c8 k8, b_law_lift := (fun_mk (st := s_law_lift) l8 c8 k8).binds (ps := ["draws", "town", "most"]) fun _ _ _ _ _ _ us hl => (match us, hl with | [_, _, _], _ => rfl), g_law_lift := PySem.W.mg_of X G a8,
    a_law_words := f9, fd_law_words := _, F_law_words := fun_mk (st := s_law_words) l9 c9 k9, b_law_words := (fun_mk (st := s_law_words) l9 c9 k9).binds (ps := ["draws", "many"]) fun _ _ _ _ _ _ us hl => (match us, hl with | [_, _], _ => rfl), g_law_words := PySem.W.mg_of X G a9,
    a_law_like_words := f10, fd_law_like_words := _, F_law_like_words := fun_mk (st := s_law_like_words) l10 c10 k10, b_law_like_words := (fun_mk (st := s_law_like_words) l10 c10 k10).binds (ps := ["draws", "many"]) fun _ _ _ _ _ _ us hl => (match us, hl with | [_, _], _ => rfl), g_law_like_words := PySem.W.mg_of X G a10,
    a_law_put := f11, fd_law_put := _, F_law_put := fun_mk (st := s_law_put) l11 c11 k11, b_law_put := (fun_mk (st := s_law_put) l11 c11 k11).binds (ps := ["row", "k", "thing"]) fun _ _ _ _ _ _ us hl => (match us, hl with | [_, _, _], _ => rfl), g_law_put := PySem.W.mg_of X G a11,
    a_law_other_sight := f12, fd_law_other_sight := _, F_law_other_sight := fun_mk (st := s_law_other_sight) l12 c12 k12, b_law_other_sight := (fun_mk (st := s_law_other_sight) l12 c12 k12).binds (ps := ["draws", "town", "sight"]) fun _ _ _ _ _ _ us hl => (match us, hl with | [_, _, _], _ => rfl), g_law_other_sight := PySem.W.mg_of X G a12,
    a_law_same := f13, fd_law_same := _, F_law_same := fun_mk (st := s_law_same) l13 c13 k13, b_law_same := (fun_mk (st := s_law_same) l13 c13 k13).binds (ps := ["actual", "due"]) fun _ _ _ _ _ _ us hl => (match us, hl with | [_, _], _ => rfl), g_law_same := PySem.W.mg_of X G a13,
    a_law_shown := f14, fd_law_shown := _, F_law_shown := fun_mk (st := s_law_shown) l14 c14 k14, b_law_shown := (fun_mk (st := s_law_shown) l14 c14 k14).binds (ps := ["town", "place", "walk"]) fun _ _ _ _ _ _ us hl => (match us, hl with | [_, _, _], _ => rfl), g_law_shown := PySem.W.mg_of X G a14,
    a_law_plus := f15, fd_law_plus := _, F_law_plus := fun_mk (st := s_law_plus) l15 c15 k15, b_law_plus := (fun_mk (st := s_law_plus) l15 c15 k15).binds (ps := ["goal", "by"]) fun _ _ _ _ _ _ us hl => (match us, hl with | [_, _], _ => rfl), g_law_plus := PySem.W.mg_of X G a15,
    a_law_side := f16, fd_law_side := _, F_law_side := fun_mk (st := s_law_side) l16 c16 k16, b_law_side := (fun_mk (st := s_law_side) l16 c16 k16).binds (ps := ["one", "other"]) fun _ _ _ _ _ _ us hl => (match us, hl with | [_, _], _ => rfl), g_law_side := PySem.W.mg_of X G a16,
    a_law_end := f17, fd_law_end := _, F_law_end := fun_mk (st := s_law_end) l17 c17 k17, b_law_end := (fun_mk (st := s_law_end) l17 c17 k17).binds (ps := ["town", "place", "walk"]) fun _ _ _ _ _ _ us hl => (match us, hl with | [_, _, _], _ => rfl), g_law_end := PySem.W.mg_of X G a17,
    a_law_misfit := f18, fd_law_misfit := _, F_law_misfit := fun_mk (st := s_law_misfit) l18 c18 k18, b_law_misfit := (fun_mk (st := s_law_misfit) l18 c18 k18).binds (ps := ["town", "walk", "seen", "place"]) fun _ _ _ _ _ _ us hl => (match us, hl with | [_, _, _, _], _ => rfl), g_law_misfit := PySem.W.mg_of X G a18,
    a_sight_at := f19, fd_sight_at := _, F_sight_at := fun_mk (st := s_sight_at) l19 c19 k19, b_sight_at := (fun_mk (st := s_sight_at) l19 c19 k19).binds (ps := ["town", "place"]) fun _ _ _ _ _ _ us hl => (match us, hl with | [_, _], _ => rfl), g_sight_at := PySem.W.mg_of X G a19,
    a_step_from := f20, fd_step_from := _, F_step_from := fun_mk (st := s_step_from) l20 c20 k20, b_step_from := (fun_mk (st := s_step_from) l20 c20 k20).binds (ps := ["town", "place", "door"]) fun _ _ _ _ _ _ us hl => (match us, hl with | [_, _, _], _ => rfl), g_step_from := PySem.W.mg_of X G a20,
    a_sights_along := f21, fd_sights_along := _, F_sights_along := fun_mk (st := s_sights_along) l21 c21 k21, b_sights_along := (fun_mk (st := s_sights_along) l21 c21 k21).binds (ps := ["town", "place", "walk"]) fun _ _ _ _ _ _ us hl => (match us, hl with | [_, _, _], _ => rfl), g_sights_along := PySem.W.mg_of X G a21,
    a_fitting_places := f22, fd_fitting_places := _, F_fitting_places := fun_mk (st := s_fitting_places) l22 c22 k22, b_fitting_places := (fun_mk (st := s_fitting_places) l22 c22 k22).binds (ps := ["town", "walk", "seen"]) fun _ _ _ _ _ _ us hl => (match us, hl with | [_, _, _], _ => rfl), g_fitting_places := PySem.W.mg_of X G a22,
    a_misfit_of := f23, fd_misfit_of := _, F_misfit_of := fun_mk (st := s_misfit_of) l23 c23 k23, b_misfit_of := (fun_mk (st := s_misfit_of) l23 c23 k23).binds (ps := ["town", "walk", "seen", "place"]) fun _ _ _ _ _ _ us hl => (match us, hl with | [_, _, _, _], _ => rfl), g_misfit_of := PySem.W.mg_of X G a23,
    a_index_set := f24, fd_index_set := _, F_index_set := fun_mk (st := s_index_set) l24 c24 k24, b_index_set := (fun_mk (st := s_index_set) l24 c24 k24).binds (ps := ["places"]) fun _ _ _ _ _ _ us hl => (match us, hl with | [_], _ => rfl), g_index_set := PySem.W.mg_of X G a24,
    a_standing_behind := f25, fd_standing_behind := _, F_standing_behind := fun_mk (st := s_standing_behind) l25 c25 k25, b_standing_behind := (fun_mk (st := s_standing_behind) l25 c25 k25).binds (ps := ["town", "places", "door", "sight"]) fun _ _ _ _ _ _ us hl => (match us, hl with | [_, _, _, _], _ => rfl), g_standing_behind := PySem.W.mg_of X G a25,
    a_led_to := f26, fd_led_to := _, F_led_to := fun_mk (st := s_led_to) l26 c26 k26, b_led_to := (fun_mk (st := s_led_to) l26 c26 k26).binds (ps := ["town", "place", "walk"]) fun _ _ _ _ _ _ us hl => (match us, hl with | [_, _, _], _ => rfl), g_led_to := PySem.W.mg_of X G a26,
    a_standing_places := f27, fd_standing_places := _, F_standing_places := fun_mk (st := s_standing_places) l27 c27 k27, b_standing_places := (fun_mk (st := s_standing_places) l27 c27 k27).binds (ps := ["town", "walk", "seen"]) fun _ _ _ _ _ _ us hl => (match us, hl with | [_, _, _], _ => rfl), g_standing_places := PySem.W.mg_of X G a27,
    a_surely_at := f28, fd_surely_at := _, F_surely_at := fun_mk (st := s_surely_at) l28 c28 k28, b_surely_at := (fun_mk (st := s_surely_at) l28 c28 k28).binds (ps := ["town", "walk", "seen"]) fun _ _ _ _ _ _ us hl => (match us, hl with | [_, _, _], _ => rfl), g_surely_at := PySem.W.mg_of X G a28,
    a_law_stands_so := f29, fd_law_stands_so := _, F_law_stands_so := fun_mk (st := s_law_stands_so) l29 c29 k29, b_law_stands_so := (fun_mk (st := s_law_stands_so) l29 c29 k29).binds (ps := ["town", "walk", "seen"]) fun _ _ _ _ _ _ us hl => (match us, hl with | [_, _, _], _ => rfl), g_law_stands_so := PySem.W.mg_of X G a29,
    a_law_opens := f30, fd_law_opens := _, F_law_opens := fun_mk (st := s_law_opens) l30 c30 k30, b_law_opens := (fun_mk (st := s_law_opens) l30 c30 k30).binds (ps := ["town", "place"]) fun _ _ _ _ _ _ us hl => (match us, hl with | [_, _], _ => rfl), g_law_opens := PySem.W.mg_of X G a30,
    a_law_walk := f31, fd_law_walk := _, F_law_walk := fun_mk (st := s_law_walk) l31 c31 k31, b_law_walk := (fun_mk (st := s_law_walk) l31 c31 k31).binds (ps := ["draws", "town", "place", "most"]) fun _ _ _ _ _ _ us hl => (match us, hl with | [_, _, _, _], _ => rfl), g_law_walk := PySem.W.mg_of X G a31,
    a_law := _, fd_law := _, F_law := fun_mk (st := s_law) l32 c32 k32, b_law := (fun_mk (st := s_law) l32 c32 k32).binds (ps := ["script"]) fun _ _ _ _ _ _ us hl => (match us, hl with | [_], _ => rfl), g_law := PySem.W.mg_of X G a32,
    n_bool := PySem.W.mg_none_of X G z0,
    n_enumerate := PySem.W.mg_none_of X G z1,
    n_int := PySem.W.mg_none_of X G z2,
    n_isinstance := PySem.W.mg_none_of X G z3,
    n_len := PySem.W.mg_none_of X G z4,
    n_list := PySem.W.mg_none_of X G z5,
    n_max := PySem.W.mg_none_of X G z6,
    n_range := PySem.W.mg_none_of X G z7,
    n_set := PySem.W.mg_none_of X G z8,
    n_sorted := PySem.W.mg_none_of X G z9,
    n_str := PySem.W.mg_none_of X G z10,
    n_tuple := PySem.W.mg_none_of X G z11 }) main⟩
end Pw
end
open PySem PySem.W PyProof.Rows
set_option maxRecDepth 100000 in
set_option maxHeartbeats 0 in
theorem PySem.Challenge.cw_mapwalked_k01_misfits_late_holds : PySem.Challenge.rw_mapwalked_k01_misfits_late.Holds := by
  w_on; o_law; k_head; (case hw => w_witness2)
  k_fill
  refine L2.walk_of (l := PySem.Challenge.rw_mapwalked_k01_misfits_late) (n := 63) (k := 10) (x := "script") (CX := fun _ => L2.CX0) (sp := fun w => Pw.spL _) rfl (by decide) rfl ⟨rfl, by decide, by decide⟩ (fun w h Y => PySem.W.kIn_of Y) ?F (fun _ _ a ns hl _ hS => ⟨a, ns, rfl, hS, hl, fun _ => rfl⟩) (fun _ _ _ _ _ h => h)
  case F =>
    intro w mg fa h KX G hmg
    refine' Pw.all_mk Pw.main KX G hmg ?a0 ?l0 ?c0 ?k0 ?a1 ?l1 ?c1 ?k1 ?a2 ?l2 ?c2 ?k2 ?a3 ?l3 ?c3 ?k3 ?a4 ?l4 ?c4 ?k4 ?a5 ?l5 ?c5 ?k5 ?a6 ?l6 ?c6 ?k6 ?a7 ?l7 ?c7 ?k7 ?a8 ?l8 ?c8 ?k8 ?a9 ?l9 ?c9 ?k9 ?a10 ?l10 ?c10 ?k10 ?a11 ?l11 ?c11 ?k11 ?a12 ?l12 ?c12 ?k12 ?a13 ?l13 ?c13 ?k13 ?a14 ?l14 ?c14 ?k14 ?a15 ?l15 ?c15 ?k15 ?a16 ?l16 ?c16 ?k16 ?a17 ?l17 ?c17 ?k17 ?a18 ?l18 ?c18 ?k18 ?a19 ?l19 ?c19 ?k19 ?a20 ?l20 ?c20 ?k20 ?a21 ?l21 ?c21 ?k21 ?a22 ?l22 ?c22 ?k22 ?a23 ?l23 ?c23 ?k23 ?a24 ?l24 ?c24 ?k24 ?a25 ?l25 ?c25 ?k25 ?a26 ?l26 ?c26 ?k26 ?a27 ?l27 ?c27 ?k27 ?a28 ?l28 ?c28 ?k28 ?a29 ?l29 ?c29 ?k29 ?a30 ?l30 ?c30 ?k30 ?a31 ?l31 ?c31 ?k31 ?a32 ?l32 ?c32 ?k32 ?z0 ?z1 ?z2 ?z3 ?z4 ?z5 ?z6 ?z7 ?z8 ?z9 ?z10 ?z11
    (case a0 => k_is); (case l0 => k_is); (case c0 => k_is); (case k0 => k_is); (case a1 => k_is); (case l1 => k_is); (case c1 => k_is); (case k1 => k_is); (case a2 => k_is); (case l2 => k_is); (case c2 => k_is); (case k2 => k_is); (case a3 => k_is); (case l3 => k_is); (case c3 => k_is); (case k3 => k_is); (case a4 => k_is); (case l4 => k_is); (case c4 => k_is); (case k4 => k_is); (case a5 => k_is); (case l5 => k_is); (case c5 => k_is); (case k5 => k_is); (case a6 => k_is); (case l6 => k_is); (case c6 => k_is); (case k6 => k_is); (case a7 => k_is); (case l7 => k_is); (case c7 => k_is); (case k7 => k_is); (case a8 => k_is); (case l8 => k_is); (case c8 => k_is); (case k8 => k_is); (case a9 => k_is); (case l9 => k_is); (case c9 => k_is); (case k9 => k_is); (case a10 => k_is); (case l10 => k_is); (case c10 => k_is); (case k10 => k_is); (case a11 => k_is); (case l11 => k_is); (case c11 => k_is); (case k11 => k_is); (case a12 => k_is); (case l12 => k_is); (case c12 => k_is); (case k12 => k_is); (case a13 => k_is); (case l13 => k_is); (case c13 => k_is); (case k13 => k_is); (case a14 => k_is); (case l14 => k_is); (case c14 => k_is); (case k14 => k_is); (case a15 => k_is); (case l15 => k_is); (case c15 => k_is); (case k15 => k_is); (case a16 => k_is); (case l16 => k_is); (case c16 => k_is); (case k16 => k_is); (case a17 => k_is); (case l17 => k_is); (case c17 => k_is); (case k17 => k_is); (case a18 => k_is); (case l18 => k_is); (case c18 => k_is); (case k18 => k_is); (case a19 => k_is); (case l19 => k_is); (case c19 => k_is); (case k19 => k_is); (case a20 => k_is); (case l20 => k_is); (case c20 => k_is); (case k20 => k_is); (case a21 => k_is); (case l21 => k_is); (case c21 => k_is); (case k21 => k_is); (case a22 => k_is); (case l22 => k_is); (case c22 => k_is); (case k22 => k_is); (case a23 => k_is); (case l23 => k_is); (case c23 => k_is); (case k23 => k_is); (case a24 => k_is); (case l24 => k_is); (case c24 => k_is); (case k24 => k_is); (case a25 => k_is); (case l25 => k_is); (case c25 => k_is); (case k25 => k_is); (case a26 => k_is); (case l26 => k_is); (case c26 => k_is); (case k26 => k_is); (case a27 => k_is); (case l27 => k_is); (case c27 => k_is); (case k27 => k_is); (case a28 => k_is); (case l28 => k_is); (case c28 => k_is); (case k28 => k_is); (case a29 => k_is); (case l29 => k_is); (case c29 => k_is); (case k29 => k_is); (case a30 => k_is); (case l30 => k_is); (case c30 => k_is); (case k30 => k_is); (case a31 => k_is); (case l31 => k_is); (case c31 => k_is); (case k31 => k_is); (case a32 => k_is); (case l32 => k_is); (case c32 => k_is); (case k32 => k_is); (case z0 => k_is); (case z1 => k_is); (case z2 => k_is); (case z3 => k_is); (case z4 => k_is); (case z5 => k_is); (case z6 => k_is); (case z7 => k_is); (case z8 => k_is); (case z9 => k_is); (case z10 => k_is); (case z11 => k_is)
