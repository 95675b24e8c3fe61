import PyProof.Rows.All
import HandS.ForMost
import HandS.Wide
import HandS.IsInst
import HandS.Zip
import HandS.Conv
import HandS.TupAny
import HandS.Lambda
import HandS.Nested
import HandS.NestedK
import HandS.Dict
import KE.KDictKeyed
import KE.KeyNested
import HandS.TupLen
import HandS.TryOnly
import KE.GoesEnum
import HandS.SortInts
import HandS.DictComp
import HandS.SetFor
import HandS.Strs
import HandS.Style
import KE.KNestM
import HandS.EndTab
import HandS.TupMul
import PySem.Challenge.RW_mapwalked_k67_closings_in_greater_towns
set_option Elab.async false
set_option linter.all false
set_option maxRecDepth 100000
set_option maxHeartbeats 4000000
noncomputable section
namespace Pw
open PySem PySem.Spec L2
open PyProof.Rows hiding St
section
/-! Pw: plain values over the hand layer. A def's body has a denotation, a function on plain values that Lean can run; each rule says that a piece of syntax does what its denotation tells. -/
/-- what is fixed through the law; T: the tables of code objects that defs with defs or lambdas in them fill -/
class Fx where
  P : Program
  w : World
  mg : Str → Option Value
  base : Heap
  T : List NdefX.NTab
variable [Fx]
/-- no table of code objects -/
def NT : HO → Prop
  | .tbl _ => False
  | _ => True
/-- plain values; dic: the keys and the values in order -/
inductive PV where
  | non | bl (b : Bool) | int (i : Int) | str (s : Str) | ty (n : String) | tup (xs : List PV) | lst (xs : List PV) | scr (ns : List Int) | dic (ks vs : List PV)
instance pvDec : DecidableEq PV := fun a b => Classical.propDecidable (a = b)
/-! ### keys of dicts -/
mutual
/-- the key that a value is, where it may stand in a tuple that is a key -/
def nk : PV → Option NestedKey
  | .non => some .none
  | .int i => some (.num i)
  | .str s => some (.text s)
  | .tup xs => match nks xs with
    | some ks => some (.tup ks)
    | none => none
  | _ => none
def nks : List PV → Option (List NestedKey)
  | [] => some []
  | x :: xs => match nk x with
    | some k => match nks xs with
      | some ks => some (k :: ks)
      | none => none
    | none => none
end
/-- a key that is a tuple -/
def tk : PV → Option NestedKey
  | .tup xs => match nks xs with
    | some ks => if (NestedKey.tup ks).depth ≤ 8 then some (.tup ks) else none
    | none => none
  | _ => none
def kPV : Key → PV
  | .inl i => .int i
  | .inr s => .str s
mutual
/-- in H the value is the key -/
inductive KIs (K : PySem.W.Frag) (H : Hp) : NestedKey → V → Prop
  | none : KIs K H .none .non
  | num (i : Int) : KIs K H (.num i) (.int i)
  | text (s : Str) : KIs K H (.text s) (.str s)
  | tup {a : Addr} {vs : List V} {ks : List NestedKey} : SqT K H a vs → KAll K H ks vs → KIs K H (.tup ks) (.ref a)
inductive KAll (K : PySem.W.Frag) (H : Hp) : List NestedKey → List V → Prop
  | nil : KAll K H [] []
  | cons {k : NestedKey} {v : V} {ks : List NestedKey} {vs : List V} : KIs K H k v → KAll K H ks vs → KAll K H (k :: ks) (v :: vs)
end
/-- the entries of a dict's object: hash, key's tuple, value -/
inductive EntR : List Int → List Addr → List V → List DictEntry → Prop
  | nil : EntR [] [] [] []
  | cons {h : Int} {b : Addr} {v : V} {u : Value} {hs : List Int} {bs : List Addr} {vs : List V} {es : List DictEntry} : RelV v u → EntR hs bs vs es → EntR (h :: hs) (b :: bs) (v :: vs) (⟨h, .ref b, u⟩ :: es)
/-- a dict whose keys are tuples -/
def NDO (a : Addr) (hs : List Int) (bs : List Addr) (us : List V) : HO := .ext fun h => ∃ (o : Obj) (es : Array DictEntry) (ep : Nat), h.get? a = some o ∧ o.ExactDict ∧ o.data = .dict es ep ∧ EntR hs bs us es.toList
/-- no table, no code object -/
def NC (o : HO) : Prop := NT o ∧ ∀ c q, o ≠ LamX.CodeO c q
theorem nc_lst (xs : List V) : NC (.lst xs) := ⟨trivial, fun c q h => by unfold LamX.CodeO at h; cases h⟩
theorem nc_dK (xs : List (Key × V)) : NC (.dK xs) := ⟨trivial, fun c q h => by unfold LamX.CodeO at h; cases h⟩
theorem nc_ndo (a : Addr) (hs : List Int) (bs : List Addr) (us : List V) : NC (NDO a hs bs us) := ⟨trivial, fun c q h => by
  unfold LamX.CodeO NDO at h
  injection h with h
  have ob : ∃ o : Obj, o = ({ cls := .none, data := .fields #[.none, .str q 0] } : Obj) := ⟨_, rfl⟩
  obtain ⟨ob, eb⟩ := ob
  let hp : Heap := { objs := (List.replicate (c + 1) ob).toArray }
  have hg : hp.get? c = some ob := by
    subst eb
    simp [hp, Heap.get?]
  have h1 := congrFun h hp
  have h2 : ∃ (oc : Obj) (vs : Array Value) (t : Tok), hp.get? c = some oc ∧ oc.data = .fields vs ∧ vs[1]? = some (.str q t) := ⟨ob, _, 0, hg, by rw [eb], rfl⟩
  rw [← h1] at h2
  obtain ⟨o, es, ep, e1, _, e2, _⟩ := h2
  have e3 : o = ob := by
    have hh := e1
    subst eb
    simp only [hp, Heap.get?] at hh
    split at hh
    · cases hh
    · rename_i o' ho _
      rw [List.getElem?_toArray, List.getElem?_replicate] at hh
      split at hh
      · exact (Option.some.inj hh).symm
      · cases hh
  rw [e3, eb] at e2
  cases e2⟩
/-- the object of a dict -/
def DicS (a : Addr) (o : HO) (kws us : List V) (ks : List PV) : Prop := us.length = ks.length ∧ ks.length ≤ sizeLine ∧
  ((∃ fk : List Key, ks = fk.map kPV ∧ fk.Nodup ∧ o = .dK (fk.zip us)) ∨
   (∃ (bs : List Addr) (nk : List NestedKey), ks ≠ [] ∧ kws = bs.map V.ref ∧ ks.map tk = nk.map some ∧ nk.Nodup ∧ (a == sysModules) = false ∧ o = NDO a (nk.map (NestedKey.hash Fx.w)) bs us))
mutual
def Rep (K : PySem.W.Frag) (G : Hp) : V → PV → Prop
  | v, .non => v = .non
  | v, .bl b => v = .bl b
  | v, .int i => v = .int i
  | v, .str s => v = .str s
  | v, .ty n => v = .ty n
  | v, .tup xs => ∃ a vs, v = .ref a ∧ SqT K G a vs ∧ Reps K G vs xs
  | v, .lst xs => ∃ a vs, v = .ref a ∧ G a = some (.lst vs) ∧ Reps K G vs xs
  | v, .scr ns => ∃ a, v = .ref a ∧ SqL K G a (ns.map V.int)
  | v, .dic ks vs => ∃ a o kws us, v = .ref a ∧ G a = some o ∧ Reps K G kws ks ∧ Reps K G us vs ∧ DicS a o kws us ks
def Reps (K : PySem.W.Frag) (G : Hp) : List V → List PV → Prop
  | vs, [] => vs = []
  | vs, x :: xs => ∃ v r, vs = v :: r ∧ Rep K G v x ∧ Reps K G r xs
end
theorem Same.seqT {K : PySem.W.Frag} {H H' : Hp} {a : Addr} {xs : List V} (e : Same H H') (h : SqT K H a xs) : SqT K H' a xs := by
  rcases h with (h | ⟨o, h⟩) | h
  · exact .inl (.inl (e _ _ h))
  · exact .inl (.inr ⟨o, e _ _ h⟩)
  · exact .inr h
mutual
theorem Rep.mono {K : PySem.W.Frag} {G G' : Hp} (s : Same G G') : ∀ {p : PV} {v : V}, Rep K G v p → Rep K G' v p
  | .non, v, h => h
  | .bl _, v, h => h
  | .int _, v, h => h
  | .str _, v, h => h
  | .ty _, v, h => h
  | .tup xs, v, h => by
    obtain ⟨a, vs, e, q, r⟩ := h
    exact ⟨a, vs, e, Same.seqT s q, Reps.mono s r⟩
  | .lst xs, v, h => by
    obtain ⟨a, vs, e, q, r⟩ := h
    exact ⟨a, vs, e, s _ _ q, Reps.mono s r⟩
  | .scr ns, v, h => by
    obtain ⟨a, e, q⟩ := h
    exact ⟨a, e, s.seq q⟩
  | .dic ks vs, v, h => by
    obtain ⟨a, o, kws, us, e, g, r1, r2, d⟩ := h
    exact ⟨a, o, kws, us, e, s _ _ g, Reps.mono s r1, Reps.mono s r2, d⟩
theorem Reps.mono {K : PySem.W.Frag} {G G' : Hp} (s : Same G G') : ∀ {ps : List PV} {vs : List V}, Reps K G vs ps → Reps K G' vs ps
  | [], vs, h => h
  | p :: ps, vs, h => by
    obtain ⟨v, r, e, a, b⟩ := h
    exact ⟨v, r, e, Rep.mono s a, Reps.mono s b⟩
end
section
variable {K : PySem.W.Frag} {G : Hp}
theorem Reps.nil : Reps K G [] [] := rfl
theorem Reps.cons {v : V} {p : PV} {vs : List V} {ps : List PV} (a : Rep K G v p) (b : Reps K G vs ps) : Reps K G (v :: vs) (p :: ps) := ⟨v, vs, rfl, a, b⟩
theorem Reps.length : ∀ {ps : List PV} {vs : List V}, Reps K G vs ps → vs.length = ps.length
  | [], vs, h => by
    have e : vs = [] := h
    rw [e]
    rfl
  | p :: ps, vs, h => by
    obtain ⟨v, r, e, _, b⟩ := h
    rw [e, List.length_cons, List.length_cons, Reps.length b]
theorem Reps.get : ∀ {ps : List PV} {vs : List V} {i : Nat} {p : PV}, Reps K G vs ps → ps[i]? = some p → ∃ v, vs[i]? = some v ∧ Rep K G v p
  | [], _, _, _, _, e => by simp at e
  | q :: ps, vs, 0, p, h, e => by
    obtain ⟨v, r, rfl, a, _⟩ := h
    simp at e
    subst e
    exact ⟨v, rfl, a⟩
  | q :: ps, vs, i + 1, p, h, e => by
    obtain ⟨v, r, rfl, _, b⟩ := h
    obtain ⟨u, h1, h2⟩ := Reps.get (i := i) (p := p) b (by simpa using e)
    exact ⟨u, by simpa using h1, h2⟩
theorem Reps.getV {ps : List PV} {vs : List V} {i : Nat} {v : V} (h : Reps K G vs ps) (e : vs[i]? = some v) : ∃ p, ps[i]? = some p ∧ Rep K G v p := by
  have hl := h.length
  have hi : i < ps.length := by
    have := (List.getElem?_eq_some_iff.mp e).1
    omega
  obtain ⟨u, h1, h2⟩ := h.get (List.getElem?_eq_getElem hi)
  rw [e] at h1
  cases h1
  exact ⟨_, List.getElem?_eq_getElem hi, h2⟩
theorem Reps.append : ∀ {ps qs : List PV} {vs us : List V}, Reps K G vs ps → Reps K G us qs → Reps K G (vs ++ us) (ps ++ qs)
  | [], qs, vs, us, h, k => by
    have e : vs = [] := h
    rw [e]
    exact k
  | p :: ps, qs, vs, us, h, k => by
    obtain ⟨v, r, rfl, a, b⟩ := h
    exact ⟨v, r ++ us, rfl, a, Reps.append b k⟩
theorem Reps.take : ∀ {ps : List PV} {vs : List V} (n : Nat), Reps K G vs ps → Reps K G (vs.take n) (ps.take n)
  | [], vs, n, h => by
    have e : vs = [] := h
    rw [e]
    simp
    rfl
  | p :: ps, vs, 0, h => by
    simp
    rfl
  | p :: ps, vs, n + 1, h => by
    obtain ⟨v, r, rfl, a, b⟩ := h
    exact ⟨v, r.take n, rfl, a, Reps.take n b⟩
theorem Reps.drop : ∀ {ps : List PV} {vs : List V} (n : Nat), Reps K G vs ps → Reps K G (vs.drop n) (ps.drop n)
  | [], vs, n, h => by
    have e : vs = [] := h
    rw [e]
    simp
    rfl
  | p :: ps, vs, 0, h => h
  | p :: ps, vs, n + 1, h => by
    obtain ⟨v, r, rfl, a, b⟩ := h
    exact Reps.drop n b
theorem Reps.set : ∀ {ps : List PV} {vs : List V} {v : V} {p : PV} (n : Nat), Reps K G vs ps → Rep K G v p → Reps K G (vs.set n v) (ps.set n p)
  | [], vs, v, p, n, h, k => by
    have e : vs = [] := h
    rw [e]
    rfl
  | q :: ps, vs, v, p, 0, h, k => by
    obtain ⟨u, r, rfl, a, b⟩ := h
    exact ⟨v, r, rfl, k, b⟩
  | q :: ps, vs, v, p, n + 1, h, k => by
    obtain ⟨u, r, rfl, a, b⟩ := h
    exact ⟨u, r.set n v, rfl, a, Reps.set n b k⟩
theorem Reps.one {v : V} {p : PV} (h : Rep K G v p) : Reps K G [v] [p] := .cons h .nil
theorem Reps.reverse : ∀ {ps : List PV} {vs : List V}, Reps K G vs ps → Reps K G vs.reverse ps.reverse
  | [], vs, h => by
    have e : vs = [] := h
    rw [e]
    rfl
  | p :: ps, vs, h => by
    obtain ⟨v, r, rfl, a, b⟩ := h
    rw [List.reverse_cons, List.reverse_cons]
    exact (Reps.reverse b).append (.one a)
theorem Reps.dropLast {ps : List PV} {vs : List V} (h : Reps K G vs ps) : Reps K G vs.dropLast ps.dropLast := by
  rw [List.dropLast_eq_take, List.dropLast_eq_take, h.length]
  exact h.take _
theorem Reps.eraseIdx : ∀ {ps : List PV} {vs : List V} (n : Nat), Reps K G vs ps → Reps K G (vs.eraseIdx n) (ps.eraseIdx n)
  | [], vs, n, h => by
    have e : vs = [] := h
    rw [e]
    rfl
  | p :: ps, vs, 0, h => by
    obtain ⟨v, r, rfl, a, b⟩ := h
    exact b
  | p :: ps, vs, n + 1, h => by
    obtain ⟨v, r, rfl, a, b⟩ := h
    exact ⟨v, r.eraseIdx n, rfl, a, Reps.eraseIdx n b⟩
end
/-- what a mutable object holds -/
def Ob (K : PySem.W.Frag) (G H : Hp) (a : Addr) : PV → Prop
  | .lst xs => ∃ vs, H a = some (.lst vs) ∧ Reps K G vs xs
  | .dic ks vs => ∃ o kws us, H a = some o ∧ Reps K G kws ks ∧ Reps K G us vs ∧ DicS a o kws us ks
  | _ => False
/-- the tables stand in H, none of them is known for good -/
def TabG (G H : Hp) : Prop := NdefX.TabsN Fx.T H ∧ ∀ b o, G b = some o → NT o
/-- what has become of the heap: F may be changed or locked for good -/
structure Gr (F : Addr → Prop) (G H G' H' : Hp) : Prop where
  g : Same G G'
  h : ∀ a o, H a = some o → ¬ F a → NT o → H' a = some o
  f : ∀ a o, H a = some o → ¬ F a → NC o → G a = none → G' a = none
  k : ∀ a o, H a = some o → ∃ o', H' a = some o'
  t : TabG G H → TabG G' H'
theorem Gr.refl {F : Addr → Prop} {G H : Hp} : Gr F G H G H := ⟨Same.refl _, fun _ _ e _ _ => e, fun _ _ _ _ _ e => e, fun _ o e => ⟨o, e⟩, fun t => t⟩
theorem Gr.there {F : Addr → Prop} {G H G1 H1 : Hp} (a : Gr F G H G1 H1) {F' : Addr → Prop} (h : ∀ x, F' x → F x ∨ H x = none) {x : Addr} {o : HO} (e : H x = some o) (n : ¬ F x) : ¬ F' x :=
  fun z => (h x z).elim n fun q => by rw [e] at q; cases q
theorem Gr.trans {F F' : Addr → Prop} {G H G1 H1 G2 H2 : Hp} (a : Gr F G H G1 H1) (b : Gr F' G1 H1 G2 H2) (h : ∀ x, F' x → F x ∨ H x = none) : Gr F G H G2 H2 where
  g := a.g.trans b.g
  h := fun x o e n nt => b.h x o (a.h x o e n nt) (a.there h e n) nt
  f := fun x o e n nc q => b.f x o (a.h x o e n nc.1) (a.there h e n) nc (a.f x o e n nc q)
  k := fun x o e => by
    obtain ⟨o1, e1⟩ := a.k x o e
    exact b.k x o1 e1
  t := fun z => b.t (a.t z)
theorem Gr.mono {F F' : Addr → Prop} {G H G1 H1 : Hp} (a : Gr F G H G1 H1) (h : ∀ x, F x → F' x) : Gr F' G H G1 H1 :=
  ⟨a.g, fun x o e n => a.h x o e fun z => n (h x z), fun x o e n => a.f x o e fun z => n (h x z), a.k, a.t⟩
theorem Gr.nothing {F : Addr → Prop} {G H G1 H1 : Hp} (a : Gr F G H G1 H1) {x : Addr} (h : H1 x = Option.none) : H x = Option.none := by
  cases q : H x with
  | none => rfl
  | some o =>
    obtain ⟨o', e⟩ := a.k x o q
    rw [h] at e
    cases e
/-- results: a plain value, or a new object that nobody else holds -/
inductive Rs where
  | val (p : PV) | new (p : PV)
def Rs.pv : Rs → PV
  | .val p => p
  | .new p => p
def RR (K : PySem.W.Frag) (G H' : Hp) (ok : Addr → Prop) : V → Rs → Prop
  | v, .val p => Rep K G v p
  | v, .new p => ∃ a, v = .ref a ∧ ok a ∧ G a = none ∧ Ob K G H' a p
/-- the function at f, called with k levels of room, does m -/
structure Clo (K : PySem.W.Frag) (G : Hp) (k : Nat) (f : Addr) (m : List PV → Option Rs) : Prop where
  at_ : ∀ (H : Hp) (h : Heap), HOk Fx.P Fx.w H h → Same G H → K.In h → PySem.W.FnAt f h
  run : ∀ (A : Around) (outer : List Env) (s : Shared) (H : Hp) (us : List Value) (vs : List V) (Q : VK) (E : XK), Room k A → Env0 Fx.P Fx.w K Fx.mg Fx.base A outer s H → Same G H → Vals vs us →
    (∃ G1 ps r, Same G G1 ∧ Same G1 H ∧ TabG G1 H ∧ Reps K G1 vs ps ∧ m ps = some r ∧ ∀ x G2 H2, Gr (fun _ => False) G1 H G2 H2 → Same G2 H2 → RR K G2 H2 (fun a => H a = none) x r → Q x H2) →
    codeAny (model Fx.P Fx.w) A (.call (.ref f) ⟨us, []⟩) (CR CX0 outer Fx.P Fx.w H s Q E) s
theorem Clo.mono {K : PySem.W.Frag} {G G' : Hp} {k : Nat} {f : Addr} {m : List PV → Option Rs} (c : Clo K G k f m) (s : Same G G') : Clo K G' k f m := by
  exact ⟨fun H h ok sm => c.at_ H h ok (s.trans sm), fun A outer st H us vs Q E hr e0 sm r ⟨G1, ps, rs, a, b, t, c', d, q⟩ => c.run A outer st H us vs Q E hr e0 (s.trans sm) r ⟨G1, ps, rs, s.trans a, b, t, c', d, q⟩⟩
/-- kinds of a slot that holds a mutable object: made here, given by the caller, held while it is walked -/
inductive Kd where
  | own | par | lck
  deriving DecidableEq
inductive Sl where
  | un | val (p : PV) | mu (k : Kd) (p : PV) | fn (k : Nat) (m : List PV → Option Rs)
abbrev Ev := List Sl
/-- the slot i holds the mutable object at a -/
def At (Γ : Ev) (σ : St) (i : Nat) (k : Kd) (a : Addr) : Prop := ∃ p, Γ[i]? = some (.mu k p) ∧ σ[i]? = some (some (.ref a))
/-- what may be changed: the objects of slots that are not locked -/
def Foot (Γ : Ev) (σ : St) (a : Addr) : Prop := ∃ i k, k ≠ .lck ∧ At Γ σ i k a
def FootP (Γ : Ev) (σ : St) (a : Addr) : Prop := ∃ i, At Γ σ i .par a
/-- the plain slots stand for the slots -/
structure ER (K : PySem.W.Frag) (π : Nat → Addr) (G : Hp) (σ : St) (H : Hp) (Γ : Ev) : Prop where
  sub : Same G H
  len : Γ.length = σ.length
  val : ∀ (i : Nat) p, Γ[i]? = some (.val p) → ∃ v, σ[i]? = some (some v) ∧ Rep K G v p
  mu : ∀ (i : Nat) k p, Γ[i]? = some (.mu k p) → ∃ a, σ[i]? = some (some (.ref a)) ∧ G a = none ∧ Ob K G H a p ∧ (k = .par → a = π i)
  inj : ∀ i j k l a, At Γ σ i k a → At Γ σ j l a → i = j
  tabs : TabG G H
  fn : ∀ (i : Nat) k m, Γ[i]? = some (.fn k m) → ∃ f, σ[i]? = some (some (.ref f)) ∧ Clo K G k f m
/-- the objects that may be changed come from the earlier ones -/
structure Ft (Γ : Ev) (σ : St) (H : Hp) (Γ' : Ev) (σ' : St) : Prop where
  a : ∀ x, Foot Γ' σ' x → Foot Γ σ x ∨ H x = none
  p : ∀ x, FootP Γ' σ' x → FootP Γ σ x
theorem Ft.refl {Γ : Ev} {σ : St} {H : Hp} : Ft Γ σ H Γ σ := ⟨fun _ h => .inl h, fun _ h => h⟩
theorem Ft.trans {Γ Γ1 Γ2 : Ev} {σ σ1 σ2 : St} {H H1 : Hp} (a : Ft Γ σ H Γ1 σ1) (b : Ft Γ1 σ1 H1 Γ2 σ2) (h : ∀ x, H1 x = none → H x = none) : Ft Γ σ H Γ2 σ2 :=
  ⟨fun x z => (b.a x z).elim (a.a x) fun q => .inr (h x q), fun x z => a.p x (b.p x z)⟩
section
variable {K : PySem.W.Frag} {π : Nat → Addr} {G H G' H' : Hp} {σ : St} {Γ : Ev}
theorem Ob.mono {a : Addr} {p : PV} (h : Ob K G H a p) (s : Same G G') (e : H' a = H a) : Ob K G' H' a p := by
  cases p with
  | lst xs =>
    obtain ⟨vs, h1, h2⟩ := h
    exact ⟨vs, by rw [e, h1], h2.mono s⟩
  | dic ks vs =>
    obtain ⟨o, kws, us, h1, h2, h3, h4⟩ := h
    exact ⟨o, kws, us, by rw [e, h1], h2.mono s, h3.mono s, h4⟩
  | _ => exact h.elim
theorem DicS.nc {a : Addr} {o : HO} {kws us : List V} {ks : List PV} (d : DicS a o kws us ks) : NC o := by
  obtain ⟨_, _, ⟨fk, _, _, rfl⟩ | ⟨bs, nk, _, _, _, _, _, rfl⟩⟩ := d
  · exact nc_dK _
  · exact nc_ndo _ _ _ _
theorem Ob.thereN {a : Addr} {p : PV} (h : Ob K G H a p) : ∃ o, H a = some o ∧ NC o := by
  cases p with
  | lst xs =>
    obtain ⟨vs, h1, h2⟩ := h
    exact ⟨_, h1, nc_lst _⟩
  | dic ks vs =>
    obtain ⟨o, kws, us, h1, h2, h3, h4⟩ := h
    exact ⟨o, h1, h4.nc⟩
  | _ => exact h.elim
theorem Ob.there {a : Addr} {p : PV} (h : Ob K G H a p) : ∃ o, H a = some o := by
  obtain ⟨o, h, _⟩ := h.thereN
  exact ⟨o, h⟩
theorem ER.foot (E : ER K π G σ H Γ) {i : Nat} {k : Kd} {a : Addr} (h : At Γ σ i k a) : G a = none ∧ ∃ o, H a = some o := by
  obtain ⟨p, e, s⟩ := h
  obtain ⟨b, s', g, o, _⟩ := E.mu i k p e
  rw [s] at s'
  cases s'
  exact ⟨g, o.there⟩
/-- the heap grows, nothing of ours is touched -/
theorem ER.grow (E : ER K π G σ H Γ) {F : Addr → Prop} (g : Gr F G H G' H') (s : Same G' H') (hF : ∀ a i k, At Γ σ i k a → ¬ F a) : ER K π G' σ H' Γ where
  sub := s
  len := E.len
  val := fun i p e => by
    obtain ⟨v, h1, h2⟩ := E.val i p e
    exact ⟨v, h1, h2.mono g.g⟩
  mu := fun i k p e => by
    obtain ⟨a, h1, h2, h3, h4⟩ := E.mu i k p e
    obtain ⟨o, ho, nc⟩ := h3.thereN
    have hn := hF a i k ⟨p, e, h1⟩
    exact ⟨a, h1, g.f a o ho hn nc h2, h3.mono g.g (by rw [g.h a o ho hn nc.1, ho]), h4⟩
  inj := E.inj
  tabs := g.t E.tabs
  fn := fun i k m e => by
    obtain ⟨f, h1, h2⟩ := E.fn i k m e
    exact ⟨f, h1, h2.mono g.g⟩
/-- a new object laid, locked for good -/
theorem gr_laid {F : Addr → Prop} {p : Addr} {o : HO} (s : Same G H) (n : H p = none) (nt : NT o := by trivial) : Gr F G H (upd G p o) (upd H p o) ∧ Same (upd G p o) (upd H p o) := by
  have gn : G p = none := s.free n
  refine ⟨⟨fun a x e => ?_, fun a x e _ _ => ?_, fun a x e _ _ q => ?_, fun a x e => ⟨x, ?_⟩, fun t => ⟨t.1.ext fun b y e => (upd_ne (ne_of_none e n)).trans e, fun b y e => by
    by_cases z : b = p
    · rw [z, upd_same] at e
      cases e
      exact nt
    · rw [upd_ne z] at e
      exact t.2 b y e⟩⟩, fun a x e => ?_⟩
  · rw [upd_ne (ne_of_none e gn)]
    exact e
  · rw [upd_ne (ne_of_none e n)]
    exact e
  · rw [upd_ne (ne_of_none e n)]
    exact q
  · rw [upd_ne (ne_of_none e n)]
    exact e
  · by_cases h : a = p
    · subst h
      rw [upd_same] at e ⊢
      exact e
    · rw [upd_ne h] at e ⊢
      exact s a x e
/-- a new object laid, still changeable -/
theorem gr_made {F : Addr → Prop} {p : Addr} {o : HO} (s : Same G H) (n : H p = none) : Gr F G H G (upd H p o) ∧ Same G (upd H p o) ∧ G p = none := by
  have gn : G p = none := s.free n
  refine ⟨⟨Same.refl _, fun a x e _ _ => ?_, fun a x e _ _ q => q, fun a x e => ⟨x, ?_⟩, fun t => ⟨t.1.ext fun b y e => (upd_ne (ne_of_none e n)).trans e, t.2⟩⟩, fun a x e => ?_, gn⟩
  · rw [upd_ne (ne_of_none e n)]
    exact e
  · rw [upd_ne (ne_of_none e n)]
    exact e
  · rw [upd_ne (ne_of_none e gn)]
    exact s a x e
/-- an object is locked for good -/
theorem gr_lock {F : Addr → Prop} {p : Addr} {o : HO} (s : Same G H) (h : H p = some o) (hF : F p) (gn : G p = none) (nt : NT o) : Gr F G H (upd G p o) H ∧ Same (upd G p o) H := by
  refine ⟨⟨fun a x e => ?_, fun a x e _ _ => e, fun a x e n _ q => ?_, fun a x e => ⟨x, e⟩, fun t => ⟨t.1, fun b y e => by
    by_cases z : b = p
    · rw [z, upd_same] at e
      cases e
      exact nt
    · rw [upd_ne z] at e
      exact t.2 b y e⟩⟩, fun a x e => ?_⟩
  · rw [upd_ne (ne_of_none e gn)]
    exact e
  · rw [upd_ne (fun z => by subst z; exact n hF)]
    exact q
  · by_cases z : a = p
    · subst z
      rw [upd_same] at e
      cases e
      exact h
    · rw [upd_ne z] at e
      exact s a x e
theorem Ob.rep {a : Addr} {p : PV} (h : Ob K G H a p) (gn : G a = none) : ∃ o, H a = some o ∧ NT o ∧ Rep K (upd G a o) (.ref a) p := by
  cases p with
  | lst xs =>
    obtain ⟨vs, h1, h2⟩ := h
    refine ⟨_, h1, trivial, a, vs, rfl, upd_same, h2.mono fun b x e => ?_⟩
    rw [upd_ne (ne_of_none e gn)]
    exact e
  | dic ks vs =>
    obtain ⟨o, kws, us, h1, h2, h3, h4⟩ := h
    have sm : Same G (upd G a o) := fun b x e => by
      rw [upd_ne (ne_of_none e gn)]
      exact e
    exact ⟨_, h1, h4.nc.1, a, o, kws, us, rfl, upd_same, h2.mono sm, h3.mono sm, h4⟩
  | _ => exact h.elim
theorem set_get {α : Type} {l : List α} {i j : Nat} {x y : α} (h : (l.set i x)[j]? = some y) : (i = j ∧ x = y) ∨ (i ≠ j ∧ l[j]? = some y) := by
  by_cases e : i = j
  · subst e
    by_cases hl : i < l.length
    · rw [List.getElem?_set_self hl] at h
      exact .inl ⟨rfl, Option.some.inj h⟩
    · rw [List.getElem?_eq_none (by simp; omega)] at h
      cases h
  · rw [List.getElem?_set_ne e] at h
    exact .inr ⟨e, h⟩
end
end
section
variable [Fx]
abbrev D (α : Type) := Ev → Option (α × Ev)
@[simp] def bnd {α β : Type} (f : D α) (k : α → D β) (Γ : Ev) : Option (β × Ev) := match f Γ with
  | some (x, Γ1) => k x Γ1
  | none => none
@[simp] def ret {α : Type} (x : α) (Γ : Ev) : Option (α × Ev) := some (x, Γ)
/-- a plain function that may fail -/
@[simp] def opt {α : Type} (o : Option α) (Γ : Ev) : Option (α × Ev) := match o with
  | some x => some (x, Γ)
  | none => none
theorem bnd_some {α β : Type} {f : D α} {k : α → D β} {Γ Γ2 : Ev} {y : β} (h : bnd f k Γ = some (y, Γ2)) : ∃ x Γ1, f Γ = some (x, Γ1) ∧ k x Γ1 = some (y, Γ2) := by
  unfold bnd at h
  cases e : f Γ with
  | none => rw [e] at h; cases h
  | some z =>
    obtain ⟨x, Γ1⟩ := z
    rw [e] at h
    exact ⟨x, Γ1, rfl, h⟩
theorem opt_some {α : Type} {o : Option α} {Γ Γ1 : Ev} {x : α} (h : opt o Γ = some (x, Γ1)) : o = some x ∧ Γ1 = Γ := by
  unfold opt at h
  cases o with
  | none => cases h
  | some z => cases h; exact ⟨rfl, rfl⟩
theorem ret_some {α : Type} {z x : α} {Γ Γ1 : Ev} (h : ret z Γ = some (x, Γ1)) : x = z ∧ Γ1 = Γ := by
  unfold ret at h
  cases h
  exact ⟨rfl, rfl⟩
/-- a step of an expression -/
structure Ste (K : PySem.W.Frag) (π : Nat → Addr) (σ : St) (G H : Hp) (Γ : Ev) (G' H' : Hp) (Γ' : Ev) : Prop where
  e : ER K π G' σ H' Γ'
  g : Gr (Foot Γ σ) G H G' H'
  f : ∀ i k a, At Γ' σ i k a → At Γ σ i k a
section
variable {K : PySem.W.Frag} {π : Nat → Addr} {σ : St} {G H G1 H1 G2 H2 : Hp} {Γ Γ1 Γ2 : Ev}
theorem Ste.refl (E : ER K π G σ H Γ) : Ste K π σ G H Γ G H Γ := ⟨E, .refl, fun _ _ _ h => h⟩
theorem Ste.trans (a : Ste K π σ G H Γ G1 H1 Γ1) (b : Ste K π σ G1 H1 Γ1 G2 H2 Γ2) : Ste K π σ G H Γ G2 H2 Γ2 :=
  ⟨b.e, a.g.trans b.g fun x ⟨i, k, n, h⟩ => .inl ⟨i, k, n, a.f i k x h⟩, fun i k x h => a.f i k x (b.f i k x h)⟩
/-- the heap grows, the slots stay -/
theorem Ste.grow (E : ER K π G σ H Γ) (g : Gr (fun _ => False) G H G1 H1) (s : Same G1 H1) : Ste K π σ G H Γ G1 H1 Γ :=
  ⟨E.grow g s fun _ _ _ _ z => z, g.mono fun _ z => z.elim, fun _ _ _ h => h⟩
end
def tV (K : PySem.W.Frag) (f : D PV) : TE := fun σ H Q => ∃ π G Γ v Γ', ER K π G σ H Γ ∧ f Γ = some (v, Γ') ∧ ∀ x G' H', Ste K π σ G H Γ G' H' Γ' → Rep K G' x v → Q x H'
def tR (K : PySem.W.Frag) (f : D Rs) : TE := fun σ H Q => ∃ π G Γ r Γ', ER K π G σ H Γ ∧ f Γ = some (r, Γ') ∧ ∀ x G' H', Ste K π σ G H Γ G' H' Γ' → RR K G' H' (fun a => H a = none) x r → Q x H'
/-- a value that is looked at and let go -/
def Pk (K : PySem.W.Frag) (G H : Hp) (x : V) (p : PV) : Prop := Rep K G x p ∨ ∃ a, x = .ref a ∧ Ob K G H a p
def tP (K : PySem.W.Frag) (f : D PV) : TE := fun σ H Q => ∃ π G Γ v Γ', ER K π G σ H Γ ∧ f Γ = some (v, Γ') ∧ ∀ x G' H', Ste K π σ G H Γ G' H' Γ' → Pk K G' H' x v → Q x H'
def tB (K : PySem.W.Frag) (f : D Bool) : TT := fun σ H Q => ∃ π G Γ b Γ', ER K π G σ H Γ ∧ f Γ = some (b, Γ') ∧ ∀ G' H', Ste K π σ G H Γ G' H' Γ' → Q b H'
def tL (K : PySem.W.Frag) (f : D (List PV)) : TA := fun σ H Q => ∃ π G Γ vs Γ', ER K π G σ H Γ ∧ f Γ = some (vs, Γ') ∧ ∀ xs G' H', Ste K π σ G H Γ G' H' Γ' → Reps K G' xs vs → Q xs H'
theorem _root_.L2.PE.imp {X : Cx} {e : Expr} {t t' : TE} (h : PE X e t) (i : ∀ σ H Q, t' σ H Q → t σ H Q) : PE X e t' := ⟨fun pins s σ H Q I q => h.run pins s σ H Q I (i σ H Q q)⟩
theorem _root_.L2.PT.imp {X : Cx} {e : Expr} {t t' : TT} (h : PT X e t) (i : ∀ σ H Q, t' σ H Q → t σ H Q) : PT X e t' := ⟨fun pins s σ H Q I q => h.run pins s σ H Q I (i σ H Q q)⟩
theorem _root_.L2.PW.imp {X : Cx} {e : Expr} {t t' : TT} (h : PW X e t) (i : ∀ σ H Q, t' σ H Q → t σ H Q) : PW X e t' := ⟨fun w pins s σ H Q I q => h.run w pins s σ H Q I (i σ H Q q)⟩
theorem _root_.L2.PA.imp {X : Cx} {e : List Expr} {t t' : TA} (h : PA X e t) (i : ∀ σ H Q, t' σ H Q → t σ H Q) : PA X e t' := ⟨fun pos pins s σ H Q I q => h.run pos pins s σ H Q I (i σ H Q q)⟩
theorem _root_.L2.PS.imp {X : Cx} {e : Stmt} {t t' : TS} (h : PS X e t) (i : ∀ D σ H, t' D σ H → t D σ H) : PS X e t' := ⟨fun pins s σ H D I q => h.run pins s σ H D I (i D σ H q)⟩
theorem _root_.L2.PSs.imp {X : Cx} {e : List Stmt} {t t' : TS} (h : PSs X e t) (i : ∀ D σ H, t' D σ H → t D σ H) : PSs X e t' := ⟨fun pins s σ H D I q => h.run pins s σ H D I (i D σ H q)⟩
abbrev SV (X : Cx) (e : Expr) (f : D PV) : Prop := PE X e (tV X.K f)
abbrev SR (X : Cx) (e : Expr) (f : D Rs) : Prop := PE X e (tR X.K f)
abbrev SP (X : Cx) (e : Expr) (f : D PV) : Prop := PE X e (tP X.K f)
abbrev SB (X : Cx) (e : Expr) (f : D Bool) : Prop := PT X e (tB X.K f)
abbrev SL (X : Cx) (es : List Expr) (f : D (List PV)) : Prop := PA X es (tL X.K f)
/-- freeze the new object of a result -/
@[simp] def fz (f : D Rs) (Γ : Ev) : Option (PV × Ev) := match f Γ with
  | some (r, Γ1) => some (r.pv, Γ1)
  | none => none
@[simp] def nw (f : D PV) (Γ : Ev) : Option (Rs × Ev) := match f Γ with
  | some (r, Γ1) => some (.new r, Γ1)
  | none => none
@[simp] def vl (f : D PV) (Γ : Ev) : Option (Rs × Ev) := match f Γ with
  | some (r, Γ1) => some (.val r, Γ1)
  | none => none
theorem fz_some {f : D Rs} {Γ Γ1 : Ev} {p : PV} (h : fz f Γ = some (p, Γ1)) : ∃ r, f Γ = some (r, Γ1) ∧ p = r.pv := by
  unfold fz at h
  cases e : f Γ with
  | none => rw [e] at h; cases h
  | some z =>
    rw [e] at h
    cases h
    exact ⟨_, rfl, rfl⟩
theorem vl_some {f : D PV} {Γ Γ1 : Ev} {r : Rs} (h : vl f Γ = some (r, Γ1)) : ∃ p, f Γ = some (p, Γ1) ∧ r = .val p := by
  unfold vl at h
  cases e : f Γ with
  | none => rw [e] at h; cases h
  | some z =>
    rw [e] at h
    cases h
    exact ⟨_, rfl, rfl⟩
theorem nw_some {f : D PV} {Γ Γ1 : Ev} {r : Rs} (h : nw f Γ = some (r, Γ1)) : ∃ p, f Γ = some (p, Γ1) ∧ r = .new p := by
  unfold nw at h
  cases e : f Γ with
  | none => rw [e] at h; cases h
  | some z =>
    rw [e] at h
    cases h
    exact ⟨_, rfl, rfl⟩
/-- an object that no slot holds is locked for good -/
theorem Ste.lock {K : PySem.W.Frag} {π : Nat → Addr} {σ : St} {G H : Hp} {Γ : Ev} {a : Addr} {o : HO} (E : ER K π G σ H Γ) (h : H a = some o) (gn : G a = none) (nt : NT o) (n : ∀ i k, ¬ At Γ σ i k a) :
    ER K π (upd G a o) σ H Γ := by
  obtain ⟨g, s⟩ := gr_lock (F := fun x => x = a) E.sub h rfl gn nt
  exact E.grow g s fun b i k hb e => n i k (e ▸ hb)
theorem freeze {K : PySem.W.Frag} {π : Nat → Addr} {σ : St} {G H G1 H1 : Hp} {Γ Γ1 : Ev} (E0 : ER K π G σ H Γ) (S : Ste K π σ G H Γ G1 H1 Γ1) {x : V} {r : Rs} (h : RR K G1 H1 (fun a => H a = none) x r) :
    ∃ G2, Ste K π σ G H Γ G2 H1 Γ1 ∧ Rep K G2 x r.pv := by
  cases r with
  | val p => exact ⟨G1, S, h⟩
  | new p =>
    obtain ⟨a, rfl, hn, gn, ob⟩ := h
    obtain ⟨o, ho, nt, hr⟩ := ob.rep gn
    have na : ∀ i k, ¬ At Γ1 σ i k a := fun i k z => by
      obtain ⟨_, o', e⟩ := E0.foot (S.f i k a z)
      rw [hn] at e
      cases e
    obtain ⟨g, s⟩ := gr_lock (F := fun x => x = a) S.e.sub ho rfl gn nt
    refine ⟨upd G1 a o, ⟨Ste.lock S.e ho gn nt na, S.g.trans g fun y e => .inr (by subst e; exact hn), S.f⟩, hr⟩
theorem SR_sv {X : Cx} {e : Expr} {f : D Rs} (h : SR X e f) : SV X e (fz f) := h.imp fun σ H Q ⟨π, G, Γ, v, Γ', E, ef, q⟩ => by
  obtain ⟨r, e1, rfl⟩ := fz_some ef
  refine ⟨π, G, Γ, r, Γ', E, e1, fun x G' H' S hr => ?_⟩
  obtain ⟨G2, S2, r2⟩ := freeze E S hr
  exact q x G2 H' S2 r2
theorem SV_sr {X : Cx} {e : Expr} {f : D PV} (h : SV X e f) : SR X e (vl f) := h.imp fun σ H Q ⟨π, G, Γ, v, Γ', E, ef, q⟩ => by
  obtain ⟨p, e1, rfl⟩ := vl_some ef
  exact ⟨π, G, Γ, p, Γ', E, e1, fun x G' H' S hr => q x G' H' S hr⟩
theorem SV_sp {X : Cx} {e : Expr} {f : D PV} (h : SV X e f) : SP X e f := h.imp fun σ H Q ⟨π, G, Γ, v, Γ', E, ef, q⟩ =>
  ⟨π, G, Γ, v, Γ', E, ef, fun x G' H' S hr => q x G' H' S (.inl hr)⟩
/-! ### names, constants -/
@[simp] def dInt (i : Int) (Γ : Ev) : Option (PV × Ev) := (ret (.int i)) Γ
@[simp] def dBl (b : Bool) (Γ : Ev) : Option (PV × Ev) := (ret (.bl b)) Γ
@[simp] def dNon (Γ : Ev) : Option (PV × Ev) := (ret .non) Γ
@[simp] def dStr (s : Str) (Γ : Ev) : Option (PV × Ev) := (ret (.str s)) Γ
section
variable {X : Cx} {pos : Pos}
theorem sv_const {e : Expr} {v : V} {p : PV} (h : PE X e (tC v)) (r : ∀ K G, Rep K G v p) : SV X e (ret p) := h.imp fun σ H Q ⟨π, G, Γ, w, Γ', E, ef, q⟩ => by
  obtain ⟨rfl, rfl⟩ := ret_some ef
  exact q v G H (.refl E) (r _ _)
theorem sv_int {i : Int} {j : Nat} : SV X (.Constant (.int i) j pos) (dInt i) := sv_const pe_int fun _ _ => rfl
theorem sv_bl {b : Bool} {j : Nat} : SV X (.Constant (.bool b) j pos) (dBl b) := sv_const pe_bl fun _ _ => rfl
theorem sv_non {j : Nat} : SV X (.Constant .none j pos) dNon := sv_const pe_non fun _ _ => rfl
theorem sv_str {x : Str} {j : Nat} : SV X (.Constant (.str x) j pos) (dStr x) := sv_const pe_str fun _ _ => rfl
/-- a name, its value: an object that was changeable is locked for good -/
@[simp] def dNm (i : Nat) (Γ : Ev) : Option (PV × Ev) := match Γ[i]? with
  | some (.val p) => some (p, Γ)
  | some (.mu .own p) => some (p, Γ.set i (.val p))
  | _ => none
/-- a name, looked at -/
@[simp] def dPk (i : Nat) (Γ : Ev) : Option (PV × Ev) := match Γ[i]? with
  | some (.val p) => some (p, Γ)
  | some (.mu _ p) => some (p, Γ)
  | _ => none
theorem Sl_at {K : PySem.W.Frag} {π : Nat → Addr} {σ : St} {G H : Hp} {Γ : Ev} {i : Nat} {p : PV} {Γ' : Ev} (E : ER K π G σ H Γ) (h : dPk i Γ = some (p, Γ')) : Γ' = Γ ∧ ∃ x, σ[i]? = some (some x) ∧ Pk K G H x p := by
  unfold dPk at h
  split at h
  · rename_i q e
    cases h
    obtain ⟨v, h1, h2⟩ := E.val i _ e
    exact ⟨rfl, v, h1, .inl h2⟩
  · rename_i k q e
    cases h
    obtain ⟨a, h1, h2, h3, _⟩ := E.mu i k _ e
    exact ⟨rfl, .ref a, h1, .inr ⟨a, rfl, h3⟩⟩
  · cases h
/-- a slot's object is locked for good -/
theorem slot_lock {K : PySem.W.Frag} {π : Nat → Addr} {σ : St} {G H : Hp} {Γ : Ev} {i : Nat} {p : PV} (E : ER K π G σ H Γ) (e : Γ[i]? = some (.mu .own p)) :
    ∃ a G', σ[i]? = some (some (.ref a)) ∧ Ste K π σ G H Γ G' H (Γ.set i (.val p)) ∧ Rep K G' (.ref a) p := by
  obtain ⟨a, h1, h2, h3, _⟩ := E.mu i .own p e
  obtain ⟨o, ho, nt, hr⟩ := h3.rep h2
  have hat : At Γ σ i .own a := ⟨p, e, h1⟩
  obtain ⟨g, s⟩ := gr_lock (F := fun x => x = a) E.sub ho rfl h2 nt
  have hi : i < Γ.length := (List.getElem?_eq_some_iff.mp e).1
  have at' : ∀ j k b, At (Γ.set i (.val p)) σ j k b → At Γ σ j k b ∧ j ≠ i := fun j k b ⟨q, e1, e2⟩ => by
    rcases set_get e1 with ⟨rfl, z⟩ | ⟨n, z⟩
    · cases z
    · exact ⟨⟨q, z, e2⟩, Ne.symm n⟩
  refine ⟨a, upd G a o, h1, ⟨⟨s, by rw [List.length_set]; exact E.len, fun j q e1 => ?_, fun j k q e1 => ?_, fun j l k k' b z1 z2 => E.inj j l k k' b (at' j k b z1).1 (at' l k' b z2).1, g.t E.tabs, fun j k m e1 => ?_⟩, g.mono fun x z => ?_, fun j k b z => (at' j k b z).1⟩, hr⟩
  · rcases set_get e1 with ⟨rfl, z⟩ | ⟨n, z⟩
    · cases z
      exact ⟨.ref a, h1, hr⟩
    · obtain ⟨v, q1, q2⟩ := E.val j q z
      exact ⟨v, q1, q2.mono g.g⟩
  · rcases set_get e1 with ⟨rfl, z⟩ | ⟨n, z⟩
    · cases z
    · obtain ⟨b, q1, q2, q3, q4⟩ := E.mu j k q z
      have hba : b ≠ a := fun w => by
        subst w
        exact n (E.inj i j .own k b hat ⟨q, z, q1⟩)
      exact ⟨b, q1, by rw [upd_ne hba]; exact q2, q3.mono g.g rfl, q4⟩
  · rcases set_get e1 with ⟨rfl, z⟩ | ⟨n, z⟩
    · cases z
    · obtain ⟨f, q1, q2⟩ := E.fn j k m z
      exact ⟨f, q1, q2.mono g.g⟩
  · subst z
    exact ⟨i, .own, by decide, hat⟩
theorem sv_nm (i : Nat) {x : Str} {pos : Pos} (hN : X.N[i]? = some x := by rfl) (hv : Vis X.env.scope x := by first | exact Or.inl rfl | exact Or.inr (Or.inl rfl) | exact Or.inr (Or.inr rfl)) (hd : (x == ("__debug__" : Str)) = false := by decide)
    (hcd : (x == ("__classdict__" : Str)) = false := by decide) : SV X (.Name x pos) (dNm i) := (pe_var hN hv hd hcd).imp fun σ H Q ⟨π, G, Γ, w, Γ', E, ef, q⟩ => by
  unfold dNm at ef
  split at ef
  · rename_i p e
    cases ef
    obtain ⟨v, h1, h2⟩ := E.val i _ e
    exact ⟨v, h1, q v G H (.refl E) h2⟩
  · rename_i p e
    cases ef
    obtain ⟨a, G', h1, S, hr⟩ := slot_lock E e
    exact ⟨_, h1, q _ G' H S hr⟩
  · cases ef
theorem sp_nm (i : Nat) {x : Str} {pos : Pos} (hN : X.N[i]? = some x := by rfl) (hv : Vis X.env.scope x := by first | exact Or.inl rfl | exact Or.inr (Or.inl rfl) | exact Or.inr (Or.inr rfl)) (hd : (x == ("__debug__" : Str)) = false := by decide)
    (hcd : (x == ("__classdict__" : Str)) = false := by decide) : SP X (.Name x pos) (dPk i) := (pe_var hN hv hd hcd).imp fun σ H Q ⟨π, G, Γ, w, Γ', E, ef, q⟩ => by
  obtain ⟨rfl, v, h1, h2⟩ := Sl_at E ef
  exact ⟨v, h1, q v G H (.refl E) h2⟩
end
/-! ### operators on two values -/
/-- the answer is laid over what is there -/
def Ans (K : PySem.W.Frag) (G H : Hp) (z : PV) (Q : VK) : Prop := ∀ v G' H', Gr (fun _ => False) G H G' H' → Same G' H' → Rep K G' v z → Q v H'
theorem Ans.now {K : PySem.W.Frag} {G H : Hp} {z : PV} {Q : VK} (h : Ans K G H z Q) (s : Same G H) {v : V} (r : Rep K G v z) : Q v H := h v G H .refl s r
/-- a new tuple -/
theorem Ans.tup {K : PySem.W.Frag} {G H : Hp} {zs : List PV} {Q : VK} (h : Ans K G H (.tup zs) Q) (s : Same G H) {vs : List V} (r : Reps K G vs zs) {p : Addr} (n : H p = none) : Q (.ref p) (upd H p (.tup vs)) := by
  obtain ⟨g, s'⟩ := gr_laid (F := fun _ => False) (o := .tup vs) s n
  exact h _ _ _ g s' ⟨p, vs, rfl, .inl (.inl upd_same), r.mono g.g⟩
def OpV (K : PySem.W.Frag) (r : R2) (g : PV → PV → Option PV) : Prop := ∀ x y p q z G H Q, Same G H → Rep K G x p → Rep K G y q → g p q = some z → Ans K G H z Q → r x y H Q
@[simp] def dOp (g : PV → PV → Option PV) (a b : D PV) (Γ : Ev) : Option (PV × Ev) := (bnd a fun x => bnd b fun y => opt (g x y)) Γ
theorem t_op {K : PySem.W.Frag} {r : R2} {g : PV → PV → Option PV} (hv : OpV K r g) {f h : D PV} {σ : St} {H : Hp} {Q : VK} (t : tV K (dOp g f h) σ H Q) : tOp r (tV K f) (tV K h) σ H Q := by
  obtain ⟨π, G, Γ, w, Γ', E, ef, q⟩ := t
  obtain ⟨x, Γ1, e1, ef⟩ := bnd_some ef
  obtain ⟨y, Γ2, e2, ef⟩ := bnd_some ef
  obtain ⟨e3, rfl⟩ := opt_some ef
  refine ⟨π, G, Γ, x, Γ1, E, e1, fun u G1 H1 S1 r1 => ⟨π, G1, Γ1, y, _, S1.e, e2, fun v G2 H2 S2 r2 => ?_⟩⟩
  exact hv u v x y w G2 H2 Q S2.e.sub (r1.mono S2.g.g) r2 e3 fun z G' H' g' s' r' => q z G' H' ((S1.trans S2).trans (.grow S2.e g' s')) r'
section
variable {X : Cx} {pos : Pos} {a b c : Expr} {f h k : D PV}
theorem sv_op {op : Operator} {r : R2} {g : PV → PV → Option PV} (ho : OpR X (binaryOp op) r) (hv : OpV X.K r g) (ha : SV X a f) (hb : SV X b h) : SV X (.BinOp a op b pos) (dOp g f h) :=
  (pe_op ho ha hb).imp fun _ _ _ t => t_op hv t
theorem sv_cmp {op : CmpOp} {r : R2} {g : PV → PV → Option PV} (ho : OpR X (compareOp op) r) (hv : OpV X.K r g) (ha : SV X a f) (hb : SV X b h) (hm : behindInMarks op b = false) : SV X (.Compare a [op] [b] pos) (dOp g f h) :=
  (pe_cmpR ho ha hb hm).imp fun _ _ _ t => t_op hv t
end
@[simp] def gI (g : Int → Int → Option PV) : PV → PV → Option PV
  | .int i, .int j => g i j
  | _, _ => none
theorem ov_int {K : PySem.W.Frag} {C : Int → Int → Prop} {F : Int → Int → V} {g : Int → Int → Option PV} (h : ∀ i j z, g i j = some z → C i j ∧ ∀ G, Rep K G (F i j) z) : OpV K (rI C F) (gI g) := fun x y p q z G H Q s r1 r2 e A => by
  unfold gI at e
  split at e
  · rename_i i j
    obtain ⟨c, r⟩ := h i j z e
    exact ⟨i, j, r1, r2, c, A.now s (r G)⟩
  · cases e
theorem ov_int0 {K : PySem.W.Frag} {F : Int → Int → V} {g : Int → Int → Option PV} (h : ∀ i j z, g i j = some z → ∀ G, Rep K G (F i j) z) : OpV K (rI0 F) (gI g) := fun x y p q z G H Q s r1 r2 e A => by
  unfold gI at e
  split at e
  · rename_i i j
    exact ⟨i, j, r1, r2, A.now s (h i j z e G)⟩
  · cases e
end
section
variable [Fx]
/-! ### keys and values in order -/
def pAt : List PV → List PV → PV → Option PV
  | k :: ks, v :: vs, p => if k = p then some v else pAt ks vs p
  | _, _, _ => none
def pPutV : List PV → List PV → PV → PV → List PV
  | k :: ks, v :: vs, p, z => if k = p then z :: vs else v :: pPutV ks vs p z
  | _, _, _, z => [z]
def pPutK (ks : List PV) (p : PV) : List PV := if p ∈ ks then ks else ks ++ [p]
def pHas (ks : List PV) (p : PV) : Bool := decide (p ∈ ks)
/-- flat keys -/
def pk : PV → Option Key
  | .int i => some (.inl i)
  | .str s => some (.inr s)
  | _ => none
/-- the key fits the keys -/
def okd (ks : List PV) (p : PV) : Bool := ((pk p).isSome && ks.all fun k => (pk k).isSome) || ((tk p).isSome && ks.all fun k => (tk k).isSome)
mutual
theorem nk_inj : ∀ {p q : PV} {k : NestedKey}, nk p = some k → nk q = some k → p = q
  | .non, q, k, h1, h2 => by
    cases h1
    cases q with
    | non => rfl
    | tup xs => unfold nk at h2; split at h2 <;> cases h2
    | _ => cases h2
  | .int i, q, k, h1, h2 => by
    cases h1
    cases q with
    | int j => cases h2; rfl
    | tup xs => unfold nk at h2; split at h2 <;> cases h2
    | _ => cases h2
  | .str i, q, k, h1, h2 => by
    cases h1
    cases q with
    | str j => cases h2; rfl
    | tup xs => unfold nk at h2; split at h2 <;> cases h2
    | _ => cases h2
  | .tup xs, q, k, h1, h2 => by
    unfold nk at h1
    split at h1
    · rename_i ks e1
      cases h1
      cases q with
      | tup ys =>
        unfold nk at h2
        split at h2
        · rename_i ks2 e2
          cases h2
          rw [nks_inj e1 e2]
        · cases h2
      | _ => cases h2
    · cases h1
  | .bl _, q, k, h1, h2 => by cases h1
  | .ty _, q, k, h1, h2 => by cases h1
  | .lst _, q, k, h1, h2 => by cases h1
  | .scr _, q, k, h1, h2 => by cases h1
  | .dic _ _, q, k, h1, h2 => by cases h1
theorem nks_inj : ∀ {ps qs : List PV} {ks : List NestedKey}, nks ps = some ks → nks qs = some ks → ps = qs
  | [], qs, ks, h1, h2 => by
    cases h1
    cases qs with
    | nil => rfl
    | cons q qs =>
      unfold nks at h2
      split at h2
      · split at h2 <;> cases h2
      · cases h2
  | p :: ps, qs, ks, h1, h2 => by
    unfold nks at h1
    split at h1
    · rename_i k e1
      split at h1
      · rename_i ks' e2
        cases h1
        cases qs with
        | nil => cases h2
        | cons q qs =>
          unfold nks at h2
          split at h2
          · rename_i k2 e3
            split at h2
            · rename_i ks2 e4
              cases h2
              rw [nk_inj e1 e3, nks_inj e2 e4]
            · cases h2
          · cases h2
      · cases h1
    · cases h1
end
theorem tk_tup {p : PV} {k : NestedKey} (h : tk p = some k) : nk p = some k ∧ k.depth ≤ 8 ∧ ∃ xs, p = .tup xs := by
  cases p with
  | tup xs =>
    unfold tk at h
    dsimp only at h
    cases e : nks xs with
    | none =>
      rw [e] at h
      cases h
    | some ks =>
      rw [e] at h
      dsimp only at h
      by_cases d : (NestedKey.tup ks).depth ≤ 8
      · rw [if_pos d] at h
        cases h
        exact ⟨by unfold nk; rw [e], d, xs, rfl⟩
      · rw [if_neg d] at h
        cases h
  | _ => cases h
theorem tk_inj {p q : PV} {k : NestedKey} (h1 : tk p = some k) (h2 : tk q = some k) : p = q := nk_inj (tk_tup h1).1 (tk_tup h2).1
theorem pk_inj {p q : PV} {k : Key} (h1 : pk p = some k) (h2 : pk q = some k) : p = q := by
  cases p <;> cases h1 <;> cases q <;> cases h2 <;> rfl
theorem pk_kPV (k : Key) : pk (kPV k) = some k := by cases k <;> rfl
theorem kPV_pk {p : PV} {k : Key} (h : pk p = some k) : p = kPV k := by cases p <;> cases h <;> rfl
theorem tk_pk {p : PV} {k : Key} (h : pk p = some k) : tk p = none := by cases p <;> first | rfl | cases h
/-! ### tables of keys and values, told by keys of any kind -/
section
variable {κ : Type} [DecidableEq κ] {f : PV → Option κ} {K : PySem.W.Frag} {G : Hp}
theorem at_gen (inj : ∀ p q k, f p = some k → f q = some k → p = q) {p : PV} {k : κ} (hp : f p = some k) : ∀ {ks : List PV} {fk : List κ} {us : List V} {vs : List PV}, ks.map f = fk.map some → us.length = ks.length → Reps K G us vs →
    (∀ z, pAt ks vs p = some z → ∃ v, valV (fk.zip us) k = some v ∧ Rep K G v z) ∧ (pAt ks vs p = none → valV (fk.zip us) k = none) ∧ (pHas ks p = (valV (fk.zip us) k).isSome)
  | [], fk, us, vs, e, l, r => by
    have e : fk = [] := by
      cases fk with
      | nil => rfl
      | cons _ _ => cases e
    subst e
    exact ⟨fun z h => (by cases vs <;> cases h), fun _ => rfl, by simp [pHas]; rfl⟩
  | q :: ks, fk, us, vs, e, l, r => by
    cases fk with
    | nil => cases e
    | cons j fk =>
      rw [List.map_cons, List.map_cons] at e
      injection e with e1 e2
      cases us with
      | nil => cases l
      | cons u us =>
        cases vs with
        | nil => cases (show u :: us = [] from r)
        | cons x vs =>
          obtain ⟨u', us', e3, r1, r2⟩ := r
          cases e3
          have ih := at_gen inj hp (ks := ks) e2 (by simpa using l) r2
          show (∀ z, (if q = p then some x else pAt ks vs p) = some z → _) ∧ ((if q = p then some x else pAt ks vs p) = none → _) ∧ _
          rw [List.zip_cons_cons]
          by_cases h : q = p
          · have hj : j = k := by
              rw [h, hp] at e1
              exact (Option.some.inj e1).symm
            rw [if_pos h]
            refine ⟨fun z hz => ?_, fun hz => (by cases hz), ?_⟩
            · cases hz
              exact ⟨u, valV_pos hj, r1⟩
            · rw [valV_pos hj]
              simp [pHas, h]
          · have hj : ¬ j = k := fun z => h (inj q p k (by rw [e1, z]) hp)
            rw [if_neg h, valV_neg hj]
            refine ⟨ih.1, ih.2.1, ?_⟩
            rw [← ih.2.2]
            have h' : p ≠ q := fun z => h z.symm
            simp [pHas, h']
theorem has_at : ∀ {ks vs : List PV} {p : PV}, vs.length = ks.length → pHas ks p = (pAt ks vs p).isSome
  | [], vs, p, _ => by cases vs <;> simp [pHas, pAt]
  | q :: ks, [], p, l => by cases l
  | q :: ks, x :: vs, p, l => by
    have ih := has_at (ks := ks) (vs := vs) (p := p) (by simpa using l)
    unfold pAt
    by_cases h : q = p
    · rw [if_pos h]
      simp [pHas, h]
    · rw [if_neg h, ← ih]
      have h' : p ≠ q := fun z => h z.symm
      simp [pHas, h']
def kPut (fk : List κ) (k : κ) : List κ := if k ∈ fk then fk else fk ++ [k]
def uPut : List κ → List V → κ → V → List V
  | j :: fk, u :: us, k, v => if j = k then v :: us else u :: uPut fk us k v
  | _, _, _, v => [v]
theorem mem_gen (inj : ∀ p q k, f p = some k → f q = some k → p = q) {p : PV} {k : κ} (hp : f p = some k) : ∀ {ks : List PV} {fk : List κ}, ks.map f = fk.map some → (p ∈ ks ↔ k ∈ fk)
  | [], fk, e => by
    cases fk with
    | nil => simp
    | cons _ _ => cases e
  | q :: ks, fk, e => by
    cases fk with
    | nil => cases e
    | cons j fk =>
      rw [List.map_cons, List.map_cons] at e
      injection e with e1 e2
      have ih := mem_gen inj hp e2
      rw [List.mem_cons, List.mem_cons, ih]
      have : p = q ↔ k = j := ⟨fun h => by rw [← h, hp] at e1; exact Option.some.inj e1, fun h => inj p q k hp (by rw [e1, h])⟩
      rw [this]
theorem putK_gen (inj : ∀ p q k, f p = some k → f q = some k → p = q) {p : PV} {k : κ} (hp : f p = some k) {ks : List PV} {fk : List κ} (e : ks.map f = fk.map some) : (pPutK ks p).map f = (kPut fk k).map some := by
  unfold pPutK kPut
  have m := mem_gen inj hp e
  by_cases h : p ∈ ks
  · rw [if_pos h, if_pos (m.mp h)]
    exact e
  · rw [if_neg h, if_neg fun z => h (m.mpr z), List.map_append, List.map_append, e]
    simp [hp]
theorem putV_gen (inj : ∀ p q k, f p = some k → f q = some k → p = q) {p z : PV} {k : κ} {v : V} (hp : f p = some k) (rv : Rep K G v z) : ∀ {ks : List PV} {fk : List κ} {us : List V} {vs : List PV}, ks.map f = fk.map some → us.length = ks.length → Reps K G us vs →
    Reps K G (uPut fk us k v) (pPutV ks vs p z)
  | [], fk, us, vs, e, l, r => by
    have e : fk = [] := by
      cases fk with
      | nil => rfl
      | cons _ _ => cases e
    subst e
    have e2 : pPutV [] vs p z = [z] := by cases vs <;> rfl
    rw [e2]
    exact .one rv
  | q :: ks, fk, us, vs, e, l, r => by
    cases fk with
    | nil => cases e
    | cons j fk =>
      rw [List.map_cons, List.map_cons] at e
      injection e with e1 e2
      cases us with
      | nil => cases l
      | cons u us =>
        cases vs with
        | nil => cases (show u :: us = [] from r)
        | cons x vs =>
          obtain ⟨u', us', e3, r1, r2⟩ := r
          cases e3
          have ih := putV_gen inj hp rv (ks := ks) e2 (by simpa using l) r2
          show Reps K G (if j = k then v :: us else u :: uPut fk us k v) (if q = p then z :: vs else x :: pPutV ks vs p z)
          by_cases h : q = p
          · have hj : j = k := by
              rw [h, hp] at e1
              exact (Option.some.inj e1).symm
            rw [if_pos h, if_pos hj]
            exact .cons rv r2
          · have hj : ¬ j = k := fun z => h (inj q p k (by rw [e1, z]) hp)
            rw [if_neg h, if_neg hj]
            exact .cons r1 ih
theorem uPut_zip (k : κ) (v : V) : ∀ {fk : List κ} {us : List V}, us.length = fk.length → fk.Nodup → putK (fk.zip us) k v = (kPut fk k).zip (uPut fk us k v) ∧ (uPut fk us k v).length = (kPut fk k).length
  | [], us, l, _ => by
    cases us with
    | nil => exact ⟨rfl, rfl⟩
    | cons _ _ => cases l
  | j :: fk, [], l, _ => by cases l
  | j :: fk, u :: us, l, nd => by
    have nd' := List.nodup_cons.mp nd
    have ih := uPut_zip k v (fk := fk) (us := us) (by simpa using l) nd'.2
    have hz : fk.length = us.length := by simpa using l.symm
    have anyz : ((fk.zip us).any fun kv => decide (kv.1 = k)) = decide (k ∈ fk) := by
      clear ih nd nd' l
      induction fk generalizing us with
      | nil => simp
      | cons a fk ih2 =>
        cases us with
        | nil => cases hz
        | cons b us =>
          rw [List.zip_cons_cons, List.any_cons, ih2 us (by simpa using hz)]
          by_cases h : a = k
          · simp [h]
          · have h' : k ≠ a := fun z => h z.symm
            simp [h, h']
    unfold putK kPut at ih ⊢
    rw [anyz] at ih
    rw [List.zip_cons_cons, List.any_cons, anyz, List.map_cons]
    by_cases h : j = k
    · subst h
      have nm : j ∉ fk := nd'.1
      have same : ((fk.zip us).map fun kv => if kv.1 = j then (kv.1, v) else kv) = fk.zip us := by
        refine (List.map_congr_left fun kv hkv => ?_).trans (List.map_id _)
        obtain ⟨a, b⟩ := kv
        have := (List.of_mem_zip hkv).1
        rw [if_neg fun z => nm (by rw [← z]; exact this)]
        rfl
      rw [same]
      unfold uPut
      simp [l]
      simpa using l
    · have h' : k ≠ j := fun z => h z.symm
      unfold uPut
      rw [if_neg h, if_neg h]
      by_cases hm : k ∈ fk
      · rw [if_pos (by simpa using hm)] at ih
        rw [if_pos hm] at ih
        rw [if_pos (by simp [hm]), if_pos (List.mem_cons_of_mem _ hm), List.zip_cons_cons, ih.1]
        exact ⟨rfl, by rw [List.length_cons, ih.2, List.length_cons]⟩
      · rw [if_neg (by simpa using hm)] at ih
        rw [if_neg hm] at ih
        rw [if_neg (by simp [h, hm]), if_neg (by simp [h', hm]), List.cons_append, List.cons_append, List.zip_cons_cons, ih.1]
        exact ⟨rfl, by rw [List.length_cons, ih.2, List.length_cons]⟩
theorem kPut_nodup {fk : List κ} {k : κ} (h : fk.Nodup) : (kPut fk k).Nodup := by
  unfold kPut
  split
  · exact h
  · rename_i hm
    rw [List.nodup_append]
    exact ⟨h, by simp, fun a ha b hb => by
      have : b = k := by simpa using hb
      subst this
      exact fun z => hm (z ▸ ha)⟩
end
theorem pPutK_len (ks : List PV) (p : PV) : ks.length ≤ (pPutK ks p).length ∧ (pPutK ks p).length ≤ ks.length + 1 := by
  unfold pPutK
  split
  · omega
  · rw [List.length_append]
    simp
theorem pPutK_ne (ks : List PV) (p : PV) : pPutK ks p ≠ [] := by
  unfold pPutK
  split
  · rename_i h
    exact List.ne_nil_of_mem h
  · simp
/-! ### keys in the heap -/
section
variable {K : PySem.W.Frag} {G H : Hp} {P : Program} {w : World} {h : Heap}
theorem tup_at (ok : HOk P w H h) (kin : K.In h) {a : Addr} {vs : List V} (q : SqT K H a vs) : ∃ (o : Obj) (its : Array Value) (n : Nat), h.get? a = some o ∧ o.cls = .type "tuple" ∧ o.data = .seq its n ∧ Vals vs its.toList := by
  rcases q with q | ⟨o, its, n, hk, hc, hs, hz, r⟩
  · obtain ⟨_, its, r, o, h1, h2, n, h3⟩ := (show ObjOk P w H h a (.tup vs) from q.ok ok)
    exact ⟨o, its.toArray, n, h1, h2, h3, by simpa using r⟩
  · exact ⟨o, its, n, kin a o hk, hc, hs, r⟩
mutual
theorem rep_key (s : Same G H) (ok : HOk P w H h) (kin : K.In h) : ∀ {p : PV} {k : NestedKey} {v : V} {u : Value}, nk p = some k → Rep K G v p → RelV v u → NestedIs h k u
  | .non, k, v, u, e, r, rv => by
    cases e
    cases (show v = .non from r)
    cases (show u = _ from rv)
    exact .none
  | .int i, k, v, u, e, r, rv => by
    cases e
    cases (show v = .int i from r)
    obtain ⟨t, rfl⟩ := rv
    exact .int _ _
  | .str i, k, v, u, e, r, rv => by
    cases e
    cases (show v = .str i from r)
    obtain ⟨t, rfl⟩ := rv
    exact .text _ _
  | .tup xs, k, v, u, e, r, rv => by
    unfold nk at e
    split at e
    · rename_i ks e1
      cases e
      obtain ⟨a, vs, rfl, q, r⟩ := r
      cases (show u = _ from rv)
      obtain ⟨o, its, n, h1, h2, h3, h4⟩ := tup_at ok kin (Same.seqT s q)
      exact .tup h1 h2 h3 (reps_key s ok kin e1 r h4)
    · cases e
  | .bl _, k, v, u, e, r, rv => by cases e
  | .ty _, k, v, u, e, r, rv => by cases e
  | .lst _, k, v, u, e, r, rv => by cases e
  | .scr _, k, v, u, e, r, rv => by cases e
  | .dic _ _, k, v, u, e, r, rv => by cases e
theorem reps_key (s : Same G H) (ok : HOk P w H h) (kin : K.In h) : ∀ {ps : List PV} {ks : List NestedKey} {vs : List V} {us : List Value}, nks ps = some ks → Reps K G vs ps → Vals vs us → NestedAll h ks us
  | [], ks, vs, us, e, r, rv => by
    cases e
    cases (show vs = [] from r)
    cases rv
    exact .nil
  | p :: ps, ks, vs, us, e, r, rv => by
    unfold nks at e
    split at e
    · rename_i k e1
      split at e
      · rename_i ks' e2
        cases e
        obtain ⟨v, vr, rfl, r1, r2⟩ := r
        cases rv with
        | cons h1 h2 => exact .cons (rep_key s ok kin e1 r1 h1) (reps_key s ok kin e2 r2 h2)
      · cases e
    · cases e
end
theorem rep_tk (s : Same G H) (ok : HOk P w H h) (kin : K.In h) {p : PV} {k : NestedKey} {v : V} (e : tk p = some k) (r : Rep K G v p) : ∃ b, v = .ref b ∧ (nestedKind P w).is h k b := by
  obtain ⟨e1, d, xs, rfl⟩ := tk_tup e
  have r' := r
  obtain ⟨a, vs, rfl, _⟩ := r'
  exact ⟨a, rfl, rep_key s ok kin e1 r rfl, d⟩
end
/-- the entries, with the keys' kinds -/
inductive XR : List NestedKey → List Addr → List V → List (NestedKey × Addr × Value) → Prop
  | nil : XR [] [] [] []
  | cons {k : NestedKey} {b : Addr} {v : V} {u : Value} {ks : List NestedKey} {bs : List Addr} {vs : List V} {xs : List (NestedKey × Addr × Value)} : RelV v u → XR ks bs vs xs → XR (k :: ks) (b :: bs) (v :: vs) ((k, b, u) :: xs)
def bPut (nk : List NestedKey) (bs : List Addr) (k : NestedKey) (b : Addr) : List Addr := if k ∈ nk then bs else bs ++ [b]
section
variable {P : Program} {w : World}
theorem XR.of_ent : ∀ {nk : List NestedKey} {bs : List Addr} {us : List V} {es : List DictEntry}, EntR (nk.map (NestedKey.hash w)) bs us es → ∃ xs, XR nk bs us xs ∧ es = xs.map (entryOfKey (nestedKind P w))
  | [], bs, us, es, h => by
    rw [List.map_nil] at h
    cases h
    exact ⟨[], .nil, rfl⟩
  | k :: nk, bs, us, es, h => by
    rw [List.map_cons] at h
    cases h with
    | cons r t =>
      obtain ⟨xs, h1, h2⟩ := XR.of_ent t
      exact ⟨_, .cons r h1, by rw [h2]; rfl⟩
theorem XR.ent {nk : List NestedKey} {bs : List Addr} {us : List V} {xs : List (NestedKey × Addr × Value)} (h : XR nk bs us xs) : EntR (nk.map (NestedKey.hash w)) bs us (xs.map (entryOfKey (nestedKind P w))) := by
  induction h with
  | nil => exact .nil
  | cons r t ih => exact .cons r ih
theorem XR.keys {nk : List NestedKey} {bs : List Addr} {us : List V} {xs : List (NestedKey × Addr × Value)} (h : XR nk bs us xs) : xs.map (·.1) = nk ∧ xs.length = nk.length ∧ us.length = nk.length ∧ bs.length = nk.length := by
  induction h with
  | nil => exact ⟨rfl, rfl, rfl, rfl⟩
  | cons r t ih => exact ⟨by rw [List.map_cons, ih.1], by rw [List.length_cons, ih.2.1, List.length_cons], by rw [List.length_cons, ih.2.2.1, List.length_cons], by rw [List.length_cons, ih.2.2.2, List.length_cons]⟩
theorem XR.at {nk : List NestedKey} {bs : List Addr} {us : List V} {xs : List (NestedKey × Addr × Value)} (h : XR nk bs us xs) (k : NestedKey) : RelO (valV (nk.zip us) k) ((atKey xs k).map (·.2)) := by
  induction h with
  | nil => exact True.intro
  | @cons j b v u ks bs vs xs r t ih =>
    rw [List.zip_cons_cons]
    by_cases e : j = k
    · have b : atKey ((j, b, u) :: xs) k = some (b, u) := by simp [atKey, e]
      rw [valV_pos e, b]
      exact r
    · have b : atKey ((j, b, u) :: xs) k = atKey xs k := by simp [atKey, e]
      rw [valV_neg e, b]
      exact ih
theorem XR.put {nk : List NestedKey} {bs : List Addr} {us : List V} {xs : List (NestedKey × Addr × Value)} (h : XR nk bs us xs) (nd : nk.Nodup) (k : NestedKey) (b : Addr) {v : V} {u : Value} (rv : RelV v u) : XR (kPut nk k) (bPut nk bs k b) (uPut nk us k v) (storedH xs k b u) := by
  have any : ∀ {nk : List NestedKey} {bs : List Addr} {us : List V} {xs : List (NestedKey × Addr × Value)}, XR nk bs us xs → (atKey xs k).isSome = decide (k ∈ nk) := fun {nk bs us xs} h => by
    induction h with
    | nil => rfl
    | @cons j b' v' u' ks bs vs xs r t ih =>
      by_cases e : j = k
      · simp [atKey, e]
      · have e1 : atKey ((j, b', u') :: xs) k = atKey xs k := by simp [atKey, e]
        have e2 : k ≠ j := fun z => e z.symm
        rw [e1, ih]
        simp [e2]
  unfold storedH kPut bPut
  rw [any h]
  by_cases hm : k ∈ nk
  · rw [if_pos hm, if_pos hm, if_pos (by simpa using hm)]
    have go : ∀ {nk : List NestedKey} {bs : List Addr} {us : List V} {xs : List (NestedKey × Addr × Value)}, XR nk bs us xs → nk.Nodup → k ∈ nk → XR nk bs (uPut nk us k v) (xs.map (putAt k u)) := fun {nk bs us xs} h => by
      induction h with
      | nil => intro _ z; cases z
      | @cons j b' v' u' ks bs vs xs r t ih =>
        intro nd hk
        have nd' := List.nodup_cons.mp nd
        rw [List.map_cons]
        unfold uPut
        by_cases e : j = k
        · rw [if_pos e]
          have same : xs.map (putAt k u) = xs := map_putAt_of_not_mem xs k u (by rw [t.keys.1]; exact e ▸ nd'.1)
          rw [same]
          unfold putAt
          rw [if_pos e]
          exact .cons rv t
        · rw [if_neg e]
          unfold putAt
          rw [if_neg e]
          refine .cons r (ih nd'.2 ?_)
          rcases List.mem_cons.mp hk with z | z
          · exact absurd z.symm e
          · exact z
    exact go h nd hm
  · rw [if_neg hm, if_neg hm, if_neg (by simpa using hm)]
    have go : ∀ {nk : List NestedKey} {bs : List Addr} {us : List V} {xs : List (NestedKey × Addr × Value)}, XR nk bs us xs → k ∉ nk → XR (nk ++ [k]) (bs ++ [b]) (uPut nk us k v) (xs ++ [(k, b, u)]) := fun {nk bs us xs} h => by
      induction h with
      | nil => intro _; exact .cons rv .nil
      | @cons j b' v' u' ks bs vs xs r t ih =>
        intro hk
        simp only [List.mem_cons, not_or] at hk
        unfold uPut
        rw [if_neg fun z => hk.1 z.symm]
        exact .cons r (ih hk.2)
    exact go h hm
end
end
section
variable [Fx]
/-! ### a dict in the heap -/
/-- at a stands a dict with these keys and values -/
def DAt (K : PySem.W.Frag) (G H : Hp) (a : Addr) (ks vs : List PV) : Prop := ∃ o kws us, H a = some o ∧ Reps K G kws ks ∧ Reps K G us vs ∧ DicS a o kws us ks
theorem pk_dic {K : PySem.W.Frag} {G H : Hp} {x : V} {ks vs : List PV} (s : Same G H) (h : Pk K G H x (.dic ks vs)) : ∃ a, x = .ref a ∧ DAt K G H a ks vs := by
  rcases h with ⟨a, o, kws, us, rfl, h1, h2, h3, h4⟩ | ⟨a, rfl, o, kws, us, h1, h2, h3, h4⟩
  · exact ⟨a, rfl, o, kws, us, s _ _ h1, h2, h3, h4⟩
  · exact ⟨a, rfl, o, kws, us, h1, h2, h3, h4⟩
/-- what the dict holds at a key -/
structure OV (K : PySem.W.Frag) (G : Hp) (ks vs : List PV) (p : PV) (ov : Option V) : Prop where
  there : ∀ z, pAt ks vs p = some z → ∃ v, ov = some v ∧ Rep K G v z
  no : pAt ks vs p = none → ov = none
  has : pHas ks p = ov.isSome
/-- the look at a dict whose keys are tuples -/
structure NGet (P : Program) (w : World) (h : Heap) (a b : Addr) (ov : Option V) (k : NestedKey) (xs : List (NestedKey × Addr × Value)) : Prop where
  key : (nestedKind P w).is h k b
  dict : h.DictOfH (nestedKind P w) a xs
  val : RelO ov ((atKey xs k).map (·.2))
  sys : (a == sysModules) = false
section
variable {X : Cx} {pins : List (Addr × Obj)} {σ : St} {G H : Hp} {s : Shared} {a : Addr} {y v : V} {u r : Value} {A : Around} {E : Value → Shared → Prop} {ks vs : List PV} {p z : PV}
/-- the dict's own entries -/
theorem nested_at {bs : List Addr} {nk : List NestedKey} {us : List V} (hw : X.w = Fx.w) (I : Inv X pins σ H s) (sm : Same G H) (e : H a = some (NDO a (nk.map (NestedKey.hash Fx.w)) bs us)) (rk : Reps X.K G (bs.map V.ref) ks) (ek : ks.map tk = nk.map some) (nd : nk.Nodup) :
    ∃ xs, XR nk bs us xs ∧ s.heap.DictOfH (nestedKind X.prog X.w) a xs := by
  obtain ⟨⟨o, es, ep, h1, h2, h3, h4⟩, hx1, hx2⟩ := I.hok a _ e
  clear hx1 hx2
  rw [← hw] at h4
  obtain ⟨xs, h5, h6⟩ := XR.of_ent (P := X.prog) h4
  refine ⟨xs, h5, o, es, ep, h1, h2, h3, h6, ?_, by rw [h5.keys.1]; exact nd⟩
  clear h6 h4 e nd
  induction h5 generalizing ks with
  | nil => intro x hx; cases hx
  | @cons k b v u nk bs us xs rv t ih =>
    cases ks with
    | nil => cases ek
    | cons q ks =>
      rw [List.map_cons, List.map_cons] at ek
      injection ek with e1 e2
      obtain ⟨v', vr, e3, r1, r2⟩ := rk
      rw [List.map_cons] at e3
      injection e3 with e4 e5
      subst e4 e5
      intro x hx
      rcases List.mem_cons.mp hx with hx | hx
      · subst hx
        obtain ⟨b', e6, e7⟩ := rep_tk sm I.hok I.kIn e1 r1
        cases e6
        exact e7
      · exact ih r2 e2 x hx
theorem x_look (hw : X.w = Fx.w) (I : Inv X pins σ H s) (sm : Same G H) (d : DAt X.K G H a ks vs) (hk : okd ks p = true) (rp : Rep X.K G y p) (ry : RelV y u) :
    ∃ ov, OV X.K G ks vs p ov ∧ (DGet H a y ov ∨ ∃ b k xs, u = .ref b ∧ NGet X.prog X.w s.heap a b ov k xs) := by
  obtain ⟨o, kws, us, h1, h2, h3, l1, l2, h4⟩ := d
  unfold okd at hk
  rw [Bool.or_eq_true, Bool.and_eq_true, Bool.and_eq_true] at hk
  rcases h4 with ⟨fk, rfl, nd, rfl⟩ | ⟨bs, nk, ne, rfl, ek, nd, sy, rfl⟩
  · rcases hk with ⟨k1, k2⟩ | ⟨k1, k2⟩
    · obtain ⟨k, ek⟩ := Option.isSome_iff_exists.mp k1
      have e0 := kPV_pk ek
      subst e0
      have g := at_gen (f := pk) (fun p q k h1 h2 => pk_inj h1 h2) ek (ks := fk.map kPV) (fk := fk) (by rw [List.map_map]; exact List.map_congr_left fun x _ => pk_kPV x) l1 h3
      have ey : y = kV k := by
        cases k with
        | inl i => exact rp
        | inr i => exact rp
      exact ⟨valV (fk.zip us) k, ⟨g.1, g.2.1, g.2.2⟩, .inl (.inl ⟨_, k, .inl h1, ey, rfl⟩)⟩
    · cases fk with
      | cons k fk =>
        rw [List.map_cons, List.all_cons, tk_pk (pk_kPV k)] at k2
        cases k2
      | nil =>
        obtain ⟨k, ek⟩ := Option.isSome_iff_exists.mp k1
        obtain ⟨b, rfl, kis⟩ := rep_tk sm I.hok I.kIn ek rp
        cases (show u = _ from ry)
        obtain ⟨_, hd, vs', rel, dd⟩ := dk_of I.hok h1
        cases rel
        obtain ⟨ob, es, ep, q1, q2, q3, q4, q5, q6⟩ := dd
        have he : es.toList = [] := by
          generalize es.toList = l at q5
          cases q5
          rfl
        have ev : vs = [] := by
          cases us with
          | nil =>
            have := h3.length
            cases vs with
            | nil => rfl
            | cons _ _ => cases this
          | cons _ _ => cases l1
        subst ev
        exact ⟨none, ⟨fun z hz => (by cases hz), fun _ => rfl, by simp [pHas]⟩, .inr ⟨b, k, [], rfl, kis, ⟨ob, es, ep, q1, q2, q3, he, fun x hx => (by cases hx), List.nodup_nil⟩, True.intro, hd⟩⟩
  · rcases hk with ⟨k1, k2⟩ | ⟨k1, k2⟩
    · cases ks with
      | nil => exact absurd rfl ne
      | cons q ks =>
        rw [List.all_cons, Bool.and_eq_true] at k2
        obtain ⟨k, ek2⟩ := Option.isSome_iff_exists.mp k2.1
        cases nk with
        | nil => cases ek
        | cons j nk =>
          rw [List.map_cons, List.map_cons, tk_pk ek2] at ek
          injection ek with e1 _
          cases e1
    · obtain ⟨k, ek2⟩ := Option.isSome_iff_exists.mp k1
      obtain ⟨b, rfl, kis⟩ := rep_tk sm I.hok I.kIn ek2 rp
      cases (show u = _ from ry)
      obtain ⟨xs, xr, dd⟩ := nested_at hw I sm h1 h2 ek nd
      have g := at_gen (f := tk) (fun p q k h1 h2 => tk_inj h1 h2) ek2 ek l1 h3
      exact ⟨valV (nk.zip us) k, ⟨g.1, g.2.1, g.2.2⟩, .inr ⟨b, k, xs, rfl, kis, dd, xr.at k, sy⟩⟩
theorem nroom {A : Around} (hu : A.units + 64 < cLine) {P : Program} {w : World} : (nestedKind P w).room A.in1 := by
  show A.in1.units + 8 < cLine
  rw [Around.in1_units]
  omega
theorem x_getItem {Q : Value → Shared → Prop} (hu : A.units + 64 < cLine) (hw : X.w = Fx.w) (I : Inv X pins σ H s) (sm : Same G H) (d : DAt X.K G H a ks vs) (hk : okd ks p = true) (rp : Rep X.K G y p) (ry : RelV y u) (hz : pAt ks vs p = some z)
    (h : ∀ v w' s', Inv X pins σ H s' → Rep X.K G v z → RelV v w' → Q w' s') : wpAny (model X.prog X.w) A (getItem (.ref a) u) Q E s := by
  obtain ⟨ov, o1, g | ⟨b, k, xs, rfl, n⟩⟩ := x_look hw I sm d hk rp ry
  · obtain ⟨v, rfl, rv⟩ := o1.there z hz
    exact d_getItem (by omega) I g ry fun w' s' I' r' => h v w' s' I' rv r'
  · obtain ⟨v, rfl, rv⟩ := o1.there z hz
    obtain ⟨w', e1, r'⟩ := RelO.some_of (v := v) (o := (atKey xs k).map (·.2)) n.val
    obtain ⟨p', e2, e3⟩ := Option.map_eq_some_iff.mp e1
    refine wpAny_getItem_heap (nroom hu) n.key n.dict e2 ?_
    rw [e3]
    exact h v w' _ (I.tok _) rv r'
theorem x_in {Q : Value → Shared → Prop} (hu : A.units + 64 < cLine) (hw : X.w = Fx.w) (I : Inv X pins σ H s) (sm : Same G H) (d : DAt X.K G H a ks vs) (hk : okd ks p = true) (rp : Rep X.K G y p) (ry : RelV y u)
    (h : ∀ s', Inv X pins σ H s' → Q (.bool (pHas ks p)) s') : wpAny (model X.prog X.w) A (compareOp .In u (.ref a)) Q E s := by
  obtain ⟨ov, o1, g | ⟨b, k, xs, rfl, n⟩⟩ := x_look hw I sm d hk rp ry
  · exact d_in (by omega) I g ry fun s' I' => by rw [← o1.has]; exact h s' I'
  · refine wpAny_in_heap (nroom hu) n.key n.sys n.dict ?_
    have q := n.val.isSome_eq
    rw [Option.isSome_map] at q
    rw [← q, ← o1.has]
    exact h _ (I.tok _)
theorem x_notIn {Q : Value → Shared → Prop} (hu : A.units + 64 < cLine) (hw : X.w = Fx.w) (I : Inv X pins σ H s) (sm : Same G H) (d : DAt X.K G H a ks vs) (hk : okd ks p = true) (rp : Rep X.K G y p) (ry : RelV y u)
    (h : ∀ s', Inv X pins σ H s' → Q (.bool (!pHas ks p)) s') : wpAny (model X.prog X.w) A (compareOp .NotIn u (.ref a)) Q E s := by
  obtain ⟨ov, o1, g | ⟨b, k, xs, rfl, n⟩⟩ := x_look hw I sm d hk rp ry
  · exact d_notIn (by omega) I g ry fun s' I' => by rw [← o1.has]; exact h s' I'
  · refine wpAny_notIn_heap (nroom hu) n.key n.sys n.dict ?_
    have q := n.val.isSome_eq
    rw [Option.isSome_map] at q
    rw [← q, ← o1.has]
    exact h _ (I.tok _)
theorem x_get1 {Q : Value → Shared → Prop} (hu : A.units + 64 < cLine) (hw : X.w = Fx.w) (I : Inv X pins σ H s) (sm : Same G H) (d : DAt X.K G H a ks vs) (hk : okd ks p = true) (rp : Rep X.K G y p) (ry : RelV y u)
    (h : ∀ v w' s', Inv X pins σ H s' → Rep X.K G v ((pAt ks vs p).getD .non) → RelV v w' → Q w' s') : wpAny (model X.prog X.w) A (call (.builtin "dict.get") [.ref a, u]) Q E s := by
  obtain ⟨ov, o1, g⟩ := x_look hw I sm d hk rp ry
  have rv : Rep X.K G (ov.getD .non) ((pAt ks vs p).getD .non) := by
    cases e : pAt ks vs p with
    | none => rw [o1.no e]; rfl
    | some z =>
      obtain ⟨v, e2, r⟩ := o1.there z e
      rw [e2]
      exact r
  rcases g with g | ⟨b, k, xs, rfl, n⟩
  · exact d_get1 (by omega) I g ry fun w' s' I' r' => h _ w' s' I' rv r'
  · refine call_meetsIn PySem.F.slot_dict_get n.dict.typeIs PySem.F.entry_dict_get (PySem.F.args_dict_get_2 _ _) (meetsH_dict_get _ a b n.sys) ⟨nroom hu, k, xs, n.key, n.dict, h _ _ _ (I.tok _) rv ?_⟩
    exact n.val.getD rfl
theorem x_get2 {Q : Value → Shared → Prop} {x : PV} (hu : A.units + 64 < cLine) (hw : X.w = Fx.w) (I : Inv X pins σ H s) (sm : Same G H) (d : DAt X.K G H a ks vs) (hk : okd ks p = true) (rp : Rep X.K G y p) (ry : RelV y u) (rx : Rep X.K G v x) (rr : RelV v r)
    (h : ∀ v w' s', Inv X pins σ H s' → Rep X.K G v ((pAt ks vs p).getD x) → RelV v w' → Q w' s') : wpAny (model X.prog X.w) A (call (.builtin "dict.get") [.ref a, u, r]) Q E s := by
  obtain ⟨ov, o1, g⟩ := x_look hw I sm d hk rp ry
  have rv : Rep X.K G (ov.getD v) ((pAt ks vs p).getD x) := by
    cases e : pAt ks vs p with
    | none => rw [o1.no e]; exact rx
    | some z =>
      obtain ⟨v, e2, r⟩ := o1.there z e
      rw [e2]
      exact r
  rcases g with g | ⟨b, k, xs, rfl, n⟩
  · exact d_get2 (by omega) I g ry rr fun w' s' I' r' => h _ w' s' I' rv r'
  · refine call_meetsIn PySem.F.slot_dict_get n.dict.typeIs PySem.F.entry_dict_get (PySem.F.args_dict_get_3 _ _ _) (meetsH_dict_get_default _ a b n.sys r) ⟨nroom hu, k, xs, n.key, n.dict, h _ _ _ (I.tok _) rv ?_⟩
    exact n.val.getD rr
/-- d[y] = v, by whatever stores it -/
theorem x_setG {Q : Unit → Shared → Prop} {W : Prop} (hf : ∀ {kvs : List (Key × V)} {k : Key}, H a = some (.dK kvs) → y = kV k → kvs.length < sizeLine → (∀ s', Inv X pins σ (upd H a (.dK (putK kvs k v))) s' → Q () s') → W)
    (hn : ∀ {xs : List (NestedKey × Addr × Value)} {k : NestedKey} {b : Addr}, u = .ref b → (nestedKind X.prog X.w).is s.heap k b → s.heap.DictOfH (nestedKind X.prog X.w) a xs → xs.length ≤ sizeLine →
      (∀ h', h'.DictOfH (nestedKind X.prog X.w) a (storedH xs k b r) → Heap.SameBut a s.heap h' → Q () { s with heap := h', toks := s.toks + (nestedKind X.prog X.w).draws k }) → W) (hw : X.w = Fx.w) (I : Inv X pins σ H s) (sm : Same G H) (gn : G a = none) (d : DAt X.K G H a ks vs) (hk : okd ks p = true) (hl : ks.length < sizeLine) (rp : Rep X.K G y p) (ry : RelV y u) (rz : Rep X.K G v z) (rr : RelV v r)
    (h : ∀ o s', Inv X pins σ (upd H a o) s' → DAt X.K G (upd H a o) a (pPutK ks p) (pPutV ks vs p z) → (∃ o1, H a = some o1 ∧ NT o1) → Q () s') : W := by
  have d0 := d
  obtain ⟨o, kws, us, h1, h2, h3, l1, l2, h4⟩ := d
  unfold okd at hk
  rw [Bool.or_eq_true, Bool.and_eq_true, Bool.and_eq_true] at hk
  have lp := pPutK_len ks p
  -- a dict whose keys are tuples, by its entries
  have nested : ∀ (bs : List Addr) (nk : List NestedKey) (k : NestedKey) (xs : List (NestedKey × Addr × Value)), tk p = some k → XR nk bs us xs → s.heap.DictOfH (nestedKind X.prog X.w) a xs → Reps X.K G (bs.map V.ref) ks → ks.map tk = nk.map some → nk.Nodup → (a == sysModules) = false → Mut (H a) → NT o → W := fun bs nk k xs ek xr dd rk ekk nd sy mu nto => by
    obtain ⟨b, rfl, kis⟩ := rep_tk sm I.hok I.kIn ek rp
    cases (show u = _ from ry)
    refine hn rfl kis dd (by rw [xr.keys.2.1]; have := congrArg List.length ekk; simp at this; omega) fun h' dd' hs => ?_
    have xr' := xr.put nd k b rr
    obtain ⟨q, es, ep, q1, q2, q3, q4, q5, q6⟩ := dd'
    have new : ObjOk X.prog X.w (upd H a (NDO a ((kPut nk k).map (NestedKey.hash Fx.w)) (bPut nk bs k b) (uPut nk us k v))) h' a (NDO a ((kPut nk k).map (NestedKey.hash Fx.w)) (bPut nk bs k b) (uPut nk us k v)) := by
      refine ⟨⟨q, es, ep, q1, q2, q3, ?_⟩, ⟨q, q1⟩, fun g1 g2 ⟨o', es', ep', w1, w2, w3, w4⟩ st => ⟨o', es', ep', st _ w1, w2, w3, w4⟩⟩
      rw [q4, ← hw]
      exact xr'.ent
    refine h _ _ (d_write I mu hs ⟨q, q1⟩ new) ⟨_, (bPut nk bs k b).map V.ref, uPut nk us k v, upd_same, ?_, putV_gen (f := tk) (fun p q k h1 h2 => tk_inj h1 h2) ek rz ekk l1 h3, ?_⟩ ⟨o, h1, nto⟩
    · unfold bPut pPutK
      have m := mem_gen (f := tk) (fun p q k h1 h2 => tk_inj h1 h2) ek ekk
      by_cases hm : p ∈ ks
      · rw [if_pos hm, if_pos (m.mp hm)]
        exact rk
      · rw [if_neg hm, if_neg fun z => hm (m.mpr z), List.map_append]
        exact rk.append (.one rp)
    · refine ⟨?_, by omega, .inr ⟨_, kPut nk k, pPutK_ne _ _, rfl, putK_gen (f := tk) (fun p q k h1 h2 => tk_inj h1 h2) ek ekk, kPut_nodup nd, sy, rfl⟩⟩
      have e1 := (uPut_zip k v (fk := nk) (us := us) (by have := congrArg List.length ekk; simp at this; omega) nd).2
      have e2 := congrArg List.length (putK_gen (f := tk) (fun p q k h1 h2 => tk_inj h1 h2) ek ekk)
      simp at e2
      omega
  rcases h4 with ⟨fk, rfl, nd, rfl⟩ | ⟨bs, nk, ne, rfl, ek, nd, sy, rfl⟩
  · rcases hk with ⟨k1, k2⟩ | ⟨k1, k2⟩
    · obtain ⟨k, ek⟩ := Option.isSome_iff_exists.mp k1
      have e0 := kPV_pk ek
      subst e0
      have emap : (fk.map kPV).map pk = fk.map some := by rw [List.map_map]; exact List.map_congr_left fun x _ => pk_kPV x
      have ey : y = kV k := by
        cases k with
        | inl i => exact rp
        | inr i => exact rp
      subst ey
      have ll : us.length = fk.length := by simpa using l1
      obtain ⟨z1, z2⟩ := uPut_zip k v ll nd
      refine hf h1 rfl (by simp; simp at hl; omega) fun s' I' => h _ s' I' ⟨_, (kPut fk k).map kV, uPut fk us k v, upd_same, ?_, putV_gen (f := pk) (fun p q k h1 h2 => pk_inj h1 h2) ek rz emap l1 h3, ?_⟩ ⟨_, h1, trivial⟩
      · have e3 := putK_gen (f := pk) (fun p q k h1 h2 => pk_inj h1 h2) ek emap
        have e4 : pPutK (fk.map kPV) (kPV k) = (kPut fk k).map kPV := by
          have go : ∀ {l : List PV} {m : List Key}, l.map pk = m.map some → l = m.map kPV := fun {l m} e => by
            induction l generalizing m with
            | nil =>
              cases m with
              | nil => rfl
              | cons _ _ => cases e
            | cons q l ih =>
              cases m with
              | nil => cases e
              | cons j m =>
                rw [List.map_cons, List.map_cons] at e
                injection e with e1 e2
                rw [List.map_cons, ← ih e2, kPV_pk e1]
          exact go e3
        rw [e4]
        have go : ∀ m : List Key, Reps X.K G (m.map kV) (m.map kPV) := fun m => by
          induction m with
          | nil => rfl
          | cons j m ih => exact ⟨_, _, rfl, by cases j <;> rfl, ih⟩
        exact go _
      · refine ⟨?_, by omega, .inl ⟨kPut fk k, ?_, kPut_nodup nd, by rw [z1]⟩⟩
        · have e2 := congrArg List.length (putK_gen (f := pk) (fun p q k h1 h2 => pk_inj h1 h2) ek emap)
          simp at e2
          omega
        · have e3 := putK_gen (f := pk) (fun p q k h1 h2 => pk_inj h1 h2) ek emap
          have go : ∀ {l : List PV} {m : List Key}, l.map pk = m.map some → l = m.map kPV := fun {l m} e => by
            induction l generalizing m with
            | nil =>
              cases m with
              | nil => rfl
              | cons _ _ => cases e
            | cons q l ih =>
              cases m with
              | nil => cases e
              | cons j m =>
                rw [List.map_cons, List.map_cons] at e
                injection e with e1 e2
                rw [List.map_cons, ← ih e2, kPV_pk e1]
          exact go e3
    · cases fk with
      | cons k fk =>
        rw [List.map_cons, List.all_cons, tk_pk (pk_kPV k)] at k2
        cases k2
      | nil =>
        obtain ⟨k, ek⟩ := Option.isSome_iff_exists.mp k1
        obtain ⟨_, hd, vs', rel, dd⟩ := dk_of I.hok h1
        cases rel
        obtain ⟨ob, es, ep, q1, q2, q3, q4, q5, q6⟩ := dd
        have he : es.toList = [] := by
          generalize es.toList = l at q5
          cases q5
          rfl
        have eus : us = [] := by
          cases us with
          | nil => rfl
          | cons _ _ => cases l1
        subst eus
        exact nested [] [] k [] ek .nil ⟨ob, es, ep, q1, q2, q3, he, fun x hx => (by cases hx), List.nodup_nil⟩ .nil rfl List.nodup_nil hd (by rw [h1]; trivial) trivial
  · rcases hk with ⟨k1, k2⟩ | ⟨k1, k2⟩
    · cases ks with
      | nil => exact absurd rfl ne
      | cons q ks =>
        rw [List.all_cons, Bool.and_eq_true] at k2
        obtain ⟨k, ek2⟩ := Option.isSome_iff_exists.mp k2.1
        cases nk with
        | nil => cases ek
        | cons j nk =>
          rw [List.map_cons, List.map_cons, tk_pk ek2] at ek
          injection ek with e1 _
          cases e1
    · obtain ⟨k, ek2⟩ := Option.isSome_iff_exists.mp k1
      obtain ⟨xs, xr, dd⟩ := nested_at hw I sm h1 h2 ek nd
      exact nested bs nk k xs ek2 xr dd h2 ek nd sy (by rw [h1]; trivial) trivial
theorem x_setItem {Q : Unit → Shared → Prop} (hu : A.units + 64 < cLine) (hw : X.w = Fx.w) (I : Inv X pins σ H s) (sm : Same G H) (gn : G a = none) (d : DAt X.K G H a ks vs) (hk : okd ks p = true) (hl : ks.length < sizeLine) (rp : Rep X.K G y p) (ry : RelV y u) (rz : Rep X.K G v z) (rr : RelV v r)
    (h : ∀ o s', Inv X pins σ (upd H a o) s' → DAt X.K G (upd H a o) a (pPutK ks p) (pPutV ks vs p z) → (∃ o1, H a = some o1 ∧ NT o1) → Q () s') : wpAny (model X.prog X.w) A (setItem (.ref a) u r) Q E s :=
  x_setG (fun {kvs k} e ey l q => by subst ey; exact d_setItem (by omega) I (DPut.k e l) ry rr q) (fun {xs k b} eu kis dd l q => by subst eu; exact wpAny_setItem_heap (hsz := l) (nroom hu) kis dd q) hw I sm gn d hk hl rp ry rz rr h
theorem x_dictSet {Q : Unit → Shared → Prop} (hu : A.units + 64 < cLine) (hw : X.w = Fx.w) (I : Inv X pins σ H s) (sm : Same G H) (gn : G a = none) (d : DAt X.K G H a ks vs) (hk : okd ks p = true) (hl : ks.length < sizeLine) (rp : Rep X.K G y p) (ry : RelV y u) (rz : Rep X.K G v z) (rr : RelV v r)
    (h : ∀ o s', Inv X pins σ (upd H a o) s' → DAt X.K G (upd H a o) a (pPutK ks p) (pPutV ks vs p z) → (∃ o1, H a = some o1 ∧ NT o1) → Q () s') : wpAny (model X.prog X.w) A (dictSet a u r) Q E s :=
  x_setG (fun {kvs k} e ey l q => by
    subst ey
    obtain ⟨_, hd, vs', rel, dd⟩ := dk_of I.hok e
    refine wpAny_dictSet_pairs (hsz := by rw [← rel.length]; omega) (kV_is ry) dd fun h' dd' hs => q _ ?_
    have he : ∃ q, h'.get? a = some q := let ⟨q, _, _, hq, _⟩ := dd'; ⟨q, hq⟩
    have hl : (putK kvs k v).length ≤ sizeLine := by have := length_putK kvs k v; omega
    exact d_write I (by rw [e]; exact True.intro) hs he (dk_new hl hd (rel.put k rr) dd'))
    (fun {xs k b} eu kis dd l q => by subst eu; exact wpAny_dictSet_heap (hsz := l) (show A.units + 8 < cLine by omega) kis dd q) hw I sm gn d hk hl rp ry rz rr h
end
end
section
/-! ### whole numbers -/
/-- a guard that no reduction opens -/
theorem hide_ex {α : Type} (P : α → Prop) : ∃ f : α → Bool, ∀ x, f x = true ↔ P x := ⟨fun x => @decide (P x) (Classical.propDecidable _), fun x => @decide_eq_true_iff (P x) (Classical.propDecidable _)⟩
def hide {α : Type} (P : α → Prop) : α → Bool := Classical.choose (hide_ex P)
theorem of_hide {α : Type} {P : α → Prop} {x : α} (h : hide P x = true) : P x := (Classical.choose_spec (hide_ex P) x).mp h
theorem hide_of {α : Type} {P : α → Prop} {x : α} (h : P x) : hide P x = true := (Classical.choose_spec (hide_ex P) x).mpr h
theorem popOk_of {i : Int} (h : hide (fun i : Int => -(2 ^ 63) ≤ i ∧ i < 2 ^ 63) i = true) : -(2 ^ 63) ≤ i ∧ i < 2 ^ 63 := of_hide (P := fun i : Int => -(2 ^ 63) ≤ i ∧ i < 2 ^ 63) h
def divOk (j : Int) : Bool := hide (fun j : Int => 0 < j ∧ ((j.natAbs.log2 : Nat) : Int) < 9000) j
def powOk (i j : Int) : Bool := hide (fun z : Int × Int => 0 ≤ z.2 ∧ z.2 ≤ 1000000 ∧ (-(2 ^ 64) < z.1 ∧ z.1 < 2 ^ 64)) (i, j)
def shrOk (j : Int) : Bool := hide (fun j : Int => 0 ≤ j) j
def popOk (i : Int) : Bool := hide (fun i : Int => -(2 ^ 63) ≤ i ∧ i < 2 ^ 63) i
def rgOk (i : Int) : Bool := hide (fun i : Int => -(2 ^ 62) ≤ i ∧ i < 2 ^ 62) i
theorem rgOk_of {i : Int} (h : rgOk i = true) : -(2 ^ 62) ≤ i ∧ i < 2 ^ 62 := of_hide (P := fun i : Int => -(2 ^ 62) ≤ i ∧ i < 2 ^ 62) h
/-- two factors of together less than some million bits -/
def mulOk (i j : Int) : Bool := hide (fun z : Int × Int => z.1.natAbs.log2 + z.2.natAbs.log2 < 1000000) (i, j)
/-- a length that is served (by whole numbers: the kernel does not count it out) -/
def fits (n : Nat) : Bool := hide (fun n : Nat => n ≤ 1000000) n
theorem fits_of {n : Nat} (h : n ≤ 1000000) : fits n = true := hide_of h
theorem of_fits {n : Nat} (h : fits n = true) : n ≤ 1000000 := by
  exact of_hide (P := fun n : Nat => n ≤ 1000000) h
@[simp] def gAdd : PV → PV → Option PV
  | .int i, .int j => some (.int (i + j))
  | .int i, .bl b => some (.int (i + b2i b))
  | .tup xs, .tup ys => if fits (xs.length + ys.length) = true then some (.tup (xs ++ ys)) else none
  | .str x, .str y => if fits (x.length + y.length) = true then some (.str (x ++ y)) else none
  | _, _ => none
@[simp] def gSub (x y : PV) : Option PV := gI (fun i j => some (.int (i - j))) x y
def gMul (x y : PV) : Option PV := gI (fun i j => if mulOk i j then some (.int (i * j)) else none) x y
@[simp] def gMod (x y : PV) : Option PV := gI (fun i j => if j = 0 then none else some (.int (i.fmod j))) x y
def gDiv (x y : PV) : Option PV := gI (fun i j => if divOk j = true then some (.int (i / j)) else none) x y
def gPow (x y : PV) : Option PV := gI (fun i j => if powOk i j = true then some (.int (i ^ j.toNat)) else none) x y
def gShl (x y : PV) : Option PV := gI (fun i j => if powOk i j = true then some (.int (i * 2 ^ j.toNat)) else none) x y
def gShr (x y : PV) : Option PV := gI (fun i j => if shrOk j = true then some (.int (i / 2 ^ j.toNat)) else none) x y
def gAnd (x y : PV) : Option PV := gI (fun i j => some (.int (Builtin.bitAnd i j))) x y
def gOr (x y : PV) : Option PV := gI (fun i j => some (.int (Builtin.bitOr i j))) x y
def gXor (x y : PV) : Option PV := gI (fun i j => some (.int (Builtin.bitXor i j))) x y
@[simp] def gLt (x y : PV) : Option PV := gI (fun i j => some (.bl (decide (i < j)))) x y
@[simp] def gLe (x y : PV) : Option PV := gI (fun i j => some (.bl (decide (i ≤ j)))) x y
@[simp] def gGt (x y : PV) : Option PV := gI (fun i j => some (.bl (decide (j < i)))) x y
@[simp] def gGe (x y : PV) : Option PV := gI (fun i j => some (.bl (decide (j ≤ i)))) x y
theorem line_m : (1000000 : Nat) ≤ sizeLine := by rw [sizeLine_eq]; decide
variable [Fx]
section
variable {K : PySem.W.Frag}
theorem some_rep {K : PySem.W.Frag} {i : Int} {z : PV} (e : some (PV.int i) = some z) : ∀ G, Rep K G (.int i) z := fun G => by cases e; rfl
theorem some_repb {K : PySem.W.Frag} {i : Bool} {z : PV} (e : some (PV.bl i) = some z) : ∀ G, Rep K G (.bl i) z := fun G => by cases e; rfl
theorem ov_sub : OpV K (rI0 fun i j => .int (i - j)) gSub := ov_int0 fun _ _ _ e => some_rep e
theorem ov_mul : OpV K (rI CMulW fun i j => .int (i * j)) gMul := ov_int fun i j z e => by
  split at e
  · rename_i h
    have h2 : i.natAbs.log2 + j.natAbs.log2 < 1000000 := by
      exact of_hide (P := fun z : Int × Int => z.1.natAbs.log2 + z.2.natAbs.log2 < 1000000) h
    exact ⟨h2, some_rep e⟩
  · cases e
theorem ov_mod : OpV K (rI (fun _ j => j ≠ 0) fun i j => .int (i.fmod j)) gMod := ov_int fun i j z e => by
  split at e
  · cases e
  · rename_i h
    exact ⟨h, some_rep e⟩
theorem ov_div : OpV K (rI CDivW fun i j => .int (i / j)) gDiv := ov_int fun i j z e => by
  split at e
  · rename_i h
    have h := of_hide h
    exact ⟨⟨h.1, by have := h.2; omega⟩, some_rep e⟩
  · cases e
theorem ov_pow : OpV K (rI CPow fun i j => .int (i ^ j.toNat)) gPow := ov_int fun i j z e => by
  split at e
  · rename_i h
    have h := of_hide h
    exact ⟨⟨h.1, h.2.1, by have := h.2.2; omega⟩, some_rep e⟩
  · cases e
theorem ov_shl : OpV K (rI CPow fun i j => .int (i * 2 ^ j.toNat)) gShl := ov_int fun i j z e => by
  split at e
  · rename_i h
    have h := of_hide h
    exact ⟨⟨h.1, h.2.1, by have := h.2.2; omega⟩, some_rep e⟩
  · cases e
theorem ov_shr : OpV K (rI (fun _ j => 0 ≤ j) fun i j => .int (i / 2 ^ j.toNat)) gShr := ov_int fun i j z e => by
  split at e
  · rename_i h
    exact ⟨of_hide h, some_rep e⟩
  · cases e
theorem ov_and : OpV K (rI0 fun i j => .int (Builtin.bitAnd i j)) gAnd := ov_int0 fun _ _ _ e => some_rep e
theorem ov_or : OpV K (rI0 fun i j => .int (Builtin.bitOr i j)) gOr := ov_int0 fun _ _ _ e => some_rep e
theorem ov_xor : OpV K (rI0 fun i j => .int (Builtin.bitXor i j)) gXor := ov_int0 fun _ _ _ e => some_rep e
theorem ov_lt : OpV K (rI0 fun i j => .bl (decide (i < j))) gLt := ov_int0 fun _ _ _ e => some_repb e
theorem ov_le : OpV K (rI0 fun i j => .bl (decide (i ≤ j))) gLe := ov_int0 fun _ _ _ e => some_repb e
theorem ov_gt : OpV K (rI0 fun i j => .bl (decide (j < i))) gGt := ov_int0 fun _ _ _ e => some_repb e
theorem ov_ge : OpV K (rI0 fun i j => .bl (decide (j ≤ i))) gGe := ov_int0 fun _ _ _ e => some_repb e
theorem OpV.or1 {r r' : R2} {g : PV → PV → Option PV} (h : OpV K r g) : OpV K (fun x y H Q => r x y H Q ∨ r' x y H Q) g := fun x y p q z G H Q s r1 r2 e A => .inl (h x y p q z G H Q s r1 r2 e A)
theorem OpV.or2 {r r' : R2} {g : PV → PV → Option PV} (h : OpV K r' g) : OpV K (fun x y H Q => r x y H Q ∨ r' x y H Q) g := fun x y p q z G H Q s r1 r2 e A => .inr (h x y p q z G H Q s r1 r2 e A)
abbrev rAddA (K : PySem.W.Frag) : R2 := fun x y H Q => (rI0 fun i j => V.int (i + j)) x y H Q ∨ ((∃ i k, x = .int i ∧ y = .bl k ∧ Q (.int (i + b2i k)) H) ∨ (rCatA K x y H Q ∨ (∃ i j, x = .str i ∧ y = .str j ∧ i.length + j.length ≤ sizeLine ∧ Q (.str (i ++ j)) H)))
theorem ov_add : OpV K (rAddA K) gAdd := fun x y p q z G H Q s r1 r2 e A => by
  unfold gAdd at e
  split at e
  · cases e
    exact .inl ⟨_, _, r1, r2, A.now s rfl⟩
  · cases e
    exact .inr (.inl ⟨_, _, r1, r2, A.now s rfl⟩)
  · rename_i xs ys
    split at e
    · rename_i hl
      have hl := of_fits hl
      cases e
      obtain ⟨a, vs, e1, q1, s1⟩ := r1
      obtain ⟨b, us, e2, q2, s2⟩ := r2
      have l1 := s1.length
      have l2 := s2.length
      have lm := line_m
      refine .inr (.inr (.inl ⟨a, b, vs, us, e1, e2, Same.seqT s q1, Same.seqT s q2, by omega, fun h0 => ?_, fun _ h0 => ?_, fun _ _ p hp => ?_⟩))
      · subst h0
        have hx : xs = [] := by cases xs with
          | nil => rfl
          | cons _ _ => simp at l1
        subst hx
        exact A.now s ⟨b, us, rfl, q2, s2⟩
      · subst h0
        have hx : ys = [] := by cases ys with
          | nil => rfl
          | cons _ _ => simp at l2
        subst hx
        refine A.now s ⟨a, vs, rfl, q1, ?_⟩
        rw [List.append_nil]
        exact s1
      · exact A.tup s (s1.append s2) hp
    · cases e
  · rename_i x y
    split at e
    · rename_i hl
      have hl := of_fits hl
      cases e
      have lm := line_m
      exact .inr (.inr (.inr ⟨x, y, r1, r2, by omega, A.now s rfl⟩))
    · cases e
  · cases e
end
section
variable {X : Cx} {pos : Pos} {a b c : Expr} {f h k : D PV}
theorem sv_add (ha : SV X a f) (hb : SV X b h) : SV X (.BinOp a .Add b pos) (dOp gAdd f h) := sv_op (op_add.or (op_add_ib.or (op_catA.or op_add_str))) ov_add ha hb
theorem sv_sub (ha : SV X a f) (hb : SV X b h) : SV X (.BinOp a .Sub b pos) (dOp gSub f h) := sv_op op_sub ov_sub ha hb
theorem sv_mul (ha : SV X a f) (hb : SV X b h) : SV X (.BinOp a .Mult b pos) (dOp gMul f h) := sv_op op_mulW ov_mul ha hb
theorem sv_mod (ha : SV X a f) (hb : SV X b h) : SV X (.BinOp a .Mod b pos) (dOp gMod f h) := sv_op op_modN ov_mod ha hb
theorem sv_div (ha : SV X a f) (hb : SV X b h) : SV X (.BinOp a .FloorDiv b pos) (dOp gDiv f h) := sv_op op_fdivW ov_div ha hb
theorem sv_pow (ha : SV X a f) (hb : SV X b h) : SV X (.BinOp a .Pow b pos) (dOp gPow f h) := sv_op op_pow ov_pow ha hb
theorem sv_shl (ha : SV X a f) (hb : SV X b h) : SV X (.BinOp a .LShift b pos) (dOp gShl f h) := sv_op op_shl ov_shl ha hb
theorem sv_shr (ha : SV X a f) (hb : SV X b h) : SV X (.BinOp a .RShift b pos) (dOp gShr f h) := sv_op op_shr ov_shr ha hb
theorem sv_band (ha : SV X a f) (hb : SV X b h) : SV X (.BinOp a .BitAnd b pos) (dOp gAnd f h) := sv_op op_and ov_and ha hb
theorem sv_bor (ha : SV X a f) (hb : SV X b h) : SV X (.BinOp a .BitOr b pos) (dOp gOr f h) := sv_op op_or ov_or ha hb
theorem sv_bxor (ha : SV X a f) (hb : SV X b h) : SV X (.BinOp a .BitXor b pos) (dOp gXor f h) := sv_op op_xor ov_xor ha hb
theorem sv_lt (ha : SV X a f) (hb : SV X b h) : SV X (.Compare a [.Lt] [b] pos) (dOp gLt f h) := sv_cmp op_lt ov_lt ha hb (nomark _)
theorem sv_le (ha : SV X a f) (hb : SV X b h) : SV X (.Compare a [.LtE] [b] pos) (dOp gLe f h) := sv_cmp op_le ov_le ha hb (nomark _)
theorem sv_gt (ha : SV X a f) (hb : SV X b h) : SV X (.Compare a [.Gt] [b] pos) (dOp gGt f h) := sv_cmp op_gt ov_gt ha hb (nomark _)
theorem sv_ge (ha : SV X a f) (hb : SV X b h) : SV X (.Compare a [.GtE] [b] pos) (dOp gGe f h) := sv_cmp op_ge ov_ge ha hb (nomark _)
/-- -a -/
@[simp] def dUn (g : PV → Option PV) (f : D PV) (Γ : Ev) : Option (PV × Ev) := (bnd f fun x => opt (g x)) Γ
@[simp] def gNeg : PV → Option PV
  | .int i => some (.int (-i))
  | _ => none
theorem sv_neg (ha : SV X a f) : SV X (.UnaryOp .USub a pos) (dUn gNeg f) := (pe_un un_neg ha).imp fun σ H Q ⟨π, G, Γ, w, Γ', E, ef, q⟩ => by
  obtain ⟨x, Γ1, e1, ef⟩ := bnd_some ef
  obtain ⟨e3, rfl⟩ := opt_some ef
  refine ⟨π, G, Γ, x, _, E, e1, fun u G1 H1 S1 r1 => ?_⟩
  unfold gNeg at e3
  split at e3
  · cases e3
    exact ⟨_, r1, q _ G1 H1 S1 rfl⟩
  · cases e3
/-! ### is None -/
@[simp] def pvN : PV → Bool
  | .non => true
  | _ => false
@[simp] def dIsN (f : D PV) (Γ : Ev) : Option (PV × Ev) := (bnd f fun x => ret (.bl (pvN x))) Γ
@[simp] def dNotN (f : D PV) (Γ : Ev) : Option (PV × Ev) := (bnd f fun x => ret (.bl (!pvN x))) Γ
theorem rep_non {K : PySem.W.Frag} {G H : Hp} {v : V} {p : PV} (h : Pk K G H v p) : decide (v = .non) = pvN p := by
  rcases h with h | ⟨a, rfl, h⟩
  · cases p with
    | non => exact decide_eq_true h
    | tup xs =>
      obtain ⟨a, vs, e, _⟩ := h
      subst e
      rfl
    | lst xs =>
      obtain ⟨a, vs, e, _⟩ := h
      subst e
      rfl
    | scr ns =>
      obtain ⟨a, e, _⟩ := h
      subst e
      rfl
    | dic ks vs =>
      obtain ⟨a, o, kws, us, e, _⟩ := h
      subst e
      rfl
    | _ =>
      cases h
      rfl
  · cases p with
    | lst xs => rfl
    | dic ks vs => rfl
    | _ => exact h.elim
theorem sv_isN {j : Nat} {pos' : Pos} (ha : SP X a f) : SV X (.Compare a [.Is] [.Constant .none j pos'] pos) (dIsN f) := (pe_cmp (pc_isN ha) rfl).imp fun σ H Q ⟨π, G, Γ, w, Γ', E, ef, q⟩ => by
  obtain ⟨x, Γ1, e1, ef⟩ := bnd_some ef
  obtain ⟨rfl, rfl⟩ := ret_some ef
  refine ⟨π, G, Γ, x, _, E, e1, fun u G1 H1 S1 r1 => q _ G1 H1 S1 ?_⟩
  rw [rep_non r1]
  rfl
theorem sv_notN {j : Nat} {pos' : Pos} (ha : SP X a f) : SV X (.Compare a [.IsNot] [.Constant .none j pos'] pos) (dNotN f) := (pe_cmp (pc_notN ha) rfl).imp fun σ H Q ⟨π, G, Γ, w, Γ', E, ef, q⟩ => by
  obtain ⟨x, Γ1, e1, ef⟩ := bnd_some ef
  obtain ⟨rfl, rfl⟩ := ret_some ef
  refine ⟨π, G, Γ, x, _, E, e1, fun u G1 H1 S1 r1 => q _ G1 H1 S1 ?_⟩
  rw [rep_non r1]
  cases x <;> rfl
end
/-! ### == of data -/
mutual
def toPD : PV → PyData
  | .non => .none
  | .bl b => .bool b
  | .int i => .int i
  | .str s => .str s
  | .tup xs => .tuple (toPDs xs)
  | .lst xs => .list (toPDs xs)
  | .ty _ => .dict []
  | .scr _ => .dict []
  | .dic _ _ => .dict []
def toPDs : List PV → List PyData
  | [] => []
  | x :: xs => toPD x :: toPDs xs
end
mutual
theorem rep_dp {K : PySem.W.Frag} {G : Hp} : ∀ {p : PV} {v : V}, Rep K G v p → (toPD p).canLay0 = true → Dp K G v (toPD p)
  | .non, v, h, _ => by
    cases (show v = .non from h)
    exact .non
  | .bl b, v, h, _ => by
    cases (show v = .bl b from h)
    exact .bl b
  | .int i, v, h, _ => by
    cases (show v = .int i from h)
    exact .int i
  | .str s, v, h, _ => by
    cases (show v = .str s from h)
    exact .str s
  | .tup xs, v, h, c => by
    obtain ⟨a, vs, rfl, q, r⟩ := h
    exact .tup q (reps_dp r (by simpa [toPD, PyData.canLay0] using c))
  | .lst xs, v, h, c => by
    obtain ⟨a, vs, rfl, q, r⟩ := h
    exact .lst (SqL.of q) (reps_dp r (by simpa [toPD, PyData.canLay0] using c))
  | .ty _, v, h, c => by simp [toPD, PyData.canLay0] at c
  | .scr _, v, h, c => by simp [toPD, PyData.canLay0] at c
  | .dic _ _, v, h, c => by simp [toPD, PyData.canLay0] at c
theorem reps_dp {K : PySem.W.Frag} {G : Hp} : ∀ {ps : List PV} {vs : List V}, Reps K G vs ps → PyData.canLayAll0 (toPDs ps) = true → DpAll K G vs (toPDs ps)
  | [], vs, h, _ => by
    cases (show vs = [] from h)
    exact .nil
  | p :: ps, vs, h, c => by
    obtain ⟨v, r, rfl, a, b⟩ := h
    have c' : (toPD p).canLay0 = true ∧ PyData.canLayAll0 (toPDs ps) = true := by simpa [toPDs, PyData.canLayAll0] using c
    exact .cons (rep_dp a c'.1) (reps_dp b c'.2)
end
mutual
theorem Dp_mono {K : PySem.W.Frag} {G H : Hp} (s : Same G H) : ∀ {d : PyData} {v : V}, Dp K G v d → Dp K H v d
  | .none, _, h => by cases h; exact .non
  | .bool b, _, h => by cases h; exact .bl b
  | .int i, _, h => by cases h; exact .int i
  | .str x, _, h => by cases h; exact .str x
  | .list ds, _, h => by
    cases h with
    | lst q r => exact .lst (s.seq q) (DpAll_mono s r)
  | .tuple ds, _, h => by
    cases h with
    | tup q r => exact .tup (Same.seqT s q) (DpAll_mono s r)
  | .dict _, _, h => by cases h
theorem DpAll_mono {K : PySem.W.Frag} {G H : Hp} (s : Same G H) : ∀ {ds : List PyData} {vs : List V}, DpAll K G vs ds → DpAll K H vs ds
  | [], _, h => by cases h; exact .nil
  | d :: ds, _, h => by
    cases h with
    | cons a b => exact .cons (Dp_mono s a) (DpAll_mono s b)
end
def shp (p : PV) : Bool := SeqAt.shaped (toPD p)
def pvEq (p q : PV) : Bool := PyData.eqv (toPD p) (toPD q)
@[simp] def gEq (p q : PV) : Option PV := if shp p && shp q then some (.bl (pvEq p q)) else none
@[simp] def gNe (p q : PV) : Option PV := if shp p && shp q then some (.bl (!pvEq p q)) else none
theorem shp_dp {K : PySem.W.Frag} {G H : Hp} {v : V} {p : PV} (s : Same G H) (h : Rep K G v p) (c : shp p = true) : Dp K H v (toPD p) := by
  unfold shp SeqAt.shaped at c
  rw [Bool.and_eq_true] at c
  exact Dp_mono s (rep_dp h c.1)
theorem ov_eq {K : PySem.W.Frag} : OpV K (rEqD K) gEq := fun x y p q z G H Q s r1 r2 e A => by
  unfold gEq at e
  split at e
  · rename_i c
    rw [Bool.and_eq_true] at c
    cases e
    exact ⟨_, _, shp_dp s r1 c.1, shp_dp s r2 c.2, c.1, c.2, A.now s rfl⟩
  · cases e
theorem ov_ne {K : PySem.W.Frag} : OpV K (rNeD K) gNe := fun x y p q z G H Q s r1 r2 e A => by
  unfold gNe at e
  split at e
  · rename_i c
    rw [Bool.and_eq_true] at c
    cases e
    exact ⟨_, _, shp_dp s r1 c.1, shp_dp s r2 c.2, c.1, c.2, A.now s rfl⟩
  · cases e
section
variable {X : Cx} {pos : Pos} {a b c : Expr} {f h k : D PV}
theorem sv_eq (hu : X.A.units + 64 < cLine) (ha : SV X a f) (hb : SV X b h) : SV X (.Compare a [.Eq] [b] pos) (dOp gEq f h) := sv_cmp (op_eqD hu) ov_eq ha hb (nomark _)
theorem sv_ne (hu : X.A.units + 64 < cLine) (ha : SV X a f) (hb : SV X b h) : SV X (.Compare a [.NotEq] [b] pos) (dOp gNe f h) := sv_cmp (op_neD hu) ov_ne ha hb (nomark _)
/-! ### in a list or tuple of flat items -/
def toV : PV → V
  | .non => .non
  | .bl b => .bl b
  | .int i => .int i
  | .str s => .str s
  | _ => .ty ""
def pflat : PV → Bool
  | .non => true
  | .bl _ => true
  | .int _ => true
  | .str _ => true
  | _ => false
def pfEq : PV → PV → Bool
  | .non, .non => true
  | .bl a, .bl b => a == b
  | .bl a, .int b => (if a then 1 else 0) == b
  | .int a, .bl b => a == (if b then 1 else 0)
  | .int a, .int b => a == b
  | .str a, .str b => a == b
  | _, _ => false
theorem rep_flat {K : PySem.W.Frag} {G : Hp} {v : V} {p : PV} (h : Rep K G v p) (f : pflat p = true) : v = toV p ∧ flatV v = true := by
  cases p with
  | non => cases (show v = _ from h); exact ⟨rfl, rfl⟩
  | bl b => cases (show v = _ from h); exact ⟨rfl, rfl⟩
  | int i => cases (show v = _ from h); exact ⟨rfl, rfl⟩
  | str s => cases (show v = _ from h); exact ⟨rfl, rfl⟩
  | _ => cases f
theorem eqV_flat {p q : PV} (f : pflat p = true) (g : pflat q = true) : eqV (toV p) (toV q) = pfEq p q := by
  cases p <;> cases q <;> first | rfl | exact absurd f (by decide) | exact absurd g (by decide)
theorem any_flat {K : PySem.W.Frag} {G : Hp} {x : V} {p : PV} (hx : Rep K G x p) (fp : pflat p = true) : ∀ {ps : List PV} {vs : List V}, Reps K G vs ps → ps.all pflat = true → inV x vs = (ps.any fun q => pfEq q p) ∧ vs.all flatV = true
  | [], vs, h, _ => by
    cases (show vs = [] from h)
    exact ⟨rfl, rfl⟩
  | q :: ps, vs, h, f => by
    obtain ⟨v, r, rfl, a, b⟩ := h
    rw [List.all_cons, Bool.and_eq_true] at f
    obtain ⟨e1, e2⟩ := rep_flat a f.1
    obtain ⟨e3, e4⟩ := rep_flat hx fp
    obtain ⟨e5, e6⟩ := any_flat hx fp b f.2
    refine ⟨?_, ?_⟩
    · show (eqV v x || inV x r) = (pfEq q p || _)
      rw [e5, e1, e3, eqV_flat f.1 fp]
    · rw [List.all_cons, e2, e6]
      rfl
/-- data that may be looked for among others -/
def shq (p : PV) : Bool := shp p && decide ((toPD p).depth ≤ 60)
def gIn (p : PV) : PV → Option Bool
  | .lst ys => if pflat p && ys.all pflat then some (ys.any fun q => pfEq q p) else if shq p && ys.all shp then some (ys.any fun q => pvEq q p) else none
  | .tup ys => if pflat p && ys.all pflat then some (ys.any fun q => pfEq q p) else if shq p && ys.all shp then some (ys.any fun q => pvEq q p) else none
  | .dic ks _ => if okd ks p then some (pHas ks p) else none
  | _ => none
/-- in a list or tuple of data, in a dict -/
def rInX (K : PySem.W.Frag) (neg : Bool) : R2 := fun x y H Q =>
  (∃ a vs ds d, y = .ref a ∧ (SqL K H a vs ∨ SqT K H a vs) ∧ DpAll K H vs ds ∧ Dp K H x d ∧ PyData.canLayAll0 ds = true ∧ d.canLay0 = true ∧ d.depth ≤ 60 ∧ Q (.bl (if neg then !ds.any (fun e => PyData.eqv e d) else ds.any fun e => PyData.eqv e d)) H) ∨
  (∃ G a ks vs p, y = .ref a ∧ Same G H ∧ DAt K G H a ks vs ∧ okd ks p = true ∧ Rep K G x p ∧ Q (.bl (if neg then !pHas ks p else pHas ks p)) H)
theorem op_inX {X : Cx} (hu : X.A.units + 64 < cLine) (hw : X.w = Fx.w) : OpR X (compareOp .In) (rInX X.K false) := by
  intro pins s σ H x y v u Q I rx ry h
  rcases h with ⟨a, vs, ds, d, rfl, hq, hd, he, c1, c2, dd, q⟩ | ⟨G, a, ks, vs, p, rfl, sm, da, ok, rp, q⟩
  · obtain ⟨bs, r2⟩ := Dp.reads I d x v he rx
    rcases hq with hq | hq
    · obtain ⟨as, r1⟩ := Dp.reads I (.list ds) _ u (.lst hq hd) ry
      exact SeqAt.in_list_reads r1 r2 c1 c2 (by have := Nat.min_le_right (PyData.depthAll ds) d.depth; omega) ⟨.bl _, H, I, rfl, q⟩
    · obtain ⟨as, r1⟩ := Dp.reads I (.tuple ds) _ u (.tup hq hd) ry
      exact SeqAt.in_tuple_reads r1 r2 c1 c2 (by have := Nat.min_le_right (PyData.depthAll ds) d.depth; omega) ⟨.bl _, H, I, rfl, q⟩
  · cases (show u = _ from ry)
    exact x_in hu hw I sm da ok rp rx fun s' I' => ⟨.bl _, H, I', rfl, q⟩
theorem op_notInX {X : Cx} (hu : X.A.units + 64 < cLine) (hw : X.w = Fx.w) : OpR X (compareOp .NotIn) (rInX X.K true) := by
  intro pins s σ H x y v u Q I rx ry h
  rcases h with ⟨a, vs, ds, d, rfl, hq, hd, he, c1, c2, dd, q⟩ | ⟨G, a, ks, vs, p, rfl, sm, da, ok, rp, q⟩
  · obtain ⟨bs, r2⟩ := Dp.reads I d x v he rx
    rcases hq with hq | hq
    · obtain ⟨as, r1⟩ := Dp.reads I (.list ds) _ u (.lst hq hd) ry
      exact SeqAt.notIn_list_reads r1 r2 c1 c2 (by have := Nat.min_le_right (PyData.depthAll ds) d.depth; omega) ⟨.bl _, H, I, rfl, q⟩
    · obtain ⟨as, r1⟩ := Dp.reads I (.tuple ds) _ u (.tup hq hd) ry
      exact SeqAt.notIn_tuple_reads r1 r2 c1 c2 (by have := Nat.min_le_right (PyData.depthAll ds) d.depth; omega) ⟨.bl _, H, I, rfl, q⟩
  · cases (show u = _ from ry)
    exact x_notIn hu hw I sm da ok rp rx fun s' I' => ⟨.bl _, H, I', rfl, q⟩
theorem reps_dpA {K : PySem.W.Frag} {G : Hp} : ∀ {ps : List PV} {vs : List V}, Reps K G vs ps → ps.all shp = true → DpAll K G vs (toPDs ps) ∧ PyData.canLayAll0 (toPDs ps) = true
  | [], vs, h, _ => by
    cases (show vs = [] from h)
    exact ⟨.nil, rfl⟩
  | p :: ps, vs, h, c => by
    obtain ⟨v, r, rfl, a, b⟩ := h
    rw [List.all_cons, Bool.and_eq_true] at c
    obtain ⟨h1, h2⟩ := reps_dpA b c.2
    have c1 := c.1
    unfold shp SeqAt.shaped at c1
    rw [Bool.and_eq_true] at c1
    exact ⟨.cons (rep_dp a c1.1) h1, by show PyData.canLayAll0 (toPD p :: toPDs ps) = true; simp only [PyData.canLayAll0, c1.1, h2, Bool.and_self]⟩
theorem any_pds (p : PV) : ∀ ys : List PV, ((toPDs ys).any fun e => PyData.eqv e (toPD p)) = ys.any fun q => pvEq q p
  | [] => rfl
  | y :: ys => by
    show (PyData.eqv (toPD y) (toPD p) || (toPDs ys).any _) = (pvEq y p || _)
    rw [any_pds p ys]
    rfl
theorem pk_in {K : PySem.W.Frag} {G H : Hp} {x y : V} {p q : PV} {z neg : Bool} {Q : VK} (s : Same G H) (r1 : Rep K G x p) (r2 : Pk K G H y q) (e : gIn p q = some z) (h : Q (.bl (if neg then !z else z)) H) : rIn K neg x y H Q ∨ rInX K neg x y H Q := by
  have deep : ∀ {ys : List PV}, (shq p && ys.all shp) = true → ∀ {a : Addr} {vs : List V}, (SqL K H a vs ∨ SqT K H a vs) → Reps K G vs ys → Q (.bl (if neg then !(ys.any fun q => pvEq q p) else ys.any fun q => pvEq q p)) H → rInX K neg x (.ref a) H Q := fun {ys} c {a vs} hq hr hQ => by
    rw [Bool.and_eq_true] at c
    obtain ⟨h1, h2⟩ := reps_dpA hr c.2
    have c1 := c.1
    unfold shq at c1
    rw [Bool.and_eq_true] at c1
    have c3 := c1.1
    unfold shp SeqAt.shaped at c3
    rw [Bool.and_eq_true] at c3
    exact .inl ⟨a, vs, _, _, rfl, hq, DpAll_mono s h1, shp_dp s r1 c1.1, h2, c3.1, of_decide_eq_true c1.2, by rw [any_pds]; exact hQ⟩
  unfold gIn at e
  split at e
  · rename_i ys
    split at e
    · rename_i c
      rw [Bool.and_eq_true] at c
      cases e
      have fx := (rep_flat r1 c.1).2
      rcases r2 with ⟨a, vs, rfl, q1, q2⟩ | ⟨a, rfl, vs, q1, q2⟩
      · obtain ⟨e1, e2⟩ := any_flat r1 c.1 q2 c.2
        exact .inl ⟨a, vs, rfl, .inl (SqL.of (s _ _ q1)), fx, e2, by rw [e1]; exact h⟩
      · obtain ⟨e1, e2⟩ := any_flat r1 c.1 q2 c.2
        exact .inl ⟨a, vs, rfl, .inl (SqL.of q1), fx, e2, by rw [e1]; exact h⟩
    · split at e
      · rename_i c
        cases e
        rcases r2 with ⟨a, vs, rfl, q1, q2⟩ | ⟨a, rfl, vs, q1, q2⟩
        · exact .inr (deep c (.inl (SqL.of (s _ _ q1))) q2 h)
        · exact .inr (deep c (.inl (SqL.of q1)) q2 h)
      · cases e
  · rename_i ys
    split at e
    · rename_i c
      rw [Bool.and_eq_true] at c
      cases e
      have fx := (rep_flat r1 c.1).2
      rcases r2 with ⟨a, vs, rfl, q1, q2⟩ | ⟨a, rfl, q1⟩
      · obtain ⟨e1, e2⟩ := any_flat r1 c.1 q2 c.2
        exact .inl ⟨a, vs, rfl, .inr (Same.seqT s q1), fx, e2, by rw [e1]; exact h⟩
      · exact q1.elim
    · split at e
      · rename_i c
        cases e
        rcases r2 with ⟨a, vs, rfl, q1, q2⟩ | ⟨a, rfl, q1⟩
        · exact .inr (deep c (.inr (Same.seqT s q1)) q2 h)
        · exact q1.elim
      · cases e
  · rename_i ks vs
    split at e
    · rename_i c
      cases e
      obtain ⟨a, rfl, da⟩ := pk_dic s r2
      exact .inr (.inr ⟨G, a, ks, _, p, rfl, s, da, c, r1, h⟩)
    · cases e
  · cases e
@[simp] def dIn (f h : D PV) (Γ : Ev) : Option (PV × Ev) := (bnd f fun x => bnd h fun y => opt ((gIn x y).map PV.bl)) Γ
@[simp] def dNotIn (f h : D PV) (Γ : Ev) : Option (PV × Ev) := (bnd f fun x => bnd h fun y => opt ((gIn x y).map fun b => PV.bl (!b))) Γ
theorem sv_in (hu : X.A.units + 64 < cLine) (hw : X.w = Fx.w) (ha : SV X a f) (hb : SP X b h) (hm : behindInMarks .In b = false := by rfl) : SV X (.Compare a [.In] [b] pos) (dIn f h) := (pe_cmpR (op_in_seq.or (op_inX hu hw)) ha hb hm).imp fun σ H Q ⟨π, G, Γ, w, Γ', E, ef, q⟩ => by
  obtain ⟨x, Γ1, e1, ef⟩ := bnd_some ef
  obtain ⟨y, Γ2, e2, ef⟩ := bnd_some ef
  obtain ⟨e3, rfl⟩ := opt_some ef
  obtain ⟨z, e4, rfl⟩ := Option.map_eq_some_iff.mp e3
  refine ⟨π, G, Γ, x, Γ1, E, e1, fun u G1 H1 S1 r1 => ⟨π, G1, Γ1, y, _, S1.e, e2, fun v G2 H2 S2 r2 => ?_⟩⟩
  exact pk_in (neg := false) S2.e.sub (r1.mono S2.g.g) r2 e4 (q _ G2 H2 (S1.trans S2) rfl)
theorem sv_notIn (hu : X.A.units + 64 < cLine) (hw : X.w = Fx.w) (ha : SV X a f) (hb : SP X b h) (hm : behindInMarks .NotIn b = false := by rfl) : SV X (.Compare a [.NotIn] [b] pos) (dNotIn f h) := (pe_cmpR (op_notIn_seq.or (op_notInX hu hw)) ha hb hm).imp fun σ H Q ⟨π, G, Γ, w, Γ', E, ef, q⟩ => by
  obtain ⟨x, Γ1, e1, ef⟩ := bnd_some ef
  obtain ⟨y, Γ2, e2, ef⟩ := bnd_some ef
  obtain ⟨e3, rfl⟩ := opt_some ef
  obtain ⟨z, e4, rfl⟩ := Option.map_eq_some_iff.mp e3
  refine ⟨π, G, Γ, x, Γ1, E, e1, fun u G1 H1 S1 r1 => ⟨π, G1, Γ1, y, _, S1.e, e2, fun v G2 H2 S2 r2 => ?_⟩⟩
  exact pk_in (neg := true) S2.e.sub (r1.mono S2.g.g) r2 e4 (q _ G2 H2 (S1.trans S2) rfl)
/-! ### and, or, not, if-else as values; chains -/
@[simp] def dAnd (f h : D PV) (Γ : Ev) : Option (PV × Ev) := (bnd f fun x Γ => match x with
  | .bl b => if b = true then h Γ else some (.bl false, Γ)
  | _ => none) Γ
@[simp] def dOr (f h : D PV) (Γ : Ev) : Option (PV × Ev) := (bnd f fun x Γ => match x with
  | .bl b => if b = true then some (.bl true, Γ) else h Γ
  | _ => none) Γ
@[simp] def dNot (f : D PV) (Γ : Ev) : Option (PV × Ev) := (bnd f fun x => match x with
  | .bl b => ret (.bl (!b))
  | _ => fun _ => none) Γ
theorem sv_one {op : BoolOp} (h : SV X a f) : SV X (.BoolOp op [a] pos) f := pe_one h
theorem sv_and {rest : List Expr} (ha : SV X a f) (hb : SV X (.BoolOp .And (b :: rest) pos) h) : SV X (.BoolOp .And (a :: b :: rest) pos) (dAnd f h) := (pe_and ha hb).imp fun σ H Q ⟨π, G, Γ, w, Γ', E, ef, q⟩ => by
  obtain ⟨x, Γ1, e1, ef⟩ := bnd_some ef
  refine ⟨π, G, Γ, x, Γ1, E, e1, fun u G1 H1 S1 r1 => ?_⟩
  split at ef
  · rename_i b
    cases b with
    | true =>
      rw [if_pos rfl] at ef
      exact ⟨true, r1, iteT ⟨π, G1, Γ1, w, Γ', S1.e, ef, fun v G2 H2 S2 r2 => q v G2 H2 (S1.trans S2) r2⟩⟩
    | false =>
      rw [if_neg Bool.false_ne_true] at ef
      cases ef
      exact ⟨false, r1, iteF (q _ G1 H1 S1 rfl)⟩
  · cases ef
theorem sv_or {rest : List Expr} (ha : SV X a f) (hb : SV X (.BoolOp .Or (b :: rest) pos) h) : SV X (.BoolOp .Or (a :: b :: rest) pos) (dOr f h) := (pe_or ha hb).imp fun σ H Q ⟨π, G, Γ, w, Γ', E, ef, q⟩ => by
  obtain ⟨x, Γ1, e1, ef⟩ := bnd_some ef
  refine ⟨π, G, Γ, x, Γ1, E, e1, fun u G1 H1 S1 r1 => ?_⟩
  split at ef
  · rename_i b
    cases b with
    | false =>
      rw [if_neg Bool.false_ne_true] at ef
      exact ⟨false, r1, iteF ⟨π, G1, Γ1, w, Γ', S1.e, ef, fun v G2 H2 S2 r2 => q v G2 H2 (S1.trans S2) r2⟩⟩
    | true =>
      rw [if_pos rfl] at ef
      cases ef
      exact ⟨true, r1, iteT (q _ G1 H1 S1 rfl)⟩
  · cases ef
theorem sv_not (ha : SV X a f) : SV X (.UnaryOp .Not a pos) (dNot f) := (pe_not ha).imp fun σ H Q ⟨π, G, Γ, w, Γ', E, ef, q⟩ => by
  obtain ⟨x, Γ1, e1, ef⟩ := bnd_some ef
  refine ⟨π, G, Γ, x, Γ1, E, e1, fun u G1 H1 S1 r1 => ?_⟩
  split at ef
  · obtain ⟨rfl, rfl⟩ := ret_some ef
    exact ⟨_, r1, q _ G1 H1 S1 rfl⟩
  · cases ef
/-- tests -/
@[simp] def dTr (f : D PV) (Γ : Ev) : Option (Bool × Ev) := (bnd f fun x => match x with
  | .bl b => ret b
  | _ => fun _ => none) Γ
theorem sb_val (ha : SV X a f) (he : ∀ whole, isTrue a X.env whole = (do let v ← whole; standAt a.pos; holding [v] (truthy v)) := by intro _; rfl) : SB X a (dTr f) := (pt_val ha he).imp fun σ H Q ⟨π, G, Γ, w, Γ', E, ef, q⟩ => by
  obtain ⟨x, Γ1, e1, ef⟩ := bnd_some ef
  refine ⟨π, G, Γ, x, Γ1, E, e1, fun u G1 H1 S1 r1 => ?_⟩
  split at ef
  · obtain ⟨rfl, rfl⟩ := ret_some ef
    exact ⟨_, r1, q G1 H1 S1⟩
  · cases ef
@[simp] def dBAnd (f h : D Bool) (Γ : Ev) : Option (Bool × Ev) := (bnd f fun x Γ => if x = true then h Γ else some (false, Γ)) Γ
@[simp] def dBOr (f h : D Bool) (Γ : Ev) : Option (Bool × Ev) := (bnd f fun x Γ => if x = true then some (true, Γ) else h Γ) Γ
@[simp] def dBNot (f : D Bool) (Γ : Ev) : Option (Bool × Ev) := (bnd f fun x => ret (!x)) Γ
abbrev SW (X : Cx) (e : Expr) (f : D Bool) : Prop := PW X e (tB X.K f)
variable {tf th : D Bool} {rest : List Expr}
theorem sw_one {op : BoolOp} (ha : SB X a tf) : SW X (.BoolOp op [a] pos) tf := by
  cases op
  · exact pw_and1 ha
  · exact pw_or1 ha
theorem sw_and (ha : SB X a tf) (hb : SW X (.BoolOp .And (b :: rest) pos) th) : SW X (.BoolOp .And (a :: b :: rest) pos) (dBAnd tf th) := (pw_and ha hb).imp fun σ H Q ⟨π, G, Γ, w, Γ', E, ef, q⟩ => by
  obtain ⟨x, Γ1, e1, ef⟩ := bnd_some ef
  refine ⟨π, G, Γ, x, Γ1, E, e1, fun G1 H1 S1 => ?_⟩
  cases x with
  | true =>
    rw [if_pos rfl] at ef
    exact iteT ⟨π, G1, Γ1, w, Γ', S1.e, ef, fun G2 H2 S2 => q G2 H2 (S1.trans S2)⟩
  | false =>
    rw [if_neg Bool.false_ne_true] at ef
    cases ef
    exact iteF (q G1 H1 S1)
theorem sw_or (ha : SB X a tf) (hb : SW X (.BoolOp .Or (b :: rest) pos) th) : SW X (.BoolOp .Or (a :: b :: rest) pos) (dBOr tf th) := (pw_or ha hb).imp fun σ H Q ⟨π, G, Γ, w, Γ', E, ef, q⟩ => by
  obtain ⟨x, Γ1, e1, ef⟩ := bnd_some ef
  refine ⟨π, G, Γ, x, Γ1, E, e1, fun G1 H1 S1 => ?_⟩
  cases x with
  | false =>
    rw [if_neg Bool.false_ne_true] at ef
    exact iteF ⟨π, G1, Γ1, w, Γ', S1.e, ef, fun G2 H2 S2 => q G2 H2 (S1.trans S2)⟩
  | true =>
    rw [if_pos rfl] at ef
    cases ef
    exact iteT (q G1 H1 S1)
theorem sb_w (h : SW X a tf) : SB X a tf := h.pt
theorem sb_not (ha : SB X a tf) : SB X (.UnaryOp .Not a pos) (dBNot tf) := (pt_not ha).imp fun σ H Q ⟨π, G, Γ, w, Γ', E, ef, q⟩ => by
  obtain ⟨x, Γ1, e1, ef⟩ := bnd_some ef
  obtain ⟨rfl, rfl⟩ := ret_some ef
  exact ⟨π, G, Γ, x, _, E, e1, fun G1 H1 S1 => q G1 H1 S1⟩
/-- a comparison as a test -/
theorem sb_cmp {op : CmpOp} {r : R2} {g : PV → PV → Option PV} (ho : OpR X (compareOp op) r) (hv : OpV X.K r g) (ha : SV X a f) (hb : SV X b h) (hm : behindInMarks op b = false) : SB X (.Compare a [op] [b] pos) (dTr (dOp g f h)) :=
  (pt_cmpR ho ha hb hm).imp fun σ H Q ⟨π, G, Γ, w, Γ', E, ef, q⟩ => by
    obtain ⟨x, Γ1, e1, ef⟩ := bnd_some ef
    refine t_op hv ⟨π, G, Γ, x, Γ1, E, e1, fun u G1 H1 S1 r1 => ?_⟩
    split at ef
    · obtain ⟨rfl, rfl⟩ := ret_some ef
      exact ⟨_, r1, q G1 H1 S1⟩
    · cases ef
theorem sb_lt (ha : SV X a f) (hb : SV X b h) : SB X (.Compare a [.Lt] [b] pos) (dTr (dOp gLt f h)) := sb_cmp op_lt ov_lt ha hb (nomark _)
theorem sb_le (ha : SV X a f) (hb : SV X b h) : SB X (.Compare a [.LtE] [b] pos) (dTr (dOp gLe f h)) := sb_cmp op_le ov_le ha hb (nomark _)
theorem sb_gt (ha : SV X a f) (hb : SV X b h) : SB X (.Compare a [.Gt] [b] pos) (dTr (dOp gGt f h)) := sb_cmp op_gt ov_gt ha hb (nomark _)
theorem sb_ge (ha : SV X a f) (hb : SV X b h) : SB X (.Compare a [.GtE] [b] pos) (dTr (dOp gGe f h)) := sb_cmp op_ge ov_ge ha hb (nomark _)
theorem sb_eq (hu : X.A.units + 64 < cLine) (ha : SV X a f) (hb : SV X b h) : SB X (.Compare a [.Eq] [b] pos) (dTr (dOp gEq f h)) := sb_cmp (op_eqD hu) ov_eq ha hb (nomark _)
theorem sb_ne (hu : X.A.units + 64 < cLine) (ha : SV X a f) (hb : SV X b h) : SB X (.Compare a [.NotEq] [b] pos) (dTr (dOp gNe f h)) := sb_cmp (op_neD hu) ov_ne ha hb (nomark _)
theorem sb_isN {j : Nat} {pos' : Pos} (ha : SP X a f) : SB X (.Compare a [.Is] [.Constant .none j pos'] pos) (dTr (dIsN f)) := (pt_cmp (pc_isN ha) rfl).imp fun σ H Q ⟨π, G, Γ, w, Γ', E, ef, q⟩ => by
  obtain ⟨x, Γ1, e1, ef⟩ := bnd_some ef
  obtain ⟨y, Γ2, e2, e3⟩ := bnd_some e1
  obtain ⟨rfl, rfl⟩ := ret_some e3
  obtain ⟨rfl, rfl⟩ := ret_some ef
  refine ⟨π, G, Γ, y, _, E, e2, fun u G1 H1 S1 r1 => ⟨_, rfl, ?_⟩⟩
  rw [rep_non r1]
  exact q G1 H1 S1
theorem sb_notN {j : Nat} {pos' : Pos} (ha : SP X a f) : SB X (.Compare a [.IsNot] [.Constant .none j pos'] pos) (dTr (dNotN f)) := (pt_cmp (pc_notN ha) rfl).imp fun σ H Q ⟨π, G, Γ, w, Γ', E, ef, q⟩ => by
  obtain ⟨x, Γ1, e1, ef⟩ := bnd_some ef
  obtain ⟨y, Γ2, e2, e3⟩ := bnd_some e1
  obtain ⟨rfl, rfl⟩ := ret_some e3
  obtain ⟨rfl, rfl⟩ := ret_some ef
  refine ⟨π, G, Γ, y, _, E, e2, fun u G1 H1 S1 r1 => ⟨_, rfl, ?_⟩⟩
  rw [rep_non r1]
  exact q G1 H1 S1
theorem sb_in (hu : X.A.units + 64 < cLine) (hw : X.w = Fx.w) (ha : SV X a f) (hb : SP X b h) (hm : behindInMarks .In b = false := by rfl) : SB X (.Compare a [.In] [b] pos) (dTr (dIn f h)) := (pt_cmpR (op_in_seq.or (op_inX hu hw)) ha hb hm).imp fun σ H Q ⟨π, G, Γ, w, Γ', E, ef, q⟩ => by
  obtain ⟨x, Γ1, e1, ef⟩ := bnd_some ef
  obtain ⟨y, Γ2, e2, e3⟩ := bnd_some e1
  obtain ⟨y2, Γ3, e4, e5⟩ := bnd_some e3
  obtain ⟨e6, rfl⟩ := opt_some e5
  obtain ⟨z, e7, rfl⟩ := Option.map_eq_some_iff.mp e6
  obtain ⟨rfl, rfl⟩ := ret_some ef
  refine ⟨π, G, Γ, y, Γ2, E, e2, fun u G1 H1 S1 r1 => ⟨π, G1, Γ2, y2, _, S1.e, e4, fun v G2 H2 S2 r2 => ?_⟩⟩
  exact pk_in (neg := false) S2.e.sub (r1.mono S2.g.g) r2 e7 ⟨_, rfl, q G2 H2 (S1.trans S2)⟩
theorem sb_notIn (hu : X.A.units + 64 < cLine) (hw : X.w = Fx.w) (ha : SV X a f) (hb : SP X b h) (hm : behindInMarks .NotIn b = false := by rfl) : SB X (.Compare a [.NotIn] [b] pos) (dTr (dNotIn f h)) := (pt_cmpR (op_notIn_seq.or (op_notInX hu hw)) ha hb hm).imp fun σ H Q ⟨π, G, Γ, w, Γ', E, ef, q⟩ => by
  obtain ⟨x, Γ1, e1, ef⟩ := bnd_some ef
  obtain ⟨y, Γ2, e2, e3⟩ := bnd_some e1
  obtain ⟨y2, Γ3, e4, e5⟩ := bnd_some e3
  obtain ⟨e6, rfl⟩ := opt_some e5
  obtain ⟨z, e7, rfl⟩ := Option.map_eq_some_iff.mp e6
  obtain ⟨rfl, rfl⟩ := ret_some ef
  refine ⟨π, G, Γ, y, Γ2, E, e2, fun u G1 H1 S1 r1 => ⟨π, G1, Γ2, y2, _, S1.e, e4, fun v G2 H2 S2 r2 => ?_⟩⟩
  exact pk_in (neg := true) S2.e.sub (r1.mono S2.g.g) r2 e7 ⟨_, rfl, q G2 H2 (S1.trans S2)⟩
/-- b if c else d -/
@[simp] def dIf (c : D Bool) (f h : D PV) (Γ : Ev) : Option (PV × Ev) := (bnd c fun x Γ => if x = true then f Γ else h Γ) Γ
theorem sv_if (hc : SB X c tf) (ha : SV X a f) (hb : SV X b h) : SV X (.IfExp c a b pos) (dIf tf f h) := (pe_ifExp hc ha hb).imp fun σ H Q ⟨π, G, Γ, w, Γ', E, ef, q⟩ => by
  obtain ⟨x, Γ1, e1, ef⟩ := bnd_some ef
  refine ⟨π, G, Γ, x, Γ1, E, e1, fun G1 H1 S1 => ?_⟩
  cases x with
  | true =>
    rw [if_pos rfl] at ef
    exact iteT ⟨π, G1, Γ1, w, Γ', S1.e, ef, fun v G2 H2 S2 r2 => q v G2 H2 (S1.trans S2) r2⟩
  | false =>
    rw [if_neg Bool.false_ne_true] at ef
    exact iteF ⟨π, G1, Γ1, w, Γ', S1.e, ef, fun v G2 H2 S2 r2 => q v G2 H2 (S1.trans S2) r2⟩
/-- a < b < c -/
@[simp] def dChain (g g' : PV → PV → Option PV) (f h k : D PV) (Γ : Ev) : Option (PV × Ev) := (bnd f fun x => bnd h fun y => bnd (opt (g x y)) fun z Γ => match z with
  | .bl b => if b = true then bnd k (fun w => opt (g' y w)) Γ else some (.bl false, Γ)
  | _ => none) Γ
theorem t_chain {K : PySem.W.Frag} {r r' : R2} {g g' : PV → PV → Option PV} (hv : OpV K r g) (hv' : OpV K r' g') {σ : St} {H : Hp} {Q : VK} (t : tV K (dChain g g' f h k) σ H Q) : tChain r r' (tV K f) (tV K h) (tV K k) σ H Q := by
  obtain ⟨π, G, Γ, w, Γ', E, ef, q⟩ := t
  obtain ⟨x, Γ1, e1, ef⟩ := bnd_some ef
  obtain ⟨y, Γ2, e2, ef⟩ := bnd_some ef
  obtain ⟨z, Γ3, e3, eg⟩ := bnd_some ef
  obtain ⟨e6, e7⟩ := opt_some e3
  subst e7
  clear ef e3
  refine ⟨π, G, Γ, x, Γ1, E, e1, fun u G1 H1 S1 r1 => ⟨π, G1, Γ1, y, _, S1.e, e2, fun v G2 H2 S2 r2 => ?_⟩⟩
  refine hv u v x y z G2 H2 _ S2.e.sub (r1.mono S2.g.g) r2 e6 fun z' G3 H3 g3 s3 r3 => ?_
  have S3 := Ste.grow S2.e g3 s3
  split at eg
  · rename_i b
    cases b with
    | true =>
      rw [if_pos rfl] at eg
      obtain ⟨y2, Γ4, e4, ef⟩ := bnd_some eg
      obtain ⟨e5, rfl⟩ := opt_some ef
      refine ⟨true, r3, iteT ⟨π, G3, _, y2, _, S3.e, e4, fun w' G4 H4 S4 r4 => ?_⟩⟩
      exact hv' v w' y y2 w G4 H4 Q S4.e.sub ((r2.mono g3.g).mono S4.g.g) r4 e5 fun z2 G5 H5 g5 s5 r5 => q z2 G5 H5 (((S1.trans S2).trans S3).trans (S4.trans (.grow S4.e g5 s5))) r5
    | false =>
      rw [if_neg Bool.false_ne_true] at eg
      cases eg
      exact ⟨false, r3, iteF (q _ G3 H3 ((S1.trans S2).trans S3) rfl)⟩
  · cases eg
theorem sv_chain {op op' : CmpOp} {r r' : R2} {g g' : PV → PV → Option PV} (ho : OpR X (compareOp op) r) (ho' : OpR X (compareOp op') r') (hv : OpV X.K r g) (hv' : OpV X.K r' g') (ha : SV X a f) (hb : SV X b h) (hc : SV X c k)
    (hm : lastMarks [op, op'] [b, c] = false := by with_unfolding_all rfl) : SV X (.Compare a [op, op'] [b, c] pos) (dChain g g' f h k) :=
  (pe_chain ho ho' ha hb hc hm).imp fun _ _ _ t => t_chain hv hv' t
theorem sb_chain {op op' : CmpOp} {r r' : R2} {g g' : PV → PV → Option PV} (ho : OpR X (compareOp op) r) (ho' : OpR X (compareOp op') r') (hv : OpV X.K r g) (hv' : OpV X.K r' g') (ha : SV X a f) (hb : SV X b h) (hc : SV X c k)
    (hm : lastMarks [op, op'] [b, c] = false := by with_unfolding_all rfl) : SB X (.Compare a [op, op'] [b, c] pos) (dTr (dChain g g' f h k)) :=
  (pt_chain ho ho' ha hb hc hm).imp fun σ H Q ⟨π, G, Γ, w, Γ', E, ef, q⟩ => by
    obtain ⟨x, Γ1, e1, ef⟩ := bnd_some ef
    refine t_chain hv hv' ⟨π, G, Γ, x, Γ1, E, e1, fun u G1 H1 S1 r1 => ?_⟩
    split at ef
    · obtain ⟨rfl, rfl⟩ := ret_some ef
      exact ⟨_, r1, q G1 H1 S1⟩
    · cases ef
end
end
section
variable [Fx]
/-! ### argument lists, displays -/
@[simp] def dNil (Γ : Ev) : Option ((List PV) × Ev) := (ret []) Γ
@[simp] def dCons (f : D PV) (h : D (List PV)) (Γ : Ev) : Option (List PV × Ev) := (bnd f fun x => bnd h fun xs => ret (x :: xs)) Γ
def mkT (xs : List PV) : Option PV := if fits xs.length = true then some (.tup xs) else none
def mkL (xs : List PV) : Option PV := if fits xs.length = true then some (.lst xs) else none
@[simp] def dTup (f : D (List PV)) (Γ : Ev) : Option (PV × Ev) := (bnd f fun xs => opt (mkT xs)) Γ
@[simp] def dLst (f : D (List PV)) (Γ : Ev) : Option (Rs × Ev) := (bnd f fun xs => opt ((mkL xs).map Rs.new)) Γ
/-- the answer is a new list -/
theorem new_list {K : PySem.W.Frag} {π : Nat → Addr} {σ : St} {G H G1 H1 : Hp} {Γ Γ1 : Ev} {vs : List V} {xs : List PV} {Q : VK} (S : Ste K π σ G H Γ G1 H1 Γ1) (r : Reps K G1 vs xs)
    (q : ∀ x G' H', Ste K π σ G H Γ G' H' Γ1 → RR K G' H' (fun a => H a = none) x (.new (.lst xs)) → Q x H') {p : Addr} (n : H1 p = none) : Q (.ref p) (upd H1 p (.lst vs)) := by
  obtain ⟨g, s, gn⟩ := gr_made (F := fun _ => False) (o := .lst vs) S.e.sub n
  exact q _ _ _ (S.trans (.grow S.e g s)) ⟨p, rfl, S.g.nothing n, gn, vs, upd_same, r⟩
section
variable {X : Cx} {pos : Pos} {a b c e : Expr} {es : List Expr} {f h k : D PV} {l : D (List PV)}
theorem sl_nil : SL X [] dNil := pa_nil.imp fun σ H Q ⟨π, G, Γ, w, Γ', E, ef, q⟩ => by
  obtain ⟨rfl, rfl⟩ := ret_some ef
  exact q [] G H (.refl E) .nil
theorem sl_cons (ha : SV X e f) (hr : SL X es l) (hs : starEach (e :: es) X.env = (false, eval e X.env) :: starEach es X.env := by rfl) : SL X (e :: es) (dCons f l) := (pa_cons ha hr hs).imp fun σ H Q ⟨π, G, Γ, w, Γ', E, ef, q⟩ => by
  obtain ⟨x, Γ1, e1, ef⟩ := bnd_some ef
  obtain ⟨xs, Γ2, e2, ef⟩ := bnd_some ef
  obtain ⟨rfl, rfl⟩ := ret_some ef
  exact ⟨π, G, Γ, x, Γ1, E, e1, fun u G1 H1 S1 r1 => ⟨π, G1, Γ1, xs, _, S1.e, e2, fun us G2 H2 S2 r2 => q _ G2 H2 (S1.trans S2) (.cons (r1.mono S2.g.g) r2)⟩⟩
theorem sv_tup {k' : Nat} (hl : SL X es l) : SV X (.Tuple es k' pos) (dTup l) := (pe_tup hl).imp fun σ H Q ⟨π, G, Γ, w, Γ', E, ef, q⟩ => by
  obtain ⟨xs, Γ1, e1, ef⟩ := bnd_some ef
  obtain ⟨e2, rfl⟩ := opt_some ef
  unfold mkT at e2
  split at e2
  · rename_i hz
    have hz := of_fits hz
    cases e2
    refine ⟨π, G, Γ, xs, _, E, e1, fun us G1 H1 S1 r1 => ⟨?_, fun p hp => ?_⟩⟩
    · have := line_m
      have := r1.length
      omega
    · obtain ⟨g, s⟩ := gr_laid (F := fun _ => False) (o := .tup us) S1.e.sub hp
      exact q _ _ _ (S1.trans (.grow S1.e g s)) ⟨p, us, rfl, .inl (.inl upd_same), r1.mono g.g⟩
  · cases e2
theorem sr_lst (hl : SL X es l) : SR X (.List es pos) (dLst l) := (pe_lst hl).imp fun σ H Q ⟨π, G, Γ, w, Γ', E, ef, q⟩ => by
  obtain ⟨xs, Γ1, e1, ef⟩ := bnd_some ef
  obtain ⟨e2, rfl⟩ := opt_some ef
  obtain ⟨z, e3, rfl⟩ := Option.map_eq_some_iff.mp e2
  unfold mkL at e3
  split at e3
  · rename_i hz
    have hz := of_fits hz
    cases e3
    refine ⟨π, G, Γ, xs, _, E, e1, fun us G1 H1 S1 r1 => ⟨?_, fun p hp => new_list S1 r1 q hp⟩⟩
    have := line_m
    have := r1.length
    omega
  · cases e3
/-! ### subscripts -/
@[simp] def gIx : PV → PV → Option PV
  | .tup xs, .int i => atI xs i
  | .lst xs, .int i => atI xs i
  | .str z, .int i => if fits z.length = true then (atI z.cps.toList i).map fun c => .str ⟨#[c]⟩ else none
  | .dic ks vs, p => if okd ks p then pAt ks vs p else none
  | _, _ => none
/-- an item of a dict -/
def rIxX (K : PySem.W.Frag) : R2 := fun x y H Q => ∃ G a ks vs p z, x = .ref a ∧ Same G H ∧ DAt K G H a ks vs ∧ okd ks p = true ∧ Rep K G y p ∧ pAt ks vs p = some z ∧ ∀ v, Rep K G v z → Q v H
theorem dAt_type {X : Cx} {pins : List (Addr × Obj)} {σ : St} {G H : Hp} {s : Shared} {a : Addr} {ks vs : List PV} (I : Inv X pins σ H s) (d : DAt X.K G H a ks vs) : s.TypeIs (.ref a) "dict" ∧ (a == sysModules) = false ∧ ∃ ob, s.heap.get? a = some ob ∧ ob.dict = none := by
  obtain ⟨o, kws, us, h1, h2, h3, l1, l2, ⟨fk, _, _, rfl⟩ | ⟨bs, nk, _, _, _, _, sy, rfl⟩⟩ := d
  · obtain ⟨_, hd, vs', _, dd⟩ := dk_of I.hok h1
    refine ⟨dd.typeIs, hd, ?_⟩
    obtain ⟨ob, _, _, q1, q2, _⟩ := dd
    exact ⟨ob, q1, q2.2.1⟩
  · obtain ⟨⟨ob, es, ep, q1, q2, _⟩, _, _⟩ := I.hok a _ h1
    exact ⟨⟨ob, q1, q2.1⟩, sy, ob, q1, q2.2.1⟩
theorem ix_dic {X : Cx} (hu : X.A.units + 64 < cLine) (hw : X.w = Fx.w) : IxR X (rIxX X.K) := by
  intro value slice pins s σ H x y v u Q I rx ry h hs
  obtain ⟨G, a, ks, vs, p, z, rfl, sm, da, ok, rp, ez, q⟩ := h
  obtain rfl : v = Value.ref a := rx
  exact tail_any (dAt_type I da).1 PySem.F.slot_dict_getitem.lookup (x_getItem hu hw I sm da ok rp ry ez fun v w' s' I' rv r' => ⟨v, H, I', r', q v rv⟩) hs
theorem reps_at {K : PySem.W.Frag} {G : Hp} {vs : List V} {ps : List PV} {i : Int} {p : PV} (r : Reps K G vs ps) (e : atI ps i = some p) : ∃ v, atI vs i = some v ∧ Rep K G v p := by
  unfold atI at e ⊢
  rw [r.length]
  obtain ⟨j, e1, e2⟩ := Option.bind_eq_some_iff.mp e
  obtain ⟨v, h1, h2⟩ := r.get e2
  exact ⟨v, by rw [e1]; exact h1, h2⟩
theorem pk_ix {K : PySem.W.Frag} {G H : Hp} {x y : V} {p q z : PV} {Q : VK} (s : Same G H) (r1 : Pk K G H x p) (r2 : Rep K G y q) (e : gIx p q = some z) (A : Ans K G H z Q) : rIx K x y H Q ∨ rIxX K x y H Q := by
  unfold gIx at e
  split at e
  · rename_i xs i
    rcases r1 with ⟨a, vs, rfl, q1, q2⟩ | ⟨a, rfl, q1⟩
    · obtain ⟨v, h1, h2⟩ := reps_at q2 e
      exact .inl (.inr (.inl ⟨a, vs, i, v, rfl, r2, Same.seqT s q1, h1, A.now s h2⟩))
    · exact q1.elim
  · rename_i xs i
    rcases r1 with ⟨a, vs, rfl, q1, q2⟩ | ⟨a, rfl, vs, q1, q2⟩
    · obtain ⟨v, h1, h2⟩ := reps_at q2 e
      exact .inl (.inl ⟨a, vs, i, v, rfl, r2, SqL.of (s _ _ q1), h1, A.now s h2⟩)
    · obtain ⟨v, h1, h2⟩ := reps_at q2 e
      exact .inl (.inl ⟨a, vs, i, v, rfl, r2, SqL.of q1, h1, A.now s h2⟩)
  · rename_i z' i
    split at e
    · rename_i hz
      have hz := of_fits hz
      obtain ⟨c, e1, rfl⟩ := Option.map_eq_some_iff.mp e
      rcases r1 with r1 | ⟨a, rfl, q1⟩
      · have := line_m
        exact .inl (.inr (.inr ⟨z', i, c, r1, r2, by omega, e1, A.now s rfl⟩))
      · exact q1.elim
    · cases e
  · rename_i ks vs
    split at e
    · rename_i c
      obtain ⟨a, rfl, da⟩ := pk_dic s r1
      exact .inr ⟨G, a, ks, vs, q, z, rfl, s, da, c, r2, e, fun v rv => A.now s rv⟩
    · cases e
  · cases e
/-- the index first, the object as it stands then -/
@[simp] def dIxN (i : Nat) (h : D PV) (Γ : Ev) : Option (PV × Ev) := (bnd (dPk i) fun _ => bnd h fun y => bnd (dPk i) fun x => opt (gIx x y)) Γ
theorem sv_ix (hu : X.A.units + 64 < cLine) (hw : X.w = Fx.w) (ha : SV X a f) (hb : SV X b h) (hs : PlainIx b := by intro _ _; rfl) : SV X (.Subscript a b pos) (dOp gIx f h) := (pe_ix (ix_seq.or (ix_dic hu hw)) ha hb hs).imp fun _ _ _ t =>
  t_op (fun x y p q z G H Q s r1 r2 e A => pk_ix s (.inl r1) r2 e A) t
theorem sv_ixN (i : Nat) {x : Str} {pos' : Pos} (hu : X.A.units + 64 < cLine) (hw : X.w = Fx.w) (hb : SV X b h) (hs : PlainIx b := by intro _ _; rfl) (hN : X.N[i]? = some x := by rfl) (hv : Vis X.env.scope x := by first | exact Or.inl rfl | exact Or.inr (Or.inl rfl) | exact Or.inr (Or.inr rfl))
    (hd : (x == ("__debug__" : Str)) = false := by decide) (hcd : (x == ("__classdict__" : Str)) = false := by decide) : SV X (.Subscript (.Name x pos') b pos) (dIxN i h) := (pe_ix (ix_seq.or (ix_dic hu hw)) (pe_var hN hv hd hcd) hb hs).imp fun σ H Q ⟨π, G, Γ, w, Γ', E, ef, q⟩ => by
  obtain ⟨x0, Γ0, e0, ef⟩ := bnd_some ef
  obtain ⟨y, Γ1, e1, ef⟩ := bnd_some ef
  obtain ⟨x, Γ2, e2, ef⟩ := bnd_some ef
  obtain ⟨e3, rfl⟩ := opt_some ef
  obtain ⟨rfl, v, hv', _⟩ := Sl_at E e0
  refine ⟨v, hv', π, G, _, y, Γ1, E, e1, fun u G1 H1 S1 r1 => ?_⟩
  obtain ⟨rfl, v', h1, h2⟩ := Sl_at S1.e e2
  rw [hv'] at h1
  cases h1
  exact pk_ix S1.e.sub h2 r1 e3 fun z G' H' g' s' r' => q z G' H' (S1.trans (.grow S1.e g' s')) r'
/-! ### slices -/
def cutA {α : Type} (xs : List α) (lo hi : Option Int) : List α := (xs.drop (HT.sIx xs.length 0 lo)).take (HT.sIx xs.length xs.length hi - HT.sIx xs.length 0 lo)
theorem reps_cut {K : PySem.W.Frag} {G : Hp} {vs : List V} {ps : List PV} (r : Reps K G vs ps) (lo hi : Option Int) : Reps K G (cutV vs lo hi) (cutA ps lo hi) := by
  unfold cutV cutA
  rw [r.length]
  exact (r.drop _).take _
@[simp] def gSl : PV → Option Int → Option Int → Option Rs
  | .tup xs, lo, hi => some (.val (.tup (cutA xs lo hi)))
  | .lst xs, lo, hi => some (.new (.lst (cutA xs lo hi)))
  | .scr ns, lo, hi => some (.new (.lst ((cutA ns lo hi).map PV.int)))
  | .str z, lo, hi => if fits z.length = true then some (.val (.str (cutS z lo hi))) else none
  | _, _, _ => none
abbrev rSl (K : PySem.W.Frag) : V → Option Int → Option Int → Hp → VK → Prop := fun x lo hi H Q => rSlL K x lo hi H Q ∨ (rSlA K x lo hi H Q ∨ rSlS x lo hi H Q)
theorem sl_all {X : Cx} : SlR X (rSl X.K) := sl_list.or (sl_tupA.or sl_str)
theorem reps_ints {K : PySem.W.Frag} {G : Hp} : ∀ ns : List Int, Reps K G (ns.map V.int) (ns.map PV.int)
  | [] => rfl
  | n :: ns => ⟨.int n, ns.map V.int, rfl, rfl, reps_ints ns⟩
theorem cut_map (ns : List Int) (lo hi : Option Int) : cutV (ns.map V.int) lo hi = (cutA ns lo hi).map V.int := by
  unfold cutV cutA
  rw [List.length_map, List.map_take, List.map_drop]
theorem pk_sl {K : PySem.W.Frag} {π : Nat → Addr} {σ : St} {G H G1 H1 : Hp} {Γ Γ1 : Ev} {x : V} {p : PV} {r : Rs} {lo hi : Option Int} {Q : VK} (S : Ste K π σ G H Γ G1 H1 Γ1) (r1 : Pk K G1 H1 x p) (e : gSl p lo hi = some r)
    (q : ∀ x G' H', Ste K π σ G H Γ G' H' Γ1 → RR K G' H' (fun a => H a = none) x r → Q x H') : rSl K x lo hi H1 Q := by
  unfold gSl at e
  split at e
  · rename_i xs
    cases e
    rcases r1 with ⟨a, vs, rfl, q1, q2⟩ | ⟨a, rfl, q1⟩
    · refine .inr (.inl ⟨a, vs, rfl, Same.seqT S.e.sub q1, fun hw => ?_, fun _ p hp => ?_⟩)
      · refine q _ G1 H1 S ⟨a, vs, rfl, q1, ?_⟩
        have e : cutA xs lo hi = xs := by
          unfold cutA
          rw [← q2.length, hw.1, hw.2, List.drop_zero, Nat.sub_zero, q2.length, List.take_length]
        rw [e]
        exact q2
      · obtain ⟨g, s⟩ := gr_laid (F := fun _ => False) (o := .tup (cutV vs lo hi)) S.e.sub hp
        exact q _ _ _ (S.trans (.grow S.e g s)) ⟨p, _, rfl, .inl (.inl upd_same), (reps_cut q2 lo hi).mono g.g⟩
    · exact q1.elim
  · rename_i xs
    cases e
    rcases r1 with ⟨a, vs, rfl, q1, q2⟩ | ⟨a, rfl, vs, q1, q2⟩
    · exact .inl ⟨a, vs, rfl, SqL.of (S.e.sub _ _ q1), fun p hp => new_list S (reps_cut q2 lo hi) q hp⟩
    · exact .inl ⟨a, vs, rfl, SqL.of q1, fun p hp => new_list S (reps_cut q2 lo hi) q hp⟩
  · rename_i ns
    cases e
    rcases r1 with ⟨a, rfl, q1⟩ | ⟨a, rfl, q1⟩
    · refine .inl ⟨a, _, rfl, S.e.sub.seq q1, fun p hp => ?_⟩
      rw [cut_map]
      exact new_list S (reps_ints _) q hp
    · exact q1.elim
  · rename_i z
    split at e
    · rename_i hz
      have hz := of_fits hz
      cases e
      rcases r1 with r1 | ⟨a, rfl, q1⟩
      · have := line_m
        exact .inr (.inr ⟨z, r1, by omega, q _ G1 H1 S rfl⟩)
      · exact q1.elim
    · cases e
  · cases e
abbrev TOo := TO
def tOI (K : PySem.W.Frag) (f : D (Option Int)) : TO := fun σ H Q => ∃ π G Γ v Γ', ER K π G σ H Γ ∧ f Γ = some (v, Γ') ∧ ∀ G' H', Ste K π σ G H Γ G' H' Γ' → Q v H'
abbrev SO (X : Cx) (e : Option Expr) (f : D (Option Int)) : Prop := PO X e (tOI X.K f)
theorem PO_imp {e : Option Expr} {t t' : TO} (h : PO X e t) (i : ∀ σ H Q, t' σ H Q → t σ H Q) : PO X e t' := by
  obtain ⟨r⟩ := h
  exact ⟨by
    intros
    apply r
    · assumption
    · apply i
      assumption⟩
@[simp] def dPn (Γ : Ev) : Option ((Option Int) × Ev) := (ret none) Γ
@[simp] def dPt (f : D PV) (Γ : Ev) : Option ((Option Int) × Ev) := (bnd f fun x => match x with
  | .int i => ret (some i)
  | _ => fun _ => none) Γ
theorem so_none : SO X none dPn := PO_imp po_none fun σ H Q ⟨π, G, Γ, w, Γ', E, ef, q⟩ => by
  obtain ⟨rfl, rfl⟩ := ret_some ef
  exact q G H (.refl E)
theorem so_some (ha : SV X a f) : SO X (some a) (dPt f) := PO_imp (po_some ha) fun σ H Q ⟨π, G, Γ, w, Γ', E, ef, q⟩ => by
  obtain ⟨x, Γ1, e1, ef⟩ := bnd_some ef
  refine ⟨π, G, Γ, x, Γ1, E, e1, fun u G1 H1 S1 r1 => ?_⟩
  split at ef
  · obtain ⟨rfl, rfl⟩ := ret_some ef
    exact ⟨_, r1, q G1 H1 S1⟩
  · cases ef
@[simp] def dSl (f : D PV) (lo hi : D (Option Int)) (Γ : Ev) : Option (Rs × Ev) := (bnd f fun x => bnd lo fun i => bnd hi fun j => opt (gSl x i j)) Γ
@[simp] def dSlN (n : Nat) (lo hi : D (Option Int)) (Γ : Ev) : Option (Rs × Ev) := (bnd (dPk n) fun _ => bnd lo fun i => bnd hi fun j => bnd (dPk n) fun x => opt (gSl x i j)) Γ
theorem sr_sl {lo hi : Option Expr} {dl dh : D (Option Int)} {p2 : Pos} (ha : SV X a f) (hl : SO X lo dl) (hh : SO X hi dh) : SR X (.Subscript a (.Slice lo hi none p2) pos) (dSl f dl dh) := (pe_slice sl_all ha hl hh).imp fun σ H Q ⟨π, G, Γ, w, Γ', E, ef, q⟩ => by
  obtain ⟨x, Γ1, e1, ef⟩ := bnd_some ef
  obtain ⟨i, Γ2, e2, ef⟩ := bnd_some ef
  obtain ⟨j, Γ3, e3, ef⟩ := bnd_some ef
  obtain ⟨e4, rfl⟩ := opt_some ef
  refine ⟨π, G, Γ, x, Γ1, E, e1, fun u G1 H1 S1 r1 => ⟨π, G1, Γ1, i, Γ2, S1.e, e2, fun G2 H2 S2 => ⟨π, G2, Γ2, j, _, S2.e, e3, fun G3 H3 S3 => ?_⟩⟩⟩
  exact pk_sl ((S1.trans S2).trans S3) (.inl ((r1.mono S2.g.g).mono S3.g.g)) e4 q
theorem sr_slN (n : Nat) {lo hi : Option Expr} {dl dh : D (Option Int)} {p2 pos' : Pos} {x : Str} (hl : SO X lo dl) (hh : SO X hi dh) (hN : X.N[n]? = some x := by rfl) (hv : Vis X.env.scope x := by first | exact Or.inl rfl | exact Or.inr (Or.inl rfl) | exact Or.inr (Or.inr rfl))
    (hd : (x == ("__debug__" : Str)) = false := by decide) (hcd : (x == ("__classdict__" : Str)) = false := by decide) : SR X (.Subscript (.Name x pos') (.Slice lo hi none p2) pos) (dSlN n dl dh) := (pe_slice sl_all (pe_var hN hv hd hcd) hl hh).imp fun σ H Q ⟨π, G, Γ, w, Γ', E, ef, q⟩ => by
  obtain ⟨x0, Γ0, e0, ef⟩ := bnd_some ef
  obtain ⟨i, Γ2, e2, ef⟩ := bnd_some ef
  obtain ⟨j, Γ3, e3, ef⟩ := bnd_some ef
  obtain ⟨x, Γ4, e4, ef⟩ := bnd_some ef
  obtain ⟨e5, rfl⟩ := opt_some ef
  obtain ⟨rfl, v, hv', _⟩ := Sl_at E e0
  refine ⟨v, hv', π, G, _, i, Γ2, E, e2, fun G2 H2 S2 => ⟨π, G2, Γ2, j, _, S2.e, e3, fun G3 H3 S3 => ?_⟩⟩
  obtain ⟨rfl, v', h1, h2⟩ := Sl_at S3.e e4
  rw [hv'] at h1
  cases h1
  exact pk_sl (S2.trans S3) h2 e5 q
/-! ### built-ins of one value -/
def CallP (K : PySem.W.Frag) (r : List V → Hp → VK → Prop) (g : PV → Option PV) : Prop := ∀ x p z G H Q, Same G H → Pk K G H x p → g p = some z → Ans K G H z Q → r [x] H Q
theorem t_c1 {K : PySem.W.Frag} {r : List V → Hp → VK → Prop} {g : PV → Option PV} (hp : CallP K r g) {σ : St} {H : Hp} {Q : VK} (t : tV K (dUn g f) σ H Q) : tCB r (tCons (tP K f) tNil) σ H Q := by
  obtain ⟨π, G, Γ, w, Γ', E, ef, q⟩ := t
  obtain ⟨x, Γ1, e1, ef⟩ := bnd_some ef
  obtain ⟨e3, rfl⟩ := opt_some ef
  exact ⟨π, G, Γ, x, _, E, e1, fun u G1 H1 S1 r1 => hp u x w G1 H1 Q S1.e.sub r1 e3 fun z G' H' g' s' r' => q z G' H' (S1.trans (.grow S1.e g' s')) r'⟩
theorem sv_b1 {r : List V → Hp → VK → Prop} {g : PV → Option PV} {x : Str} {id : String} {p : Pos} (hc : CallR X (.builtin id) r) (hp : CallP X.K r g) (hg : Gl X x) (hm : X.mg x = none) (hv : bootBuiltins x = some (.builtin id)) (ha : SP X e f)
    (hn : x ≠ "__name__" := by decide) (hd : (x == ("__debug__" : Str)) = false := by decide) (he : starEach [e] X.env = (false, eval e X.env) :: starEach [] X.env := by rfl) (hpl : (backTo pos (starEach [] X.env)).any (·.1) = false := by rfl) :
    SV X (.Call (.Name x p) [e] [] pos) (dUn g f) := (pe_callB hc hg hm hv (pa_cons ha pa_nil he) hn hd he hpl).imp fun _ _ _ t => t_c1 hp t
theorem sv_t1 {r : List V → Hp → VK → Prop} {g : PV → Option PV} {x : Str} {T : String} {p : Pos} (hc : CallR X (.type T) r) (hp : CallP X.K r g) (hg : Gl X x) (hm : X.mg x = none) (hv : bootBuiltins x = some (.type T)) (ha : SP X e f)
    (hn : x ≠ "__name__" := by decide) (hd : (x == ("__debug__" : Str)) = false := by decide) (he : starEach [e] X.env = (false, eval e X.env) :: starEach [] X.env := by rfl) (hpl : (backTo pos (starEach [] X.env)).any (·.1) = false := by rfl) :
    SV X (.Call (.Name x p) [e] [] pos) (dUn g f) := (pe_callTy hc hg hm hv (pa_cons ha pa_nil he) hn hd he hpl).imp fun _ _ _ t => t_c1 hp t
end
end
section
variable [Fx]
/-! ### len, sum, max, min, all, any, int, abs -/
def pInts : List PV → Option (List Int)
  | [] => some []
  | .int i :: r => (pInts r).map (i :: ·)
  | _ :: _ => none
def pBls : List PV → Option (List Bool)
  | [] => some []
  | .bl i :: r => (pBls r).map (i :: ·)
  | _ :: _ => none
theorem ints_eq : ∀ {ps : List PV} {ns : List Int}, pInts ps = some ns → ps = ns.map PV.int
  | [], ns, h => by cases h; rfl
  | .int i :: r, ns, h => by
    obtain ⟨ms, e, rfl⟩ := Option.map_eq_some_iff.mp (show (pInts r).map (i :: ·) = some ns from h)
    rw [ints_eq e]
    rfl
  | .non :: r, ns, h => by cases h
  | .bl _ :: r, ns, h => by cases h
  | .str _ :: r, ns, h => by cases h
  | .ty _ :: r, ns, h => by cases h
  | .tup _ :: r, ns, h => by cases h
  | .lst _ :: r, ns, h => by cases h
  | .scr _ :: r, ns, h => by cases h
theorem bls_eq : ∀ {ps : List PV} {ns : List Bool}, pBls ps = some ns → ps = ns.map PV.bl
  | [], ns, h => by cases h; rfl
  | .bl i :: r, ns, h => by
    obtain ⟨ms, e, rfl⟩ := Option.map_eq_some_iff.mp (show (pBls r).map (i :: ·) = some ns from h)
    rw [bls_eq e]
    rfl
  | .non :: r, ns, h => by cases h
  | .int _ :: r, ns, h => by cases h
  | .str _ :: r, ns, h => by cases h
  | .ty _ :: r, ns, h => by cases h
  | .tup _ :: r, ns, h => by cases h
  | .lst _ :: r, ns, h => by cases h
  | .scr _ :: r, ns, h => by cases h
theorem ints_map : ∀ ns : List Int, pInts (ns.map PV.int) = some ns
  | [] => rfl
  | n :: ns => by
    show (pInts (ns.map PV.int)).map (n :: ·) = _
    rw [ints_map ns]
    rfl
theorem bls_map : ∀ ns : List Bool, pBls (ns.map PV.bl) = some ns
  | [] => rfl
  | n :: ns => by
    show (pBls (ns.map PV.bl)).map (n :: ·) = _
    rw [bls_map ns]
    rfl
theorem reps_ints_of {K : PySem.W.Frag} {G : Hp} : ∀ {ns : List Int} {vs : List V}, Reps K G vs (ns.map PV.int) → vs = ns.map V.int
  | [], vs, h => h
  | n :: ns, vs, h => by
    obtain ⟨v, r, rfl, a, b⟩ := h
    cases (show v = V.int n from a)
    rw [reps_ints_of b]
    rfl
theorem reps_bls_of {K : PySem.W.Frag} {G : Hp} : ∀ {ns : List Bool} {vs : List V}, Reps K G vs (ns.map PV.bl) → vs = ns.map V.bl
  | [], vs, h => h
  | n :: ns, vs, h => by
    obtain ⟨v, r, rfl, a, b⟩ := h
    cases (show v = V.bl n from a)
    rw [reps_bls_of b]
    rfl
theorem pk_lst {K : PySem.W.Frag} {G H : Hp} {x : V} {ps : List PV} (s : Same G H) (h : Pk K G H x (.lst ps)) : ∃ a vs, x = .ref a ∧ H a = some (.lst vs) ∧ Reps K G vs ps := by
  rcases h with ⟨a, vs, rfl, q1, q2⟩ | ⟨a, rfl, vs, q1, q2⟩
  · exact ⟨a, vs, rfl, s _ _ q1, q2⟩
  · exact ⟨a, vs, rfl, q1, q2⟩
theorem pk_tup {K : PySem.W.Frag} {G H : Hp} {x : V} {ps : List PV} (h : Pk K G H x (.tup ps)) : ∃ a vs, x = .ref a ∧ SqT K G a vs ∧ Reps K G vs ps := by
  rcases h with ⟨a, vs, rfl, q1, q2⟩ | ⟨a, rfl, q1⟩
  · exact ⟨a, vs, rfl, q1, q2⟩
  · exact q1.elim
@[simp] def gLen : PV → Option PV
  | .tup xs => some (.int xs.length)
  | .lst xs => some (.int xs.length)
  | .scr xs => some (.int xs.length)
  | .str z => if fits z.length = true then some (.int z.length) else none
  | .dic ks _ => some (.int ks.length)
  | _ => none
def rLenX (K : PySem.W.Frag) : List V → Hp → VK → Prop := fun xs H Q => ∃ G a ks vs, xs = [.ref a] ∧ Same G H ∧ DAt K G H a ks vs ∧ Q (.int ks.length) H
theorem call_lenX {X : Cx} (hw : X.w = Fx.w) : CallR X (.builtin "len") (rLenX X.K) := by
  intro pins s σ H xs us Q I r h
  obtain ⟨G, a, ks, vs, rfl, sm, d, q⟩ := h
  cases r with
  | cons r1 r2 =>
    cases r2
    rename_i u
    cases (show u = _ from r1)
    obtain ⟨o, kws, ws, h1, h2, h3, l1, l2, ⟨fk, rfl, nd, rfl⟩ | ⟨bs, nk, ne, rfl, ek, nd, sy, rfl⟩⟩ := d
    · refine d_len I (.inl h1) fun t s' I' => ⟨.int _, H, I', ⟨t, rfl⟩, ?_⟩
      have e : (fk.zip ws).length = (fk.map kPV).length := by simp; simp at l1; omega
      rw [e]
      exact q
    · obtain ⟨xs, xr, dd⟩ := nested_at hw I sm h1 h2 ek nd
      have e : xs.length = ks.length := by
        rw [xr.keys.2.1]
        have := congrArg List.length ek
        simpa using this.symm
      refine call_len_dictH sy dd (by rw [sizeLine_eq] at l2; omega) ⟨.int _, H, (I.tok _).tok _, ⟨_, rfl⟩, ?_⟩
      rw [e]
      exact q
theorem cp_len {K : PySem.W.Frag} : CallP K (fun xs H Q => ((∃ p ys, xs = [.ref p] ∧ (SqL K H p ys ∨ SqT K H p ys) ∧ Q (.int ys.length) H) ∨ (∃ z, xs = [.str z] ∧ z.length ≤ sizeLine ∧ Q (.int z.length) H)) ∨ rLenX K xs H Q) gLen := fun x p z G H Q s r e A => by
  unfold gLen at e
  split at e
  · cases e
    obtain ⟨a, vs, rfl, q1, q2⟩ := pk_tup r
    refine .inl (.inl ⟨a, vs, rfl, .inr (Same.seqT s q1), A.now s ?_⟩)
    rw [q2.length]
    rfl
  · cases e
    obtain ⟨a, vs, rfl, q1, q2⟩ := pk_lst s r
    refine .inl (.inl ⟨a, vs, rfl, .inl (SqL.of q1), A.now s ?_⟩)
    rw [q2.length]
    rfl
  · cases e
    rcases r with ⟨a, rfl, q1⟩ | ⟨a, rfl, q1⟩
    · refine .inl (.inl ⟨a, _, rfl, .inl (s.seq q1), A.now s ?_⟩)
      rw [List.length_map]
      rfl
    · exact q1.elim
  · split at e
    · rename_i hz
      have hz := of_fits hz
      cases e
      have := line_m
      rcases r with r | ⟨a, rfl, q1⟩
      · cases (show x = _ from r)
        exact .inl (.inr ⟨_, rfl, by omega, A.now s rfl⟩)
      · exact q1.elim
    · cases e
  · cases e
    obtain ⟨a, rfl, da⟩ := pk_dic s r
    exact .inr ⟨G, a, _, _, rfl, s, da, A.now s rfl⟩
  · cases e
def gSum : PV → Option PV
  | .lst xs => (pInts xs).map fun ns => .int ns.sum
  | _ => none
theorem cp_sum {K : PySem.W.Frag} : CallP K (rSum K) gSum := fun x p z G H Q s r e A => by
  unfold gSum at e
  split at e
  · obtain ⟨ns, e1, rfl⟩ := Option.map_eq_some_iff.mp e
    rw [ints_eq e1] at r
    obtain ⟨a, vs, rfl, q1, q2⟩ := pk_lst s r
    rw [reps_ints_of q2] at q1
    exact ⟨a, ns, rfl, SqL.of q1, A.now s rfl⟩
  · cases e
def maxI : List Int → Int
  | [] => 0
  | x :: xs => xs.foldl max x
def minI : List Int → Int
  | [] => 0
  | x :: xs => xs.foldl min x
theorem foldl_max_ge : ∀ (xs : List Int) (x : Int), x ≤ xs.foldl max x ∧ (∀ y ∈ xs, y ≤ xs.foldl max x) ∧ (xs.foldl max x = x ∨ xs.foldl max x ∈ xs)
  | [], x => ⟨Int.le_refl _, fun y h => (by cases h), .inl rfl⟩
  | y :: xs, x => by
    obtain ⟨h1, h2, h3⟩ := foldl_max_ge xs (max x y)
    refine ⟨by show x ≤ xs.foldl max (max x y); omega, fun z hz => ?_, ?_⟩
    · show z ≤ xs.foldl max (max x y)
      rcases List.mem_cons.mp hz with rfl | hz
      · omega
      · exact h2 z hz
    · show xs.foldl max (max x y) = x ∨ xs.foldl max (max x y) ∈ y :: xs
      rcases h3 with h3 | h3
      · by_cases h : x ≤ y
        · right
          rw [h3, show max x y = y by omega]
          exact List.mem_cons_self
        · left
          rw [h3]
          omega
      · exact .inr (List.mem_cons_of_mem _ h3)
theorem foldl_min_le : ∀ (xs : List Int) (x : Int), xs.foldl min x ≤ x ∧ (∀ y ∈ xs, xs.foldl min x ≤ y) ∧ (xs.foldl min x = x ∨ xs.foldl min x ∈ xs)
  | [], x => ⟨Int.le_refl _, fun y h => (by cases h), .inl rfl⟩
  | y :: xs, x => by
    obtain ⟨h1, h2, h3⟩ := foldl_min_le xs (min x y)
    refine ⟨by show xs.foldl min (min x y) ≤ x; omega, fun z hz => ?_, ?_⟩
    · show xs.foldl min (min x y) ≤ z
      rcases List.mem_cons.mp hz with rfl | hz
      · omega
      · exact h2 z hz
    · show xs.foldl min (min x y) = x ∨ xs.foldl min (min x y) ∈ y :: xs
      rcases h3 with h3 | h3
      · by_cases h : y ≤ x
        · right
          rw [h3, show min x y = y by omega]
          exact List.mem_cons_self
        · left
          rw [h3]
          omega
      · exact .inr (List.mem_cons_of_mem _ h3)
theorem maxI_spec {ns : List Int} (h : ns ≠ []) : maxI ns ∈ ns ∧ ∀ y ∈ ns, y ≤ maxI ns := by
  cases ns with
  | nil => exact absurd rfl h
  | cons x xs =>
    obtain ⟨h1, h2, h3⟩ := foldl_max_ge xs x
    refine ⟨?_, fun y hy => ?_⟩
    · show xs.foldl max x ∈ x :: xs
      rcases h3 with h3 | h3
      · rw [h3]
        exact List.mem_cons_self
      · exact List.mem_cons_of_mem _ h3
    · rcases List.mem_cons.mp hy with rfl | hy
      · exact h1
      · exact h2 y hy
theorem minI_spec {ns : List Int} (h : ns ≠ []) : minI ns ∈ ns ∧ ∀ y ∈ ns, minI ns ≤ y := by
  cases ns with
  | nil => exact absurd rfl h
  | cons x xs =>
    obtain ⟨h1, h2, h3⟩ := foldl_min_le xs x
    refine ⟨?_, fun y hy => ?_⟩
    · show xs.foldl min x ∈ x :: xs
      rcases h3 with h3 | h3
      · rw [h3]
        exact List.mem_cons_self
      · exact List.mem_cons_of_mem _ h3
    · rcases List.mem_cons.mp hy with rfl | hy
      · exact h1
      · exact h2 y hy
def gMax : PV → Option PV
  | .lst xs => match pInts xs with
    | some (n :: ns) => some (.int (maxI (n :: ns)))
    | _ => none
  | _ => none
def gMin : PV → Option PV
  | .lst xs => match pInts xs with
    | some (n :: ns) => some (.int (minI (n :: ns)))
    | _ => none
  | _ => none
theorem cp_max {K : PySem.W.Frag} : CallP K (rMax K) gMax := fun x p z G H Q s r e A => by
  unfold gMax at e
  split at e
  · split at e
    · rename_i n ns e1
      cases e
      rw [ints_eq e1] at r
      obtain ⟨a, vs, rfl, q1, q2⟩ := pk_lst s r
      rw [reps_ints_of q2] at q1
      obtain ⟨m1, m2⟩ := maxI_spec (ns := n :: ns) (by simp)
      refine ⟨a, n :: ns, rfl, SqL.of q1, by simp, fun m hm hy => ?_⟩
      have e : m = maxI (n :: ns) := Int.le_antisymm (m2 m hm) (hy _ m1)
      rw [e]
      exact A.now s rfl
    · cases e
  · cases e
theorem cp_min {K : PySem.W.Frag} : CallP K (rMin K) gMin := fun x p z G H Q s r e A => by
  unfold gMin at e
  split at e
  · split at e
    · rename_i n ns e1
      cases e
      rw [ints_eq e1] at r
      obtain ⟨a, vs, rfl, q1, q2⟩ := pk_lst s r
      rw [reps_ints_of q2] at q1
      obtain ⟨m1, m2⟩ := minI_spec (ns := n :: ns) (by simp)
      refine ⟨a, n :: ns, rfl, SqL.of q1, by simp, fun m hm hy => ?_⟩
      have e : m = minI (n :: ns) := Int.le_antisymm (hy _ m1) (m2 m hm)
      rw [e]
      exact A.now s rfl
    · cases e
  · cases e
def gAll : PV → Option PV
  | .lst xs => (pBls xs).map fun ns => .bl (ns.all id)
  | _ => none
def gAny : PV → Option PV
  | .lst xs => (pBls xs).map fun ns => .bl (ns.any id)
  | _ => none
theorem cp_all {K : PySem.W.Frag} : CallP K (rAll K) gAll := fun x p z G H Q s r e A => by
  unfold gAll at e
  split at e
  · obtain ⟨ns, e1, rfl⟩ := Option.map_eq_some_iff.mp e
    rw [bls_eq e1] at r
    obtain ⟨a, vs, rfl, q1, q2⟩ := pk_lst s r
    rw [reps_bls_of q2] at q1
    exact ⟨a, ns, rfl, SqL.of q1, A.now s rfl⟩
  · cases e
theorem cp_any {K : PySem.W.Frag} : CallP K (rAny K) gAny := fun x p z G H Q s r e A => by
  unfold gAny at e
  split at e
  · obtain ⟨ns, e1, rfl⟩ := Option.map_eq_some_iff.mp e
    rw [bls_eq e1] at r
    obtain ⟨a, vs, rfl, q1, q2⟩ := pk_lst s r
    rw [reps_bls_of q2] at q1
    exact ⟨a, ns, rfl, SqL.of q1, A.now s rfl⟩
  · cases e
@[simp] def gInt : PV → Option PV
  | .int i => some (.int i)
  | .bl b => some (.int (if b then 1 else 0))
  | _ => none
theorem pk_int {K : PySem.W.Frag} {G H : Hp} {x : V} {i : Int} (h : Pk K G H x (.int i)) : x = .int i := by
  rcases h with h | ⟨a, rfl, h⟩
  · exact h
  · exact h.elim
theorem pk_bl {K : PySem.W.Frag} {G H : Hp} {x : V} {i : Bool} (h : Pk K G H x (.bl i)) : x = .bl i := by
  rcases h with h | ⟨a, rfl, h⟩
  · exact h
  · exact h.elim
theorem cp_int {K : PySem.W.Frag} : CallP K (fun xs H Q => (∃ i, xs = [.int i] ∧ Q (.int i) H) ∨ ∃ k, xs = [.bl k] ∧ Q (.int (if k then 1 else 0)) H) gInt := fun x p z G H Q s r e A => by
  unfold gInt at e
  split at e
  · cases e
    cases pk_int r
    exact .inl ⟨_, rfl, A.now s rfl⟩
  · cases e
    cases pk_bl r
    exact .inr ⟨_, rfl, A.now s rfl⟩
  · cases e
def gAbs : PV → Option PV
  | .int i => some (.int (if i < 0 then -i else i))
  | _ => none
theorem cp_abs {K : PySem.W.Frag} : CallP K (fun xs H Q => ∃ i, xs = [.int i] ∧ Q (.int (if i < 0 then -i else i)) H) gAbs := fun x p z G H Q s r e A => by
  unfold gAbs at e
  split at e
  · cases e
    cases pk_int r
    exact ⟨_, rfl, A.now s rfl⟩
  · cases e
section
variable {X : Cx} {pos p : Pos} {a b c e : Expr} {es : List Expr} {f h k : D PV} {l : D (List PV)}
theorem sv_len (hw : X.w = Fx.w) (hg : Gl X "len") (hm : X.mg "len" = none) (ha : SP X e f) (he : starEach [e] X.env = (false, eval e X.env) :: starEach [] X.env := by rfl) : SV X (.Call (.Name "len" p) [e] [] pos) (dUn gLen f) := sv_b1 ((call_len_seq.or call_len_str).or (call_lenX hw)) cp_len hg hm PySem.boot_len ha (he := he)
theorem sv_sum (hc : X.calm = true) (hg : Gl X "sum") (hm : X.mg "sum" = none) (ha : SP X e f) (he : starEach [e] X.env = (false, eval e X.env) :: starEach [] X.env := by rfl) : SV X (.Call (.Name "sum" p) [e] [] pos) (dUn gSum f) := sv_b1 (cr_sum hc) cp_sum hg hm (by decide +kernel) ha (he := he)
theorem sv_max (hc : X.calm = true) (hg : Gl X "max") (hm : X.mg "max" = none) (ha : SP X e f) (he : starEach [e] X.env = (false, eval e X.env) :: starEach [] X.env := by rfl) : SV X (.Call (.Name "max" p) [e] [] pos) (dUn gMax f) := sv_b1 (cr_max hc) cp_max hg hm (by decide +kernel) ha (he := he)
theorem sv_min (hc : X.calm = true) (hg : Gl X "min") (hm : X.mg "min" = none) (ha : SP X e f) (he : starEach [e] X.env = (false, eval e X.env) :: starEach [] X.env := by rfl) : SV X (.Call (.Name "min" p) [e] [] pos) (dUn gMin f) := sv_b1 (cr_min hc) cp_min hg hm (by decide +kernel) ha (he := he)
theorem sv_all (hc : X.calm = true) (hg : Gl X "all") (hm : X.mg "all" = none) (ha : SP X e f) (he : starEach [e] X.env = (false, eval e X.env) :: starEach [] X.env := by rfl) : SV X (.Call (.Name "all" p) [e] [] pos) (dUn gAll f) := sv_b1 (cr_all hc) cp_all hg hm (by decide +kernel) ha (he := he)
theorem sv_any (hc : X.calm = true) (hg : Gl X "any") (hm : X.mg "any" = none) (ha : SP X e f) (he : starEach [e] X.env = (false, eval e X.env) :: starEach [] X.env := by rfl) : SV X (.Call (.Name "any" p) [e] [] pos) (dUn gAny f) := sv_b1 (cr_any hc) cp_any hg hm (by decide +kernel) ha (he := he)
theorem sv_abs (hg : Gl X "abs") (hm : X.mg "abs" = none) (ha : SP X e f) (he : starEach [e] X.env = (false, eval e X.env) :: starEach [] X.env := by rfl) : SV X (.Call (.Name "abs" p) [e] [] pos) (dUn gAbs f) := sv_b1 call_abs cp_abs hg hm (by decide +kernel) ha (he := he)
theorem sv_toint (hg : Gl X "int") (hm : X.mg "int" = none) (ha : SP X e f) (he : starEach [e] X.env = (false, eval e X.env) :: starEach [] X.env := by rfl) : SV X (.Call (.Name "int" p) [e] [] pos) (dUn gInt f) := sv_t1 call_int1 cp_int hg hm (by decide +kernel) ha (he := he)
/-! ### max, min of two -/
@[simp] def gMax2 (x y : PV) : Option PV := gI (fun i j => some (.int (if j > i then j else i))) x y
@[simp] def gMin2 (x y : PV) : Option PV := gI (fun i j => some (.int (if j < i then j else i))) x y
theorem t_c2 {K : PySem.W.Frag} {r : List V → Hp → VK → Prop} {g : PV → PV → Option PV} (hp : OpV K (fun x y H Q => r [x, y] H Q) g) {σ : St} {H : Hp} {Q : VK} (t : tV K (dOp g f h) σ H Q) : tCB r (tCons (tV K f) (tCons (tV K h) tNil)) σ H Q := t_op hp t
theorem sv_max2 (hc : X.calm = true) (hg : Gl X "max") (hm : X.mg "max" = none) (ha : SV X a f) (hb : SV X b h) (he : starEach [a, b] X.env = (false, eval a X.env) :: starEach [b] X.env := by rfl) (he2 : starEach [b] X.env = (false, eval b X.env) :: starEach [] X.env := by rfl) (hpl : (backTo pos (starEach [b] X.env)).any (·.1) = false := by rfl) :
    SV X (.Call (.Name "max" p) [a, b] [] pos) (dOp gMax2 f h) := (pe_callB (call_max2 hc) hg hm (by decide +kernel) (pa_cons ha (pa_cons hb pa_nil he2) he) (by decide) (by decide) he hpl).imp fun _ _ _ t => t_c2 (fun x y p q z G H Q s r1 r2 e A => by
  unfold gMax2 gI at e
  split at e
  · cases e
    cases r1
    cases r2
    exact ⟨_, _, rfl, A.now s rfl⟩
  · cases e) t
theorem sv_min2 (hc : X.calm = true) (hg : Gl X "min") (hm : X.mg "min" = none) (ha : SV X a f) (hb : SV X b h) (he : starEach [a, b] X.env = (false, eval a X.env) :: starEach [b] X.env := by rfl) (he2 : starEach [b] X.env = (false, eval b X.env) :: starEach [] X.env := by rfl) (hpl : (backTo pos (starEach [b] X.env)).any (·.1) = false := by rfl) :
    SV X (.Call (.Name "min" p) [a, b] [] pos) (dOp gMin2 f h) := (pe_callB (call_min2 hc) hg hm (by decide +kernel) (pa_cons ha (pa_cons hb pa_nil he2) he) (by decide) (by decide) he hpl).imp fun _ _ _ t => t_c2 (fun x y p q z G H Q s r1 r2 e A => by
  unfold gMin2 gI at e
  split at e
  · cases e
    cases r1
    cases r2
    exact ⟨_, _, rfl, A.now s rfl⟩
  · cases e) t
/-! ### tuple(x), list(x) -/
@[simp] def gTupOf : PV → Option PV
  | .lst xs => some (.tup xs)
  | .tup xs => some (.tup xs)
  | _ => none
theorem sv_tupleOf (hg : Gl X "tuple") (hm : X.mg "tuple" = none) (ha : SP X a f) (na : starEach [a] X.env = (false, eval a X.env) :: starEach [] X.env := by rfl) : SV X (.Call (.Name "tuple" p) [a] [] pos) (dUn gTupOf f) := (pe_tupleOf hg hm ha na).imp fun σ H Q ⟨π, G, Γ, w, Γ', E, ef, q⟩ => by
  obtain ⟨x, Γ1, e1, ef⟩ := bnd_some ef
  obtain ⟨e3, rfl⟩ := opt_some ef
  refine ⟨π, G, Γ, x, _, E, e1, fun u G1 H1 S1 r1 => ?_⟩
  unfold gTupOf at e3
  split at e3
  · cases e3
    obtain ⟨a, vs, rfl, q1, q2⟩ := pk_lst S1.e.sub r1
    refine .inl ⟨a, vs, rfl, SqL.of q1, fun p hp => ?_⟩
    obtain ⟨g, s⟩ := gr_laid (F := fun _ => False) (o := .tup vs) S1.e.sub hp
    exact q _ _ _ (S1.trans (.grow S1.e g s)) ⟨p, vs, rfl, .inl (.inl upd_same), q2.mono g.g⟩
  · cases e3
    obtain ⟨a, vs, rfl, q1, q2⟩ := pk_tup r1
    exact .inr ⟨a, vs, rfl, Same.seqT S1.e.sub q1, q _ G1 H1 S1 ⟨a, vs, rfl, q1, q2⟩⟩
  · cases e3
@[simp] def gLstOf : PV → Option Rs
  | .lst xs => some (.new (.lst xs))
  | .tup xs => some (.new (.lst xs))
  | .scr ns => some (.new (.lst (ns.map PV.int)))
  | _ => none
@[simp] def dR1 (g : PV → Option Rs) (f : D PV) (Γ : Ev) : Option (Rs × Ev) := (bnd f fun x => opt (g x)) Γ
theorem sr_listOf (hg : Gl X "list") (hm : X.mg "list" = none) (ha : SP X a f) (he : starEach [a] X.env = (false, eval a X.env) :: starEach [] X.env := by rfl) (hpl : (backTo pos (starEach [] X.env)).any (·.1) = false := by rfl) : SR X (.Call (.Name "list" p) [a] [] pos) (dR1 gLstOf f) := (pe_callTy call_list_of hg hm (by decide +kernel) (pa_cons ha pa_nil he) (by decide) (by decide) he hpl).imp fun σ H Q ⟨π, G, Γ, w, Γ', E, ef, q⟩ => by
  obtain ⟨x, Γ1, e1, ef⟩ := bnd_some ef
  obtain ⟨e3, rfl⟩ := opt_some ef
  refine ⟨π, G, Γ, x, _, E, e1, fun u G1 H1 S1 r1 => ?_⟩
  unfold gLstOf at e3
  split at e3
  · cases e3
    obtain ⟨a, vs, rfl, q1, q2⟩ := pk_lst S1.e.sub r1
    exact ⟨a, vs, rfl, .inl (SqL.of q1), fun p hp => new_list S1 q2 q hp⟩
  · cases e3
    obtain ⟨a, vs, rfl, q1, q2⟩ := pk_tup r1
    exact ⟨a, vs, rfl, .inr (Same.seqT S1.e.sub q1), fun p hp => new_list S1 q2 q hp⟩
  · cases e3
    rcases r1 with ⟨a, rfl, q1⟩ | ⟨a, rfl, q1⟩
    · exact ⟨a, _, rfl, .inl (S1.e.sub.seq q1), fun p hp => new_list S1 (reps_ints _) q hp⟩
    · exact q1.elim
  · cases e3
/-! ### isinstance -/
def tyN : PV → String
  | .non => "NoneType"
  | .bl _ => "bool"
  | .int _ => "int"
  | .str _ => "str"
  | .tup _ => "tuple"
  | .lst _ => "list"
  | .scr _ => "list"
  | .ty _ => ""
  | .dic _ _ => ""
@[simp] def isiOne (p : PV) (T : String) : Bool := match p with
  | .non => T == "NoneType"
  | .bl _ => T == "bool" || T == "int"
  | .int _ => T == "int"
  | .str _ => T == "str"
  | .tup _ => T == "tuple"
  | .lst _ => T == "list"
  | .scr _ => T == "list"
  | .ty _ => false
  | .dic _ _ => false
@[simp] def isTy (p : PV) : Bool := match p with
  | .ty _ => false
  | .dic _ _ => false
  | _ => true
@[simp] def tyOk (T : String) : Bool := T == "bool" || T == "int" || T == "str" || T == "tuple" || T == "list"
theorem tyX_of {K : PySem.W.Frag} {G H : Hp} {x : V} {p : PV} (s : Same G H) (h : Pk K G H x p) (t : isTy p = true) : TyX K H x (.type (tyN p)) := by
  rcases h with h | ⟨a, rfl, h⟩
  · cases p with
    | non => cases (show x = _ from h); exact .base .non
    | bl b => cases (show x = _ from h); exact .base (.bl b)
    | int i => cases (show x = _ from h); exact .base (.int i)
    | str z => cases (show x = _ from h); exact .base (.str z)
    | ty n => cases t
    | dic _ _ => cases t
    | tup xs =>
      obtain ⟨a, vs, rfl, (q | ⟨o, q⟩) | ⟨o, its, n, q1, q2, _⟩, _⟩ := h
      · exact .base (.tup (s _ _ q))
      · exact .fTuple (s _ _ q)
      · exact .kTuple q1 q2
    | lst xs =>
      obtain ⟨a, vs, rfl, q, _⟩ := h
      exact .base (.lst (s _ _ q))
    | scr ns =>
      obtain ⟨a, rfl, (q | ⟨o, q⟩) | ⟨o, its, n, q1, q2, _⟩⟩ := h
      · exact .base (.lst (s _ _ q))
      · exact .base (.frz (s _ _ q))
      · exact .kList q1 q2
  · cases p with
    | lst xs =>
      obtain ⟨vs, q, _⟩ := h
      exact .base (.lst q)
    | dic _ _ => cases t
    | _ => exact h.elim
theorem kit_tab : ∀ a ∈ ["NoneType", "bool", "int", "str", "tuple", "list"], ∀ b ∈ ["bool", "int", "str", "tuple", "list"], kitB a b = some (a == b || (a == "bool" && b == "int")) := by decide +kernel
theorem kit_pv {p : PV} {T : String} (t : isTy p = true) (h : tyOk T = true) : kitB (tyN p) T = some (isiOne p T) := by
  have hT : T ∈ ["bool", "int", "str", "tuple", "list"] := by
    unfold tyOk at h
    simp only [Bool.or_eq_true, beq_iff_eq] at h
    simp only [List.mem_cons, List.not_mem_nil, or_false]
    rcases h with (((h | h) | h) | h) | h
    · exact .inl h
    · exact .inr (.inl h)
    · exact .inr (.inr (.inl h))
    · exact .inr (.inr (.inr (.inl h)))
    · exact .inr (.inr (.inr (.inr h)))
  have ha : tyN p ∈ ["NoneType", "bool", "int", "str", "tuple", "list"] := by
    cases p with
    | ty n => cases t
    | dic _ _ => cases t
    | _ => simp [tyN]
  rw [kit_tab _ ha _ hT]
  simp only [List.mem_cons, List.not_mem_nil, or_false] at hT
  cases p with
  | ty n => cases t
  | dic _ _ => cases t
  | _ => rcases hT with rfl | rfl | rfl | rfl | rfl <;> rfl
@[simp] def gIsi (T : String) (p : PV) : Option PV := if isTy p && tyOk T then some (.bl (isiOne p T)) else none
theorem sv_isi (T : String) {pT : Pos} {nT : Str} (hg : Gl X "isinstance") (hm : X.mg "isinstance" = none) (hgT : Gl X nT) (hmT : X.mg nT = none) (hvT : bootBuiltins nT = some (.type T)) (ha : SP X a f)
    (hnT : nT ≠ "__name__" := by decide) (hdT : (nT == ("__debug__" : Str)) = false := by decide)
    (he : starEach [a, .Name nT pT] X.env = (false, eval a X.env) :: starEach [.Name nT pT] X.env := by rfl) (he2 : starEach [.Name nT pT] X.env = (false, eval (.Name nT pT) X.env) :: starEach [] X.env := by rfl) (hpl : (backTo pos (starEach [.Name nT pT] X.env)).any (·.1) = false := by rfl) :
    SV X (.Call (.Name "isinstance" p) [a, .Name nT pT] [] pos) (dUn (gIsi T) f) := (pe_callB call_isi hg hm PyProof.Rows.boot_isinstance (pa_cons ha (pa_cons (pe_bltn (v := .ty T) hgT hmT hvT rfl hnT hdT) pa_nil he2) he) (by decide) (by decide) he hpl).imp fun σ H Q ⟨π, G, Γ, w, Γ', E, ef, q⟩ => by
  obtain ⟨x, Γ1, e1, ef⟩ := bnd_some ef
  obtain ⟨e3, rfl⟩ := opt_some ef
  refine ⟨π, G, Γ, x, _, E, e1, fun u G1 H1 S1 r1 => ?_⟩
  unfold gIsi at e3
  split at e3
  · rename_i c
    rw [Bool.and_eq_true] at c
    cases e3
    exact ⟨u, .ty T, _, .type T, _, rfl, .ty T, tyX_of S1.e.sub r1 c.1, kit_ty (kit_pv c.1 c.2), q _ G1 H1 S1 rfl⟩
  · cases e3
@[simp] def gIsi2 (T U : String) (p : PV) : Option PV := if isTy p && (tyOk T && tyOk U) then some (.bl (isiOne p T || isiOne p U)) else none
theorem sv_isi2 (T U : String) {pT pU pp : Pos} {nT nU : Str} {kk : Nat} (hg : Gl X "isinstance") (hm : X.mg "isinstance" = none) (hgT : Gl X nT) (hmT : X.mg nT = none) (hvT : bootBuiltins nT = some (.type T)) (hgU : Gl X nU) (hmU : X.mg nU = none) (hvU : bootBuiltins nU = some (.type U)) (ha : SP X a f)
    (hnT : nT ≠ "__name__" := by decide) (hdT : (nT == ("__debug__" : Str)) = false := by decide) (hnU : nU ≠ "__name__" := by decide) (hdU : (nU == ("__debug__" : Str)) = false := by decide)
    (he : starEach [a, .Tuple [.Name nT pT, .Name nU pU] kk pp] X.env = (false, eval a X.env) :: starEach [.Tuple [.Name nT pT, .Name nU pU] kk pp] X.env := by rfl) :
    SV X (.Call (.Name "isinstance" p) [a, .Tuple [.Name nT pT, .Name nU pU] kk pp] [] pos) (dUn (gIsi2 T U) f) := (pe_callB call_isiT hg hm PyProof.Rows.boot_isinstance (pa_cons ha (pa_cons (pe_tup (pa_cons (pe_bltn (v := .ty T) hgT hmT hvT rfl hnT hdT) (pa_cons (pe_bltn (v := .ty U) hgU hmU hvU rfl hnU hdU) pa_nil))) pa_nil) he) (by decide) (by decide) he rfl).imp fun σ H Q ⟨π, G, Γ, w, Γ', E, ef, q⟩ => by
  obtain ⟨x, Γ1, e1, ef⟩ := bnd_some ef
  obtain ⟨e3, rfl⟩ := opt_some ef
  refine ⟨π, G, Γ, x, _, E, e1, fun u G1 H1 S1 r1 => ⟨by show 2 ≤ sizeLine; decide, fun tp hp => ?_⟩⟩
  unfold gIsi2 at e3
  split at e3
  · rename_i c
    rw [Bool.and_eq_true, Bool.and_eq_true] at c
    cases e3
    obtain ⟨g, s⟩ := gr_laid (F := fun _ => False) (o := .tup [V.ty T, V.ty U]) S1.e.sub hp
    have S2 := S1.trans (.grow S1.e g s)
    have r2 : Pk X.K (upd G1 tp (.tup [V.ty T, V.ty U])) (upd H1 tp (.tup [V.ty T, V.ty U])) u x := by
      rcases r1 with r1 | ⟨b, rfl, r1⟩
      · exact .inl (r1.mono g.g)
      · obtain ⟨o, ho⟩ := r1.there
        exact .inr ⟨b, rfl, r1.mono g.g (by rw [upd_ne (ne_of_none ho hp)])⟩
    refine ⟨u, tp, [.ty T, .ty U], _, [.type T, .type U], _, rfl, upd_same, .cons (.ty T) (.cons (.ty U) .nil), tyX_of s r2 c.1, ?_, q _ _ _ S2 rfl⟩
    refine kitAny_cons (kit_ty (kit_pv c.1 c.2.1)) (fun e => ?_) fun e => ?_
    · rw [e]
      refine kitAny_cons (kit_ty (kit_pv c.1 c.2.2)) (fun e => ?_) fun e => ?_
      · rw [e]
        exact kitAny_nil
      · rw [e]
        rfl
    · rw [e]
      rfl
  · cases e3
end
end
section
variable [Fx]
/-! ### the object in a slot is changed -/
/-- behind a change of the object at a, which the slot i holds -/
theorem slot_put {K : PySem.W.Frag} {π : Nat → Addr} {σ : St} {G H G1 H1 : Hp} {Γ : Ev} {i : Nat} {k : Kd} {p p' : PV} {a : Addr} (E : ER K π G σ H Γ) (e : Γ[i]? = some (.mu k p)) (hk : k ≠ .lck) (hs : σ[i]? = some (some (.ref a)))
    (g : Gr (fun b => b = a) G H G1 H1) (s : Same G1 H1) (gn : G1 a = none) (ob : Ob K G1 H1 a p') : Ste K π σ G H Γ G1 H1 (Γ.set i (.mu k p')) := by
  have hat : At Γ σ i k a := ⟨p, e, hs⟩
  have hi : i < Γ.length := (List.getElem?_eq_some_iff.mp e).1
  have at' : ∀ j l b, At (Γ.set i (.mu k p')) σ j l b → At Γ σ j l b := fun j l b ⟨q, e1, e2⟩ => by
    rcases set_get e1 with ⟨rfl, z⟩ | ⟨n, z⟩
    · cases z
      exact ⟨p, e, e2⟩
    · exact ⟨q, z, e2⟩
  refine ⟨⟨s, by rw [List.length_set]; exact E.len, fun j q e1 => ?_, fun j l q e1 => ?_, fun j m l l' b z1 z2 => E.inj j m l l' b (at' j l b z1) (at' m l' b z2), g.t E.tabs, fun j k m e1 => ?_⟩, g.mono fun x z => ?_, at'⟩
  · rcases set_get e1 with ⟨rfl, z⟩ | ⟨n, z⟩
    · cases z
    · obtain ⟨v, q1, q2⟩ := E.val j q z
      exact ⟨v, q1, q2.mono g.g⟩
  · rcases set_get e1 with ⟨rfl, z⟩ | ⟨n, z⟩
    · cases z
      obtain ⟨b, q1, q2, q3, q4⟩ := E.mu i k p e
      rw [hs] at q1
      cases q1
      exact ⟨a, hs, gn, ob, q4⟩
    · obtain ⟨b, q1, q2, q3, q4⟩ := E.mu j l q z
      have hba : b ≠ a := fun w => by
        subst w
        exact n (E.inj i j k l b hat ⟨q, z, q1⟩)
      obtain ⟨o, ho, nc⟩ := q3.thereN
      exact ⟨b, q1, g.f b o ho hba nc q2, q3.mono g.g (by rw [g.h b o ho hba nc.1, ho]), q4⟩
  · rcases set_get e1 with ⟨rfl, z⟩ | ⟨n, z⟩
    · cases z
    · obtain ⟨f, q1, q2⟩ := E.fn j k m z
      exact ⟨f, q1, q2.mono g.g⟩
  · subst z
    exact ⟨i, k, hk, hat⟩
theorem tabN_write {H : Hp} {a : Addr} {o o' : HO} {P : Addr} {nm : Nat → Nat → Str} (t : NdefX.TabN H P nm) (h : H a = some o') (nc : NC o') : NdefX.TabN (upd H a o) P nm := by
  obtain ⟨ps, h1, h2, h3⟩ := t
  have na : ∀ {b : Addr} {x : HO}, H b = some x → x ≠ o' → b ≠ a := fun {b x} e n z => by
    rw [z, h] at e
    exact n (Option.some.inj e).symm
  refine ⟨ps, by rw [upd_ne (na h1 fun z => by rw [← z] at nc; exact nc.1)]; exact h1, h2, fun pos cv hc => ?_⟩
  obtain ⟨c, e1, e2⟩ := h3 pos cv hc
  exact ⟨c, e1, by rw [upd_ne (na e2 fun z => nc.2 _ _ z.symm)]; exact e2⟩
/-- a list at a is written -/
theorem gr_write {G H : Hp} {a : Addr} {o : HO} (s : Same G H) (gn : G a = none) (h : ∃ o, H a = some o ∧ NC o) : Gr (fun b => b = a) G H G (upd H a o) ∧ Same G (upd H a o) := by
  obtain ⟨o', h, nc⟩ := h
  refine ⟨⟨Same.refl _, fun b x e n _ => ?_, fun b x e n _ q => q, fun b x e => ?_, fun t => ⟨fun p hp => ?_, t.2⟩⟩, fun b x e => ?_⟩
  · rw [upd_ne n]
    exact e
  · by_cases z : b = a
    · exact ⟨o, by rw [z, upd_same]⟩
    · exact ⟨x, by rw [upd_ne z]; exact e⟩
  · exact tabN_write (t.1 p hp) h nc
  · rw [upd_ne (ne_of_none e gn)]
    exact s b x e
/-- what a method does to the list it is called of -/
def MtO (K : PySem.W.Frag) (r : V → List V → Hp → VK → Prop) (g : List PV → List PV → Option (PV × List PV)) : Prop := ∀ a us c vs ps z c' G H Q, Same G H → G a = none → H a = some (.lst us) → Reps K G us c → Reps K G vs ps → g c ps = some (z, c') →
  (∀ v us', Rep K G v z → Reps K G us' c' → Q v (upd H a (.lst us'))) → r (.ref a) vs H Q
/-- the slot's list -/
@[simp] def lstAt (i : Nat) (Γ : Ev) : Option (Kd × List PV) := match Γ[i]? with
  | some (.mu .own (.lst c)) => some (.own, c)
  | some (.mu .par (.lst c)) => some (.par, c)
  | _ => none
theorem lstAt_some {i : Nat} {Γ : Ev} {k : Kd} {c : List PV} (h : lstAt i Γ = some (k, c)) : Γ[i]? = some (.mu k (.lst c)) ∧ k ≠ .lck := by
  unfold lstAt at h
  split at h
  · cases h
    exact ⟨by assumption, by decide⟩
  · cases h
    exact ⟨by assumption, by decide⟩
  · cases h
@[simp] def dLk (i : Nat) (Γ : Ev) : Option ((Kd × List PV) × Ev) := match lstAt i Γ with
  | some z => some (z, Γ)
  | none => none
theorem dLk_some {i : Nat} {Γ Γ1 : Ev} {z : Kd × List PV} (h : dLk i Γ = some (z, Γ1)) : Γ1 = Γ ∧ Γ[i]? = some (.mu z.1 (.lst z.2)) ∧ z.1 ≠ .lck := by
  unfold dLk at h
  cases e : lstAt i Γ with
  | none => rw [e] at h; cases h
  | some y =>
    rw [e] at h
    obtain ⟨k, c⟩ := y
    cases h
    exact ⟨rfl, lstAt_some e⟩
@[simp] def put (i : Nat) (s : Sl) (Γ : Ev) : Option (Unit × Ev) := some ((), Γ.set i s)
@[simp] def dMt (g : List PV → List PV → Option (PV × List PV)) (i : Nat) (f : D (List PV)) (Γ : Ev) : Option (PV × Ev) :=
  (bnd (dLk i) fun _ => bnd f fun ps => bnd (dLk i) fun kc => bnd (opt (g kc.2 ps)) fun zc => bnd (put i (.mu kc.1 (.lst zc.2))) fun _ => ret zc.1) Γ
section
variable {X : Cx} {pos p : Pos} {a b c e : Expr} {es : List Expr} {f h k : D PV} {l : D (List PV)}
theorem t_mt {K : PySem.W.Frag} {r : V → List V → Hp → VK → Prop} {g : List PV → List PV → Option (PV × List PV)} (hg : MtO K r g) {i : Nat} {σ : St} {H : Hp} {Q : VK} (t : tV K (dMt g i l) σ H Q) : tBM K "list" r (tVar i) (tL K l) σ H Q := by
  obtain ⟨π, G, Γ, w, Γ', E, ef, q⟩ := t
  obtain ⟨x0, Γ0, e0, f1⟩ := bnd_some ef
  obtain ⟨ps, Γ1, e1, f2⟩ := bnd_some f1
  obtain ⟨kc, Γ2, e2, f3⟩ := bnd_some f2
  obtain ⟨zc, Γ3, e3, f4⟩ := bnd_some f3
  obtain ⟨_, Γ4, e4, f5⟩ := bnd_some f4
  obtain ⟨z0, s0, k0⟩ := dLk_some e0
  obtain ⟨z2, s2, k2⟩ := dLk_some e2
  obtain ⟨hgz, z3⟩ := opt_some e3
  obtain ⟨rfl, z5⟩ := ret_some f5
  subst z0 z3 z5 z2
  cases e4
  clear ef f1 f2 f3 f4 f5
  obtain ⟨b, q1, q2, ⟨us, q3, q3'⟩, q4⟩ := E.mu i _ _ s0
  refine ⟨_, q1, .inl ⟨rfl, us, SqL.of q3⟩, π, G, _, ps, _, E, e1, fun xs G1 H1 S1 r1 => ?_⟩
  obtain ⟨b', p1, p2, ⟨us1, p3, p3'⟩, p4⟩ := S1.e.mu i _ _ s2
  rw [q1] at p1
  cases p1
  refine hg b us1 kc.2 xs ps _ zc.2 G1 H1 Q S1.e.sub p2 p3 p3' r1 hgz fun v' us' rv rus => ?_
  obtain ⟨gw, sw⟩ := gr_write (o := .lst us') S1.e.sub p2 ⟨_, p3, nc_lst _⟩
  exact q v' G1 _ (S1.trans (slot_put S1.e s2 k2 q1 gw sw p2 ⟨us', upd_same, rus⟩)) rv
theorem sv_mt (i : Nat) {name : Str} {id : String} {apos cpos pos' : Pos} {r : V → List V → Hp → VK → Prop} {g : List PV → List PV → Option (PV × List PV)} {x : Str} (slot : Slot "list" name id) (hty : typeOf (.builtin id) = pure (.type "method_descriptor")) (hm : MtR X id r) (hg : MtO X.K r g) (ha : SL X (e :: es) l)
    (hN : X.N[i]? = some x := by rfl) (hv : Vis X.env.scope x := by first | exact Or.inl rfl | exact Or.inr (Or.inl rfl) | exact Or.inr (Or.inr rfl)) (hd : (x == ("__debug__" : Str)) = false := by decide) (hcd : (x == ("__classdict__" : Str)) = false := by decide)
    (hbase : attributeBase (.Name x pos') name X.env (eval (.Name x pos') X.env) = eval (.Name x pos') X.env := by rfl)
    (hfew : ((backTo cpos (starEach (e :: es) X.env)).all (fun x => !x.1) && (backToKw cpos (keywordEach [] X.env)).all (fun x => x.1.isSome)
      && decide ((e :: es).length + ([] : List Keyword).length + (if ([] : List Keyword).isEmpty then 0 else 1) < 30)) = true := by rfl)
    (hline : (apos.endLine == cpos.line) = true := by rfl) (hs : starEach (e :: es) X.env = (false, eval e X.env) :: starEach es X.env := by rfl) (hplain : (backTo cpos (starEach es X.env)).any (·.1) = false := by rfl) :
    SV X (.Call (.Attribute (.Name x pos') name apos) (e :: es) [] cpos) (dMt g i l) := (pe_bm PySem.F.plainAttrs_list slot hty hm (pe_var hN hv hd hcd) ha hbase hfew hline hs hplain).imp fun _ _ _ t => t_mt hg t
theorem sv_mt0 (i : Nat) {name : Str} {id : String} {apos cpos pos' : Pos} {r : V → List V → Hp → VK → Prop} {g : List PV → List PV → Option (PV × List PV)} {x : Str} (slot : Slot "list" name id) (hty : typeOf (.builtin id) = pure (.type "method_descriptor")) (hm : MtR X id r) (hg : MtO X.K r g)
    (hN : X.N[i]? = some x := by rfl) (hv : Vis X.env.scope x := by first | exact Or.inl rfl | exact Or.inr (Or.inl rfl) | exact Or.inr (Or.inr rfl)) (hd : (x == ("__debug__" : Str)) = false := by decide) (hcd : (x == ("__classdict__" : Str)) = false := by decide)
    (hbase : attributeBase (.Name x pos') name X.env (eval (.Name x pos') X.env) = eval (.Name x pos') X.env := by rfl)
    (hline : (apos.endLine == cpos.line) = true := by rfl) :
    SV X (.Call (.Attribute (.Name x pos') name apos) [] [] cpos) (dMt g i dNil) := (pe_bm0 PySem.F.plainAttrs_list slot hty hm (pe_var hN hv hd hcd) hbase hline).imp fun σ H Q t => by
  obtain ⟨v, e1, ty, π, G, Γ, w, Γ', E, ef, q⟩ := t_mt hg t
  obtain ⟨rfl, rfl⟩ := ret_some ef
  exact ⟨v, e1, ty, q [] G H (.refl E) .nil⟩
@[simp] def gAppend : List PV → List PV → Option (PV × List PV)
  | c, [x] => if fits (c.length + 1) = true then some (.non, c ++ [x]) else none
  | _, _ => none
@[simp] def gExtend : List PV → List PV → Option (PV × List PV)
  | c, [.lst x] => if fits (c.length + x.length) = true then some (.non, c ++ x) else none
  | _, _ => none
def gPop : List PV → List PV → Option (PV × List PV)
  | c, [] => match c[c.length - 1]? with
    | some y => some (y, c.dropLast)
    | none => none
  | _, _ => none
def gPopAt : List PV → List PV → Option (PV × List PV)
  | c, [.int i] => if popOk i = true then match seqIndex? i c.length with
    | some k => match c[k]? with
      | some y => some (y, c.eraseIdx k)
      | none => none
    | none => none
    else none
  | _, _ => none
@[simp] def gReverse : List PV → List PV → Option (PV × List PV)
  | c, [] => some (.non, c.reverse)
  | _, _ => none
theorem mo_append {K : PySem.W.Frag} : MtO K rAppend gAppend := fun a us c vs ps z c' G H Q s gn hl r1 r2 e q => by
  unfold gAppend at e
  split at e
  · rename_i x
    split at e
    · rename_i hz
      have hz' := of_fits hz
      cases e
      obtain ⟨v, r, rfl, q1, q2⟩ := r2
      cases (show r = [] from q2)
      have := line_m
      have := r1.length
      exact ⟨a, us, v, rfl, rfl, hl, by omega, q _ _ rfl (r1.append (.one q1))⟩
    · cases e
  · cases e
theorem mo_extend {K : PySem.W.Frag} : MtO K rExtend gExtend := fun a us c vs ps z c' G H Q s gn hl r1 r2 e q => by
  unfold gExtend at e
  split at e
  · rename_i x
    split at e
    · rename_i hz
      have hz' := of_fits hz
      cases e
      obtain ⟨v, r, rfl, q1, q2⟩ := r2
      cases (show r = [] from q2)
      obtain ⟨b, ws, rfl, p1, p2⟩ := q1
      have := line_m
      have := r1.length
      have := p2.length
      exact ⟨a, b, us, ws, rfl, rfl, hl, s _ _ p1, by omega, q _ _ rfl (r1.append p2)⟩
    · cases e
  · cases e
theorem mo_pop {K : PySem.W.Frag} : MtO K rPop gPop := fun a us c vs ps z c' G H Q s gn hl r1 r2 e q => by
  unfold gPop at e
  split at e
  · split at e
    · rename_i y hy
      cases e
      cases (show vs = [] from r2)
      obtain ⟨v, h1, h2⟩ := r1.get hy
      rw [← r1.length] at h1
      exact ⟨a, us, v, rfl, rfl, hl, h1, q _ _ h2 r1.dropLast⟩
    · cases e
  · cases e
theorem mo_popAt {K : PySem.W.Frag} : MtO K rPopAt gPopAt := fun a us c vs ps z c' G H Q s gn hl r1 r2 e q => by
  unfold gPopAt at e
  split at e
  · rename_i i
    split at e
    · rename_i hb
      have hb := of_hide hb
      split at e
      · rename_i k hk
        split at e
        · rename_i y hy
          cases e
          obtain ⟨v, r, rfl, q1, q2⟩ := r2
          cases (show r = [] from q2)
          cases (show v = _ from q1)
          obtain ⟨v, h1, h2⟩ := r1.get hy
          rw [← r1.length] at hk
          exact ⟨a, us, i, k, v, rfl, rfl, hl, hb.1, hb.2, hk, h1, q _ _ h2 (r1.eraseIdx k)⟩
        · cases e
      · cases e
    · cases e
  · cases e
theorem mo_reverse {K : PySem.W.Frag} : MtO K rReverse gReverse := fun a us c vs ps z c' G H Q s gn hl r1 r2 e q => by
  unfold gReverse at e
  split at e
  · cases e
    cases (show vs = [] from r2)
    exact ⟨a, us, rfl, rfl, hl, q _ _ rfl r1.reverse⟩
  · cases e
/-! ### list + list, list * n: new lists -/
@[simp] def gCat : PV → PV → Option Rs
  | .lst xs, .lst ys => if fits (xs.length + ys.length) = true then some (.new (.lst (xs ++ ys))) else none
  | _, _ => none
def gRep : PV → PV → Option Rs
  | .lst xs, .int k => if popOk k = true ∧ fits (xs.length * k.toNat) = true then some (.new (.lst (List.replicate k.toNat xs).flatten)) else none
  | _, _ => none
@[simp] def dR2 (g : PV → PV → Option Rs) (f h : D PV) (Γ : Ev) : Option (Rs × Ev) := (bnd f fun x => bnd h fun y => opt (g x y)) Γ
theorem sr_cat (ha : SV X a f) (hb : SP X b h) : SR X (.BinOp a .Add b pos) (dR2 gCat f h) := (pe_op op_cat ha hb).imp fun σ H Q ⟨π, G, Γ, w, Γ', E, ef, q⟩ => by
  obtain ⟨x, Γ1, e1, f1⟩ := bnd_some ef
  obtain ⟨y, Γ2, e2, f2⟩ := bnd_some f1
  obtain ⟨e3, z⟩ := opt_some f2
  subst z
  refine ⟨π, G, Γ, x, Γ1, E, e1, fun u G1 H1 S1 r1 => ⟨π, G1, Γ1, y, _, S1.e, e2, fun v G2 H2 S2 r2 => ?_⟩⟩
  unfold gCat at e3
  split at e3
  · split at e3
    · rename_i hz
      have hz' := of_fits hz
      cases e3
      obtain ⟨a, vs, rfl, q1, q2⟩ := pk_lst S2.e.sub (.inl (r1.mono S2.g.g))
      obtain ⟨b, ws, rfl, p1, p2⟩ := pk_lst S2.e.sub r2
      have := line_m
      have := q2.length
      have := p2.length
      exact ⟨a, b, vs, ws, rfl, rfl, q1, p1, by omega, fun p hp => new_list (S1.trans S2) (q2.append p2) q hp⟩
    · cases e3
  · cases e3
/-- xs + e, xs a name: its list as it stands behind e -/
@[simp] def dCatN (i : Nat) (h : D PV) (Γ : Ev) : Option (Rs × Ev) := (bnd (dPk i) fun _ => bnd h fun y => bnd (dPk i) fun x => opt (gCat x y)) Γ
theorem sr_catN (i : Nat) {x : Str} {pos' : Pos} (hb : SP X b h) (hN : X.N[i]? = some x := by rfl) (hv : Vis X.env.scope x := by first | exact Or.inl rfl | exact Or.inr (Or.inl rfl) | exact Or.inr (Or.inr rfl))
    (hd : (x == ("__debug__" : Str)) = false := by decide) (hcd : (x == ("__classdict__" : Str)) = false := by decide) : SR X (.BinOp (.Name x pos') .Add b pos) (dCatN i h) := (pe_op op_cat (pe_var hN hv hd hcd) hb).imp fun σ H Q ⟨π, G, Γ, w, Γ', E, ef, q⟩ => by
  obtain ⟨x0, Γ0, e0, f0⟩ := bnd_some ef
  obtain ⟨y, Γ2, e2, f1⟩ := bnd_some f0
  obtain ⟨x1, Γ3, e3, f2⟩ := bnd_some f1
  obtain ⟨e4, z⟩ := opt_some f2
  subst z
  obtain ⟨z, v, hv', _⟩ := Sl_at E e0
  subst z
  refine ⟨v, hv', π, G, _, y, _, E, e2, fun u G2 H2 S2 r2 => ?_⟩
  obtain ⟨z, v', h1, h2⟩ := Sl_at S2.e e3
  subst z
  rw [hv'] at h1
  cases h1
  unfold gCat at e4
  split at e4
  · split at e4
    · rename_i hz
      have hz' := of_fits hz
      cases e4
      obtain ⟨a, vs, rfl, q1, q2⟩ := pk_lst S2.e.sub h2
      obtain ⟨b, ws, rfl, p1, p2⟩ := pk_lst S2.e.sub r2
      have := line_m
      have := q2.length
      have := p2.length
      exact ⟨a, b, vs, ws, rfl, rfl, q1, p1, by omega, fun p hp => new_list S2 (q2.append p2) q hp⟩
    · cases e4
  · cases e4
theorem reps_rep {K : PySem.W.Frag} {G : Hp} {vs : List V} {ps : List PV} (r : Reps K G vs ps) : ∀ n : Nat, Reps K G (List.replicate n vs).flatten (List.replicate n ps).flatten
  | 0 => rfl
  | n + 1 => by
    rw [List.replicate_succ, List.replicate_succ, List.flatten_cons, List.flatten_cons]
    exact r.append (reps_rep r n)
theorem sr_rep (ha : SV X a f) (hb : SV X b h) : SR X (.BinOp a .Mult b pos) (dR2 gRep f h) := (pe_op op_rep ha hb).imp fun σ H Q ⟨π, G, Γ, w, Γ', E, ef, q⟩ => by
  obtain ⟨x, Γ1, e1, f1⟩ := bnd_some ef
  obtain ⟨y, Γ2, e2, f2⟩ := bnd_some f1
  obtain ⟨e3, z⟩ := opt_some f2
  subst z
  refine ⟨π, G, Γ, x, Γ1, E, e1, fun u G1 H1 S1 r1 => ⟨π, G1, Γ1, y, _, S1.e, e2, fun v G2 H2 S2 r2 => ?_⟩⟩
  unfold gRep at e3
  split at e3
  · split at e3
    · rename_i hz
      have hz := and_assoc.mp (And.intro (popOk_of hz.1) hz.2)
      cases e3
      obtain ⟨a, vs, rfl, q1, q2⟩ := pk_lst S2.e.sub (.inl (r1.mono S2.g.g))
      have := line_m
      have hl := q2.length
      refine ⟨a, _, vs, rfl, r2, q1, hz.1, hz.2.1, ?_, fun p hp => new_list (S1.trans S2) (reps_rep q2 _) q hp⟩
      rw [hl]
      have := of_fits hz.2.2
      omega
    · cases e3
  · cases e3
/-! ### defs -/
/-- a def that changes nothing: sem tells its answer -/
def Sp0 (K : PySem.W.Frag) (sem : List PV → Option Rs) : Sp := fun vs H Q _ => ∃ G ps r, Same G H ∧ TabG G H ∧ Reps K G vs ps ∧ sem ps = some r ∧ ∀ x G' H', Gr (fun _ => False) G H G' H' → Same G' H' → RR K G' H' (fun a => H a = none) x r → Q x H'
/-- a def that changes the object of its first argument -/
def Sp1 (K : PySem.W.Frag) (sem : PV → List PV → Option (Rs × PV)) : Sp := fun vs H Q _ => ∃ G a vr c ps r c', vs = .ref a :: vr ∧ Same G H ∧ TabG G H ∧ G a = none ∧ Ob K G H a c ∧ Reps K G vr ps ∧ sem c ps = some (r, c') ∧
  ∀ x G' H', Gr (fun b => b = a) G H G' H' → Same G' H' → G' a = none → Ob K G' H' a c' → RR K G' H' (fun b => H b = none) x r → Q x H'
theorem RR_mono {K : PySem.W.Frag} {G H' : Hp} {ok ok' : Addr → Prop} {v : V} {r : Rs} (h : RR K G H' ok v r) (i : ∀ a, ok a → ok' a) : RR K G H' ok' v r := by
  cases r with
  | val p => exact h
  | new p =>
    obtain ⟨a, h1, h2, h3, h4⟩ := h
    exact ⟨a, h1, i a h2, h3, h4⟩
@[simp] def dC0 (sem : List PV → Option Rs) (f : D (List PV)) (Γ : Ev) : Option (Rs × Ev) := (bnd f fun ps => opt (sem ps)) Γ
theorem t_c0 {K : PySem.W.Frag} {sem : List PV → Option Rs} {E0 : XK} {σ : St} {H : Hp} {Q : VK} (t : tR K (dC0 sem l) σ H Q) : tCall (Sp0 K sem) [] E0 (tL K l) σ H Q := by
  obtain ⟨π, G, Γ, w, Γ', E, ef, q⟩ := t
  obtain ⟨ps, Γ1, e1, f1⟩ := bnd_some ef
  obtain ⟨e2, z⟩ := opt_some f1
  subst z
  refine ⟨π, G, Γ, ps, _, E, e1, fun us G1 H1 S1 r1 => ?_⟩
  show Sp0 K sem (us ++ []) H1 Q E0
  rw [List.append_nil]
  exact ⟨G1, ps, w, S1.e.sub, S1.e.tabs, r1, e2, fun x G' H' g s r => q x G' H' (S1.trans (.grow S1.e g s)) (RR_mono r fun a n => S1.g.nothing n)⟩
theorem sr_c0 {sem : List PV → Option Rs} {n : Nat} {fa : Addr} {fd : FuncData} {ps : List Str} {x : Str} (F : FnOk X.prog X.w X.K X.mg X.base CX0 n fa fd ps (Sp0 X.K sem)) (hr : Room n X.A) (hg : Gl X x) (hm : X.mg x = some (.ref fa)) (hk : PySem.W.keepIn X.K (.ref fa) = true) (hb : Binds X.K fd ps [])
    (ha : SL X (e :: es) l) (hdb : (x == ("__debug__" : Str)) = false := by decide) (he : starEach (e :: es) X.env = (false, eval e X.env) :: starEach es X.env := by rfl) (hpl : (backTo pos (starEach es X.env)).any (·.1) = false := by rfl) :
    SR X (.Call (.Name x p) (e :: es) [] pos) (dC0 sem l) := (pe_call F hr hg hm hk hb .nil pass0 ha hdb he hpl).imp fun _ _ _ t => t_c0 t
@[simp] def dC1 (sem : PV → List PV → Option (Rs × PV)) (i : Nat) (f : D (List PV)) (Γ : Ev) : Option (Rs × Ev) := (bnd (dLk i) fun _ => bnd f fun ps => bnd (dLk i) fun kc => bnd (opt (sem (.lst kc.2) ps)) fun rc => bnd (put i (.mu kc.1 rc.2)) fun _ => ret rc.1) Γ
theorem t_c1' {K : PySem.W.Frag} {sem : PV → List PV → Option (Rs × PV)} {E0 : XK} {i : Nat} {σ : St} {H : Hp} {Q : VK} (t : tR K (dC1 sem i l) σ H Q) : tCall (Sp1 K sem) [] E0 (tCons (tVar i) (tL K l)) σ H Q := by
  obtain ⟨π, G, Γ, w, Γ', E, ef, q⟩ := t
  obtain ⟨x0, Γ0, e0, f1⟩ := bnd_some ef
  obtain ⟨ps, Γ1, e1, f2⟩ := bnd_some f1
  obtain ⟨kc, Γ2, e2, f3⟩ := bnd_some f2
  obtain ⟨zc, Γ3, e3, f4⟩ := bnd_some f3
  obtain ⟨_, Γ4, e4, f5⟩ := bnd_some f4
  obtain ⟨z0, s0, k0⟩ := dLk_some e0
  obtain ⟨z2, s2, k2⟩ := dLk_some e2
  obtain ⟨hgz, z3⟩ := opt_some e3
  obtain ⟨z6, z5⟩ := ret_some f5
  subst z0 z3 z5 z2 z6
  cases e4
  clear ef f1 f2 f3 f4 f5
  obtain ⟨b, q1, q2, q3, q4⟩ := E.mu i _ _ s0
  refine ⟨_, q1, π, G, _, ps, _, E, e1, fun xs G1 H1 S1 r1 => ?_⟩
  obtain ⟨b', p1, p2, p3, p4⟩ := S1.e.mu i _ _ s2
  rw [q1] at p1
  cases p1
  show Sp1 K sem (V.ref b :: xs ++ []) H1 Q E0
  rw [List.append_nil]
  refine ⟨G1, b, xs, _, ps, zc.1, zc.2, rfl, S1.e.sub, S1.e.tabs, p2, p3, r1, hgz, fun x G' H' g s gn ob r => ?_⟩
  exact q x G' H' (S1.trans (slot_put S1.e s2 k2 q1 g s gn ob)) (RR_mono r fun a n => S1.g.nothing n)
theorem sr_c1 (i : Nat) {sem : PV → List PV → Option (Rs × PV)} {n : Nat} {fa : Addr} {fd : FuncData} {ps : List Str} {x y : Str} {pos' : Pos} (F : FnOk X.prog X.w X.K X.mg X.base CX0 n fa fd ps (Sp1 X.K sem)) (hr : Room n X.A) (hg : Gl X x) (hm : X.mg x = some (.ref fa)) (hk : PySem.W.keepIn X.K (.ref fa) = true) (hb : Binds X.K fd ps [])
    (ha : SL X es l) (hN : X.N[i]? = some y := by rfl) (hv : Vis X.env.scope y := by first | exact Or.inl rfl | exact Or.inr (Or.inl rfl) | exact Or.inr (Or.inr rfl)) (hd : (y == ("__debug__" : Str)) = false := by decide) (hcd : (y == ("__classdict__" : Str)) = false := by decide)
    (hdb : (x == ("__debug__" : Str)) = false := by decide) (he : starEach (.Name y pos' :: es) X.env = (false, eval (.Name y pos') X.env) :: starEach es X.env := by rfl) (hpl : (backTo pos (starEach es X.env)).any (·.1) = false := by rfl) :
    SR X (.Call (.Name x p) (.Name y pos' :: es) [] pos) (dC1 sem i l) := (pe_call F hr hg hm hk hb .nil pass0 (pa_cons (pe_var hN hv hd hcd) ha he) hdb he hpl).imp fun _ _ _ t => t_c1' t
end
end
section
variable [Fx]
/-! ### steps of statements -/
/-- where the slots' objects come from -/
def Ftt (Γ : Ev) (σ : St) (H : Hp) (Γ' : Ev) (σ' : St) : Prop := ∀ i k a, At Γ' σ' i k a → At Γ σ i k a ∨ (k = .own ∧ H a = none)
structure Sts (K : PySem.W.Frag) (π : Nat → Addr) (σ : St) (G H : Hp) (Γ : Ev) (σ' : St) (G' H' : Hp) (Γ' : Ev) : Prop where
  e : ER K π G' σ' H' Γ'
  g : Gr (Foot Γ σ) G H G' H'
  f : Ftt Γ σ H Γ' σ'
section
variable {K : PySem.W.Frag} {π : Nat → Addr} {σ σ1 σ2 : St} {G H G1 H1 G2 H2 : Hp} {Γ Γ1 Γ2 : Ev}
theorem Sts.refl (E : ER K π G σ H Γ) : Sts K π σ G H Γ σ G H Γ := ⟨E, .refl, fun _ _ _ h => .inl h⟩
theorem Ste.sts (S : Ste K π σ G H Γ G1 H1 Γ1) : Sts K π σ G H Γ σ G1 H1 Γ1 := ⟨S.e, S.g, fun i k a h => .inl (S.f i k a h)⟩
theorem Ftt.foot (f : Ftt Γ σ H Γ1 σ1) {a : Addr} (h : Foot Γ1 σ1 a) : Foot Γ σ a ∨ H a = none := by
  obtain ⟨i, k, n, h⟩ := h
  rcases f i k a h with h | ⟨_, h⟩
  · exact .inl ⟨i, k, n, h⟩
  · exact .inr h
theorem Sts.trans (a : Sts K π σ G H Γ σ1 G1 H1 Γ1) (b : Sts K π σ1 G1 H1 Γ1 σ2 G2 H2 Γ2) : Sts K π σ G H Γ σ2 G2 H2 Γ2 :=
  ⟨b.e, a.g.trans b.g fun x h => a.f.foot h, fun i k x h => (b.f i k x h).elim (a.f i k x) fun z => .inr ⟨z.1, a.g.nothing z.2⟩⟩
/-- a slot takes a value -/
theorem sts_val (E : ER K π G σ H Γ) (i : Nat) {v : V} {p : PV} (r : Rep K G v p) : Sts K π σ G H Γ (σ.set i (some v)) G H (Γ.set i (.val p)) := by
  have at' : ∀ j k b, At (Γ.set i (.val p)) (σ.set i (some v)) j k b → At Γ σ j k b := fun j k b ⟨q, e1, e2⟩ => by
    rcases set_get e1 with ⟨rfl, z⟩ | ⟨n, z⟩
    · cases z
    · rw [List.getElem?_set_ne n] at e2
      exact ⟨q, z, e2⟩
  refine ⟨⟨E.sub, by rw [List.length_set, List.length_set]; exact E.len, fun j q e => ?_, fun j k q e => ?_, fun j l k k' b z1 z2 => E.inj j l k k' b (at' j k b z1) (at' l k' b z2), E.tabs, fun j k m e => ?_⟩, .refl, fun j k b h => .inl (at' j k b h)⟩
  · rcases set_get e with ⟨rfl, z⟩ | ⟨n, z⟩
    · cases z
      have hi : i < Γ.length := by
        have := (List.getElem?_eq_some_iff.mp e).1
        rwa [List.length_set] at this
      exact ⟨v, List.getElem?_set_self (by rw [← E.len]; exact hi), r⟩
    · rw [List.getElem?_set_ne n]
      exact E.val j q z
  · rcases set_get e with ⟨rfl, z⟩ | ⟨n, z⟩
    · cases z
    · rw [List.getElem?_set_ne n]
      exact E.mu j k q z
  · rcases set_get e with ⟨rfl, z⟩ | ⟨n, z⟩
    · cases z
    · rw [List.getElem?_set_ne n]
      exact E.fn j k m z
/-- a slot takes a new object -/
theorem sts_new (E : ER K π G σ H Γ) (i : Nat) {a : Addr} {p : PV} (gn : G a = none) (ob : Ob K G H a p) (hn : ∀ j k, ¬ At Γ σ j k a) :
    ER K π G (σ.set i (some (.ref a))) H (Γ.set i (.mu .own p)) ∧ ∀ j k b, At (Γ.set i (.mu .own p)) (σ.set i (some (.ref a))) j k b → (At Γ σ j k b ∧ j ≠ i) ∨ (j = i ∧ k = .own ∧ b = a) := by
  have at' : ∀ j k b, At (Γ.set i (.mu .own p)) (σ.set i (some (.ref a))) j k b → (At Γ σ j k b ∧ j ≠ i) ∨ (j = i ∧ k = .own ∧ b = a) := fun j k b ⟨q, e1, e2⟩ => by
    rcases set_get e1 with ⟨rfl, z⟩ | ⟨n, z⟩
    · cases z
      rcases set_get e2 with ⟨_, z2⟩ | ⟨n2, _⟩
      · cases z2
        exact .inr ⟨rfl, rfl, rfl⟩
      · exact absurd rfl n2
    · rw [List.getElem?_set_ne n] at e2
      exact .inl ⟨⟨q, z, e2⟩, Ne.symm n⟩
  refine ⟨⟨E.sub, by rw [List.length_set, List.length_set]; exact E.len, fun j q e => ?_, fun j k q e => ?_, fun j l k k' b z1 z2 => ?_, E.tabs, fun j k m e => ?_⟩, at'⟩
  · rcases set_get e with ⟨rfl, z⟩ | ⟨n, z⟩
    · cases z
    · rw [List.getElem?_set_ne n]
      exact E.val j q z
  · rcases set_get e with ⟨rfl, z⟩ | ⟨n, z⟩
    · cases z
      have hi : i < Γ.length := by
        have := (List.getElem?_eq_some_iff.mp e).1
        rwa [List.length_set] at this
      exact ⟨a, List.getElem?_set_self (by rw [← E.len]; exact hi), gn, ob, fun z => by cases z⟩
    · rw [List.getElem?_set_ne n]
      exact E.mu j k q z
  · rcases at' j k b z1 with ⟨y1, n1⟩ | ⟨y1, y2, y3⟩
    · rcases at' l k' b z2 with ⟨x1, m1⟩ | ⟨x1, x2, x3⟩
      · exact E.inj j l k k' b y1 x1
      · subst x3
        exact absurd y1 (hn j k)
    · rcases at' l k' b z2 with ⟨x1, m1⟩ | ⟨x1, x2, x3⟩
      · subst y3
        exact absurd x1 (hn l k')
      · rw [y1, x1]
  · rcases set_get e with ⟨rfl, z⟩ | ⟨n, z⟩
    · cases z
    · rw [List.getElem?_set_ne n]
      exact E.fn j k m z
end
/-! ### targets -/
theorem wipe_set {σ : St} {i : Nat} {x : Option V} : ∀ {vs : List Nat}, i ∈ vs → wipe (σ.set i x) vs = wipe σ vs
  | v :: vs, h => by
    unfold wipe
    by_cases hv : i ∈ vs
    · rw [wipe_set hv]
    · have e : i = v := (List.mem_cons.mp h).resolve_right hv
      subst e
      have aux : ∀ ws : List Nat, (wipe (σ.set i x) ws).set i none = (wipe σ ws).set i none := fun ws => by
        induction ws with
        | nil => exact List.set_set _
        | cons w ws ih =>
          unfold wipe
          by_cases hw : w = i
          · subst hw
            rw [List.set_set, List.set_set]
            exact ih
          · rw [List.set_comm _ _ hw, ih, List.set_comm _ _ (Ne.symm hw)]
      exact aux vs
/-- ws: the slots that may be stored -/
def tG (K : PySem.W.Frag) (ws : List Nat) (g : PV → Ev → Option Ev) : TG := fun v σ H Q => ∃ π G Γ p Γ', ER K π G σ H Γ ∧ Rep K G v p ∧ g p Γ = some Γ' ∧ ∀ σ', Sts K π σ G H Γ σ' G H Γ' → (∀ vs : List Nat, (∀ w ∈ ws, w ∈ vs) → wipe σ' vs = wipe σ vs) → Q σ' H
def tGs (K : PySem.W.Frag) (ws : List Nat) (g : List PV → Ev → Option Ev) : TGs := fun vs σ H Q => ∃ π G Γ ps Γ', ER K π G σ H Γ ∧ Reps K G vs ps ∧ g ps Γ = some Γ' ∧ ∀ σ', Sts K π σ G H Γ σ' G H Γ' → (∀ vs : List Nat, (∀ w ∈ ws, w ∈ vs) → wipe σ' vs = wipe σ vs) → Q σ' H
abbrev SG (X : Cx) (e : Expr) (ws : List Nat) (g : PV → Ev → Option Ev) : Prop := PG X e (tG X.K ws g)
abbrev SGs (X : Cx) (es : List Expr) (ws : List Nat) (g : List PV → Ev → Option Ev) : Prop := PGs X es (tGs X.K ws g)
theorem PG_imp {X : Cx} {e : Expr} {t t' : TG} (h : PG X e t) (i : ∀ v σ H Q, t' v σ H Q → t v σ H Q) : PG X e t' := ⟨fun pins s σ H v u Q I r q => h.run pins s σ H v u Q I r (i v σ H Q q)⟩
theorem PGs_imp {X : Cx} {e : List Expr} {t t' : TGs} (h : PGs X e t) (i : ∀ v σ H Q, t' v σ H Q → t v σ H Q) : PGs X e t' := ⟨fun pins s σ H v u Q I r q => h.run pins s σ H v u Q I r (i v σ H Q q)⟩
@[simp] def gN (i : Nat) (p : PV) (Γ : Ev) : Option Ev := some (Γ.set i (.val p))
@[simp] def gsN (ps : List PV) (Γ : Ev) : Option Ev := match ps with
  | [] => some Γ
  | _ => none
@[simp] def gsC (g : PV → Ev → Option Ev) (gs : List PV → Ev → Option Ev) (ps : List PV) (Γ : Ev) : Option Ev := match ps with
  | p :: r => (g p Γ).bind (gs r)
  | _ => none
/-- n names at once -/
@[simp] def gT (n : Nat) (gs : List PV → Ev → Option Ev) (p : PV) (Γ : Ev) : Option Ev := match p with
  | .tup xs => if xs.length = n then gs xs Γ else none
  | .lst xs => if xs.length = n then gs xs Γ else none
  | _ => none
section
variable {X : Cx} {pos p : Pos} {a b c e : Expr} {es : List Expr} {g : PV → Ev → Option Ev} {gs : List PV → Ev → Option Ev} {ws ws' : List Nat}
theorem sg_name (i : Nat) {x : Str} (hN : X.N.Nodup) (hi : X.N[i]? = some x := by rfl) (hx : Loc X.env.scope x := by first | exact Or.inl rfl | exact Or.inr rfl) (hf : X.fn x = true ∨ X.env.scope.names.lookup x = some .local := by first | exact .inl rfl | exact .inr rfl | assumption) : SG X (.Name x pos) [i] (gN i) :=
  PG_imp (pg_name hN hi hx hf) fun v σ H Q ⟨π, G, Γ, p, Γ', E, r, eg, q⟩ => by
    cases eg
    exact q _ (sts_val E i r) fun vs h => wipe_set (h i List.mem_cons_self)
theorem sgs_nil : SGs X [] [] gsN := PGs_imp pgs_nil fun v σ H Q ⟨π, G, Γ, p, Γ', E, r, eg, q⟩ => by
  unfold gsN at eg
  split at eg
  · cases eg
    exact ⟨r, q σ (.refl E) fun _ _ => rfl⟩
  · cases eg
theorem sgs_cons (h1 : SG X e ws g) (h2 : SGs X es ws' gs) (hs : (assignEach (e :: es) X.env).map (·.2) = assign e X.env :: (assignEach es X.env).map (·.2) := by rfl) : SGs X (e :: es) (ws ++ ws') (gsC g gs) := PGs_imp (pgs_cons h1 h2 hs) fun v σ H Q ⟨π, G, Γ, p, Γ', E, r, eg, q⟩ => by
  unfold gsC at eg
  split at eg
  · rename_i p0 r0
    obtain ⟨Γ1, e1, e2⟩ := Option.bind_eq_some_iff.mp eg
    obtain ⟨v0, vr, rfl, q1, q2⟩ := r
    exact ⟨v0, vr, rfl, π, G, Γ, p0, Γ1, E, q1, e1, fun σ1 S1 w1 => ⟨π, G, Γ1, r0, Γ', S1.e, q2, e2, fun σ2 S2 w2 => q σ2 (S1.trans S2) fun vs h => (w2 vs fun w hw => h w (List.mem_append_right _ hw)).trans (w1 vs fun w hw => h w (List.mem_append_left _ hw))⟩⟩
  · cases eg
theorem PG_or {X : Cx} {e : Expr} {t t' : TG} (h : PG X e t) (h' : PG X e t') : PG X e (fun v σ H Q => t v σ H Q ∨ t' v σ H Q) := ⟨fun pins s σ H v u Q I r q => q.elim (h.run pins s σ H v u Q I r) (h'.run pins s σ H v u Q I r)⟩
theorem sg_tup {k n : Nat} (hc : X.calm = true) (h : SGs X es ws gs) (hn : (assignEach es X.env).length = n := by rfl) (hst : (assignEach es X.env).findIdx? (·.1) = none := by rfl) : SG X (.Tuple es k pos) ws (gT n gs) := PG_imp (PG_or (pg_tup hc h hn hst) (pg_lst hc h hn hst)) fun v σ H Q ⟨π, G, Γ, p, Γ', E, r, eg, q⟩ => by
  unfold gT at eg
  split at eg
  · rename_i xs
    split at eg
    · rename_i hl
      obtain ⟨a, vs, rfl, q1, q2⟩ := r
      exact .inl ⟨a, vs, rfl, Same.seqT E.sub q1, by rw [q2.length]; exact hl, π, G, Γ, xs, Γ', E, q2, eg, q⟩
    · cases eg
  · rename_i xs
    split at eg
    · rename_i hl
      obtain ⟨a, vs, rfl, q1, q2⟩ := r
      exact .inr ⟨a, vs, rfl, Same.seq E.sub (SqL.of q1), by rw [q2.length]; exact hl, π, G, Γ, xs, Γ', E, q2, eg, q⟩
    · cases eg
  · cases eg
end
/-! ### what is walked -/
/-- J gives the plain values ps, one behind the other, while C holds of the heap and what is locked in G stands -/
structure Wk (K : PySem.W.Frag) (J : It) (G : Hp) (C : Hp → Prop) (ps : List PV) : Prop where
  go : ∀ i H, i < ps.length → Same G H → C H → J.go i H
  stop : ∀ H, Same G H → C H → J.stop ps.length H
  yld : ∀ i H x H' p, ps[i]? = some p → Same G H → C H → J.yld i H x H' → ∀ G1, Same G G1 → Same G1 H → ∃ G2, Gr (fun _ => False) G1 H G2 H' ∧ Same G2 H' ∧ Rep K G2 x p
/-- a frozen thing is walked -/
def tI (K : PySem.W.Frag) (f : D (List PV)) : TI := fun σ H R => ∃ π G Γ ps Γ', ER K π G σ H Γ ∧ f Γ = some (ps, Γ') ∧ ∀ J G' H', Ste K π σ G H Γ G' H' Γ' → Wk K J G' (fun _ => True) ps → R J H'
abbrev SI (X : Cx) (tg e : Expr) (f : D (List PV)) : Prop := PI X tg e (tI X.K f)
theorem PI_imp {X : Cx} {tg e : Expr} {t t' : TI} (h : PI X tg e t) (i : ∀ σ H R, t' σ H R → t σ H R) : PI X tg e t' := ⟨fun pins s σ H R I q => h.run pins s σ H R I (i σ H R q)⟩
section
variable {K : PySem.W.Frag} {G : Hp}
theorem wk_list {a : Addr} {vs : List V} {ps : List PV} (h : SqL K G a vs) (r : Reps K G vs ps) : Wk K (Itl K a) G (fun _ => True) ps where
  go := fun i H hi s _ => by
    obtain ⟨v, e, _⟩ := r.get (List.getElem?_eq_getElem hi)
    exact ⟨vs, v, s.seq h, e⟩
  stop := fun H s _ => ⟨vs, s.seq h, by rw [r.length]; exact Nat.le_refl _⟩
  yld := fun i H x H' p hp s _ y G1 s1 s2 => by
    obtain ⟨e, y⟩ := y
    subst e
    obtain ⟨v, e, rv⟩ := r.get hp
    have e2 := y vs (s.seq h)
    rw [e] at e2
    cases e2
    exact ⟨G1, .refl, s2, rv.mono s1⟩
theorem wk_tup {a : Addr} {vs : List V} {ps : List PV} (h : SqT K G a vs) (r : Reps K G vs ps) : Wk K (Itt K a) G (fun _ => True) ps where
  go := fun i H hi s _ => by
    obtain ⟨v, e, _⟩ := r.get (List.getElem?_eq_getElem hi)
    exact ⟨vs, v, Same.seqT s h, e⟩
  stop := fun H s _ => ⟨vs, Same.seqT s h, by rw [r.length]; exact Nat.le_refl _⟩
  yld := fun i H x H' p hp s _ y G1 s1 s2 => by
    obtain ⟨e, y⟩ := y
    subst e
    obtain ⟨v, e, rv⟩ := r.get hp
    have e2 := y vs (Same.seqT s h)
    rw [e] at e2
    cases e2
    exact ⟨G1, .refl, s2, rv.mono s1⟩
def rgP (lo : Int) (n : Nat) : List PV := (List.range n).map fun (i : Nat) => PV.int (lo + (i : Int))
theorem wk_range {lo : Int} {n : Nat} : Wk K (Itr lo n) G (fun _ => True) (rgP lo n) where
  go := fun i H hi _ _ => by
    show i < n
    unfold rgP at hi
    simpa using hi
  stop := fun H _ _ => by
    show n ≤ _
    unfold rgP
    simp
  yld := fun i H x H' p hp _ _ y G1 _ s2 => by
    obtain ⟨e, y⟩ := y
    subst e
    unfold rgP at hp
    rw [List.getElem?_map] at hp
    obtain ⟨j, e, e2⟩ := Option.map_eq_some_iff.mp hp
    have hj : j = i := by
      have := List.getElem?_range (show i < n from by
        have := (List.getElem?_eq_some_iff.mp e).1
        simpa using this)
      rw [this] at e
      exact (Option.some.inj e).symm
    subst hj e2
    exact ⟨G1, .refl, s2, y⟩
/-- a pair made new at each turn -/
theorem wk_pair {H H' G1 : Hp} {T : Addr} {x y : V} {p q : PV} (n : H T = none) (e : H' = upd H T (.tup [x, y])) (s : Same G1 H) (hx : Rep K G1 x p) (hy : Rep K G1 y q) :
    ∃ G2, Gr (fun _ => False) G1 H G2 H' ∧ Same G2 H' ∧ Rep K G2 (.ref T) (.tup [p, q]) := by
  subst e
  obtain ⟨g, s'⟩ := gr_laid (F := fun _ => False) (o := .tup [x, y]) s n
  exact ⟨_, g, s', T, [x, y], rfl, .inl (.inl upd_same), (Reps.cons hx (.one hy)).mono g.g⟩
def zipP : List PV → List PV → List PV
  | x :: xs, y :: ys => .tup [x, y] :: zipP xs ys
  | _, _ => []
theorem zipP_get : ∀ {xs ys : List PV} {i : Nat} {p : PV}, (zipP xs ys)[i]? = some p → ∃ x y, xs[i]? = some x ∧ ys[i]? = some y ∧ p = .tup [x, y]
  | x :: xs, y :: ys, 0, p, h => ⟨x, y, rfl, rfl, (Option.some.inj h).symm⟩
  | x :: xs, y :: ys, i + 1, p, h => zipP_get (xs := xs) (ys := ys) h
  | [], _, i, p, h => by simp [zipP] at h
  | _ :: _, [], i, p, h => by simp [zipP] at h
theorem zipP_len : ∀ xs ys : List PV, (zipP xs ys).length = min xs.length ys.length
  | x :: xs, y :: ys => by
    show (zipP xs ys).length + 1 = _
    rw [zipP_len xs ys]
    simp
  | [], ys => by simp [zipP]
  | _ :: _, [] => by simp [zipP]
theorem wk_zipT {a b : Addr} {vs us : List V} {ps qs : List PV} (ha : SqT K G a vs) (hb : SqT K G b us) (ra : Reps K G vs ps) (rb : Reps K G us qs) : Wk K (RZ.ItzT K a b) G (fun _ => True) (zipP ps qs) where
  go := fun i H hi s _ => by
    rw [zipP_len] at hi
    obtain ⟨v, e, _⟩ := ra.get (List.getElem?_eq_getElem (show i < ps.length by omega))
    obtain ⟨u, e', _⟩ := rb.get (List.getElem?_eq_getElem (show i < qs.length by omega))
    exact ⟨vs, us, v, u, Same.seqT s ha, Same.seqT s hb, e, e'⟩
  stop := fun H s _ => ⟨vs, us, Same.seqT s ha, Same.seqT s hb, by
    rw [zipP_len, ra.length, rb.length]
    omega⟩
  yld := fun i H x H' p hp s _ y G1 s1 s2 => by
    obtain ⟨T, x1, y1, rfl, n, e, f1, f2⟩ := y
    obtain ⟨x2, y2, e1, e2, rfl⟩ := zipP_get hp
    obtain ⟨v, e3, r3⟩ := ra.get e1
    obtain ⟨u, e4, r4⟩ := rb.get e2
    have e5 := f1 vs (Same.seqT s ha)
    have e6 := f2 us (Same.seqT s hb)
    rw [e3] at e5
    rw [e4] at e6
    cases e5
    cases e6
    exact wk_pair n e s2 (r3.mono s1) (r4.mono s1)
theorem wk_zipL {a b : Addr} {vs us : List V} {ps qs : List PV} (ha : SqL K G a vs) (hb : SqL K G b us) (ra : Reps K G vs ps) (rb : Reps K G us qs) : Wk K (Itz K a b) G (fun _ => True) (zipP ps qs) where
  go := fun i H hi s _ => by
    rw [zipP_len] at hi
    obtain ⟨v, e, _⟩ := ra.get (List.getElem?_eq_getElem (show i < ps.length by omega))
    obtain ⟨u, e', _⟩ := rb.get (List.getElem?_eq_getElem (show i < qs.length by omega))
    exact ⟨vs, us, v, u, s.seq ha, s.seq hb, e, e'⟩
  stop := fun H s _ => ⟨vs, us, s.seq ha, s.seq hb, by
    rw [zipP_len, ra.length, rb.length]
    omega⟩
  yld := fun i H x H' p hp s _ y G1 s1 s2 => by
    obtain ⟨T, x1, y1, rfl, n, e, f1, f2⟩ := y
    obtain ⟨x2, y2, e1, e2, rfl⟩ := zipP_get hp
    obtain ⟨v, e3, r3⟩ := ra.get e1
    obtain ⟨u, e4, r4⟩ := rb.get e2
    have e5 := f1 vs (s.seq ha)
    have e6 := f2 us (s.seq hb)
    rw [e3] at e5
    rw [e4] at e6
    cases e5
    cases e6
    exact wk_pair n e s2 (r3.mono s1) (r4.mono s1)
def enumP : Nat → List PV → List PV
  | _, [] => []
  | n, x :: xs => .tup [.int (n : Nat), x] :: enumP (n + 1) xs
theorem enumP_get : ∀ {xs : List PV} {n i : Nat} {p : PV}, (enumP n xs)[i]? = some p → ∃ x, xs[i]? = some x ∧ p = .tup [.int ((n + i : Nat) : Int), x]
  | x :: xs, n, 0, p, h => ⟨x, rfl, (Option.some.inj h).symm⟩
  | x :: xs, n, i + 1, p, h => by
    obtain ⟨y, e, r⟩ := enumP_get (xs := xs) (n := n + 1) (i := i) h
    exact ⟨y, e, by rw [r, show n + 1 + i = n + (i + 1) by omega]⟩
  | [], n, i, p, h => by simp [enumP] at h
theorem enumP_len : ∀ (n : Nat) (xs : List PV), (enumP n xs).length = xs.length
  | n, [] => rfl
  | n, x :: xs => by
    show (enumP (n + 1) xs).length + 1 = _
    rw [enumP_len]
    rfl
theorem wk_enumL {a : Addr} {vs : List V} {ps : List PV} (ha : SqL K G a vs) (ra : Reps K G vs ps) : Wk K (Ite K a) G (fun _ => True) (enumP 0 ps) where
  go := fun i H hi s _ => by
    rw [enumP_len] at hi
    obtain ⟨v, e, _⟩ := ra.get (List.getElem?_eq_getElem hi)
    exact ⟨vs, v, s.seq ha, e⟩
  stop := fun H s _ => ⟨vs, s.seq ha, by rw [enumP_len, ra.length]; exact Nat.le_refl _⟩
  yld := fun i H x H' p hp s _ y G1 s1 s2 => by
    obtain ⟨T, x1, rfl, n, e, f1⟩ := y
    obtain ⟨x2, e1, rfl⟩ := enumP_get hp
    obtain ⟨v, e3, r3⟩ := ra.get e1
    have e5 := f1 vs (s.seq ha)
    rw [e3] at e5
    cases e5
    rw [Nat.zero_add]
    exact wk_pair n e s2 rfl (r3.mono s1)
end
/-! ### enumerate of a tuple -/
theorem enumT_new {v : Value} {o : Obj} {C : Heap → Prop} (B : Begins v o C) : Meets (Builtin.«enumerate.__new__» ⟨[.type "enumerate", v], []⟩) (fun _ R s => C s.heap ∧
    R (.ok (.ret (.ref (s.heap.push o).objs.size))) { s with heap := (s.heap.push o).push { cls := .type "enumerate", data := .fields #[.none, .bool false, .ref s.heap.objs.size, rawInt 0, .none, .none] } }) :=
  .of_wp fun prog w A R s h => by
    obtain ⟨hp, g, d, tk, os⟩ := s
    obtain ⟨h1, h2⟩ := h
    have sub := sub_enumerate
    have it : ∀ {A' : Around} {E : Value → Shared → Prop} {Q : Value → Shared → Prop}, Q (.ref hp.objs.size) ⟨hp.push o, g, d, tk, os⟩ → wpAny (model prog w) A' (pyIter v) Q E ⟨hp, g, d, tk, os⟩ := fun q => B.iter prog w _ _ ⟨hp, g, d, tk, os⟩ _ h1 q
    wp_walk using it
    refine wpAny_stack_any fun _ => wpAny_pure ?_
    split <;> first
      | (rename_i c _ _ _ _ _; cases (c == Value.type "enumerate") <;> (wp_walk using it; exact ⟨_, rfl, h2⟩))
      | (wp_walk using it; exact ⟨_, rfl, h2⟩)
theorem enumT_call {prog : Program} {w : World} {A : Around} {E : Value → Shared → Prop} {s : Shared} {v : Value} {o : Obj} {C : Heap → Prop} {Q : Value → Shared → Prop} (B : Begins v o C) (hC : C s.heap)
    (h : ∀ h', IsEnum h' (s.heap.objs.size + 1) s.heap.objs.size 0 .none → h'.get? s.heap.objs.size = some o → (∀ b u, s.heap.get? b = some u → h'.get? b = some u) → Q (.ref (s.heap.objs.size + 1)) { s with heap := h' }) :
    wpAny (model prog w) A (call (.type "enumerate") [v]) Q E s := by
  refine callType_new F.called_enumerate (by decide) (F.typeCall_enumerate_1 _) (F.newCall_enumerate_1 _) (fun ob => F.args_object_init_2 ob _) F.entry_enumerate_new (enumT_new B) ⟨hC, ?_⟩
  have z : (s.heap.push o).objs.size = s.heap.objs.size + 1 := Heap.size_push ..
  have made : IsEnum ((s.heap.push o).push { cls := .type "enumerate", data := .fields #[.none, .bool false, .ref s.heap.objs.size, rawInt 0, .none, .none] }) (s.heap.objs.size + 1) s.heap.objs.size 0 .none := by
    have q := Heap.get?_push_size (s.heap.push o) (o := { cls := .type "enumerate", data := .fields #[.none, .bool false, .ref s.heap.objs.size, rawInt 0, .none, .none] }) rfl
    rwa [z] at q
  show _ ∧ _
  rw [z]
  exact ⟨⟨_, made, rfl⟩, h _ made (Heap.get?_push_of_some _ (Heap.get?_push_size _ B.free)) fun b u e => Heap.get?_push_of_some _ (Heap.get?_push_of_some _ e)⟩
/-- the tuple at a, each item in a new pair with its number -/
def ItE (K : PySem.W.Frag) (a : Addr) : It :=
  ⟨fun i H => ∃ (xs : List V) (x : V), SqT K H a xs ∧ xs[i]? = some x, fun i H v H' => ∃ T x, v = .ref T ∧ H T = none ∧ H' = upd H T (.tup [.int (i : Nat), x]) ∧ ∀ xs, SqT K H a xs → xs[i]? = some x, fun i H => ∃ xs : List V, SqT K H a xs ∧ xs.length = i⟩
theorem turn_enumT {P : Program} {w : World} {K : PySem.W.Frag} {elts : List Expr} {kk : Nat} {tpos : Pos} (a e it : Addr) (d1 : e ≠ it) (d2 : e ≠ a) (d3 : a ≠ it) :
    Turn P w K (.Tuple elts kk tpos) (ItE K a) [e, it] e (fun i h => (∃ old, IsEnum h e it ((i : Nat) : Int) old) ∧ h.IsTupleIter it a i) where
  mem := List.mem_cons_self
  obj := fun i h st b hb => by
    obtain ⟨⟨old, he⟩, o, ho, hc, hd⟩ := st
    rcases List.mem_cons.mp hb with z | z
    · subst z
      exact ⟨_, he, fun v q => nomatch q⟩
    · exact ⟨o, by rw [List.mem_singleton.mp z]; exact ho, fun v q => by rw [hd] at q; cases q⟩
  keep := fun i h h' st k => by
    obtain ⟨⟨old, he⟩, hi⟩ := st
    exact ⟨⟨old, k e List.mem_cons_self _ he⟩, hi.at fun o q => k it (List.mem_cons_of_mem _ List.mem_cons_self) o q⟩
  item := by
    intro X hP hw hK hc i pins s σ H E I hf st hg
    subst hP hw hK
    obtain ⟨⟨old, he⟩, hit⟩ := st
    obtain ⟨xs, x, hq, hx⟩ := hg
    obtain ⟨its, rv, p, hz⟩ := I.tuple hq
    obtain ⟨u, hu, ru⟩ := rv.get hx
    have hlen : i < its.toArray.size := by
      have := (List.getElem?_eq_some_iff.mp hu).1
      simpa using this
    have le : e < s.heap.objs.size := Heap.lt_size he
    have li : it < s.heap.objs.size := by
      obtain ⟨_, q, _⟩ := hit
      exact Heap.lt_size q
    have D := Draws.tuple (prog := X.prog) (w := X.w) (A := X.A.in1) (show X.A.in1.handled = none from I.ok.hd hc) it a d3 its.toArray
    refine wpAny_pyNext_enum_itemD D he ⟨hit, show s.heap.IsTuple a its.toArray from p⟩ hlen d1 (by simp only [List.mem_cons, List.not_mem_nil, or_false, not_or]; exact ⟨d1, d2⟩) fun u' h' tk hu' ho st' hT hsz hk => ?_
    have eu : u' = u := by
      have e1 : its.toArray[i]? = some u' := hu'
      have e2 : its.toArray[i]? = some u := by simpa using hu
      rw [e1] at e2
      exact Option.some.inj e2
    subst eu
    refine ⟨_, rfl, wpAny_letOwnedTupleGo_enum (s := { s with heap := h', toks := tk + 1 }) ho fun h'' he' sb => ?_⟩
    have hT2 : h''.get? s.heap.objs.size = some { cls := .type "tuple", data := .seq #[.int i tk, u'] } := (sb.2 _ (Nat.ne_of_gt le)).trans hT
    have new : ObjOk X.prog X.w (upd H s.heap.objs.size (.tup [.int (i : Nat), x])) h'' s.heap.objs.size (.tup [.int (i : Nat), x]) :=
      ⟨by show 2 ≤ sizeLine; decide, [.int i tk, u'], .cons ⟨_, rfl⟩ (.cons ru .nil), ⟨_, hT2, rfl, _, rfl⟩⟩
    have I1 : Inv X pins σ (upd H s.heap.objs.size (.tup [.int (i : Nat), x])) { s with heap := h'', toks := tk + 1 } :=
      I.turnedNew (ch := [e, it]) (fun b ob hb q => (sb.2 b (fun z => hb (by simp [z]))).trans (hk b ob (fun z => hb (by simp [z])) (fun z => hb (by simp [z])) q)) hf (Nat.le_refl _) new
    refine ⟨.ref s.heap.objs.size, _, I1, rfl, ⟨_, x, rfl, I.hok.fresh (Nat.le_refl _), rfl, fun ys hy => by rw [I.tuple_inj hy hq]; exact hx⟩, ⟨⟨u', ?_⟩, st'.1.at fun o q => (sb.2 it (Ne.symm d1)).trans q⟩, fun b hb => ?_⟩
    · rw [show ((i + 1 : Nat) : Int) = (i : Int) + 1 by omega]
      exact he'
    · have lb : b < s.heap.objs.size := by
        rcases List.mem_cons.mp hb with z | z
        · rw [z]
          exact le
        · rw [List.mem_singleton.mp z]
          exact li
      rw [upd_ne (Nat.ne_of_lt lb)]
      exact (hf b hb).1
  done := by
    intro X hP hw hK hc i pins s σ H E I hf st hg
    subst hP hw hK
    obtain ⟨⟨old, he⟩, hit⟩ := st
    obtain ⟨xs, hq, hx⟩ := hg
    obtain ⟨its, rv, p, hz⟩ := I.tuple hq
    obtain ⟨f0, f1, f2, f3, f4, f5⟩ := hf it (List.mem_cons_of_mem _ List.mem_cons_self)
    have hn : its.toArray.size = i := by
      rw [List.size_toArray, ← rv.length]
      exact hx
    subst hn
    have D := Draws.tuple (prog := X.prog) (w := X.w) (A := X.A.in1) (show X.A.in1.handled = none from I.ok.hd hc) it a d3 its.toArray
    exact wpAny_pyNext_enum_endD D he ⟨hit, show s.heap.IsTuple a its.toArray from p⟩ fun h' eb => ⟨rfl, I.turned (t' := s.toks) (fun b o hb q => eb b o hb q) f0 f1 f3 f4 f5⟩
  self := fun A i s Q E st h => let ⟨⟨_, he⟩, _⟩ := st; wpAny_pyIter_enum he h
theorem wk_enumT {K : PySem.W.Frag} {G : Hp} {a : Addr} {vs : List V} {ps : List PV} (ha : SqT K G a vs) (ra : Reps K G vs ps) : Wk K (ItE K a) G (fun _ => True) (enumP 0 ps) where
  go := fun i H hi s _ => by
    rw [enumP_len] at hi
    obtain ⟨v, e, _⟩ := ra.get (List.getElem?_eq_getElem hi)
    exact ⟨vs, v, Same.seqT s ha, e⟩
  stop := fun H s _ => ⟨vs, Same.seqT s ha, by rw [enumP_len, ra.length]⟩
  yld := fun i H x H' p hp s _ y G1 s1 s2 => by
    obtain ⟨T, x1, rfl, n, e, f1⟩ := y
    obtain ⟨x2, e1, rfl⟩ := enumP_get hp
    obtain ⟨v, e3, r3⟩ := ra.get e1
    have e5 := f1 vs (Same.seqT s ha)
    rw [e3] at e5
    cases e5
    rw [Nat.zero_add]
    exact wk_pair n e s2 rfl (r3.mono s1)
section
variable {X : Cx} {pos p tpos : Pos} {tg e e2 : Expr} {elts : List Expr} {kk : Nat} {f h : D PV}
/-- a list or a tuple that stands for good -/
@[simp] def itP : PV → Option (List PV)
  | .tup xs => some xs
  | .lst xs => some xs
  | .scr ns => some (ns.map PV.int)
  | _ => none
@[simp] def itE : PV → Option (List PV)
  | .tup xs => some (enumP 0 xs)
  | .lst xs => some (enumP 0 xs)
  | _ => none
@[simp] def itZ : PV → PV → Option (List PV)
  | .tup xs, .tup ys => some (zipP xs ys)
  | .lst xs, .lst ys => some (zipP xs ys)
  | _, _ => none
def itR1 : PV → Option (List PV)
  | .int j => if rgOk j = true then some (rgP 0 j.toNat) else none
  | _ => none
def itR2 : PV → PV → Option (List PV)
  | .int i, .int j => if rgOk i = true ∧ rgOk j = true then some (rgP i (j - i).toNat) else none
  | _, _ => none
@[simp] def dIt (g : PV → Option (List PV)) (f : D PV) (Γ : Ev) : Option ((List PV) × Ev) := (bnd f fun x => opt (g x)) Γ
@[simp] def dIt2 (g : PV → PV → Option (List PV)) (f h : D PV) (Γ : Ev) : Option ((List PV) × Ev) := (bnd f fun x => bnd h fun y => opt (g x y)) Γ
theorem si_val (ha : SV X e f) : SI X tg e (dIt itP f) := by
  refine ⟨fun pins s σ H R I t => ?_⟩
  obtain ⟨π, G, Γ, ps, Γ', E, ef, q⟩ := t
  obtain ⟨x, Γ1, e1, f1⟩ := bnd_some ef
  obtain ⟨e2, z⟩ := opt_some f1
  subst z
  unfold itP at e2
  split at e2
  · cases e2
    exact (pi_tup (tg := tg) ha).run pins s σ H R I ⟨π, G, Γ, _, _, E, e1, fun u G1 H1 S r => by
      obtain ⟨a, vs, rfl, q1, q2⟩ := r
      exact ⟨a, rfl, ⟨vs, Same.seqT S.e.sub q1⟩, q _ G1 H1 S (wk_tup q1 q2)⟩⟩
  · cases e2
    exact (pi_list (tg := tg) ha).run pins s σ H R I ⟨π, G, Γ, _, _, E, e1, fun u G1 H1 S r => by
      obtain ⟨a, vs, rfl, q1, q2⟩ := r
      exact ⟨a, rfl, ⟨vs, SqL.of (S.e.sub _ _ q1)⟩, q _ G1 H1 S (wk_list (SqL.of q1) q2)⟩⟩
  · cases e2
    exact (pi_list (tg := tg) ha).run pins s σ H R I ⟨π, G, Γ, _, _, E, e1, fun u G1 H1 S r => by
      obtain ⟨a, rfl, q1⟩ := r
      exact ⟨a, rfl, ⟨_, S.e.sub.seq q1⟩, q _ G1 H1 S (wk_list q1 (reps_ints _))⟩⟩
  · cases e2
theorem si_range1 (hg : Gl X "range") (hm : X.mg "range" = none) (ha : SV X e f) (hs : starEach [e] X.env = (false, eval e X.env) :: starEach [] X.env := by rfl) (hs1 : starEach [e] X.env = [(false, eval e X.env)] := by rfl) : SI X tg (.Call (.Name "range" p) [e] [] pos) (dIt itR1 f) :=
  PI_imp (pi_range1 hg hm (pa_cons ha pa_nil hs) hs1) fun σ H R ⟨π, G, Γ, ps, Γ', E, ef, q⟩ => by
    obtain ⟨x, Γ1, e1, f1⟩ := bnd_some ef
    obtain ⟨e2, z⟩ := opt_some f1
    subst z
    refine ⟨π, G, Γ, x, _, E, e1, fun u G1 H1 S r => ?_⟩
    unfold itR1 at e2
    split at e2
    · split at e2
      · rename_i j hb
        have hb := of_hide hb
        cases e2
        cases (show u = _ from r)
        exact ⟨j, rfl, hb.1, hb.2, q _ G1 H1 S wk_range⟩
      · cases e2
    · cases e2
theorem si_range2 (hg : Gl X "range") (hm : X.mg "range" = none) (ha : SV X e f) (hb : SV X e2 h) (ha1 : starEach [e, e2] X.env = (false, eval e X.env) :: starEach [e2] X.env := by rfl) (hb1 : starEach [e2] X.env = (false, eval e2 X.env) :: starEach [] X.env := by rfl)
    (hs : starEach [e, e2] X.env = [(false, eval e X.env), (false, eval e2 X.env)] := by rfl) (hs2 : starEach [e2] X.env = [(false, eval e2 X.env)] := by rfl) : SI X tg (.Call (.Name "range" p) [e, e2] [] pos) (dIt2 itR2 f h) :=
  PI_imp (pi_range2 hg hm (pa_cons ha (pa_cons hb pa_nil hb1) ha1) hs hs2) fun σ H R ⟨π, G, Γ, ps, Γ', E, ef, q⟩ => by
    obtain ⟨x, Γ1, e1, f1⟩ := bnd_some ef
    obtain ⟨y, Γ2, e3, f2⟩ := bnd_some f1
    obtain ⟨e2, z⟩ := opt_some f2
    subst z
    refine ⟨π, G, Γ, x, Γ1, E, e1, fun u G1 H1 S r => ⟨π, G1, Γ1, y, _, S.e, e3, fun u2 G2 H2 S2 r2 => ?_⟩⟩
    unfold itR2 at e2
    split at e2
    · split at e2
      · rename_i i j hb
        have hb : ((-(2 ^ 62) ≤ i ∧ i < 2 ^ 62) ∧ (-(2 ^ 62) ≤ j ∧ j < 2 ^ 62)) := ⟨rgOk_of hb.1, rgOk_of hb.2⟩
        have hb := and_assoc.mp hb
        cases e2
        cases (show u = _ from r)
        cases (show u2 = _ from r2)
        exact ⟨i, j, rfl, hb, q _ G2 H2 (S.trans S2) wk_range⟩
      · cases e2
    · cases e2
theorem si_zip (hg : Gl X "zip") (hm : X.mg "zip" = none) (ha : SV X e f) (hb : SV X e2 h) (ha1 : starEach [e, e2] X.env = (false, eval e X.env) :: starEach [e2] X.env := by rfl) (hb1 : starEach [e2] X.env = (false, eval e2 X.env) :: starEach [] X.env := by rfl)
    (hpl : (backTo pos (starEach [e2] X.env)).any (·.1) = false := by rfl) : SI X (.Tuple elts kk tpos) (.Call (.Name "zip" p) [e, e2] [] pos) (dIt2 itZ f h) :=
  PI_imp (RZ.pi_zipA hg hm (pa_cons ha (pa_cons hb pa_nil hb1) ha1) ha1 hpl) fun σ H R ⟨π, G, Γ, ps, Γ', E, ef, q⟩ => by
    obtain ⟨x, Γ1, e1, f1⟩ := bnd_some ef
    obtain ⟨y, Γ2, e3, f2⟩ := bnd_some f1
    obtain ⟨e2, z⟩ := opt_some f2
    subst z
    refine ⟨π, G, Γ, x, Γ1, E, e1, fun u G1 H1 S r => ⟨π, G1, Γ1, y, _, S.e, e3, fun u2 G2 H2 S2 r2 => ?_⟩⟩
    have r := r.mono S2.g.g
    unfold itZ at e2
    split at e2
    · cases e2
      obtain ⟨a, vs, rfl, q1, q2⟩ := r
      obtain ⟨b, us, rfl, p1, p2⟩ := r2
      exact ⟨a, b, vs, us, rfl, .inr ⟨Same.seqT S2.e.sub q1, Same.seqT S2.e.sub p1, q _ G2 H2 (S.trans S2) (wk_zipT q1 p1 q2 p2)⟩⟩
    · cases e2
      obtain ⟨a, vs, rfl, q1, q2⟩ := r
      obtain ⟨b, us, rfl, p1, p2⟩ := r2
      exact ⟨a, b, vs, us, rfl, .inl ⟨SqL.of (S2.e.sub _ _ q1), SqL.of (S2.e.sub _ _ p1), q _ G2 H2 (S.trans S2) (wk_zipL (SqL.of q1) (SqL.of p1) q2 p2)⟩⟩
    · cases e2
theorem si_enum (hg : Gl X "enumerate") (hm : X.mg "enumerate" = none) (ha : SV X e f) (hs : starEach [e] X.env = (false, eval e X.env) :: starEach [] X.env := by rfl) (hs1 : starEach [e] X.env = [(false, eval e X.env)] := by rfl) :
    SI X (.Tuple elts kk tpos) (.Call (.Name "enumerate" p) [e] [] pos) (dIt itE f) := by
  refine ⟨fun pins s σ H R I t => ?_⟩
  obtain ⟨π, G, Γ, ps, Γ', E, ef, q⟩ := t
  obtain ⟨x, Γ1, e1, f1⟩ := bnd_some ef
  obtain ⟨e2, z⟩ := opt_some f1
  subst z
  unfold itE at e2
  split at e2
  · cases e2
    -- a tuple
    refine Call_ (ld_blt I hg hm PyProof.Rows.boot_enumerate (PyProof.Rows.callWith_type1 (thn ((pa_cons ha pa_nil hs).run pos pins s σ H (fun vs H1 => ∃ a us, vs = [.ref a] ∧ SqT X.K H1 a us ∧ R (ItE X.K a) H1) I
      ⟨π, G, Γ, _, _, E, e1, fun u G1 H1 S r => by
        obtain ⟨a, vs, rfl, q1, q2⟩ := r
        exact ⟨a, vs, rfl, Same.seqT S.e.sub q1, q _ G1 H1 S (wk_enumT q1 q2)⟩⟩) fun us s1 ⟨vs, H1, I1, r1, q1⟩ => ?_) hs1 rfl))
    obtain ⟨a, xs, rfl, hq, hR⟩ := q1
    cases r1 with
    | cons r rr =>
      cases rr
      cases r
      obtain ⟨its, rv, p', hz⟩ := I1.tuple hq
      have la : a < s1.heap.objs.size := by
        obtain ⟨o, ho, _⟩ := id p'
        exact Heap.lt_size ho
      refine enumT_call (begins_tuple a its.toArray) (show s1.heap.IsTuple a its.toArray from p') fun h' he hit hk => wpAny_pyIter_enum he ?_
      have I2 : Inv X pins σ H1 { s1 with heap := h' } := I1.kept (t' := s1.toks) hk
      refine ⟨s1.heap.objs.size + 1, [s1.heap.objs.size + 1, s1.heap.objs.size], _, _, H1, rfl, I2, turn_enumT a (s1.heap.objs.size + 1) s1.heap.objs.size (Nat.succ_ne_self _) (Nat.ne_of_gt (Nat.lt_succ_of_lt la)) (Nat.ne_of_lt la), ⟨⟨.none, he⟩, ⟨_, hit, rfl, rfl⟩⟩, fun b hb => ?_, hR⟩
      have hle : s1.heap.objs.size ≤ b := by
        rcases List.mem_cons.mp hb with z | z
        · rw [z]
          exact Nat.le_add_right _ _
        · rw [List.mem_singleton.mp z]
          exact Nat.le_refl _
      exact I1.fpOk hle (I1.hok.fresh hle)
  · cases e2
    exact (pi_enum (elts := elts) (kk := kk) (tpos := tpos) hg hm (pa_cons ha pa_nil hs) hs1).run pins s σ H R I ⟨π, G, Γ, _, _, E, e1, fun u G1 H1 S r => by
      obtain ⟨a, vs, rfl, q1, q2⟩ := r
      exact ⟨a, vs, rfl, SqL.of (S.e.sub _ _ q1), q _ G1 H1 S (wk_enumL (SqL.of q1) q2)⟩⟩
  · cases e2
end
end
section
variable [Fx]
/-! ### blocks -/
inductive Out where
  | nx (Γ : Ev) | rt (r : Rs) (Γ : Ev) | bk (Γ : Ev) | ct (Γ : Ev)
abbrev DS := Ev → Option Out
/-- where the returned object comes from -/
def Okr (Γ : Ev) (σ : St) (H : Hp) (a : Addr) : Prop := H a = none ∨ ∃ i, At Γ σ i .own a
def Fin (K : PySem.W.Frag) (π : Nat → Addr) (σ : St) (G H : Hp) (Γ : Ev) (D : Ends) : Out → Prop
  | .nx Γ' => ∀ σ' G' H', Sts K π σ G H Γ σ' G' H' Γ' → D.nx σ' H'
  | .bk Γ' => ∀ σ' G' H', Sts K π σ G H Γ σ' G' H' Γ' → D.bk σ' H'
  | .ct Γ' => ∀ σ' G' H', Sts K π σ G H Γ σ' G' H' Γ' → D.ct σ' H'
  | .rt r Γ' => ∀ x σ' G' H', Sts K π σ G H Γ σ' G' H' Γ' → RR K G' H' (fun a => Okr Γ σ H a) x r → D.rt x H'
def tS (K : PySem.W.Frag) (d : DS) : TS := fun D σ H => ∃ π G Γ o, ER K π G σ H Γ ∧ d Γ = some o ∧ Fin K π σ G H Γ D o
abbrev SS (X : Cx) (st : Stmt) (d : DS) : Prop := PS X st (tS X.K d)
abbrev SSs (X : Cx) (sts : List Stmt) (d : DS) : Prop := PSs X sts (tS X.K d)
@[simp] def dSeq (d e : DS) (Γ : Ev) : Option Out := match d Γ with
  | some (.nx Γ1) => e Γ1
  | o => o
@[simp] def dSkip (Γ : Ev) : Option Out := some (.nx Γ)
theorem Okr_back {K : PySem.W.Frag} {π : Nat → Addr} {σ σ1 : St} {G H G1 H1 : Hp} {Γ Γ1 : Ev} (S : Sts K π σ G H Γ σ1 G1 H1 Γ1) {a : Addr} (h : Okr Γ1 σ1 H1 a) : Okr Γ σ H a := by
  rcases h with h | ⟨i, h⟩
  · exact .inl (S.g.nothing h)
  · rcases S.f i .own a h with h | ⟨_, h⟩
    · exact .inr ⟨i, h⟩
    · exact .inl h
/-- what follows a step -/
theorem Fin.back {K : PySem.W.Frag} {π : Nat → Addr} {σ σ1 : St} {G H G1 H1 : Hp} {Γ Γ1 : Ev} {D : Ends} {o : Out} (S : Sts K π σ G H Γ σ1 G1 H1 Γ1) (h : Fin K π σ G H Γ D o) : Fin K π σ1 G1 H1 Γ1 D o := by
  cases o with
  | nx Γ' => exact fun σ' G' H' T => h σ' G' H' (S.trans T)
  | bk Γ' => exact fun σ' G' H' T => h σ' G' H' (S.trans T)
  | ct Γ' => exact fun σ' G' H' T => h σ' G' H' (S.trans T)
  | rt r Γ' => exact fun x σ' G' H' T q => h x σ' G' H' (S.trans T) (RR_mono q fun a z => Okr_back S z)
section
variable {X : Cx} {pos p : Pos} {st : Stmt} {rest : List Stmt} {a b c e : Expr} {es : List Expr} {f h k : D PV} {l : D (List PV)} {fr : D Rs} {tf : D Bool} {d d' : DS}
theorem ss_nil : SSs X [] dSkip := pss_nil.imp fun D σ H ⟨π, G, Γ, o, E, ef, q⟩ => by
  cases ef
  exact q σ G H (.refl E)
theorem t_seq {K : PySem.W.Frag} {D : Ends} {σ : St} {H : Hp} (t : tS K (dSeq d d') D σ H) : tSeq (tS K d) (tS K d') D σ H := by
  obtain ⟨π, G, Γ, o, E, ef, q⟩ := t
  unfold dSeq at ef
  cases e1 : d Γ with
  | none => rw [e1] at ef; cases ef
  | some o1 =>
    rw [e1] at ef
    cases o1 with
    | nx Γ1 => exact ⟨π, G, Γ, _, E, e1, fun σ1 G1 H1 S => ⟨π, G1, Γ1, o, S.e, ef, q.back S⟩⟩
    | rt r Γ1 =>
      cases ef
      exact ⟨π, G, Γ, _, E, e1, q⟩
    | bk Γ1 =>
      cases ef
      exact ⟨π, G, Γ, _, E, e1, q⟩
    | ct Γ1 =>
      cases ef
      exact ⟨π, G, Γ, _, E, e1, q⟩
theorem ss_cons (h1 : SS X st d) (h2 : SSs X rest d') : SSs X (st :: rest) (dSeq d d') := (pss_cons h1 h2).imp fun _ _ _ t => t_seq t
theorem ss_one (h1 : SS X st d) : SSs X [st] d := pss_one h1
theorem ss_pass : SS X (.Pass pos) dSkip := ps_pass.imp fun D σ H ⟨π, G, Γ, o, E, ef, q⟩ => by
  cases ef
  exact q σ G H (.refl E)
@[simp] def dBk (Γ : Ev) : Option Out := some (.bk Γ)
@[simp] def dCt (Γ : Ev) : Option Out := some (.ct Γ)
theorem ss_break : SS X (.Break pos) dBk := ps_break.imp fun D σ H ⟨π, G, Γ, o, E, ef, q⟩ => by
  cases ef
  exact q σ G H (.refl E)
theorem ss_cont : SS X (.Continue pos) dCt := ps_continue.imp fun D σ H ⟨π, G, Γ, o, E, ef, q⟩ => by
  cases ef
  exact q σ G H (.refl E)
/-- an expression alone -/
@[simp] def dEx (f : D PV) (Γ : Ev) : Option Out := match f Γ with
  | some (_, Γ1) => some (.nx Γ1)
  | none => none
theorem ss_expr (he : SV X e f) (hs : swapsWith e none pos.line X.env = pure false := by rfl) : SS X (.Expr e pos) (dEx f) := (ps_expr he hs).imp fun D σ H ⟨π, G, Γ, o, E, ef, q⟩ => by
  unfold dEx at ef
  cases e1 : f Γ with
  | none => rw [e1] at ef; cases ef
  | some z =>
    rw [e1] at ef
    cases ef
    exact ⟨π, G, Γ, z.1, z.2, E, e1, fun x G1 H1 S r => q σ G1 H1 S.sts⟩
/-- return -/
@[simp] def dRt (f : D Rs) (Γ : Ev) : Option Out := match f Γ with
  | some (r, Γ1) => some (.rt r Γ1)
  | none => none
theorem ss_ret (he : SR X e fr) : SS X (.Return (some e) pos) (dRt fr) := (ps_ret he).imp fun D σ H ⟨π, G, Γ, o, E, ef, q⟩ => by
  unfold dRt at ef
  cases e1 : fr Γ with
  | none => rw [e1] at ef; cases ef
  | some z =>
    rw [e1] at ef
    cases ef
    exact ⟨π, G, Γ, z.1, z.2, E, e1, fun x G1 H1 S r => q x σ G1 H1 S.sts (RR_mono r fun a n => .inl n)⟩
theorem ss_retN : SS X (.Return none pos) (dRt (vl dNon)) := ps_retN.imp fun D σ H ⟨π, G, Γ, o, E, ef, q⟩ => by
  cases ef
  exact q .non σ G H (.refl E) rfl
/-- return of an own object -/
@[simp] def dRtN (i : Nat) (Γ : Ev) : Option Out := match Γ[i]? with
  | some (.val p) => some (.rt (.val p) Γ)
  | some (.mu .own p) => some (.rt (.new p) (Γ.set i .un))
  | _ => none
theorem ss_retNm (i : Nat) {x : Str} {pos' : Pos} (hN : X.N[i]? = some x := by rfl) (hv : Vis X.env.scope x := by first | exact Or.inl rfl | exact Or.inr (Or.inl rfl) | exact Or.inr (Or.inr rfl)) (hd : (x == ("__debug__" : Str)) = false := by decide)
    (hcd : (x == ("__classdict__" : Str)) = false := by decide) : SS X (.Return (some (.Name x pos')) pos) (dRtN i) := (ps_ret (pe_var hN hv hd hcd)).imp fun D σ H ⟨π, G, Γ, o, E, ef, q⟩ => by
  unfold dRtN at ef
  split at ef
  · rename_i p ep
    cases ef
    obtain ⟨v, h1, h2⟩ := E.val i _ ep
    exact ⟨v, h1, q v σ G H (.refl E) h2⟩
  · rename_i p ep
    cases ef
    obtain ⟨a, h1, h2, h3, h4⟩ := E.mu i _ _ ep
    have at' : ∀ j k b, At (Γ.set i .un) σ j k b → At Γ σ j k b := fun j k b ⟨q, e1, e2⟩ => by
      rcases set_get e1 with ⟨rfl, z⟩ | ⟨n, z⟩
      · cases z
      · exact ⟨q, z, e2⟩
    refine ⟨.ref a, h1, q _ σ G H ⟨⟨E.sub, by rw [List.length_set]; exact E.len, fun j q e => ?_, fun j k q e => ?_, fun j l k k' b z1 z2 => E.inj j l k k' b (at' j k b z1) (at' l k' b z2), E.tabs, fun j k m e => ?_⟩, .refl, fun j k b z => .inl (at' j k b z)⟩ ⟨a, rfl, .inr ⟨i, p, ep, h1⟩, h2, h3⟩⟩
    · rcases set_get e with ⟨rfl, z⟩ | ⟨n, z⟩
      · cases z
      · exact E.val j q z
    · rcases set_get e with ⟨rfl, z⟩ | ⟨n, z⟩
      · cases z
      · exact E.mu j k q z
    · rcases set_get e with ⟨rfl, z⟩ | ⟨n, z⟩
      · cases z
      · exact E.fn j k m z
  · cases ef
/-- if -/
@[simp] def dIfS (c : D Bool) (d d' : DS) (Γ : Ev) : Option Out := match c Γ with
  | some (b, Γ1) => if b = true then d Γ1 else d' Γ1
  | none => none
theorem ss_if {A B : List Stmt} (hc : SB X c tf) (ha : SSs X A d) (hb : SSs X B d') : SS X (.If c A B pos) (dIfS tf d d') := (ps_if hc ha hb).imp fun D σ H ⟨π, G, Γ, o, E, ef, q⟩ => by
  unfold dIfS at ef
  cases e1 : tf Γ with
  | none => rw [e1] at ef; cases ef
  | some z =>
    obtain ⟨b, Γ1⟩ := z
    rw [e1] at ef
    dsimp only at ef
    refine ⟨π, G, Γ, b, Γ1, E, e1, fun G1 H1 S => ?_⟩
    cases b with
    | true =>
      rw [if_pos rfl] at ef
      exact iteT ⟨π, G1, Γ1, o, S.e, ef, q.back S.sts⟩
    | false =>
      rw [if_neg Bool.false_ne_true] at ef
      exact iteF ⟨π, G1, Γ1, o, S.e, ef, q.back S.sts⟩
/-- name = e -/
@[simp] def dSet (i : Nat) (f : D Rs) (Γ : Ev) : Option Out := match f Γ with
  | some (.val p, Γ1) => some (.nx (Γ1.set i (.val p)))
  | some (.new p, Γ1) => some (.nx (Γ1.set i (.mu .own p)))
  | none => none
theorem t_set {K : PySem.W.Frag} {i : Nat} {D : Ends} {σ : St} {H : Hp} (t : tS K (dSet i fr) D σ H) : tAsg (tR K fr) (gName i) D σ H := by
  obtain ⟨π, G, Γ, o, E, ef, q⟩ := t
  unfold dSet at ef
  cases e1 : fr Γ with
  | none => rw [e1] at ef; cases ef
  | some z =>
    obtain ⟨r, Γ1⟩ := z
    rw [e1] at ef
    refine ⟨π, G, Γ, r, Γ1, E, e1, fun x G1 H1 S rr => ?_⟩
    cases r with
    | val p =>
      cases ef
      exact q _ G1 H1 (S.sts.trans (sts_val S.e i rr))
    | new p =>
      cases ef
      obtain ⟨a, rfl, hn, gn, ob⟩ := rr
      have hna : ∀ j k, ¬ At Γ1 σ j k a := fun j k z => by
        obtain ⟨_, o, e⟩ := E.foot (S.f j k a z)
        rw [hn] at e
        cases e
      obtain ⟨E2, at'⟩ := sts_new S.e i gn ob hna
      refine q _ G1 H1 ⟨E2, S.g, fun j k b z => ?_⟩
      rcases at' j k b z with ⟨z, _⟩ | ⟨_, z2, z3⟩
      · exact .inl (S.f j k b z)
      · subst z3
        exact .inr ⟨z2, hn⟩
theorem ss_set (i : Nat) {x : Str} {pos' : Pos} (hN : X.N.Nodup) (he : SR X e fr) (hi : X.N[i]? = some x := by rfl) (hx : Loc X.env.scope x := by first | exact Or.inl rfl | exact Or.inr rfl) (hs : swapsWith e (some (.Name x pos')) pos.line X.env = pure false := by rfl)
    (hf : X.fn x = true ∨ X.env.scope.names.lookup x = some .local := by first | exact .inl rfl | exact .inr rfl | assumption) : SS X (.Assign [.Name x pos'] e pos) (dSet i fr) := (ps_set hN hi hx he hs hf).imp fun _ _ _ t => t_set t
/-- targets = a value -/
@[simp] def dAsg (f : D PV) (g : PV → Ev → Option Ev) (Γ : Ev) : Option Out := match f Γ with
  | some (p, Γ1) => (g p Γ1).map Out.nx
  | none => none
theorem ss_asg {tg : Expr} {g : PV → Ev → Option Ev} {ws : List Nat} (he : SV X e f) (hg : SG X tg ws g) (hs : swapsWithSole [tg] e pos.line X.env = pure false := by rfl) (hw : swappedStores [tg] e X.env = pure none := by rfl)
    (h1 : (assignEach [tg] X.env).map (·.2) = [assign tg X.env] := by rfl) : SS X (.Assign [tg] e pos) (dAsg f g) := (ps_asg he hg hs hw h1).imp fun D σ H ⟨π, G, Γ, o, E, ef, q⟩ => by
  unfold dAsg at ef
  cases e1 : f Γ with
  | none => rw [e1] at ef; cases ef
  | some z =>
    rw [e1] at ef
    obtain ⟨Γ2, e2, rfl⟩ := Option.map_eq_some_iff.mp ef
    exact ⟨π, G, Γ, z.1, z.2, E, e1, fun x G1 H1 S r => ⟨π, G1, z.2, z.1, Γ2, S.e, r, e2, fun σ' T _ => q σ' G1 H1 (S.sts.trans T)⟩⟩
/-- xs[i] = e, xs a name -/
def gSetL (c : List PV) (i v : PV) : Option (List PV) := match i with
  | .int k => (ixN c.length k).map fun j => c.set j v
  | _ => none
@[simp] def dSub (n : Nat) (f h : D PV) (Γ : Ev) : Option Out := match f Γ with
  | some (v, Γ1) => match lstAt n Γ1 with
    | some _ => match h Γ1 with
      | some (i, Γ2) => match lstAt n Γ2 with
        | some (k, c) => (gSetL c i v).map fun c' => Out.nx (Γ2.set n (.mu k (.lst c')))
        | none => none
      | none => none
    | none => none
  | none => none
theorem ss_sub (n : Nat) {x : Str} {pos' pos2 : Pos} {i : Expr} (he : SV X e f) (hi : SV X i h) (hN : X.N[n]? = some x := by rfl) (hv : Vis X.env.scope x := by first | exact Or.inl rfl | exact Or.inr (Or.inl rfl) | exact Or.inr (Or.inr rfl)) (hd : (x == ("__debug__" : Str)) = false := by decide)
    (hcd : (x == ("__classdict__" : Str)) = false := by decide) (ha : ∀ v, assign (.Subscript (.Name x pos') i pos2) X.env v = (do
      let ov ← holding [v] (eval (.Name x pos') X.env)
      let iv ← holding [v, ov] (eval i X.env)
      standAt pos2
      holding [v, ov, iv] (setItem ov iv v)
      release [v, ov, iv] []) := by intro _; rfl)
    (hs : swapsWithSole [.Subscript (.Name x pos') i pos2] e pos.line X.env = pure false := by rfl) (hw : swappedStores [.Subscript (.Name x pos') i pos2] e X.env = pure none := by rfl)
    (h1 : (assignEach [.Subscript (.Name x pos') i pos2] X.env).map (·.2) = [assign (.Subscript (.Name x pos') i pos2) X.env] := by rfl) : SS X (.Assign [.Subscript (.Name x pos') i pos2] e pos) (dSub n f h) := (ps_asg he (pg_sub (pe_var hN hv hd hcd) hi set_list ha) hs hw h1).imp fun D σ H ⟨π, G, Γ, o, E, ef, q⟩ => by
  unfold dSub at ef
  cases e1 : f Γ with
  | none => rw [e1] at ef; cases ef
  | some z =>
    obtain ⟨v, Γ1⟩ := z
    rw [e1] at ef
    dsimp only at ef
    cases e2 : lstAt n Γ1 with
    | none => rw [e2] at ef; cases ef
    | some kc =>
      rw [e2] at ef
      dsimp only at ef
      cases e3 : h Γ1 with
      | none => rw [e3] at ef; cases ef
      | some z2 =>
        obtain ⟨iv, Γ2⟩ := z2
        rw [e3] at ef
        dsimp only at ef
        cases e4 : lstAt n Γ2 with
        | none => rw [e4] at ef; cases ef
        | some kc2 =>
          obtain ⟨k2, c2⟩ := kc2
          obtain ⟨k1, c1⟩ := kc
          rw [e4] at ef
          dsimp only at ef
          obtain ⟨c', e5, rfl⟩ := Option.map_eq_some_iff.mp ef
          obtain ⟨s1, n1⟩ := lstAt_some e2
          obtain ⟨s2, n2⟩ := lstAt_some e4
          refine ⟨π, G, Γ, v, Γ1, E, e1, fun u G1 H1 S r => ?_⟩
          obtain ⟨b, q1, q2, ⟨us, q3, q3'⟩, q4⟩ := S.e.mu n _ _ s1
          refine ⟨_, q1, π, G1, Γ1, iv, Γ2, S.e, e3, fun w G2 H2 S2 r2 => ?_⟩
          obtain ⟨b', p1, p2, ⟨us2, p3, p3'⟩, p4⟩ := S2.e.mu n _ _ s2
          rw [q1] at p1
          cases p1
          unfold gSetL at e5
          split at e5
          · rename_i kk
            obtain ⟨j, e6, rfl⟩ := Option.map_eq_some_iff.mp e5
            obtain ⟨gw, sw⟩ := gr_write (o := .lst (us2.set j u)) S2.e.sub p2 ⟨_, p3, nc_lst _⟩
            refine ⟨b, us2, kk, j, rfl, r2, p3, by rw [p3'.length]; exact e6, ?_⟩
            exact q σ G2 _ ((S.trans S2).trans (slot_put (p' := .lst (c2.set j v)) S2.e s2 n2 q1 gw sw p2 ⟨_, upd_same, p3'.set j (r.mono S2.g.g)⟩)).sts
          · cases e5
/-- name op= e -/
@[simp] def dAug (i : Nat) (g : PV → PV → Option PV) (f : D PV) (Γ : Ev) : Option Out := match Γ[i]? with
  | some (.val x) => match f Γ with
    | some (y, Γ1) => (g x y).map fun z => Out.nx (Γ1.set i (.val z))
    | none => none
  | _ => none
theorem ss_aug (i : Nat) {x : Str} {pos' : Pos} {op : Operator} {r : R2} {g : PV → PV → Option PV} (hN : X.N.Nodup) (ho : OpR X (inplaceOp op) r) (hg : OpV X.K r g) (he : SV X e f) (hi : X.N[i]? = some x := by rfl) (hx : Loc X.env.scope x := by first | exact Or.inl rfl | exact Or.inr rfl)
    (hf : X.fn x = true ∨ X.env.scope.names.lookup x = some .local := by first | exact .inl rfl | exact .inr rfl | assumption) : SS X (.AugAssign (.Name x pos') op e pos) (dAug i g f) := (ps_aug (ti := r) hN hi hx he (fun pins s σ H x y v u Q I r1 r2 h => ho pins s σ H x y v u Q I r1 r2 h) hf).imp fun D σ H ⟨π, G, Γ, o, E, ef, q⟩ => by
  unfold dAug at ef
  split at ef
  · rename_i x0 ex
    obtain ⟨v, h1, h2⟩ := E.val i _ ex
    cases e1 : f Γ with
    | none => rw [e1] at ef; cases ef
    | some z =>
      obtain ⟨y, Γ1⟩ := z
      rw [e1] at ef
      obtain ⟨z, e2, rfl⟩ := Option.map_eq_some_iff.mp ef
      refine ⟨v, h1, π, G, Γ, y, Γ1, E, e1, fun u G1 H1 S r => hg v u x0 y z G1 H1 _ S.e.sub (h2.mono S.g.g) r e2 fun w G2 H2 g2 s2 r2 => ?_⟩
      have S2 := S.trans (.grow S.e g2 s2)
      exact q _ G2 H2 (S2.sts.trans (sts_val S2.e i r2))
  · cases ef
theorem ss_augAdd (i : Nat) {x : Str} {pos' : Pos} (hN : X.N.Nodup) (he : SV X e f) (hi : X.N[i]? = some x := by rfl) (hx : Loc X.env.scope x := by first | exact Or.inl rfl | exact Or.inr rfl)
    (hf : X.fn x = true ∨ X.env.scope.names.lookup x = some .local := by first | exact .inl rfl | exact .inr rfl | assumption) : SS X (.AugAssign (.Name x pos') .Add e pos) (dAug i (gI fun i j => some (.int (i + j))) f) := ss_aug i hN iop_add (ov_int0 fun _ _ _ e => some_rep e) he hi hx hf
theorem ss_augSub (i : Nat) {x : Str} {pos' : Pos} (hN : X.N.Nodup) (he : SV X e f) (hi : X.N[i]? = some x := by rfl) (hx : Loc X.env.scope x := by first | exact Or.inl rfl | exact Or.inr rfl)
    (hf : X.fn x = true ∨ X.env.scope.names.lookup x = some .local := by first | exact .inl rfl | exact .inr rfl | assumption) : SS X (.AugAssign (.Name x pos') .Sub e pos) (dAug i gSub f) := ss_aug i hN iop_sub ov_sub he hi hx hf
/-! ### loops -/
def loopD (step : PV → DS) : List PV → DS
  | [], Γ => some (.nx Γ)
  | x :: xs, Γ => match step x Γ with
    | some (.nx Γ1) => loopD step xs Γ1
    | some (.ct Γ1) => loopD step xs Γ1
    | some (.bk Γ1) => some (.nx Γ1)
    | some (.rt r Γ1) => some (.rt r Γ1)
    | none => none
@[simp] def dTurn (g : PV → Ev → Option Ev) (d : DS) (x : PV) (Γ : Ev) : Option Out := match g x Γ with
  | some Γ1 => d Γ1
  | none => none
@[simp] def dFor (it : D (List PV)) (g : PV → Ev → Option Ev) (d : DS) (Γ : Ev) : Option Out := match it Γ with
  | some (xs, Γ1) => loopD (dTurn g d) xs Γ1
  | none => none
theorem ss_for {tg iter : Expr} {body : List Stmt} {it : D (List PV)} {g : PV → Ev → Option Ev} {ws : List Nat} (hp : PassesOwn (model X.prog X.w) X.A X.env X.xe) (hc : X.calm = true) (hi : SI X tg iter it) (hg : SG X tg ws g) (hb : SSs X body d)
    (hs : ∀ x, foldedSetIterable iter X.env x = pure x := by intro _; rfl) : SS X (.For tg iter body [] pos) (dFor it g d) := (ps_for hp hc hi hg hb hs).imp fun D σ H ⟨π, G, Γ, o, E, ef, q⟩ => by
  unfold dFor at ef
  cases e1 : it Γ with
  | none => rw [e1] at ef; cases ef
  | some z =>
    obtain ⟨xs, Γ1⟩ := z
    rw [e1] at ef
    refine ⟨π, G, Γ, xs, Γ1, E, e1, fun J G1 H1 S wk => ?_⟩
    refine ⟨fun i m σ2 H2 => m = xs.length - i ∧ i ≤ xs.length ∧ ∃ G2 Γ2, Sts X.K π σ G H Γ σ2 G2 H2 Γ2 ∧ Same G1 G2 ∧ loopD (dTurn g d) (xs.drop i) Γ2 = some o, ⟨xs.length, rfl, Nat.zero_le _, G1, Γ1, S.sts, Same.refl _, ef⟩, ?_⟩
    rintro i m σ2 H2 ⟨rfl, hi, G2, Γ2, S2, sm, el⟩
    by_cases hlt : i < xs.length
    · refine .inr ⟨wk.go i H2 hlt (sm.trans S2.e.sub) trivial, ?_⟩
      have hd : xs.drop i = xs[i] :: xs.drop (i + 1) := List.drop_eq_getElem_cons hlt
      rw [hd] at el
      -- what the turn's denotation gives
      unfold loopD at el
      refine ⟨fun σ3 H3 => ∃ G3 Γ3, Sts X.K π σ G H Γ σ3 G3 H3 Γ3 ∧ Same G1 G3 ∧ loopD (dTurn g d) (xs.drop (i + 1)) Γ3 = some o, fun σ3 H3 ⟨G3, Γ3, S3, sm3, el3⟩ => ⟨xs.length - (i + 1), by omega, rfl, hlt, G3, Γ3, S3, sm3, el3⟩, fun x H3 hy => ?_⟩
      obtain ⟨G3, g3, s3, r3⟩ := wk.yld i H2 x H3 xs[i] (List.getElem?_eq_getElem hlt) (sm.trans S2.e.sub) trivial hy G2 sm S2.e.sub
      have S3 := S2.trans (Ste.grow S2.e g3 s3).sts
      unfold dTurn at el
      cases eg : g xs[i] Γ2 with
      | none =>
        rw [eg] at el
        cases el
      | some Γ4 =>
        rw [eg] at el
        refine ⟨π, G3, Γ2, xs[i], Γ4, S3.e, r3, eg, fun σ4 T4 _ => ?_⟩
        have S4 := S3.trans T4
        cases ed : d Γ4 with
        | none =>
          simp only [ed] at el
          cases el
        | some od =>
          simp only [ed] at el
          refine ⟨π, G3, Γ4, od, S4.e, ed, ?_⟩
          have sm4 : Same G1 G3 := sm.trans g3.g
          cases od with
          | nx Γ5 => exact fun σ5 G5 H5 S5 => ⟨G5, Γ5, S4.trans S5, sm4.trans S5.g.g, el⟩
          | ct Γ5 => exact fun σ5 G5 H5 S5 => ⟨G5, Γ5, S4.trans S5, sm4.trans S5.g.g, el⟩
          | bk Γ5 =>
            cases el
            exact fun σ5 G5 H5 S5 => q σ5 G5 H5 (S4.trans S5)
          | rt r Γ5 =>
            cases el
            exact fun x σ5 G5 H5 S5 rr => q x σ5 G5 H5 (S4.trans S5) (RR_mono rr fun a z => Okr_back S4 z)
    · have e : i = xs.length := by omega
      subst e
      refine .inl ⟨wk.stop H2 (sm.trans S2.e.sub) trivial, ?_⟩
      rw [List.drop_length] at el
      cases el
      exact q σ2 G2 H2 S2
/-- while, with so many turns at most -/
def whileD (c : D Bool) (d : DS) : Nat → DS
  | 0, _ => none
  | n + 1, Γ => match c Γ with
    | some (b, Γ1) => if b = true then match d Γ1 with
      | some (.nx Γ2) => whileD c d n Γ2
      | some (.ct Γ2) => whileD c d n Γ2
      | some (.bk Γ2) => some (.nx Γ2)
      | some (.rt r Γ2) => some (.rt r Γ2)
      | none => none
      else some (.nx Γ1)
    | none => none
theorem ss_while (n : Nat) {body : List Stmt} (hp : PassesOwn (model X.prog X.w) X.A X.env X.xe) (hc : SB X c tf) (hb : SSs X body d) : SS X (.While c body [] pos) (whileD tf d n) := (ps_while hp hc hb).imp fun D σ H ⟨π, G, Γ, o, E, ef, q⟩ => by
  refine ⟨fun m σ2 H2 => ∃ G2 Γ2, Sts X.K π σ G H Γ σ2 G2 H2 Γ2 ∧ whileD tf d m Γ2 = some o, ⟨n, G, Γ, .refl E, ef⟩, ?_⟩
  rintro m σ2 H2 ⟨G2, Γ2, S2, el⟩
  cases m with
  | zero => cases el
  | succ m =>
    unfold whileD at el
    cases ec : tf Γ2 with
    | none =>
      rw [ec] at el
      cases el
    | some z =>
      obtain ⟨b, Γ3⟩ := z
      rw [ec] at el
      dsimp only at el
      refine ⟨π, G2, Γ2, b, Γ3, S2.e, ec, fun G3 H3 S3' => ?_⟩
      have S3 := S2.trans S3'.sts
      cases b with
      | false =>
        rw [if_neg Bool.false_ne_true] at el
        cases el
        exact iteF (q σ2 G3 H3 S3)
      | true =>
        rw [if_pos rfl] at el
        refine iteT ⟨fun σ4 H4 => ∃ G4 Γ4, Sts X.K π σ G H Γ σ4 G4 H4 Γ4 ∧ whileD tf d m Γ4 = some o, fun σ4 H4 ⟨G4, Γ4, S4, el4⟩ => ⟨m, Nat.lt_succ_self _, G4, Γ4, S4, el4⟩, ?_⟩
        cases ed : d Γ3 with
        | none =>
          simp only [ed] at el
          cases el
        | some od =>
          simp only [ed] at el
          refine ⟨π, G3, Γ3, od, S3.e, ed, ?_⟩
          cases od with
          | nx Γ5 => exact fun σ5 G5 H5 S5 => ⟨G5, Γ5, S3.trans S5, el⟩
          | ct Γ5 => exact fun σ5 G5 H5 S5 => ⟨G5, Γ5, S3.trans S5, el⟩
          | bk Γ5 =>
            cases el
            exact fun σ5 G5 H5 S5 => q σ5 G5 H5 (S3.trans S5)
          | rt r Γ5 =>
            cases el
            exact fun x σ5 G5 H5 S5 rr => q x σ5 G5 H5 (S3.trans S5) (RR_mono rr fun a z => Okr_back S3 z)
end
end
section
variable [Fx]
/-! ### comprehensions -/
@[simp] def wipeE (Γ : Ev) : List Nat → Ev
  | [] => Γ
  | v :: vs => (wipeE Γ vs).set v .un
/-- the slots of vs as they were -/
@[simp] def back (Γ Γ' : Ev) : List Nat → Ev
  | [] => Γ'
  | v :: vs => (back Γ Γ' vs).set v (Γ.getD v .un)
def compL (vs : List Nat) (g : PV → Ev → Option Ev) (t : D Bool) (e : D PV) : List PV → Ev → Option (List PV × Ev)
  | [], Γ => some ([], Γ)
  | x :: xs, Γ => match g x Γ with
    | some Γ1 => match t Γ1 with
      | some (b, Γ2) => if b = true then match e Γ2 with
        | some (y, Γ3) => match compL vs g t e xs (wipeE Γ3 vs) with
          | some (ys, Γ4) => some (y :: ys, Γ4)
          | none => none
        | none => none
        else compL vs g t e xs (wipeE Γ2 vs)
      | none => none
    | none => none
theorem wipeE_length (Γ : Ev) : ∀ vs, (wipeE Γ vs).length = Γ.length
  | [] => rfl
  | v :: vs => by
    unfold wipeE
    rw [List.length_set, wipeE_length Γ vs]
theorem back_length (Γ Γ' : Ev) : ∀ vs, (back Γ Γ' vs).length = Γ'.length
  | [] => rfl
  | v :: vs => by
    unfold back
    rw [List.length_set, back_length Γ Γ' vs]
theorem wipeE_get {Γ : Ev} {i : Nat} {s : Sl} : ∀ {vs : List Nat}, (wipeE Γ vs)[i]? = some s → s = .un ∨ (Γ[i]? = some s ∧ i ∉ vs)
  | [], h => .inr ⟨h, by simp⟩
  | v :: vs, h => by
    rcases set_get h with ⟨rfl, z⟩ | ⟨n, z⟩
    · exact .inl z.symm
    · rcases wipeE_get z with z | ⟨z1, z2⟩
      · exact .inl z
      · exact .inr ⟨z1, by simp only [List.mem_cons, not_or]; exact ⟨Ne.symm n, z2⟩⟩
theorem back_get {Γ Γ' : Ev} {i : Nat} {s : Sl} : ∀ {vs : List Nat}, (back Γ Γ' vs)[i]? = some s → (i ∈ vs ∧ (s = .un ∨ Γ[i]? = some s)) ∨ (i ∉ vs ∧ Γ'[i]? = some s)
  | [], h => .inr ⟨by simp, h⟩
  | v :: vs, h => by
    rcases set_get h with ⟨rfl, z⟩ | ⟨n, z⟩
    · refine .inl ⟨List.mem_cons_self, ?_⟩
      subst z
      unfold List.getD
      cases e : Γ[v]? with
      | none => exact .inl rfl
      | some x => exact .inr rfl
    · rcases back_get z with ⟨z1, z2⟩ | ⟨z1, z2⟩
      · exact .inl ⟨List.mem_cons_of_mem _ z1, z2⟩
      · exact .inr ⟨by simp only [List.mem_cons, not_or]; exact ⟨Ne.symm n, z1⟩, z2⟩
section
variable {K : PySem.W.Frag} {π : Nat → Addr} {σ : St} {G H G1 H1 : Hp} {Γ Γ1 : Ev}
theorem At.wiped {vs : List Nat} {j : Nat} {k : Kd} {b : Addr} (h : At (wipeE Γ vs) (wipe σ vs) j k b) : At Γ σ j k b ∧ j ∉ vs := by
  obtain ⟨q, e1, e2⟩ := h
  rcases wipeE_get e1 with z | ⟨z, n⟩
  · cases z
  · rw [wipe_out n] at e2
    exact ⟨⟨q, z, e2⟩, n⟩
theorem ER.wiped (E : ER K π G σ H Γ) (vs : List Nat) : ER K π G (wipe σ vs) H (wipeE Γ vs) := by
  refine ⟨E.sub, by rw [wipeE_length, wipe_length]; exact E.len, fun j q e => ?_, fun j k q e => ?_, fun j l k k' b z1 z2 => E.inj j l k k' b (At.wiped z1).1 (At.wiped z2).1, E.tabs, fun j k m e => ?_⟩
  · rcases wipeE_get e with z | ⟨z, n⟩
    · cases z
    · rw [wipe_out n]
      exact E.val j q z
  · rcases wipeE_get e with z | ⟨z, n⟩
    · cases z
    · rw [wipe_out n]
      exact E.mu j k q z
  · rcases wipeE_get e with z | ⟨z, n⟩
    · cases z
    · rw [wipe_out n]
      exact E.fn j k m z
/-- behind a block: E ahead of it; S within it, from the block's own first slots Γw -/
theorem block_back {vs rs : List Nat} {Γw : Ev} (E : ER K π G σ H Γ) (hr : ∀ v ∈ vs, v ∈ rs) (S : Ste K π (wipe σ vs) G H Γw G1 H1 Γ1)
    (hw : ∀ j k a, At Γw (wipe σ vs) j k a → ∃ k', At Γ σ j k' a ∧ j ∉ vs ∧ (k = k' ∨ j ∈ rs)) (hl : ∀ j k a, At Γ σ j k a → j ∈ rs → ¬ Foot Γw (wipe σ vs) a) (hf : ∀ a, Foot Γw (wipe σ vs) a → Foot Γ σ a) :
    Ste K π σ G H Γ G1 H1 (back Γ Γ1 rs) := by
  have at' : ∀ j k b, At (back Γ Γ1 rs) σ j k b → At Γ σ j k b := fun j k b ⟨q, e1, e2⟩ => by
    rcases back_get e1 with ⟨n, z | z⟩ | ⟨n, z⟩
    · cases z
    · exact ⟨q, z, e2⟩
    · have h1 : At Γ1 (wipe σ vs) j k b := ⟨q, z, by rw [wipe_out fun m => n (hr j m)]; exact e2⟩
      obtain ⟨k', h2, _, h3⟩ := hw j k b (S.f j k b h1)
      rcases h3 with rfl | h3
      · exact h2
      · exact absurd h3 n
  refine ⟨⟨S.e.sub, by rw [back_length, S.e.len, wipe_length], fun j q e => ?_, fun j k q e => ?_, fun j l k k' b z1 z2 => E.inj j l k k' b (at' j k b z1) (at' l k' b z2), S.e.tabs, fun j k m e => ?_⟩, S.g.mono hf, at'⟩
  · rcases back_get e with ⟨n, z | z⟩ | ⟨n, z⟩
    · cases z
    · obtain ⟨v, h1, h2⟩ := E.val j q z
      exact ⟨v, h1, h2.mono S.g.g⟩
    · obtain ⟨v, h1, h2⟩ := S.e.val j q z
      rw [wipe_out fun m => n (hr j m)] at h1
      exact ⟨v, h1, h2⟩
  · rcases back_get e with ⟨n, z | z⟩ | ⟨n, z⟩
    · cases z
    · obtain ⟨a, h1, h2, h3, h4⟩ := E.mu j k q z
      have na := hl j k a ⟨q, z, h1⟩ n
      obtain ⟨o, ho, nc⟩ := h3.thereN
      exact ⟨a, h1, S.g.f a o ho na nc h2, h3.mono S.g.g (by rw [S.g.h a o ho na nc.1, ho]), h4⟩
    · obtain ⟨a, h1, h2, h3, h4⟩ := S.e.mu j k q z
      rw [wipe_out fun m => n (hr j m)] at h1
      exact ⟨a, h1, h2, h3, h4⟩
  · rcases back_get e with ⟨n, z | z⟩ | ⟨n, z⟩
    · cases z
    · obtain ⟨f, h1, h2⟩ := E.fn j k m z
      exact ⟨f, h1, h2.mono S.g.g⟩
    · obtain ⟨f, h1, h2⟩ := S.e.fn j k m z
      rw [wipe_out fun m => n (hr j m)] at h1
      exact ⟨f, h1, h2⟩
/-- the turns of a comprehension -/
theorem comp_turns {J : It} {C : Hp → Prop} {vs ws : List Nat} {g : PV → Ev → Option Ev} {t : D Bool} {e : D PV} {σw : St} {Γw Γ2 : Ev} {ps ys : List PV} {Dd : Addr} {Q : VK} (hσ : σw = wipe σ vs) (hws : ∀ w ∈ ws, w ∈ vs)
    (E : ER K π G σw H Γw) (wk : Wk K J G C ps) (hC : ∀ H' G', Gr (Foot Γw σw) G H G' H' → C H') (hz : ps.length ≤ 1000000) (hD : H Dd = none) (ec : compL vs g t e ps Γw = some (ys, Γ2))
    (q : ∀ G' H' us, Ste K π σw G H Γw G' H' Γ2 → G' Dd = none → H' Dd = some (.lst us) → Reps K G' us ys → Q (.ref Dd) H') :
    ∃ W : Nat → Nat → Hp → Prop, (∃ m, W 0 m (upd H Dd (.lst []))) ∧ ∀ i m H, W i m H →
      (J.stop i H ∧ Q (.ref Dd) H) ∨ (J.go i H ∧ ∃ Nx : Hp → Prop, (∀ H', Nx H' → ∃ m', m' < m ∧ W (i + 1) m' H') ∧ ∀ x H', J.yld i H x H' → tG K ws g x (wipe σ vs) H' fun σ2 H2 => wipe σ2 vs = wipe σ vs ∧ tB K t σ2 H2 fun b H3 =>
        if b = true then tV K e σ2 H3 fun y H4 => ∃ acc, H4 Dd = some (.lst acc) ∧ acc.length < sizeLine ∧ Nx (upd H4 Dd (.lst (acc ++ [y]))) else Nx H3) := by
  subst hσ
  obtain ⟨g0, s0, d0⟩ := gr_made (F := fun _ => False) (o := .lst []) E.sub hD
  refine ⟨fun i m H' => m = ps.length - i ∧ i ≤ ps.length ∧ ∃ G' Γ' acc us zs, Ste K π (wipe σ vs) G H Γw G' H' Γ' ∧ G' Dd = none ∧ H' Dd = some (.lst us) ∧ Reps K G' us acc ∧ acc.length ≤ i ∧ compL vs g t e (ps.drop i) Γ' = some (zs, Γ2) ∧ acc ++ zs = ys,
    ⟨ps.length, rfl, Nat.zero_le _, G, Γw, [], [], ys, .grow E g0 s0, d0, upd_same, .nil, Nat.le_refl _, ec, rfl⟩, ?_⟩
  rintro i m H' ⟨rfl, hi, G', Γ', acc, us, zs, S, gd, hd, hr, hacc, el, ea⟩
  have cH := hC H' G' S.g
  by_cases hlt : i < ps.length
  · refine .inr ⟨wk.go i H' hlt (S.g.g.trans S.e.sub) cH, ?_⟩
    rw [List.drop_eq_getElem_cons hlt] at el
    unfold compL at el
    refine ⟨fun H3 => ∃ G3 Γ3 acc3 us3 zs3, Ste K π (wipe σ vs) G H Γw G3 H3 Γ3 ∧ G3 Dd = none ∧ H3 Dd = some (.lst us3) ∧ Reps K G3 us3 acc3 ∧ acc3.length ≤ i + 1 ∧ compL vs g t e (ps.drop (i + 1)) Γ3 = some (zs3, Γ2) ∧ acc3 ++ zs3 = ys,
      fun H3 ⟨G3, Γ3, acc3, us3, zs3, h⟩ => ⟨ps.length - (i + 1), by omega, rfl, hlt, G3, Γ3, acc3, us3, zs3, h⟩, fun x H3 hy => ?_⟩
    obtain ⟨G3, g3, s3, r3⟩ := wk.yld i H' x H3 ps[i] (List.getElem?_eq_getElem hlt) (S.g.g.trans S.e.sub) cH hy G' S.g.g S.e.sub
    have S3 := S.trans (.grow S.e g3 s3)
    have d3 : G3 Dd = none := g3.f Dd _ hd (fun z => z) (nc_lst _) gd
    have h3 : H3 Dd = some (.lst us) := g3.h Dd _ hd (fun z => z) trivial
    have r3' := hr.mono g3.g
    cases eg : g ps[i] Γ' with
    | none => rw [eg] at el; cases el
    | some Γ4 =>
      rw [eg] at el
      refine ⟨π, G3, Γ', ps[i], Γ4, S3.e, r3, eg, fun σ4 T4 w4 => ?_⟩
      have hw := w4 vs hws
      have hww : wipe (wipe σ vs) vs = wipe σ vs := by
        have aux : ∀ us : List Nat, (∀ u ∈ us, u ∈ vs) → wipe (wipe σ us) vs = wipe σ vs := fun us => by
          induction us with
          | nil => intro _; rfl
          | cons u us ih =>
            intro h
            show wipe ((wipe σ us).set u none) vs = wipe σ vs
            rw [wipe_set (h u List.mem_cons_self)]
            exact ih fun w hw => h w (List.mem_cons_of_mem _ hw)
        exact aux vs fun _ h => h
      refine ⟨hw.trans hww, ?_⟩
      -- no slot of a target is an object
      have noAt : ∀ j k a, At Γ4 σ4 j k a → At Γ' (wipe σ vs) j k a := fun j k a h => by
        rcases T4.f j k a h with z | ⟨_, z⟩
        · exact z
        · obtain ⟨_, o, e⟩ := T4.e.foot h
          rw [z] at e
          cases e
      have footD : ∀ j k, ¬ At Γ4 σ4 j k Dd := fun j k z => by
        obtain ⟨_, o, e⟩ := E.foot (S.f j k Dd (noAt j k Dd z))
        rw [hD] at e
        cases e
      have toW : ∀ {G5 H5 : Hp} {Γ5 : Ev}, Ste K π σ4 G3 H3 Γ4 G5 H5 Γ5 → Ste K π (wipe σ vs) G3 H3 Γ' G5 H5 (wipeE Γ5 vs) := fun {G5 H5 Γ5} S5 => by
        refine ⟨?_, S5.g.mono fun a ⟨j, k, n, z⟩ => ⟨j, k, n, noAt j k a z⟩, fun j k a z => ?_⟩
        · have := S5.e.wiped vs
          rw [hw.trans hww] at this
          exact this
        · have z' : At (wipeE Γ5 vs) (wipe σ4 vs) j k a := by
            rw [hw.trans hww]
            exact z
          exact noAt j k a (S5.f j k a (At.wiped z').1)
      cases et : t Γ4 with
      | none => simp only [et] at el; cases el
      | some z =>
        obtain ⟨b, Γ5⟩ := z
        simp only [et] at el
        refine ⟨π, G3, Γ4, b, Γ5, T4.e, et, fun G5 H5 S5 => ?_⟩
        have d5 : G5 Dd = none := S5.g.f Dd _ h3 (fun ⟨j, k, n, z⟩ => footD j k z) (nc_lst _) d3
        have h5 : H5 Dd = some (.lst us) := S5.g.h Dd _ h3 (fun ⟨j, k, n, z⟩ => footD j k z) trivial
        cases b with
        | false =>
          rw [if_neg Bool.false_ne_true] at el
          exact iteF ⟨G5, _, acc, us, zs, S3.trans (toW S5), d5, h5, r3'.mono S5.g.g, by omega, el, ea⟩
        | true =>
          rw [if_pos rfl] at el
          refine iteT ?_
          cases ee : e Γ5 with
          | none => simp only [ee] at el; cases el
          | some z =>
            obtain ⟨y, Γ6⟩ := z
            simp only [ee] at el
            refine ⟨π, G5, Γ5, y, Γ6, S5.e, ee, fun v G6 H6 S6 r6 => ?_⟩
            have S56 := S5.trans S6
            have d6 : G6 Dd = none := S56.g.f Dd _ h3 (fun ⟨j, k, n, z⟩ => footD j k z) (nc_lst _) d3
            have h6 : H6 Dd = some (.lst us) := S56.g.h Dd _ h3 (fun ⟨j, k, n, z⟩ => footD j k z) trivial
            have ru := r3'.mono S56.g.g
            have lm := line_m
            have ll := ru.length
            refine ⟨us, h6, by omega, ?_⟩
            cases ec : compL vs g t e (ps.drop (i + 1)) (wipeE Γ6 vs) with
            | none => simp only [ec] at el; cases el
            | some z =>
              obtain ⟨zs', Γ7⟩ := z
              simp only [ec] at el
              cases el
              have S7 := S3.trans (toW S56)
              obtain ⟨gw, sw⟩ := gr_write (o := .lst (us ++ [v])) S7.e.sub d6 ⟨_, h6, nc_lst _⟩
              refine ⟨G6, _, acc ++ [y], us ++ [v], zs', ⟨S7.e.grow gw sw fun a j k z w => ?_, S7.g.trans gw fun a z => .inr (z ▸ hD), S7.f⟩, d6, upd_same, ru.append (.one r6), by simp; omega, ec, by rw [List.append_assoc]; exact ea⟩
              subst w
              obtain ⟨_, o, e⟩ := E.foot (S7.f j k a z)
              rw [hD] at e
              cases e
  · have e : i = ps.length := by omega
    subst e
    rw [List.drop_length] at el
    cases el
    rw [List.append_nil] at ea
    subst ea
    exact .inl ⟨wk.stop H' (S.g.g.trans S.e.sub) cH, q G' H' us S gd hd hr⟩
end
@[simp] def dComp (vs : List Nat) (it : D (List PV)) (g : PV → Ev → Option Ev) (t : D Bool) (e : D PV) (Γ : Ev) : Option (Rs × Ev) := match it Γ with
  | some (ps, Γ1) => if fits ps.length = true then match compL vs g t e ps (wipeE Γ1 vs) with
    | some (ys, Γ2) => some (.new (.lst ys), back Γ1 Γ2 vs)
    | none => none
    else none
  | none => none
@[simp] def dYes (Γ : Ev) : Option (Bool × Ev) := (ret true) Γ
section
variable {X : Cx} {pos p : Pos} {tg iter elt : Expr} {ifs : List Expr} {scope : Scope} {own : List (Str × Nat)} {it : D (List PV)} {g : PV → Ev → Option Ev} {ws : List Nat} {t : D Bool} {e : D PV}
abbrev SIf (X : Cx) (ifs : List Expr) (t : D Bool) : Prop := PTs X ifs (tB X.K t)
theorem sif_nil : SIf X [] dYes := ⟨fun pins s σ H Q I ⟨π, G, Γ, b, Γ', E, ef, q⟩ => by
  cases ef
  exact pts_nil.run pins s σ H Q I (show tYes σ H Q from q G H (.refl E))⟩
theorem sif_one {c : Expr} (h : SB X c t) : SIf X [c] t := pts_one h
theorem t_comp {K : PySem.W.Frag} (hws : ∀ w ∈ ws, w ∈ own.map (·.2)) {σ : St} {H : Hp} {Q : VK} (tt : tR K (dComp (own.map (·.2)) it g t e) σ H Q) : tLc (tI K it) (tG K ws g) (tB K t) (tV K e) (own.map (·.2)) σ H Q := by
  obtain ⟨π, G, Γ, r, Γ', E, ef, q⟩ := tt
  unfold dComp at ef
  cases e1 : it Γ with
  | none => rw [e1] at ef; cases ef
  | some z =>
    obtain ⟨ps, Γ1⟩ := z
    rw [e1] at ef
    dsimp only at ef
    split at ef
    · rename_i hz
      have hz := of_fits hz
      cases e2 : compL (own.map (·.2)) g t e ps (wipeE Γ1 (own.map (·.2))) with
      | none => rw [e2] at ef; cases ef
      | some z =>
        obtain ⟨ys, Γ2⟩ := z
        rw [e2] at ef
        cases ef
        refine ⟨π, G, Γ, ps, Γ1, E, e1, fun J G1 H1 S wk Dd hD => ?_⟩
        refine comp_turns rfl hws (S.e.wiped _) wk (fun _ _ _ => trivial) hz hD e2 fun G2 H2 us S2 gd hd r => ?_
        have B := block_back (rs := own.map (·.2)) S.e (fun _ h => h) S2 (fun j k a z => ⟨k, (At.wiped z).1, (At.wiped z).2, .inl rfl⟩) (fun j k a z hj ⟨i, k', n, w⟩ => by
          obtain ⟨w1, w2⟩ := At.wiped w
          exact w2 (S.e.inj j i k k' a z w1 ▸ hj)) fun a ⟨i, k', n, w⟩ => ⟨i, k', n, (At.wiped w).1⟩
        exact q _ G2 H2 (S.trans B) ⟨Dd, rfl, S.g.nothing hD, gd, us, hd, r⟩
    · cases ef
theorem sr_comp (hc : X.calm = true) (hN : X.N.Nodup) (hi : SI X tg iter it) (ok : blkC X.N X.env.scope scope own = true) (hws : ∀ w ∈ ws, w ∈ own.map (·.2))
    (hg : ∀ (s : Shared) (H : Hp) (C : Addr) (cl : List (Str × Addr)) (fp : List Addr), SG (X.blk s H scope (compEnvC scope cl C X.env) fp) tg ws g) (ht : ∀ (s : Shared) (H : Hp) (C : Addr) (cl : List (Str × Addr)) (fp : List Addr), SIf (X.blk s H scope (compEnvC scope cl C X.env) fp) ifs t)
    (he : ∀ (s : Shared) (H : Hp) (C : Addr) (cl : List (Str × Addr)) (fp : List Addr), SV (X.blk s H scope (compEnvC scope cl C X.env) fp) elt e) (hs : ∀ x, foldedSetIterable iter X.env x = pure x := by intro _; rfl) :
    SR X (.ListComp elt [⟨tg, iter, ifs, 0⟩] scope pos) (dComp (own.map (·.2)) it g t e) := (pe_lc hc hN hi (blkOk_by ok) hg ht he hs).imp fun _ _ _ tt => t_comp hws tt
/-- name = [..] -/
theorem ss_setLc (i : Nat) {y : Str} {py spos : Pos} (hc : X.calm = true) (hN : X.N.Nodup) (hsw : swapsWith (.ListComp elt [⟨tg, iter, ifs, 0⟩] scope pos) (some (.Name y py)) spos.line X.env = pure true) (hi : SI X tg iter it) (ok : blkC X.N X.env.scope scope own = true) (hws : ∀ w ∈ ws, w ∈ own.map (·.2))
    (hg : ∀ (s : Shared) (H : Hp) (C : Addr) (cl : List (Str × Addr)) (fp : List Addr), SG (X.blk s H scope (compEnvC scope cl C X.env) fp) tg ws g) (ht : ∀ (s : Shared) (H : Hp) (C : Addr) (cl : List (Str × Addr)) (fp : List Addr), SIf (X.blk s H scope (compEnvC scope cl C X.env) fp) ifs t)
    (he : ∀ (s : Shared) (H : Hp) (C : Addr) (cl : List (Str × Addr)) (fp : List Addr), SV (X.blk s H scope (compEnvC scope cl C X.env) fp) elt e) (hy : X.N[i]? = some y := by rfl) (hyl : X.env.scope.names.lookup y = some .local := by rfl) (hs : ∀ x, foldedSetIterable iter X.env x = pure x := by intro _; rfl) :
    SS X (.Assign [.Name y py] (.ListComp elt [⟨tg, iter, ifs, 0⟩] scope pos) spos) (dSet i (dComp (own.map (·.2)) it g t e)) := (ps_setLc hc hN hy hyl hsw hi (blkOk_by ok) hg ht he hs).imp fun D σ H tt => by
  have h := t_set tt
  -- the reading with the comprehension's own
  obtain ⟨π, G, Γ, r, Γ', E, ef, q⟩ := (show tR X.K (dComp (own.map (·.2)) it g t e) σ H (fun x H1 => gName i x σ H1 D.nx) from h)
  exact t_comp (Q := fun x H1 => gName i x σ H1 D.nx) hws ⟨π, G, Γ, r, Γ', E, ef, q⟩
end
/-! ### a comprehension over the list in a slot -/
@[simp] def dCompN (i : Nat) (vs : List Nat) (g : PV → Ev → Option Ev) (t : D Bool) (e : D PV) (Γ : Ev) : Option (Rs × Ev) := match Γ[i]? with
  | some (.mu k (.lst ps)) => if i ∉ vs ∧ fits ps.length = true then match compL vs g t e ps (wipeE (Γ.set i (.mu .lck (.lst ps))) vs) with
    | some (ys, Γ2) => some (.new (.lst ys), back Γ Γ2 (i :: vs))
    | none => none
    else none
  | some (.val (.lst ps)) => if fits ps.length = true then match compL vs g t e ps (wipeE Γ vs) with
    | some (ys, Γ2) => some (.new (.lst ys), back Γ Γ2 vs)
    | none => none
    else none
  | _ => none
section
variable {X : Cx} {pos p : Pos} {tg iter elt : Expr} {ifs : List Expr} {scope : Scope} {own : List (Str × Nat)} {it : D (List PV)} {g : PV → Ev → Option Ev} {ws : List Nat} {t : D Bool} {e : D PV}
theorem t_compN {K : PySem.W.Frag} (i : Nat) (hws : ∀ w ∈ ws, w ∈ own.map (·.2)) {σ : St} {H : Hp} {Q : VK} (tt : tR K (dCompN i (own.map (·.2)) g t e) σ H Q) : tLc (iList K (tVar i)) (tG K ws g) (tB K t) (tV K e) (own.map (·.2)) σ H Q := by
  obtain ⟨π, G, Γ, r, Γ', E, ef, q⟩ := tt
  unfold dCompN at ef
  split at ef
  · rename_i k ps ei
    split at ef
    · rename_i hz
      obtain ⟨hni, hz⟩ := hz
      have hz := of_fits hz
      cases e2 : compL (own.map (·.2)) g t e ps (wipeE (Γ.set i (.mu .lck (.lst ps))) (own.map (·.2))) with
      | none => rw [e2] at ef; cases ef
      | some z =>
        obtain ⟨ys, Γ2⟩ := z
        rw [e2] at ef
        cases ef
        obtain ⟨a, h1, h2, ⟨us, h3, h3'⟩, h4⟩ := E.mu i _ _ ei
        have hat : At Γ σ i k a := ⟨_, ei, h1⟩
        refine ⟨.ref a, h1, a, rfl, ⟨us, SqL.of h3⟩, fun Dd hD => ?_⟩
        -- the slot is held
        have at' : ∀ j l b, At (Γ.set i (.mu .lck (.lst ps))) σ j l b → (At Γ σ j l b ∧ j ≠ i) ∨ (j = i ∧ l = .lck ∧ b = a) := fun j l b ⟨q, z1, z2⟩ => by
          rcases set_get z1 with ⟨rfl, z⟩ | ⟨n, z⟩
          · cases z
            rw [h1] at z2
            cases z2
            exact .inr ⟨rfl, rfl, rfl⟩
          · exact .inl ⟨⟨q, z, z2⟩, Ne.symm n⟩
        have toΓ : ∀ j l b, At (Γ.set i (.mu .lck (.lst ps))) σ j l b → ∃ l', At Γ σ j l' b := fun j l b z => by
          rcases at' j l b z with ⟨z, _⟩ | ⟨rfl, _, rfl⟩
          · exact ⟨l, z⟩
          · exact ⟨k, hat⟩
        have E2 : ER K π G σ H (Γ.set i (.mu .lck (.lst ps))) := by
          refine ⟨E.sub, by rw [List.length_set]; exact E.len, fun j q e => ?_, fun j l q e => ?_, fun j m l l' b z1 z2 => ?_, E.tabs, fun j l m e => ?_⟩
          · rcases set_get e with ⟨rfl, z⟩ | ⟨n, z⟩
            · cases z
            · exact E.val j q z
          · rcases set_get e with ⟨rfl, z⟩ | ⟨n, z⟩
            · cases z
              exact ⟨a, h1, h2, ⟨us, h3, h3'⟩, fun z => by cases z⟩
            · exact E.mu j l q z
          · obtain ⟨y1, w1⟩ := toΓ j l b z1
            obtain ⟨y2, w2⟩ := toΓ m l' b z2
            exact E.inj j m y1 y2 b w1 w2
          · rcases set_get e with ⟨rfl, z⟩ | ⟨n, z⟩
            · cases z
            · exact E.fn j l m z
        have nf : ¬ Foot (wipeE (Γ.set i (.mu .lck (.lst ps))) (own.map (·.2))) (wipe σ (own.map (·.2))) a := fun ⟨j, l, n, w⟩ => by
          rcases at' j l a (At.wiped w).1 with ⟨w1, w2⟩ | ⟨_, w2, _⟩
          · exact w2 (E.inj j i l k a w1 hat)
          · exact n w2
        have wk : Wk K (Itl K a) G (fun H' => H' a = some (.lst us)) ps := {
          go := fun n H' hn _ c => by
            obtain ⟨v, ev, _⟩ := h3'.get (List.getElem?_eq_getElem hn)
            exact ⟨us, v, SqL.of c, ev⟩
          stop := fun H' _ c => ⟨us, SqL.of c, by rw [h3'.length]; exact Nat.le_refl _⟩
          yld := fun n H' x H'' p hp _ c y G1 s1 s2 => by
            obtain ⟨ey, y⟩ := y
            subst ey
            obtain ⟨v, ev, rv⟩ := h3'.get hp
            have ey := y us (SqL.of c)
            rw [ev] at ey
            cases ey
            exact ⟨G1, .refl, s2, rv.mono s1⟩ }
        refine comp_turns rfl hws (E2.wiped _) wk (fun H' G' gg => gg.h a _ h3 nf trivial) hz hD e2 fun G2 H2 us2 S2 gd hd r => ?_
        have B := block_back (rs := i :: own.map (·.2)) E (fun _ h => List.mem_cons_of_mem _ h) S2 (fun j l b z => by
          obtain ⟨z1, z2⟩ := At.wiped z
          rcases at' j l b z1 with ⟨z3, _⟩ | ⟨rfl, _, rfl⟩
          · exact ⟨l, z3, z2, .inl rfl⟩
          · exact ⟨k, hat, z2, .inr List.mem_cons_self⟩) (fun j l b z hj ⟨m, l', n, w⟩ => by
          obtain ⟨w1, w2⟩ := At.wiped w
          rcases at' m l' b w1 with ⟨w3, w4⟩ | ⟨rfl, w3, _⟩
          · have e := E.inj j m l l' b z w3
            subst e
            rcases List.mem_cons.mp hj with hj | hj
            · exact w4 hj
            · exact w2 hj
          · exact n w3) fun b ⟨m, l', n, w⟩ => by
          obtain ⟨w1, w2⟩ := At.wiped w
          rcases at' m l' b w1 with ⟨w3, w4⟩ | ⟨rfl, w3, _⟩
          · exact ⟨m, l', n, w3⟩
          · exact absurd w3 n
        exact q _ G2 H2 B ⟨Dd, rfl, hD, gd, us2, hd, r⟩
    · cases ef
  · rename_i ps ei
    split at ef
    · rename_i hz
      have hz := of_fits hz
      cases e2 : compL (own.map (·.2)) g t e ps (wipeE Γ (own.map (·.2))) with
      | none => rw [e2] at ef; cases ef
      | some z =>
        obtain ⟨ys, Γ2⟩ := z
        rw [e2] at ef
        cases ef
        obtain ⟨v, h1, a, us, rfl, h3, h3'⟩ := E.val i _ ei
        refine ⟨.ref a, h1, a, rfl, ⟨us, SqL.of (E.sub _ _ h3)⟩, fun Dd hD => ?_⟩
        refine comp_turns rfl hws (E.wiped _) (wk_list (SqL.of h3) h3') (fun _ _ _ => trivial) hz hD e2 fun G2 H2 us S2 gd hd r => ?_
        have B := block_back (rs := own.map (·.2)) E (fun _ h => h) S2 (fun j k a z => ⟨k, (At.wiped z).1, (At.wiped z).2, .inl rfl⟩) (fun j k a z hj ⟨i, k', n, w⟩ => by
          obtain ⟨w1, w2⟩ := At.wiped w
          exact w2 (E.inj j i k k' a z w1 ▸ hj)) fun a ⟨i, k', n, w⟩ => ⟨i, k', n, (At.wiped w).1⟩
        exact q _ G2 H2 B ⟨Dd, rfl, hD, gd, us, hd, r⟩
    · cases ef
  · cases ef
theorem sr_compN (i : Nat) {x : Str} {pos' : Pos} (hc : X.calm = true) (hN : X.N.Nodup) (ok : blkC X.N X.env.scope scope own = true) (hws : ∀ w ∈ ws, w ∈ own.map (·.2))
    (hg : ∀ (s : Shared) (H : Hp) (C : Addr) (cl : List (Str × Addr)) (fp : List Addr), SG (X.blk s H scope (compEnvC scope cl C X.env) fp) tg ws g) (ht : ∀ (s : Shared) (H : Hp) (C : Addr) (cl : List (Str × Addr)) (fp : List Addr), SIf (X.blk s H scope (compEnvC scope cl C X.env) fp) ifs t)
    (he : ∀ (s : Shared) (H : Hp) (C : Addr) (cl : List (Str × Addr)) (fp : List Addr), SV (X.blk s H scope (compEnvC scope cl C X.env) fp) elt e)
    (hNi : X.N[i]? = some x := by rfl) (hv : Vis X.env.scope x := by first | exact Or.inl rfl | exact Or.inr (Or.inl rfl) | exact Or.inr (Or.inr rfl)) (hd : (x == ("__debug__" : Str)) = false := by decide)
    (hcd : (x == ("__classdict__" : Str)) = false := by decide) (hs : ∀ y, foldedSetIterable (.Name x pos') X.env y = pure y := by intro _; rfl) :
    SR X (.ListComp elt [⟨tg, .Name x pos', ifs, 0⟩] scope pos) (dCompN i (own.map (·.2)) g t e) := (pe_lc hc hN (pi_list (pe_var hNi hv hd hcd)) (blkOk_by ok) hg ht he hs).imp fun _ _ _ tt => t_compN i hws tt
end
/-! ### a def by its body's denotation -/
/-- the first slots of a def: its values, then nothing -/
@[simp] def runD (d : DS) (n : Nat) (ps : List PV) : Option Rs := match d (ps.map Sl.val ++ List.replicate (n - ps.length) .un) with
  | some (.rt r _) => some r
  | some (.nx _) => some (.val .non)
  | _ => none
/-- .. whose first one is changed -/
@[simp] def runD1 (d : DS) (n : Nat) (c : PV) (ps : List PV) : Option (Rs × PV) := match d (.mu .par c :: (ps.map Sl.val ++ List.replicate (n - (ps.length + 1)) .un)) with
  | some (.rt r Γ) => match (Γ[0]? : Option Sl) with
    | some (.mu .par c') => some (r, c')
    | _ => none
  | some (.nx Γ) => match (Γ[0]? : Option Sl) with
    | some (.mu .par c') => some (.val .non, c')
    | _ => none
  | _ => none
/-- what a def of np parameters and n slots does -/
@[simp] def sem0 (d : DS) (np n : Nat) (qs : List PV) : Option Rs := if qs.length = np then runD d n qs else none
@[simp] def sem1 (d : DS) (np n : Nat) (c : PV) (qs : List PV) : Option (Rs × PV) := if qs.length + 1 = np then runD1 d n c qs else none
section
variable {P : Program} {w : World} {K : PySem.W.Frag} {mg : Str → Option Value} {base : Heap}
theorem get_start {N : Nat} {vs : List V} {ps : List PV} {G : Hp} (r : Reps K G vs ps) {i : Nat} {p : PV} (h : (ps.map Sl.val ++ List.replicate N .un)[i]? = some (.val p)) : ∃ v M, (vs.map some ++ List.replicate M none : St)[i]? = some (some v) ∧ Rep K G v p := by
  by_cases hi : i < ps.length
  · rw [List.getElem?_append_left (by simpa using hi), List.getElem?_map] at h
    obtain ⟨q, e, e2⟩ := Option.map_eq_some_iff.mp h
    cases e2
    obtain ⟨v, e3, r3⟩ := r.get e
    refine ⟨v, 0, ?_, r3⟩
    rw [List.getElem?_append_left (by have := r.length; simp; omega), List.getElem?_map, e3]
    rfl
  · rw [List.getElem?_append_right (by simp; omega), List.getElem?_replicate] at h
    split at h <;> cases h
theorem er_start {π : Nat → Addr} {G H : Hp} {n : Nat} {vs : List V} {ps : List PV} (s : Same G H) (tb : TabG G H) (r : Reps K G vs ps) : ER K π G (vs.map some ++ List.replicate (n - vs.length) none) H (ps.map Sl.val ++ List.replicate (n - ps.length) .un) := by
  have hl := r.length
  have noMu : ∀ (i : Nat) k p, (ps.map Sl.val ++ List.replicate (n - ps.length) Sl.un)[i]? ≠ some (.mu k p) := fun i k p h => by
    by_cases hi : i < ps.length
    · rw [List.getElem?_append_left (by simpa using hi), List.getElem?_map] at h
      obtain ⟨q, e, e2⟩ := Option.map_eq_some_iff.mp h
      cases e2
    · rw [List.getElem?_append_right (by simp; omega), List.getElem?_replicate] at h
      split at h <;> cases h
  have noFn : ∀ (i : Nat) k p, (ps.map Sl.val ++ List.replicate (n - ps.length) Sl.un)[i]? ≠ some (.fn k p) := fun i k p h => by
    by_cases hi : i < ps.length
    · rw [List.getElem?_append_left (by simpa using hi), List.getElem?_map] at h
      obtain ⟨q, e, e2⟩ := Option.map_eq_some_iff.mp h
      cases e2
    · rw [List.getElem?_append_right (by simp; omega), List.getElem?_replicate] at h
      split at h <;> cases h
  refine ⟨s, by simp [hl], fun i p e => ?_, fun i k p e => absurd e (noMu i k p), fun i j k l a ⟨p, e, _⟩ _ => absurd e (noMu i k p), tb, fun i k p e => absurd e (noFn i k p)⟩
  by_cases hi : i < ps.length
  · rw [List.getElem?_append_left (by simpa using hi), List.getElem?_map] at e
    obtain ⟨q, e1, e2⟩ := Option.map_eq_some_iff.mp e
    cases e2
    obtain ⟨v, e3, r3⟩ := r.get e1
    refine ⟨v, ?_, r3⟩
    rw [List.getElem?_append_left (by simp; omega), List.getElem?_map, e3]
    rfl
  · rw [List.getElem?_append_right (by simp; omega), List.getElem?_replicate] at e
    split at e <;> cases e
theorem fn_ok0 {x qual : Str} {st : Stmt} {f : Addr} {fd : FuncData} {N ps : List Str} {k : Nat} {d : DS} (F : Fun K x qual st f fd) (S : FnScope N ps (defScope st))
    (hb : ∀ (cdv : Value) (A : Around) (outer : List Env) (s : Shared) (H : Hp) (E : XK), Room k (A.deeper (envOfC qual (defScope st) s.heap.objs.size f cdv)) → SSs (cxOf CX0 P w K mg base N qual (defScope st) f cdv A outer s H E).nox (defBody st) d) :
    FnOk P w K mg base CX0 (k + 1) f fd ps (Sp0 K (sem0 d ps.length N.length)) := by
  refine F.ok S (fun vs H Q E h => ?_) (fun cdv A outer s H vs Q E hr h => ?_)
  · obtain ⟨G, qs, r, sm, tb, rp, e, _⟩ := h
    unfold sem0 at e
    split at e
    · rw [rp.length]
      assumption
    · cases e
  · obtain ⟨G, qs, r, sm, tb, rp, e, q⟩ := h
    unfold sem0 at e
    split at e
    · refine ⟨_, hb cdv A outer s H E hr, ?_⟩
      have E0 := er_start (K := K) (π := fun _ => 0) (n := N.length) sm tb rp
      have noAt : ∀ j k a, ¬ At (qs.map Sl.val ++ List.replicate (N.length - qs.length) Sl.un) (start N vs) j k a := fun j k a ⟨p, e1, _⟩ => by
        by_cases hi : j < qs.length
        · rw [List.getElem?_append_left (by simpa using hi), List.getElem?_map] at e1
          obtain ⟨q, e, e2⟩ := Option.map_eq_some_iff.mp e1
          cases e2
        · rw [List.getElem?_append_right (by simp; omega), List.getElem?_replicate] at e1
          split at e1 <;> cases e1
      have nf : ∀ a, ¬ Foot (qs.map Sl.val ++ List.replicate (N.length - qs.length) Sl.un) (start N vs) a := fun a ⟨j, k, n, z⟩ => noAt j k a z
      unfold runD at e
      split at e
      · rename_i r' Γ' ed
        cases e
        exact ⟨_, G, _, _, E0, ed, fun x σ' G' H' T rr => q x G' H' (T.g.mono fun a z => nf a z) T.e.sub (RR_mono rr fun a z => z.elim (fun z => z) fun ⟨j, z⟩ => absurd z (noAt j _ a))⟩
      · rename_i Γ' ed
        cases e
        exact ⟨_, G, _, _, E0, ed, fun σ' G' H' T => q .non G' H' (T.g.mono fun a z => nf a z) T.e.sub rfl⟩
      · cases e
    · cases e
theorem fn_ok1 {x qual : Str} {st : Stmt} {f : Addr} {fd : FuncData} {N ps : List Str} {k : Nat} {d : DS} (F : Fun K x qual st f fd) (S : FnScope N ps (defScope st)) (hN : ps.length ≤ N.length)
    (hb : ∀ (cdv : Value) (A : Around) (outer : List Env) (s : Shared) (H : Hp) (E : XK), Room k (A.deeper (envOfC qual (defScope st) s.heap.objs.size f cdv)) → SSs (cxOf CX0 P w K mg base N qual (defScope st) f cdv A outer s H E).nox (defBody st) d) :
    FnOk P w K mg base CX0 (k + 1) f fd ps (Sp1 K (sem1 d ps.length N.length)) := by
  refine F.ok S (fun vs H Q E h => ?_) (fun cdv A outer s H vs Q E hr h => ?_)
  · obtain ⟨G, a, vr, c, qs, r, c', rfl, sm, tb, gn, ob, rp, e, _⟩ := h
    unfold sem1 at e
    split at e
    · rw [List.length_cons, rp.length]
      assumption
    · cases e
  · obtain ⟨G, a, vr, c, qs, r, c', rfl, sm, tb, gn, ob, rp, e, q⟩ := h
    unfold sem1 at e
    split at e
    · rename_i hlen
      refine ⟨_, hb cdv A outer s H E hr, ?_⟩
      have es : start N (V.ref a :: vr) = some (V.ref a) :: (vr.map some ++ List.replicate (N.length - 1 - vr.length) none) := by
        unfold L2.start
        rw [List.map_cons, List.cons_append, List.length_cons, show N.length - (vr.length + 1) = N.length - 1 - vr.length by omega]
      rw [es]
      have eΓ : (Sl.mu .par c :: (qs.map Sl.val ++ List.replicate (N.length - (qs.length + 1)) Sl.un)) = Sl.mu .par c :: (qs.map Sl.val ++ List.replicate (N.length - 1 - qs.length) Sl.un) := by
        rw [show N.length - (qs.length + 1) = N.length - 1 - qs.length by omega]
      have E1 := er_start (K := K) (π := fun _ => a) (n := N.length - 1) sm tb rp
      have noAt : ∀ j k b, ¬ At (qs.map Sl.val ++ List.replicate (N.length - 1 - qs.length) Sl.un) (vr.map some ++ List.replicate (N.length - 1 - vr.length) none) j k b := fun j k b ⟨p, e1, _⟩ => by
        by_cases hi : j < qs.length
        · rw [List.getElem?_append_left (by simpa using hi), List.getElem?_map] at e1
          obtain ⟨q, e, e2⟩ := Option.map_eq_some_iff.mp e1
          cases e2
        · rw [List.getElem?_append_right (by simp; omega), List.getElem?_replicate] at e1
          split at e1 <;> cases e1
      have at0 : ∀ j k b, At (Sl.mu .par c :: (qs.map Sl.val ++ List.replicate (N.length - 1 - qs.length) Sl.un)) (some (V.ref a) :: (vr.map some ++ List.replicate (N.length - 1 - vr.length) none)) j k b → j = 0 ∧ k = .par ∧ b = a := fun j k b ⟨p, e1, e2⟩ => by
        cases j with
        | zero =>
          cases e1
          cases e2
          exact ⟨rfl, rfl, rfl⟩
        | succ j => exact absurd ⟨p, e1, e2⟩ (noAt j k b)
      have E0 : ER K (fun _ => a) G (some (V.ref a) :: (vr.map some ++ List.replicate (N.length - 1 - vr.length) none)) H (Sl.mu .par c :: (qs.map Sl.val ++ List.replicate (N.length - 1 - qs.length) Sl.un)) := by
        refine ⟨sm, by rw [List.length_cons, List.length_cons, E1.len], fun i p e => ?_, fun i k p e => ?_, fun i j k l b z1 z2 => by rw [(at0 i k b z1).1, (at0 j l b z2).1], tb, fun i k p e => ?_⟩
        · cases i with
          | zero => cases e
          | succ i => exact E1.val i p e
        · cases i with
          | zero =>
            cases e
            exact ⟨a, rfl, gn, ob, fun _ => rfl⟩
          | succ i => exact E1.mu i k p e
        · cases i with
          | zero => cases e
          | succ i => exact E1.fn i k p e
      have nf : ∀ b, Foot (Sl.mu .par c :: (qs.map Sl.val ++ List.replicate (N.length - 1 - qs.length) Sl.un)) (some (V.ref a) :: (vr.map some ++ List.replicate (N.length - 1 - vr.length) none)) b → b = a := fun b ⟨j, k, n, z⟩ => (at0 j k b z).2.2
      have nown : ∀ b j, ¬ At (Sl.mu .par c :: (qs.map Sl.val ++ List.replicate (N.length - 1 - qs.length) Sl.un)) (some (V.ref a) :: (vr.map some ++ List.replicate (N.length - 1 - vr.length) none)) j .own b := fun b j z => by
        cases (at0 j .own b z).2.1
      have fin : ∀ {r' : Rs} {c2 : PV} {Γ' : Ev}, Γ'[0]? = some (.mu .par c2) → some (r', c2) = some (r, c') → ∀ x σ' G' H', Sts K (fun _ => a) (some (V.ref a) :: (vr.map some ++ List.replicate (N.length - 1 - vr.length) none)) G H (Sl.mu .par c :: (qs.map Sl.val ++ List.replicate (N.length - 1 - qs.length) Sl.un)) σ' G' H' Γ' →
          RR K G' H' (fun b => H b = none) x r' → Q x H' := fun {r' c2 Γ'} e0 ee x σ' G' H' T rr => by
        cases ee
        obtain ⟨b, h1, h2, h3, h4⟩ := T.e.mu 0 .par c' e0
        have hb := h4 rfl
        subst hb
        exact q x G' H' (T.g.mono nf) T.e.sub h2 h3 rr
      unfold runD1 at e
      rw [eΓ] at e
      split at e
      · rename_i r' Γ' ed
        split at e
        · rename_i c2 e0
          exact ⟨_, G, _, _, E0, ed, fun x σ' G' H' T rr => fin e0 e x σ' G' H' T (RR_mono rr fun b z => z.elim (fun z => z) fun ⟨j, z⟩ => absurd z (nown b j))⟩
        · cases e
      · rename_i Γ' ed
        split at e
        · rename_i c2 e0
          exact ⟨_, G, _, _, E0, ed, fun σ' G' H' T => fin e0 e .non σ' G' H' T rfl⟩
        · cases e
      · cases e
    · cases e
end
end
section
variable [Fx]
/-! ### list(range(..)), tuple(range(..)) -/
def gLRg : Option (List PV) → Option Rs
  | some ps => if fits ps.length = true then some (.new (.lst ps)) else none
  | none => none
def gTRg : Option (List PV) → Option PV
  | some ps => if fits ps.length = true then some (.tup ps) else none
  | none => none
@[simp] def dLRg1 (f : D PV) (Γ : Ev) : Option (Rs × Ev) := (bnd f fun x => opt (gLRg (itR1 x))) Γ
@[simp] def dTRg1 (f : D PV) (Γ : Ev) : Option (PV × Ev) := (bnd f fun x => opt (gTRg (itR1 x))) Γ
@[simp] def dLRg2 (f h : D PV) (Γ : Ev) : Option (Rs × Ev) := (bnd f fun x => bnd h fun y => opt (gLRg (itR2 x y))) Γ
@[simp] def dTRg2 (f h : D PV) (Γ : Ev) : Option (PV × Ev) := (bnd f fun x => bnd h fun y => opt (gTRg (itR2 x y))) Γ
theorem itR1_some {x : PV} {ps : List PV} (h : itR1 x = some ps) : ∃ j, x = .int j ∧ (-(2 ^ 62) ≤ j ∧ j < 2 ^ 62) ∧ ps = rgP 0 j.toNat := by
  unfold itR1 at h
  split at h
  · split at h
    · rename_i j hb
      exact ⟨j, rfl, rgOk_of hb, (Option.some.inj h).symm⟩
    · cases h
  · cases h
theorem itR2_some {x y : PV} {ps : List PV} (h : itR2 x y = some ps) : ∃ i j, x = .int i ∧ y = .int j ∧ (-(2 ^ 62) ≤ i ∧ i < 2 ^ 62) ∧ (-(2 ^ 62) ≤ j ∧ j < 2 ^ 62) ∧ ps = rgP i (j - i).toNat := by
  unfold itR2 at h
  split at h
  · split at h
    · rename_i i j hb
      exact ⟨i, j, rfl, rfl, rgOk_of hb.1, rgOk_of hb.2, (Option.some.inj h).symm⟩
    · cases h
  · cases h
theorem rgP_len (lo : Int) (n : Nat) : (rgP lo n).length = n := by
  unfold rgP
  simp
theorem reps_rg {K : PySem.W.Frag} {G : Hp} {a b : Int} : Reps K G (rgV a b) (rgP a (b - a).toNat) := by
  have e1 : rgV a b = ((List.range (b - a).toNat).map fun (i : Nat) => a + (i : Int)).map V.int := by
    unfold rgV
    rw [List.map_map]
    rfl
  have e2 : rgP a (b - a).toNat = ((List.range (b - a).toNat).map fun (i : Nat) => a + (i : Int)).map PV.int := by
    unfold rgP
    rw [List.map_map]
    rfl
  rw [e1, e2]
  exact reps_ints _
theorem gLRg_some {o : Option (List PV)} {r : Rs} (h : gLRg o = some r) : ∃ ps, o = some ps ∧ ps.length ≤ 1000000 ∧ r = .new (.lst ps) := by
  unfold gLRg at h
  split at h
  · split at h
    · rename_i hz
      exact ⟨_, rfl, of_fits hz, (Option.some.inj h).symm⟩
    · cases h
  · cases h
theorem gTRg_some {o : Option (List PV)} {r : PV} (h : gTRg o = some r) : ∃ ps, o = some ps ∧ ps.length ≤ 1000000 ∧ r = .tup ps := by
  unfold gTRg at h
  split at h
  · split at h
    · rename_i hz
      exact ⟨_, rfl, of_fits hz, (Option.some.inj h).symm⟩
    · cases h
  · cases h
section
variable {X : Cx} {pos p p2 pos2 : Pos} {e e2 : Expr} {f h : D PV}
theorem sr_listRg1 (hc : X.calm = true) (hg : Gl X "list") (hm : X.mg "list" = none) (hg2 : Gl X "range") (hm2 : X.mg "range" = none) (ha : SV X e f) (n1 : starEach [e] X.env = (false, eval e X.env) :: starEach [] X.env := by rfl)
    (n2 : starEach [.Call (.Name "range" p2) [e] [] pos2] X.env = (false, eval (.Call (.Name "range" p2) [e] [] pos2) X.env) :: starEach [] X.env := by rfl) : SR X (.Call (.Name "list" p) [.Call (.Name "range" p2) [e] [] pos2] [] pos) (dLRg1 f) :=
  (pe_listRg hc hg hm (prg_1 hg2 hm2 ha n1) n2).imp fun σ H Q ⟨π, G, Γ, r, Γ', E, ef, q⟩ => by
    obtain ⟨x, Γ1, e1, f1⟩ := bnd_some ef
    obtain ⟨e3, z⟩ := opt_some f1
    subst z
    obtain ⟨ps, e4, hz, rfl⟩ := gLRg_some e3
    obtain ⟨j, rfl, hb, rfl⟩ := itR1_some e4
    rw [rgP_len] at hz
    refine ⟨π, G, Γ, _, _, E, e1, fun u G1 H1 S r1 => ?_⟩
    cases (show u = _ from r1)
    refine ⟨j, rfl, ⟨by omega, by omega, hb.1, hb.2, by omega⟩, fun p hp => ?_⟩
    have r2 : Reps X.K G1 (rgV 0 j) (rgP 0 j.toNat) := by
      have := reps_rg (K := X.K) (G := G1) (a := 0) (b := j)
      rwa [Int.sub_zero] at this
    exact new_list S r2 q hp
theorem sv_tupRg1 (hc : X.calm = true) (hg : Gl X "tuple") (hm : X.mg "tuple" = none) (hg2 : Gl X "range") (hm2 : X.mg "range" = none) (ha : SV X e f) (n1 : starEach [e] X.env = (false, eval e X.env) :: starEach [] X.env := by rfl)
    (n2 : starEach [.Call (.Name "range" p2) [e] [] pos2] X.env = (false, eval (.Call (.Name "range" p2) [e] [] pos2) X.env) :: starEach [] X.env := by rfl) : SV X (.Call (.Name "tuple" p) [.Call (.Name "range" p2) [e] [] pos2] [] pos) (dTRg1 f) :=
  (pe_tupRg hc hg hm (prg_1 hg2 hm2 ha n1) n2).imp fun σ H Q ⟨π, G, Γ, r, Γ', E, ef, q⟩ => by
    obtain ⟨x, Γ1, e1, f1⟩ := bnd_some ef
    obtain ⟨e3, z⟩ := opt_some f1
    subst z
    obtain ⟨ps, e4, hz, rfl⟩ := gTRg_some e3
    obtain ⟨j, rfl, hb, rfl⟩ := itR1_some e4
    rw [rgP_len] at hz
    refine ⟨π, G, Γ, _, _, E, e1, fun u G1 H1 S r1 => ?_⟩
    cases (show u = _ from r1)
    refine ⟨j, rfl, ⟨by omega, by omega, hb.1, hb.2, by omega⟩, fun p hp => ?_⟩
    have r2 : Reps X.K G1 (rgV 0 j) (rgP 0 j.toNat) := by
      have := reps_rg (K := X.K) (G := G1) (a := 0) (b := j)
      rwa [Int.sub_zero] at this
    obtain ⟨g, s⟩ := gr_laid (F := fun _ => False) (o := .tup (rgV 0 j)) S.e.sub hp
    exact q _ _ _ (S.trans (.grow S.e g s)) ⟨p, _, rfl, .inl (.inl upd_same), r2.mono g.g⟩
theorem sr_listRg2 (hc : X.calm = true) (hg : Gl X "list") (hm : X.mg "list" = none) (hg2 : Gl X "range") (hm2 : X.mg "range" = none) (ha : SV X e f) (hb : SV X e2 h) (n1 : starEach [e, e2] X.env = (false, eval e X.env) :: starEach [e2] X.env := by rfl) (n3 : starEach [e2] X.env = (false, eval e2 X.env) :: starEach [] X.env := by rfl)
    (n4 : (backTo pos2 (starEach [e2] X.env)).any (·.1) = false := by rfl) (n2 : starEach [.Call (.Name "range" p2) [e, e2] [] pos2] X.env = (false, eval (.Call (.Name "range" p2) [e, e2] [] pos2) X.env) :: starEach [] X.env := by rfl) : SR X (.Call (.Name "list" p) [.Call (.Name "range" p2) [e, e2] [] pos2] [] pos) (dLRg2 f h) :=
  (pe_listRg hc hg hm (prg_2 hg2 hm2 ha hb n1 n3 n4) n2).imp fun σ H Q ⟨π, G, Γ, r, Γ', E, ef, q⟩ => by
    obtain ⟨x, Γ1, e1, f1⟩ := bnd_some ef
    obtain ⟨y, Γ2, e5, f2⟩ := bnd_some f1
    obtain ⟨e3, z⟩ := opt_some f2
    subst z
    obtain ⟨ps, e4, hz, rfl⟩ := gLRg_some e3
    obtain ⟨i, j, rfl, rfl, hb1, hb2, rfl⟩ := itR2_some e4
    rw [rgP_len] at hz
    refine ⟨π, G, Γ, _, _, E, e1, fun u G1 H1 S r1 => ⟨π, G1, Γ1, _, _, S.e, e5, fun u2 G2 H2 S2 r2 => ?_⟩⟩
    cases (show u = _ from r1)
    cases (show u2 = _ from r2)
    exact ⟨i, j, rfl, rfl, ⟨hb1.1, hb1.2, hb2.1, hb2.2, by omega⟩, fun p hp => new_list (S.trans S2) reps_rg q hp⟩
/-! ### sorted(xs), whole numbers -/
def isort (ns : List Int) : List Int := ns.mergeSort fun a b => decide (a ≤ b)
theorem isort_eq {ns ns' : List Int} (h1 : ns'.Perm ns) (h2 : ns'.Pairwise (· ≤ ·)) : ns' = isort ns := by
  refine List.Perm.eq_of_pairwise (le := fun a b : Int => a ≤ b) (fun a b _ _ x y => Int.le_antisymm x y) h2 ?_ (h1.trans (List.mergeSort_perm ns _).symm)
  have := List.pairwise_mergeSort (le := fun a b : Int => decide (a ≤ b)) (fun a b c x y => decide_eq_true (Int.le_trans (of_decide_eq_true x) (of_decide_eq_true y))) (fun a b => by
    rcases Int.le_total a b with h | h
    · simp [h]
    · simp [h]) ns
  exact this.imp fun x => of_decide_eq_true x
def gSorted : PV → Option Rs
  | .lst xs => (pInts xs).map fun ns => .new (.lst ((isort ns).map PV.int))
  | _ => none
theorem sr_sorted (hg : Gl X "sorted") (hm : X.mg "sorted" = none) (ha : SP X e f) (he : starEach [e] X.env = (false, eval e X.env) :: starEach [] X.env := by rfl) (hpl : (backTo pos (starEach [] X.env)).any (·.1) = false := by rfl) : SR X (.Call (.Name "sorted" p) [e] [] pos) (dR1 gSorted f) :=
  (pe_callB cr_sortedI hg hm (by decide +kernel) (pa_cons ha pa_nil he) (by decide) (by decide) he hpl).imp fun σ H Q ⟨π, G, Γ, w, Γ', E, ef, q⟩ => by
    obtain ⟨x, Γ1, e1, ef⟩ := bnd_some ef
    obtain ⟨e3, z⟩ := opt_some ef
    subst z
    refine ⟨π, G, Γ, x, _, E, e1, fun u G1 H1 S1 r1 => ?_⟩
    unfold gSorted at e3
    split at e3
    · obtain ⟨ns, e4, rfl⟩ := Option.map_eq_some_iff.mp e3
      rw [ints_eq e4] at r1
      obtain ⟨a, vs, rfl, q1, q2⟩ := pk_lst S1.e.sub r1
      rw [reps_ints_of q2] at q1
      refine ⟨a, ns, rfl, SqL.of q1, fun ns' p h1 h2 hp => ?_⟩
      rw [isort_eq h1 h2]
      exact new_list S1 (reps_ints _) q hp
    · cases e3
/-! ### text * number, sep.join(texts) -/
def gMulS : PV → PV → Option PV
  | .str z, .int n => if fits (z.length * n.toNat) = true then (if popOk n = true then some (.str (Txt.mul z n)) else none) else none
  | _, _ => none
theorem op_mulS {X : Cx} : OpR X (binaryOp .Mult) (fun x y H Q => ∃ a n, x = .str a ∧ y = .int n ∧ PySem.MulOk a n ∧ Q (.str (Txt.mul a n)) H) := by
  intro pins s σ H x y v u Q I rx ry h
  obtain ⟨i, j, rfl, rfl, hz, q⟩ := h
  obtain ⟨t, rfl⟩ := rx
  obtain ⟨t', rfl⟩ := ry
  exact PySem.SB.mul hz fun t' k => ⟨.str (Txt.mul i j), H, I.tok _, ⟨_, rfl⟩, q⟩
theorem mulOk_str {z : Str} {n : Int} (h1 : z.length * n.toNat ≤ 1000000) (h2 : -(2 ^ 63) ≤ n ∧ n < 2 ^ 63) : PySem.MulOk z n := by
  refine ⟨?_, fun a b => ?_, fun a b => ?_⟩
  · simp
    omega
  · intro hc
    have h3 : (0 : Int) < n := by omega
    have h4 : ((z.length : Int) * n) ≤ 1000000 := by
      have : ((z.length * n.toNat : Nat) : Int) ≤ 1000000 := by omega
      rw [Int.natCast_mul, Int.toNat_of_nonneg (by omega)] at this
      exact this
    have h5 : ((2 ^ 63 - 1) / n + 1) * n ≤ (z.length : Int) * n := Int.mul_le_mul_of_nonneg_right (by omega) (by omega)
    have h6 := Int.lt_ediv_add_one_mul_self (2 ^ 63 - 1) h3
    omega
  · unfold PySem.Builtin.Str.tooLong
    simp
    have := line_m
    omega
theorem ov_mulS {K : PySem.W.Frag} : OpV K (fun x y H Q => ∃ a n, x = .str a ∧ y = .int n ∧ PySem.MulOk a n ∧ Q (.str (Txt.mul a n)) H) gMulS := fun x y p q z G H Q s r1 r2 e A => by
  unfold gMulS at e
  split at e
  · split at e
    · rename_i hz
      split at e
      · rename_i hp
        cases e
        cases (show x = _ from r1)
        cases (show y = _ from r2)
        exact ⟨_, _, rfl, rfl, mulOk_str (of_fits hz) (popOk_of hp), A.now s rfl⟩
      · cases e
    · cases e
  · cases e
theorem sv_mulS (ha : SV X e f) (hb : SV X e2 h) : SV X (.BinOp e .Mult e2 pos) (dOp gMulS f h) := sv_op op_mulS ov_mulS ha hb
def pStrs : List PV → Option (List Str)
  | [] => some []
  | .str i :: r => (pStrs r).map (i :: ·)
  | _ :: _ => none
theorem strs_eq : ∀ {ps : List PV} {ns : List Str}, pStrs ps = some ns → ps = ns.map PV.str
  | [], ns, h => by cases h; rfl
  | .str i :: r, ns, h => by
    obtain ⟨ms, e, rfl⟩ := Option.map_eq_some_iff.mp (show (pStrs r).map (i :: ·) = some ns from h)
    rw [strs_eq e]
    rfl
  | .int _ :: _, _, h => by cases h
  | .bl _ :: _, _, h => by cases h
  | .non :: _, _, h => by cases h
  | .ty _ :: _, _, h => by cases h
  | .tup _ :: _, _, h => by cases h
  | .lst _ :: _, _, h => by cases h
  | .scr _ :: _, _, h => by cases h
theorem reps_strs_of {K : PySem.W.Frag} {G : Hp} : ∀ {vs : List V} {ns : List Str}, Reps K G vs (ns.map PV.str) → vs = ns.map V.str
  | vs, [], h => h
  | vs, n :: ns, h => by
    obtain ⟨v, r, rfl, h1, h2⟩ := h
    cases (show v = _ from h1)
    rw [reps_strs_of h2]
    rfl
def gJoin : PV → PV → Option PV
  | .str z, .lst xs => (pStrs xs).bind fun ys => if fits ((ys.map (·.length)).sum + ys.length * z.length) = true then some (.str (Txt.join z ys)) else none
  | _, _ => none
theorem sv_join {apos : Pos} {o : Expr} (ho : SV X o f) (he : SP X e h) (hs : starEach [e] X.env = [(false, eval e X.env)] := by rfl) (hbase : attributeBase o "join" X.env (eval o X.env) = eval o X.env := by rfl) (hline : (apos.endLine == pos.line) = true := by rfl) :
    SV X (.Call (.Attribute o "join" apos) [e] [] pos) (dOp gJoin f h) := (pe_join ho he hs hbase hline).imp fun σ H Q ⟨π, G, Γ, w, Γ', E, ef, q⟩ => by
  obtain ⟨x, Γ1, e1, f1⟩ := bnd_some ef
  obtain ⟨y, Γ2, e2, f2⟩ := bnd_some f1
  obtain ⟨e3, z⟩ := opt_some f2
  subst z
  unfold gJoin at e3
  split at e3
  · rename_i zz xs
    obtain ⟨ys, e4, e5⟩ := Option.bind_eq_some_iff.mp e3
    split at e5
    · rename_i hz
      cases e5
      have hz := of_fits hz
      refine ⟨π, G, Γ, _, Γ1, E, e1, fun u G1 H1 S1 r1 => ?_⟩
      cases (show u = _ from r1)
      refine ⟨⟨_, rfl⟩, π, G1, Γ1, _, _, S1.e, e2, fun v G2 H2 S2 r2 => ?_⟩
      rw [strs_eq e4] at r2
      obtain ⟨a, vs, rfl, q1, q2⟩ := pk_lst S2.e.sub r2
      rw [reps_strs_of q2] at q1
      exact ⟨_, a, ys, rfl, rfl, .inl (SqL.of q1), by omega, q _ G2 H2 (S1.trans S2) rfl⟩
    · cases e5
  · cases e3
end
/-! ### list({k: True for ..}) -/
def isK : PV → Bool
  | .int _ => true
  | .str _ => true
  | _ => false
def keyOfP : PV → Key
  | .int i => .inl i
  | .str s => .inr s
  | _ => .inl 0
def kAdd (ks : List Key) (k : Key) : List Key := if (ks.any fun x => decide (x = k)) = true then ks else ks ++ [k]
def kDed (ys : List PV) : List Key := ys.foldl (fun ks y => kAdd ks (keyOfP y)) []
theorem kDed_add (ys : List PV) (y : PV) : kDed (ys ++ [y]) = kAdd (kDed ys) (keyOfP y) := by
  unfold kDed
  rw [List.foldl_append]
  rfl
theorem kAdd_len (ks : List Key) (k : Key) : (kAdd ks k).length ≤ ks.length + 1 := by
  unfold kAdd
  split
  · omega
  · simp
theorem kDed_len (ys : List PV) : (kDed ys).length ≤ ys.length := by
  have : ∀ (ys : List PV) (ks : List Key), (ys.foldl (fun ks y => kAdd ks (keyOfP y)) ks).length ≤ ks.length + ys.length := fun ys => by
    induction ys with
    | nil => exact fun ks => Nat.le_refl _
    | cons y ys ih =>
      intro ks
      have h1 := ih (kAdd ks (keyOfP y))
      have h2 := kAdd_len ks (keyOfP y)
      simp only [List.foldl_cons, List.length_cons]
      omega
  have h := this ys []
  simpa [kDed] using h
theorem isK_kV {K : PySem.W.Frag} {G : Hp} {v : V} {y : PV} (h : isK y = true) (r : Rep K G v y) : ∃ k, v = kV k ∧ k = keyOfP y := by
  cases y with
  | int i => exact ⟨.inl i, r, rfl⟩
  | str s => exact ⟨.inr s, r, rfl⟩
  | _ => cases h
theorem putK_keys (us : List (Key × V)) (k : Key) (v : V) : (putK us k v).map (·.1) = kAdd (us.map (·.1)) k := by
  unfold putK kAdd
  have e : ((us.map (·.1)).any fun x => decide (x = k)) = us.any fun kv => decide (kv.1 = k) := by
    rw [List.any_map]
    rfl
  rw [e]
  split
  · rw [List.map_map]
    refine List.map_congr_left fun u _ => ?_
    show (if u.1 = k then (u.1, v) else u).1 = u.1
    split <;> rfl
  · rw [List.map_append]
    rfl
section
variable {K : PySem.W.Frag} {π : Nat → Addr} {σ : St} {G H G1 H1 : Hp} {Γ Γ1 : Ev}
/-- the turns of a comprehension that makes keys -/
theorem dict_turns {J : It} {C : Hp → Prop} {vs ws : List Nat} {g : PV → Ev → Option Ev} {t : D Bool} {e : D PV} {σw : St} {Γw Γ2 : Ev} {ps ys : List PV} {Dd : Addr} {Q : VK} (hσ : σw = wipe σ vs) (hws : ∀ w ∈ ws, w ∈ vs)
    (E : ER K π G σw H Γw) (wk : Wk K J G C ps) (hC : ∀ H' G', Gr (Foot Γw σw) G H G' H' → C H') (hz : ps.length ≤ 1000000) (hD : H Dd = none) (ec : compL vs g t e ps Γw = some (ys, Γ2))
    (hk : ∀ y ∈ ys, isK y = true) (q : ∀ G' H' us, Ste K π σw G H Γw G' H' Γ2 → G' Dd = none → H' Dd = some (.dK us) → us.map (·.1) = kDed ys → Q (.ref Dd) H') :
    ∃ W : Nat → Nat → Hp → Prop, (∃ m, W 0 m (upd H Dd (.dK []))) ∧ ∀ i m H, W i m H →
      (J.stop i H ∧ Q (.ref Dd) H) ∨ (J.go i H ∧ ∃ Nx : Hp → Prop, (∀ H', Nx H' → ∃ m', m' < m ∧ W (i + 1) m' H') ∧ ∀ x H', J.yld i H x H' → tG K ws g x (wipe σ vs) H' fun σ2 H2 => wipe σ2 vs = wipe σ vs ∧ tB K t σ2 H2 fun b H3 =>
        if b = true then tV K e σ2 H3 fun y H4 => tC (.bl true) σ2 H4 fun z H5 => ∃ kvs k, y = kV k ∧ H5 Dd = some (.dK kvs) ∧ kvs.length < sizeLine ∧ Nx (upd H5 Dd (.dK (putK kvs k z))) else Nx H3) := by
  subst hσ
  obtain ⟨g0, s0, d0⟩ := gr_made (F := fun _ => False) (o := .dK []) E.sub hD
  refine ⟨fun i m H' => m = ps.length - i ∧ i ≤ ps.length ∧ ∃ (G' : Hp) (Γ' : Ev) (acc : List PV) (us : List (Key × V)) (zs : List PV), Ste K π (wipe σ vs) G H Γw G' H' Γ' ∧ G' Dd = none ∧ H' Dd = some (.dK us) ∧ us.map (·.1) = kDed acc ∧ acc.length ≤ i ∧ compL vs g t e (ps.drop i) Γ' = some (zs, Γ2) ∧ acc ++ zs = ys,
    ⟨ps.length, rfl, Nat.zero_le _, G, Γw, [], [], ys, .grow E g0 s0, d0, upd_same, rfl, Nat.le_refl _, ec, rfl⟩, ?_⟩
  rintro i m H' ⟨rfl, hi, G', Γ', acc, us, zs, S, gd, hd, hr, hacc, el, ea⟩
  have cH := hC H' G' S.g
  by_cases hlt : i < ps.length
  · refine .inr ⟨wk.go i H' hlt (S.g.g.trans S.e.sub) cH, ?_⟩
    rw [List.drop_eq_getElem_cons hlt] at el
    unfold compL at el
    refine ⟨fun H3 => ∃ (G3 : Hp) (Γ3 : Ev) (acc3 : List PV) (us3 : List (Key × V)) (zs3 : List PV), Ste K π (wipe σ vs) G H Γw G3 H3 Γ3 ∧ G3 Dd = none ∧ H3 Dd = some (.dK us3) ∧ us3.map (·.1) = kDed acc3 ∧ acc3.length ≤ i + 1 ∧ compL vs g t e (ps.drop (i + 1)) Γ3 = some (zs3, Γ2) ∧ acc3 ++ zs3 = ys,
      fun H3 ⟨G3, Γ3, acc3, us3, zs3, h⟩ => ⟨ps.length - (i + 1), by omega, rfl, hlt, G3, Γ3, acc3, us3, zs3, h⟩, fun x H3 hy => ?_⟩
    obtain ⟨G3, g3, s3, r3⟩ := wk.yld i H' x H3 ps[i] (List.getElem?_eq_getElem hlt) (S.g.g.trans S.e.sub) cH hy G' S.g.g S.e.sub
    have S3 := S.trans (.grow S.e g3 s3)
    have d3 : G3 Dd = none := g3.f Dd _ hd (fun z => z) (nc_dK _) gd
    have h3 : H3 Dd = some (.dK us) := g3.h Dd _ hd (fun z => z) trivial
    cases eg : g ps[i] Γ' with
    | none => rw [eg] at el; cases el
    | some Γ4 =>
      rw [eg] at el
      refine ⟨π, G3, Γ', ps[i], Γ4, S3.e, r3, eg, fun σ4 T4 w4 => ?_⟩
      have hw := w4 vs hws
      have hww : wipe (wipe σ vs) vs = wipe σ vs := by
        have aux : ∀ us : List Nat, (∀ u ∈ us, u ∈ vs) → wipe (wipe σ us) vs = wipe σ vs := fun us => by
          induction us with
          | nil => intro _; rfl
          | cons u us ih =>
            intro h
            show wipe ((wipe σ us).set u none) vs = wipe σ vs
            rw [wipe_set (h u List.mem_cons_self)]
            exact ih fun w hw => h w (List.mem_cons_of_mem _ hw)
        exact aux vs fun _ h => h
      refine ⟨hw.trans hww, ?_⟩
      -- no slot of a target is an object
      have noAt : ∀ j k a, At Γ4 σ4 j k a → At Γ' (wipe σ vs) j k a := fun j k a h => by
        rcases T4.f j k a h with z | ⟨_, z⟩
        · exact z
        · obtain ⟨_, o, e⟩ := T4.e.foot h
          rw [z] at e
          cases e
      have footD : ∀ j k, ¬ At Γ4 σ4 j k Dd := fun j k z => by
        obtain ⟨_, o, e⟩ := E.foot (S.f j k Dd (noAt j k Dd z))
        rw [hD] at e
        cases e
      have toW : ∀ {G5 H5 : Hp} {Γ5 : Ev}, Ste K π σ4 G3 H3 Γ4 G5 H5 Γ5 → Ste K π (wipe σ vs) G3 H3 Γ' G5 H5 (wipeE Γ5 vs) := fun {G5 H5 Γ5} S5 => by
        refine ⟨?_, S5.g.mono fun a ⟨j, k, n, z⟩ => ⟨j, k, n, noAt j k a z⟩, fun j k a z => ?_⟩
        · have := S5.e.wiped vs
          rw [hw.trans hww] at this
          exact this
        · have z' : At (wipeE Γ5 vs) (wipe σ4 vs) j k a := by
            rw [hw.trans hww]
            exact z
          exact noAt j k a (S5.f j k a (At.wiped z').1)
      cases et : t Γ4 with
      | none => simp only [et] at el; cases el
      | some z =>
        obtain ⟨b, Γ5⟩ := z
        simp only [et] at el
        refine ⟨π, G3, Γ4, b, Γ5, T4.e, et, fun G5 H5 S5 => ?_⟩
        have d5 : G5 Dd = none := S5.g.f Dd _ h3 (fun ⟨j, k, n, z⟩ => footD j k z) (nc_dK _) d3
        have h5 : H5 Dd = some (.dK us) := S5.g.h Dd _ h3 (fun ⟨j, k, n, z⟩ => footD j k z) trivial
        cases b with
        | false =>
          rw [if_neg Bool.false_ne_true] at el
          exact iteF ⟨G5, _, acc, us, zs, S3.trans (toW S5), d5, h5, hr, by omega, el, ea⟩
        | true =>
          rw [if_pos rfl] at el
          refine iteT ?_
          cases ee : e Γ5 with
          | none => simp only [ee] at el; cases el
          | some z =>
            obtain ⟨y, Γ6⟩ := z
            simp only [ee] at el
            refine ⟨π, G5, Γ5, y, Γ6, S5.e, ee, fun v G6 H6 S6 r6 => ?_⟩
            have S56 := S5.trans S6
            have d6 : G6 Dd = none := S56.g.f Dd _ h3 (fun ⟨j, k, n, z⟩ => footD j k z) (nc_dK _) d3
            have h6 : H6 Dd = some (.dK us) := S56.g.h Dd _ h3 (fun ⟨j, k, n, z⟩ => footD j k z) trivial
            have lm := line_m
            have ll : us.length = (kDed acc).length := by rw [← hr, List.length_map]
            have l2 := kDed_len acc
            cases ec : compL vs g t e (ps.drop (i + 1)) (wipeE Γ6 vs) with
            | none => simp only [ec] at el; cases el
            | some z =>
              obtain ⟨zs', Γ7⟩ := z
              simp only [ec] at el
              cases el
              obtain ⟨k, ek, hk2⟩ := isK_kV (hk y (by rw [← ea]; simp)) r6
              refine ⟨us, k, ek, h6, by omega, ?_⟩
              have S7 := S3.trans (toW S56)
              obtain ⟨gw, sw⟩ := gr_write (o := .dK (putK us k (.bl true))) S7.e.sub d6 ⟨_, h6, nc_dK _⟩
              refine ⟨G6, _, acc ++ [y], putK us k (.bl true), zs', ⟨S7.e.grow gw sw fun a j k z w => ?_, S7.g.trans gw fun a z => .inr (z ▸ hD), S7.f⟩, d6, upd_same, by rw [putK_keys, hr, hk2, kDed_add], by simp; omega, ec, by rw [List.append_assoc]; exact ea⟩
              subst w
              obtain ⟨_, o, e⟩ := E.foot (S7.f j k a z)
              rw [hD] at e
              cases e
  · have e : i = ps.length := by omega
    subst e
    rw [List.drop_length] at el
    cases el
    rw [List.append_nil] at ea
    subst ea
    exact .inl ⟨wk.stop H' (S.g.g.trans S.e.sub) cH, q G' H' us S gd hd hr⟩
end
@[simp] def dListDc (vs : List Nat) (it : D (List PV)) (g : PV → Ev → Option Ev) (t : D Bool) (e : D PV) (Γ : Ev) : Option (Rs × Ev) := match it Γ with
  | some (ps, Γ1) => if fits ps.length = true then match compL vs g t e ps (wipeE Γ1 vs) with
    | some (ys, Γ2) => if ys.all isK = true then some (.new (.lst ((kDed ys).map kPV)), back Γ1 Γ2 vs) else none
    | none => none
    else none
  | none => none
theorem reps_keys {K : PySem.W.Frag} {G : Hp} : ∀ (ks : List Key), Reps K G (ks.map kV) (ks.map kPV)
  | [] => rfl
  | .inl i :: ks => ⟨_, _, rfl, rfl, reps_keys ks⟩
  | .inr i :: ks => ⟨_, _, rfl, rfl, reps_keys ks⟩
section
variable {X : Cx} {pos p dpos : Pos} {tg iter kx : Expr} {ifs : List Expr} {scope : Scope} {own : List (Str × Nat)} {it : D (List PV)} {g : PV → Ev → Option Ev} {ws : List Nat} {t : D Bool} {e : D PV}
theorem t_listDc (hws : ∀ w ∈ ws, w ∈ own.map (·.2)) {σ : St} {H : Hp} {Q : VK} (tt : tR X.K (dListDc (own.map (·.2)) it g t e) σ H Q) : tCB rListD (tCons (tDc (tI X.K it) (tG X.K ws g) (tB X.K t) (tV X.K e) (tC (.bl true)) (own.map (·.2))) tNil) σ H Q := by
  obtain ⟨π, G, Γ, r, Γ', E, ef, q⟩ := tt
  unfold dListDc at ef
  cases e1 : it Γ with
  | none => rw [e1] at ef; cases ef
  | some z =>
    obtain ⟨ps, Γ1⟩ := z
    rw [e1] at ef
    dsimp only at ef
    split at ef
    · rename_i hz
      have hz := of_fits hz
      cases e2 : compL (own.map (·.2)) g t e ps (wipeE Γ1 (own.map (·.2))) with
      | none => rw [e2] at ef; cases ef
      | some z =>
        obtain ⟨ys, Γ2⟩ := z
        rw [e2] at ef
        dsimp only at ef
        split at ef
        · rename_i hk
          cases ef
          refine ⟨π, G, Γ, ps, Γ1, E, e1, fun J G1 H1 S wk Dd hD => ?_⟩
          refine dict_turns (Q := fun x H2 => rListD [x] H2 Q) rfl hws (S.e.wiped _) wk (fun _ _ _ => trivial) hz hD e2 (List.all_eq_true.mp hk) fun G2 H2 us S2 gd hd hr => ?_
          have B := block_back (rs := own.map (·.2)) S.e (fun _ h => h) S2 (fun j k a z => ⟨k, (At.wiped z).1, (At.wiped z).2, .inl rfl⟩) (fun j k a z hj ⟨i, k', n, w⟩ => by
            obtain ⟨w1, w2⟩ := At.wiped w
            exact w2 (S.e.inj j i k k' a z w1 ▸ hj)) fun a ⟨i, k', n, w⟩ => ⟨i, k', n, (At.wiped w).1⟩
          refine ⟨Dd, us, rfl, hd, fun p hp => ?_⟩
          have ek : (us.map fun kv => kV kv.1) = (kDed ys).map kV := by
            rw [← hr, List.map_map]
            rfl
          rw [ek]
          exact new_list (S.trans B) (reps_keys _) q hp
        · cases ef
    · cases ef
theorem sr_listDc {j : Nat} {vpos : Pos} (hc : X.calm = true) (hN : X.N.Nodup) (hgl : Gl X "list") (hml : X.mg "list" = none) (hi : SI X tg iter it) (ok : blkC X.N X.env.scope scope own = true) (hws : ∀ w ∈ ws, w ∈ own.map (·.2))
    (hg : ∀ (s : Shared) (H : Hp) (C : Addr) (cl : List (Str × Addr)) (fp : List Addr), SG (X.blk s H scope (compEnvC scope cl C X.env) fp) tg ws g) (ht : ∀ (s : Shared) (H : Hp) (C : Addr) (cl : List (Str × Addr)) (fp : List Addr), SIf (X.blk s H scope (compEnvC scope cl C X.env) fp) ifs t)
    (he : ∀ (s : Shared) (H : Hp) (C : Addr) (cl : List (Str × Addr)) (fp : List Addr), SV (X.blk s H scope (compEnvC scope cl C X.env) fp) kx e) (hs : ∀ x, foldedSetIterable iter X.env x = pure x := by intro _; rfl)
    (h1 : starEach [.DictComp kx (.Constant (.bool true) j vpos) [⟨tg, iter, ifs, 0⟩] scope dpos] X.env = (false, eval (.DictComp kx (.Constant (.bool true) j vpos) [⟨tg, iter, ifs, 0⟩] scope dpos) X.env) :: starEach [] X.env := by rfl) (hpl : (backTo pos (starEach [] X.env)).any (·.1) = false := by rfl) :
    SR X (.Call (.Name "list" p) [.DictComp kx (.Constant (.bool true) j vpos) [⟨tg, iter, ifs, 0⟩] scope dpos] [] pos) (dListDc (own.map (·.2)) it g t e) :=
  (pe_callTy (call_list_dK hc) hgl hml (by decide +kernel) (pa_cons (pe_dc hc hN hi (blkOk_by ok) hg ht he (fun _ _ _ _ _ => pe_bl) hs) pa_nil h1) (by decide) (by decide) h1 hpl).imp fun σ H Q tt => t_listDc hws tt
end
end
section
variable [Fx]
/-! ### set(xs), a list of whole numbers -/
abbrev sObj0 (w : World) : Obj := { cls := .type "set", dict := none, data := .set #[] 0 (.fresh 0 0 (!w.params.followText "set-order")) }
section
variable {P : Program} {w : World} {A : Around} {E : Value → Shared → Prop} {s : Shared}
theorem set_of_list {l : Addr} {us : Array Value} (ns : List Int) {Q : Value → Shared → Prop} (hA : A.handled = none) (hl : s.heap.IsList l us) (hu : IntsAre us.toList ns) (hb : ns.length + 1 < scanBound)
    (k : ∀ (h' : Heap) (tk c : Nat), SetR w h' s.heap.objs.size (fun j => decide (j ∈ ns)) c → c ≤ ns.length → (∀ b o, s.heap.get? b = some o → h'.get? b = some o) → Q (.ref s.heap.objs.size) { s with heap := h', toks := tk }) : wpAny (model P w) A (call (.type "set") [.ref l]) Q E s := by
  have usz : us.size = ns.length := by
    rw [← Array.length_toList]
    exact IntsAre.length hu
  obtain ⟨c1, tl1, mr1⟩ := F.called_set.mro
  have md := F.called_set.made
  have sb := F.called_set.sub
  refine wpAny_call (codeAny_of_tree (show wpAny _ _ (callAny (.type "set") _) _ _ _ from ?_))
  refine wpAny_pure (And.intro (Code.quiet_builtin _ (by decide +kernel)) (codeAny_builtin F.entry_type_call ?_))
  rw [Around.under_plain (weight_type_call_type "set" [Value.ref l] []) rfl]
  have nt := F.called_set.notType
  have cc := F.called_set.canCreate
  have tc := F.typeCall_set_1 (Value.ref l)
  repeat any_goals first | assumption | wp_step
  refine codeAny_mono (code_set_led1 (Value.ref l) (E := E) (Q₁ := fun ob z => ob = .ref s.heap.objs.size ∧ z = { s with heap := s.heap.push (sObj0 w) }) (And.intro rfl rfl)) fun r z hr => ?_
  cases r with
  | error _ => exact hr
  | ok fl =>
    cases fl with
    | ret ob =>
      obtain ⟨rfl, rfl⟩ := hr
      have g0 : (s.heap.push (sObj0 w)).get? s.heap.objs.size = some (sObj0 w) := Heap.get?_push_size _ rfl
      have ty : Shared.TypeIs { s with heap := s.heap.push (sObj0 w) } (.ref s.heap.objs.size) "set" := ⟨_, g0, rfl⟩
      have lk := F.called_set.init.lookup
      have bn := F.called_set.init.bind (Value.ref s.heap.objs.size)
      repeat any_goals first | assumption | wp_step
      refine codeAny_mono (codeAny_call_builtin (R := wants (fun r z => r = .none ∧ ∃ h' tk c, z = { s with heap := h', toks := tk } ∧ SetR w h' s.heap.objs.size (fun j => decide (j ∈ ns)) c ∧ c ≤ ns.length ∧ (∀ b o, s.heap.get? b = some o → h'.get? b = some o)) E) F.called_set.init.plain F.entry_set_init (check_set_init_1 ty ?_)) fun r2 z2 hr2 => ?_
      · obtain ⟨ol, l1, l2, l3, l4⟩ := hl
        obtain ⟨oc, od, odt, os⟩ := ol
        simp only at l2 l4
        subst l2 l4
        have l5 : (s.heap.push (sObj0 w)).get? l = some { cls := .type "list", dict := od, data := .seq us l3, slots := os } := Heap.get?_push_of_some _ l1
        have y1 := F.sub_list_set
        have y2 := F.sub_list_frozenset
        have y3 : (Value.type "list" == Value.type "dict") = false := by decide
        have l6 : (s.heap.push (sObj0 w)).IsList l us := ⟨_, l5, rfl, l3, rfl⟩
        unfold Builtin.«set.__init__» noKeywords
        unfold Builtin.Frozenset.updateFrom
        generalize hPI : pyIter = PI
        wp_walk
        subst hPI
        refine wpAny_pyIter_list l6 (wpAny_bind (wpAny_runValue ?_))
        have ll : l < s.heap.objs.size := Heap.lt_size l1
        have h3 : A.in1.in1.in1.handled = none := by simp [hA]
        have sz : (s.heap.push (sObj0 w)).objs.size = s.heap.objs.size + 1 := Heap.size_push ..
        have ne : l ≠ (s.heap.push (sObj0 w)).objs.size := by
          rw [sz]
          exact Nat.ne_of_lt (Nat.lt_succ_of_lt ll)
        have nf : s.heap.objs.size ∉ [(s.heap.push (sObj0 w)).objs.size, l] := by
          rw [sz]
          intro hm
          rcases List.mem_cons.mp hm with e | e
          · exact absurd e (Nat.ne_of_lt (Nat.lt_succ_self _))
          · exact absurd (List.mem_singleton.mp e) (Nat.ne_of_gt ll)
        have hv : ∀ (i : Nat) (v : Value), us[i]? = some v → ∃ k t, ns[i]? = some k ∧ v = .int k t := fun i v hv => by
          have hi : i < ns.length := usz ▸ (Array.getElem?_eq_some_iff.mp hv).1
          obtain ⟨t, e⟩ := IntsAre.int_at hu i v (Array.getElem?_toList ▸ hv)
          refine ⟨ns[i], t, List.getElem?_eq_getElem hi, e.trans ?_⟩
          rw [List.getD_eq_getElem?_getD, List.getElem?_eq_getElem hi]
          rfl
        refine set_update_ints ((Walks.list h3 _ l ne us).toS) s.heap.objs.size nf ns usz hb hv (us.size - 0) 0 _ (by omega) (Nat.zero_le _) ⟨⟨_, Heap.get?_push_size _ rfl, rfl, rfl⟩, l6.push _⟩ ?_ ?_
        · exact ⟨0, Nat.le_refl 0, setR_new_at (Heap.get?_push_of_some _ g0)⟩
        · intro z3 c3 mv hc3 hS3
          obtain ⟨h3, g3, d3, t3, o3⟩ := z3
          cases (show g3 = s.gens from mv.gens)
          cases (show d3 = s.drawn from mv.drawn)
          cases (show o3 = s.os from mv.os)
          show wpAny _ _ _ _ _ _
          refine wpAny_pure ?_
          show wpAny _ _ (PySem.ret Value.none) _ _ _
          rw [usz] at hc3
          refine wpAny_pure ⟨rfl, h3, t3, c3, rfl, hS3, hc3, fun b o e => ?_⟩
          have b0 : b < s.heap.objs.size := Heap.lt_size e
          refine mv.heap b o ?_ (Heap.get?_push_of_some _ (Heap.get?_push_of_some _ e))
          rw [sz]
          intro hm
          rcases List.mem_cons.mp hm with e | e
          · exact absurd e (Nat.ne_of_lt b0)
          · exact absurd (List.mem_singleton.mp e) (Nat.ne_of_lt (Nat.lt_succ_of_lt b0))
      · cases r2 with
        | error _ => exact hr2
        | ok fl2 =>
          cases fl2 with
          | ret _ =>
            obtain ⟨rfl, h', tk, c, rfl, p1, p2, p3⟩ := hr2
            repeat any_goals first | assumption | wp_step
            exact k _ _ _ p1 p2 p3
          | _ => exact hr2.elim
    | _ => exact hr.elim
end
end
section
variable [Fx]
/-! ### sorted(set(xs)) -/
section
variable {X : Cx}
theorem cr_setL (hc : X.calm = true) : CallR X (.type "set") (fun xs H Q => ∃ (l : Addr) (ns : List Int), xs = [V.ref l] ∧ SqL X.K H l (ns.map V.int) ∧ ns.length < 64 ∧ ∀ q n, H q = none → n ≤ ns.length → Q (.ref q) (upd H q (SetO X.w q (fun j => decide (j ∈ ns)) n))) := by
  intro pins s σ H xs us Q I r h
  obtain ⟨l, ns, rfl, hl, hn, q⟩ := h
  rw [Vals.ref1 r]
  obtain ⟨its, rv, pl, hz⟩ := I.list hl
  refine set_of_list (P := X.prog) (w := X.w) ns (I.ok.hd hc) pl.isList (by simpa using ints_of_vals rv) (by unfold scanBound; omega) fun h' tk c R hcn k => ?_
  exact ⟨.ref s.heap.objs.size, _, I.laid (t' := tk) k (Nat.le_refl _) (setO_new R), rfl, q _ c (I.hok.fresh (Nat.le_refl _)) hcn⟩
end
def addI (ks : List Int) (k : Int) : List Int := if k ∈ ks then ks else ks ++ [k]
def dedI (ns : List Int) : List Int := ns.foldl addI []
theorem dedI_aux : ∀ (ns ks : List Int), ks.Nodup → (ns.foldl addI ks).Nodup ∧ ∀ j, j ∈ ns.foldl addI ks ↔ j ∈ ks ∨ j ∈ ns
  | [], ks, h => ⟨h, fun j => by simp⟩
  | n :: ns, ks, h => by
    have h1 : (addI ks n).Nodup := by
      unfold addI
      split
      · exact h
      · rename_i hn
        rw [List.nodup_append]
        refine ⟨h, by simp, fun a ha b hb => ?_⟩
        rw [List.mem_singleton] at hb
        subst hb
        exact fun e => hn (e ▸ ha)
    obtain ⟨a, b⟩ := dedI_aux ns (addI ks n) h1
    refine ⟨a, fun j => ?_⟩
    rw [List.foldl_cons, b j]
    unfold addI
    split
    · rename_i hn
      rw [List.mem_cons]
      constructor
      · rintro (z | z)
        · exact .inl z
        · exact .inr (.inr z)
      · rintro (z | z | z)
        · exact .inl z
        · exact .inl (z ▸ hn)
        · exact .inr z
    · rw [List.mem_append, List.mem_singleton, List.mem_cons, or_assoc]
theorem dedI_nodup (ns : List Int) : (dedI ns).Nodup := (dedI_aux ns [] List.nodup_nil).1
theorem dedI_mem (ns : List Int) (j : Int) : j ∈ dedI ns ↔ j ∈ ns := by
  have := (dedI_aux ns [] List.nodup_nil).2 j
  simpa [dedI] using this
theorem sortSet_eq {ns ns' : List Int} (h1 : ns'.Pairwise (· < ·)) (h2 : ∀ k, k ∈ ns' ↔ k ∈ ns) : ns' = isort (dedI ns) := by
  refine isort_eq ?_ (h1.imp fun h => Int.le_of_lt h)
  have hn : ns'.Nodup := h1.imp fun h => Int.ne_of_lt h
  exact (List.perm_ext_iff_of_nodup hn (dedI_nodup ns)).mpr fun k => (h2 k).trans (dedI_mem ns k).symm
def few (n : Nat) : Bool := hide (fun n : Nat => n < 64) n
theorem few_of {n : Nat} (h : n < 64) : few n = true := hide_of h
theorem of_few {n : Nat} (h : few n = true) : n < 64 := of_hide (P := fun n : Nat => n < 64) h
def gSortSet : PV → Option Rs
  | .lst xs => (pInts xs).bind fun ns => if few ns.length = true then some (.new (.lst ((isort (dedI ns)).map PV.int))) else none
  | _ => none
section
variable {X : Cx} {pos p p2 pos2 : Pos} {e : Expr} {f : D PV}
theorem sr_sortedSet (hc : X.calm = true) (hg : Gl X "sorted") (hm : X.mg "sorted" = none) (hg2 : Gl X "set") (hm2 : X.mg "set" = none) (ha : SP X e f) (he : starEach [e] X.env = (false, eval e X.env) :: starEach [] X.env := by rfl) (hpl2 : (backTo pos2 (starEach [] X.env)).any (·.1) = false := by rfl)
    (he1 : starEach [.Call (.Name "set" p2) [e] [] pos2] X.env = (false, eval (.Call (.Name "set" p2) [e] [] pos2) X.env) :: starEach [] X.env := by rfl) (hpl : (backTo pos (starEach [] X.env)).any (·.1) = false := by rfl) :
    SR X (.Call (.Name "sorted" p) [.Call (.Name "set" p2) [e] [] pos2] [] pos) (dR1 gSortSet f) :=
  (pe_callB (cr_sortedSet hc) hg hm (by decide +kernel) (pa_cons (pe_callTy (cr_setL hc) hg2 hm2 (by decide +kernel) (pa_cons ha pa_nil he) (by decide) (by decide) he hpl2) pa_nil he1) (by decide) (by decide) he1 hpl).imp fun σ H Q ⟨π, G, Γ, w, Γ', E, ef, q⟩ => by
    obtain ⟨x, Γ1, e1, ef⟩ := bnd_some ef
    obtain ⟨e3, z⟩ := opt_some ef
    subst z
    refine ⟨π, G, Γ, x, _, E, e1, fun u G1 H1 S1 r1 => ?_⟩
    unfold gSortSet at e3
    split at e3
    · obtain ⟨ns, e4, e5⟩ := Option.bind_eq_some_iff.mp e3
      split at e5
      · rename_i hz
        have hz := of_few hz
        cases e5
        rw [ints_eq e4] at r1
        obtain ⟨a, vs, rfl, q1, q2⟩ := pk_lst S1.e.sub r1
        rw [reps_ints_of q2] at q1
        refine ⟨a, ns, rfl, SqL.of q1, hz, fun d n hd hn => ?_⟩
        obtain ⟨g, s, dn⟩ := gr_made (F := fun _ => False) (o := SetO X.w d (fun j => decide (j ∈ ns)) n) S1.e.sub hd
        refine ⟨d, _, n, rfl, upd_same, by omega, fun ns' p h1 h2 h3 hp => ?_⟩
        rw [sortSet_eq h1 fun k => (h2 k).trans decide_eq_true_iff]
        exact new_list (S1.trans (.grow S1.e g s)) (reps_ints _) q hp
      · cases e5
    · cases e3
end
end
section
variable [Fx]
/-! ### xs[::-1] of a list -/
@[simp] def gRev : PV → Option Rs
  | .lst xs => some (.new (.lst xs.reverse))
  | _ => none
theorem Reps.rev {K : PySem.W.Frag} {G : Hp} : ∀ {vs : List V} {ps : List PV}, Reps K G vs ps → Reps K G vs.reverse ps.reverse
  | vs, [], h => by
    cases (show vs = [] from h)
    rfl
  | vs, p :: ps, h => by
    obtain ⟨v, r, rfl, h1, h2⟩ := h
    rw [List.reverse_cons, List.reverse_cons]
    exact (Reps.rev h2).append (.one h1)
section
variable {X : Cx} {pos p1 p2 p3 : Pos} {e : Expr} {f : D PV} {k : Nat}
theorem sr_rev (ha : SP X e f) : SR X (.Subscript e (.Slice none none (some (.UnaryOp .USub (.Constant (.int 1) k p1) p2)) p3) pos) (dR1 gRev f) := (pe_revL ha).imp fun σ H Q ⟨π, G, Γ, w, Γ', E, ef, q⟩ => by
  obtain ⟨x, Γ1, e1, ef⟩ := bnd_some ef
  obtain ⟨e3, z⟩ := opt_some ef
  subst z
  refine ⟨π, G, Γ, x, _, E, e1, fun u G1 H1 S1 r1 => ?_⟩
  unfold gRev at e3
  split at e3
  · cases e3
    obtain ⟨a, vs, rfl, q1, q2⟩ := pk_lst S1.e.sub r1
    exact ⟨a, vs, rfl, SqL.of q1, fun p hp => new_list S1 (Reps.rev q2) q hp⟩
  · cases e3
end
end
section
variable [Fx]
/-! ### comprehensions of two generators -/
theorem wipe_wipe {σ : St} {vs : List Nat} : ∀ us : List Nat, (∀ u ∈ us, u ∈ vs) → wipe (wipe σ us) vs = wipe σ vs
  | [], _ => rfl
  | u :: us, h => by
    show wipe ((wipe σ us).set u none) vs = wipe σ vs
    rw [wipe_set (h u List.mem_cons_self)]
    exact wipe_wipe us fun w hw => h w (List.mem_cons_of_mem _ hw)
/-- within an inner generator: the slots, the heap from (G, H) on, the list at Dd grown -/
structure Inn (K : PySem.W.Frag) (π : Nat → Addr) (σ : St) (G H : Hp) (Γ : Ev) (Dd : Addr) (G' H' : Hp) (Γ' : Ev) : Prop where
  e : ER K π G' σ H' Γ'
  g : Gr (fun a => Foot Γ σ a ∨ a = Dd) G H G' H'
  f : ∀ i k a, At Γ' σ i k a → At Γ σ i k a
section
variable {K : PySem.W.Frag} {π : Nat → Addr} {σ : St} {G H G1 H1 : Hp} {Γ Γ1 : Ev}
theorem inn_turns {J : It} {vs ws : List Nat} {g : PV → Ev → Option Ev} {t : D Bool} {e : D PV} {Γ2 : Ev} {ps ys acc0 : List PV} {us0 : List V} {Dd : Addr} {Nx0 : Hp → Prop} (hws : ∀ w ∈ ws, w ∈ vs)
    (E : ER K π G (wipe σ vs) H Γ) (wk : Wk K J G (fun _ => True) ps) (hz : acc0.length + ys.length ≤ 1000000) (hD : H Dd = some (.lst us0)) (gD : G Dd = none) (r0 : Reps K G us0 acc0) (nD : ∀ j k, ¬ At Γ (wipe σ vs) j k Dd) (ec : compL vs g t e ps Γ = some (ys, Γ2))
    (q : ∀ G' H' us, Inn K π (wipe σ vs) G H Γ Dd G' H' Γ2 → G' Dd = none → H' Dd = some (.lst us) → Reps K G' us (acc0 ++ ys) → Nx0 H') :
    ∃ W : Nat → Nat → Hp → Prop, (∃ m, W 0 m H) ∧ ∀ i m H, W i m H →
      (J.stop i H ∧ Nx0 H) ∨ (J.go i H ∧ ∃ Nx : Hp → Prop, (∀ H', Nx H' → ∃ m', m' < m ∧ W (i + 1) m' H') ∧ ∀ x H', J.yld i H x H' → tG K ws g x (wipe σ vs) H' fun σ2 H2 => wipe σ2 vs = wipe σ vs ∧ tB K t σ2 H2 fun b H3 =>
        if b = true then tV K e σ2 H3 fun y H4 => ∃ acc, H4 Dd = some (.lst acc) ∧ acc.length < sizeLine ∧ Nx (upd H4 Dd (.lst (acc ++ [y]))) else Nx H3) := by
  refine ⟨fun i m H' => m = ps.length - i ∧ i ≤ ps.length ∧ ∃ G' Γ' acc us zs, Inn K π (wipe σ vs) G H Γ Dd G' H' Γ' ∧ G' Dd = none ∧ H' Dd = some (.lst us) ∧ Reps K G' us acc ∧ compL vs g t e (ps.drop i) Γ' = some (zs, Γ2) ∧ acc ++ zs = acc0 ++ ys,
    ⟨ps.length, rfl, Nat.zero_le _, G, Γ, acc0, us0, ys, ⟨E, .refl, fun _ _ _ h => h⟩, gD, hD, r0, ec, rfl⟩, ?_⟩
  rintro i m H' ⟨rfl, hi, G', Γ', acc, us, zs, S, gd, hd, hr, el, ea⟩
  have hlen : acc.length + zs.length = acc0.length + ys.length := by
    have := congrArg List.length ea
    simpa using this
  by_cases hlt : i < ps.length
  · refine .inr ⟨wk.go i H' hlt (S.g.g.trans S.e.sub) trivial, ?_⟩
    rw [List.drop_eq_getElem_cons hlt] at el
    unfold compL at el
    refine ⟨fun H3 => ∃ G3 Γ3 acc3 us3 zs3, Inn K π (wipe σ vs) G H Γ Dd G3 H3 Γ3 ∧ G3 Dd = none ∧ H3 Dd = some (.lst us3) ∧ Reps K G3 us3 acc3 ∧ compL vs g t e (ps.drop (i + 1)) Γ3 = some (zs3, Γ2) ∧ acc3 ++ zs3 = acc0 ++ ys,
      fun H3 ⟨G3, Γ3, acc3, us3, zs3, h⟩ => ⟨ps.length - (i + 1), by omega, rfl, hlt, G3, Γ3, acc3, us3, zs3, h⟩, fun x H3 hy => ?_⟩
    obtain ⟨G3, g3, s3, r3⟩ := wk.yld i H' x H3 ps[i] (List.getElem?_eq_getElem hlt) (S.g.g.trans S.e.sub) trivial hy G' S.g.g S.e.sub
    have S3e : ER K π G3 (wipe σ vs) H3 Γ' := S.e.grow g3 s3 fun _ _ _ _ z => z
    have S3g : Gr (fun a => Foot Γ (wipe σ vs) a ∨ a = Dd) G H G3 H3 := S.g.trans g3 fun _ z => z.elim
    have d3 : G3 Dd = none := g3.f Dd _ hd (fun z => z) (nc_lst _) gd
    have h3 : H3 Dd = some (.lst us) := g3.h Dd _ hd (fun z => z) trivial
    have r3' := hr.mono g3.g
    cases eg : g ps[i] Γ' with
    | none => rw [eg] at el; cases el
    | some Γ4 =>
      rw [eg] at el
      refine ⟨π, G3, Γ', ps[i], Γ4, S3e, r3, eg, fun σ4 T4 w4 => ?_⟩
      have hw : wipe σ4 vs = wipe σ vs := (w4 vs hws).trans (wipe_wipe vs fun _ h => h)
      refine ⟨hw, ?_⟩
      have noAt : ∀ j k a, At Γ4 σ4 j k a → At Γ (wipe σ vs) j k a := fun j k a h => by
        rcases T4.f j k a h with z | ⟨_, z⟩
        · exact S.f j k a z
        · obtain ⟨_, o, e⟩ := T4.e.foot h
          rw [z] at e
          cases e
      have footD : ∀ j k, ¬ At Γ4 σ4 j k Dd := fun j k z => nD j k (noAt j k Dd z)
      have toI : ∀ {G5 H5 : Hp} {Γ5 : Ev}, Ste K π σ4 G3 H3 Γ4 G5 H5 Γ5 → Inn K π (wipe σ vs) G H Γ Dd G5 H5 (wipeE Γ5 vs) := fun {G5 H5 Γ5} S5 => by
        refine ⟨?_, S3g.trans S5.g fun a ⟨j, k, n, z⟩ => .inl (.inl ⟨j, k, n, noAt j k a z⟩), fun j k a z => ?_⟩
        · have := S5.e.wiped vs
          rwa [hw] at this
        · have z' : At (wipeE Γ5 vs) (wipe σ4 vs) j k a := by
            rw [hw]
            exact z
          exact noAt j k a (S5.f j k a (At.wiped z').1)
      cases et : t Γ4 with
      | none => simp only [et] at el; cases el
      | some z =>
        obtain ⟨b, Γ5⟩ := z
        simp only [et] at el
        refine ⟨π, G3, Γ4, b, Γ5, T4.e, et, fun G5 H5 S5 => ?_⟩
        have d5 : G5 Dd = none := S5.g.f Dd _ h3 (fun ⟨j, k, n, z⟩ => footD j k z) (nc_lst _) d3
        have h5 : H5 Dd = some (.lst us) := S5.g.h Dd _ h3 (fun ⟨j, k, n, z⟩ => footD j k z) trivial
        cases b with
        | false =>
          rw [if_neg Bool.false_ne_true] at el
          exact iteF ⟨G5, _, acc, us, zs, toI S5, d5, h5, r3'.mono S5.g.g, el, ea⟩
        | true =>
          rw [if_pos rfl] at el
          refine iteT ?_
          cases ee : e Γ5 with
          | none => simp only [ee] at el; cases el
          | some z =>
            obtain ⟨y, Γ6⟩ := z
            simp only [ee] at el
            refine ⟨π, G5, Γ5, y, Γ6, S5.e, ee, fun v G6 H6 S6 r6 => ?_⟩
            have S56 := S5.trans S6
            have d6 : G6 Dd = none := S56.g.f Dd _ h3 (fun ⟨j, k, n, z⟩ => footD j k z) (nc_lst _) d3
            have h6 : H6 Dd = some (.lst us) := S56.g.h Dd _ h3 (fun ⟨j, k, n, z⟩ => footD j k z) trivial
            have ru := r3'.mono S56.g.g
            have lm := line_m
            have ll := ru.length
            cases ec2 : compL vs g t e (ps.drop (i + 1)) (wipeE Γ6 vs) with
            | none => simp only [ec2] at el; cases el
            | some z =>
              obtain ⟨zs', Γ7⟩ := z
              simp only [ec2] at el
              cases el
              rw [List.length_cons] at hlen
              refine ⟨us, h6, by omega, ?_⟩
              have S7 := toI S56
              obtain ⟨gw, sw⟩ := gr_write (o := .lst (us ++ [v])) S7.e.sub d6 ⟨_, h6, nc_lst _⟩
              refine ⟨G6, _, acc ++ [y], us ++ [v], zs', ⟨S7.e.grow gw sw fun a j k z w => nD j k (w ▸ S7.f j k a z), S7.g.trans gw fun a z => .inl (.inr z), S7.f⟩, d6, upd_same, ru.append (.one r6), ec2, by rw [List.append_assoc]; exact ea⟩
  · have e : i = ps.length := by omega
    subst e
    rw [List.drop_length] at el
    cases el
    rw [List.append_nil] at ea
    subst ea
    exact .inl ⟨wk.stop H' (S.g.g.trans S.e.sub) trivial, q G' H' us S gd hd hr⟩
def compL2 (vs : List Nat) (g : PV → Ev → Option Ev) (t : D Bool) (it1 : D (List PV)) (vs1 : List Nat) (g1 : PV → Ev → Option Ev) (t1 : D Bool) (e : D PV) : List PV → Ev → Option (List PV × Ev)
  | [], Γ => some ([], Γ)
  | x :: xs, Γ => match g x Γ with
    | some Γ1 => match t Γ1 with
      | some (b, Γ2) => if b = true then match it1 Γ2 with
        | some (ps, Γ3) => match compL vs1 g1 t1 e ps (wipeE Γ3 vs1) with
          | some (ys, Γ4) => match compL2 vs g t it1 vs1 g1 t1 e xs (wipeE Γ4 vs) with
            | some (zs, Γ5) => some (ys ++ zs, Γ5)
            | none => none
          | none => none
        | none => none
        else compL2 vs g t it1 vs1 g1 t1 e xs (wipeE Γ2 vs)
      | none => none
    | none => none
theorem Foot.wiped {vs : List Nat} {a : Addr} (h : Foot (wipeE Γ vs) (wipe σ vs) a) : Foot Γ σ a := by
  obtain ⟨i, k, n, z⟩ := h
  exact ⟨i, k, n, (At.wiped z).1⟩
theorem comp2_turns {J : It} {C : Hp → Prop} {vs ws vs1 ws1 : List Nat} {g g1 : PV → Ev → Option Ev} {t t1 : D Bool} {it1 : D (List PV)} {e : D PV} {σw : St} {Γw Γ2 : Ev} {ps ys : List PV} {Dd : Addr} {Q : VK} (hσ : σw = wipe σ vs) (hws : ∀ w ∈ ws, w ∈ vs) (hws1 : ∀ w ∈ ws1, w ∈ vs1) (hv : ∀ v ∈ vs1, v ∈ vs)
    (E : ER K π G σw H Γw) (wk : Wk K J G C ps) (hC : ∀ H' G', Gr (Foot Γw σw) G H G' H' → C H') (hz : ys.length ≤ 1000000) (hD : H Dd = none) (ec : compL2 vs g t it1 vs1 g1 t1 e ps Γw = some (ys, Γ2))
    (q : ∀ G' H' us, Ste K π σw G H Γw G' H' Γ2 → G' Dd = none → H' Dd = some (.lst us) → Reps K G' us ys → Q (.ref Dd) H') :
    ∃ W : Nat → Nat → Hp → Prop, (∃ m, W 0 m (upd H Dd (.lst []))) ∧ ∀ i m H, W i m H →
      (J.stop i H ∧ Q (.ref Dd) H) ∨ (J.go i H ∧ ∃ Nx : Hp → Prop, (∀ H', Nx H' → ∃ m', m' < m ∧ W (i + 1) m' H') ∧ ∀ x H', J.yld i H x H' → tG K ws g x (wipe σ vs) H' fun σ2 H2 => wipe σ2 vs = wipe σ vs ∧ tB K t σ2 H2 fun b H3 =>
        if b = true then tI K it1 σ2 H3 fun J1 H4 => ∃ W1 : Nat → Nat → Hp → Prop, (∃ m, W1 0 m H4) ∧ ∀ j k H, W1 j k H →
          (J1.stop j H ∧ Nx H) ∨ (J1.go j H ∧ ∃ Nx1 : Hp → Prop, (∀ H', Nx1 H' → ∃ k', k' < k ∧ W1 (j + 1) k' H') ∧ ∀ x H', J1.yld j H x H' → tG K ws1 g1 x (wipe σ2 vs1) H' fun σ3 H5 => wipe σ3 vs1 = wipe σ2 vs1 ∧ tB K t1 σ3 H5 fun b H6 =>
            if b = true then tV K e σ3 H6 fun y H7 => ∃ acc, H7 Dd = some (.lst acc) ∧ acc.length < sizeLine ∧ Nx1 (upd H7 Dd (.lst (acc ++ [y]))) else Nx1 H6)
        else Nx H3) := by
  subst hσ
  obtain ⟨g0, s0, d0⟩ := gr_made (F := fun _ => False) (o := .lst []) E.sub hD
  refine ⟨fun i m H' => m = ps.length - i ∧ i ≤ ps.length ∧ ∃ G' Γ' acc us zs, Ste K π (wipe σ vs) G H Γw G' H' Γ' ∧ G' Dd = none ∧ H' Dd = some (.lst us) ∧ Reps K G' us acc ∧ compL2 vs g t it1 vs1 g1 t1 e (ps.drop i) Γ' = some (zs, Γ2) ∧ acc ++ zs = ys,
    ⟨ps.length, rfl, Nat.zero_le _, G, Γw, [], [], ys, .grow E g0 s0, d0, upd_same, .nil, ec, rfl⟩, ?_⟩
  rintro i m H' ⟨rfl, hi, G', Γ', acc, us, zs, S, gd, hd, hr, el, ea⟩
  have cH := hC H' G' S.g
  have hlen : acc.length + zs.length = ys.length := by
    have := congrArg List.length ea
    simpa using this
  by_cases hlt : i < ps.length
  · refine .inr ⟨wk.go i H' hlt (S.g.g.trans S.e.sub) cH, ?_⟩
    rw [List.drop_eq_getElem_cons hlt] at el
    unfold compL2 at el
    refine ⟨fun H3 => ∃ G3 Γ3 acc3 us3 zs3, Ste K π (wipe σ vs) G H Γw G3 H3 Γ3 ∧ G3 Dd = none ∧ H3 Dd = some (.lst us3) ∧ Reps K G3 us3 acc3 ∧ compL2 vs g t it1 vs1 g1 t1 e (ps.drop (i + 1)) Γ3 = some (zs3, Γ2) ∧ acc3 ++ zs3 = ys,
      fun H3 ⟨G3, Γ3, acc3, us3, zs3, h⟩ => ⟨ps.length - (i + 1), by omega, rfl, hlt, G3, Γ3, acc3, us3, zs3, h⟩, fun x H3 hy => ?_⟩
    obtain ⟨G3, g3, s3, r3⟩ := wk.yld i H' x H3 ps[i] (List.getElem?_eq_getElem hlt) (S.g.g.trans S.e.sub) cH hy G' S.g.g S.e.sub
    have S3 := S.trans (.grow S.e g3 s3)
    have d3 : G3 Dd = none := g3.f Dd _ hd (fun z => z) (nc_lst _) gd
    have h3 : H3 Dd = some (.lst us) := g3.h Dd _ hd (fun z => z) trivial
    have r3' := hr.mono g3.g
    cases eg : g ps[i] Γ' with
    | none => rw [eg] at el; cases el
    | some Γ4 =>
      rw [eg] at el
      refine ⟨π, G3, Γ', ps[i], Γ4, S3.e, r3, eg, fun σ4 T4 w4 => ?_⟩
      have hw : wipe σ4 vs = wipe σ vs := (w4 vs hws).trans (wipe_wipe vs fun _ h => h)
      refine ⟨hw, ?_⟩
      have noAt : ∀ j k a, At Γ4 σ4 j k a → At Γ' (wipe σ vs) j k a := fun j k a h => by
        rcases T4.f j k a h with z | ⟨_, z⟩
        · exact z
        · obtain ⟨_, o, e⟩ := T4.e.foot h
          rw [z] at e
          cases e
      have footD : ∀ j k, ¬ At Γ4 σ4 j k Dd := fun j k z => by
        obtain ⟨_, o, e⟩ := E.foot (S.f j k Dd (noAt j k Dd z))
        rw [hD] at e
        cases e
      have toW : ∀ {G5 H5 : Hp} {Γ5 : Ev}, Ste K π σ4 G3 H3 Γ4 G5 H5 Γ5 → Ste K π (wipe σ vs) G3 H3 Γ' G5 H5 (wipeE Γ5 vs) := fun {G5 H5 Γ5} S5 => by
        refine ⟨?_, S5.g.mono fun a ⟨j, k, n, z⟩ => ⟨j, k, n, noAt j k a z⟩, fun j k a z => ?_⟩
        · have := S5.e.wiped vs
          rwa [hw] at this
        · have z' : At (wipeE Γ5 vs) (wipe σ4 vs) j k a := by
            rw [hw]
            exact z
          exact noAt j k a (S5.f j k a (At.wiped z').1)
      cases et : t Γ4 with
      | none => simp only [et] at el; cases el
      | some z =>
        obtain ⟨b, Γ5⟩ := z
        simp only [et] at el
        refine ⟨π, G3, Γ4, b, Γ5, T4.e, et, fun G5 H5 S5 => ?_⟩
        have d5 : G5 Dd = none := S5.g.f Dd _ h3 (fun ⟨j, k, n, z⟩ => footD j k z) (nc_lst _) d3
        have h5 : H5 Dd = some (.lst us) := S5.g.h Dd _ h3 (fun ⟨j, k, n, z⟩ => footD j k z) trivial
        cases b with
        | false =>
          rw [if_neg Bool.false_ne_true] at el
          exact iteF ⟨G5, _, acc, us, zs, S3.trans (toW S5), d5, h5, r3'.mono S5.g.g, el, ea⟩
        | true =>
          rw [if_pos rfl] at el
          refine iteT ?_
          cases ei : it1 Γ5 with
          | none => simp only [ei] at el; cases el
          | some z =>
            obtain ⟨ps1, Γ6⟩ := z
            simp only [ei] at el
            cases ec1 : compL vs1 g1 t1 e ps1 (wipeE Γ6 vs1) with
            | none => simp only [ec1] at el; cases el
            | some z =>
              obtain ⟨ys1, Γ7⟩ := z
              simp only [ec1] at el
              cases ec2 : compL2 vs g t it1 vs1 g1 t1 e (ps.drop (i + 1)) (wipeE Γ7 vs) with
              | none => simp only [ec2] at el; cases el
              | some z =>
                obtain ⟨zs', Γ8⟩ := z
                simp only [ec2] at el
                cases el
                rw [List.length_append] at hlen
                refine ⟨π, G5, Γ5, ps1, Γ6, S5.e, ei, fun J1 G6 H6 S6 wk1 => ?_⟩
                have S56 := S5.trans S6
                have d6 : G6 Dd = none := S56.g.f Dd _ h3 (fun ⟨j, k, n, z⟩ => footD j k z) (nc_lst _) d3
                have h6 : H6 Dd = some (.lst us) := S56.g.h Dd _ h3 (fun ⟨j, k, n, z⟩ => footD j k z) trivial
                refine inn_turns (vs := vs1) hws1 (S6.e.wiped vs1) wk1 (by omega) h6 d6 (r3'.mono S56.g.g) (fun j k z => footD j k (S56.f j k Dd (At.wiped z).1)) ec1 fun G7 H7 us7 N d7 h7 r7 => ?_
                have back : ∀ j k a, At (wipeE Γ6 vs1) (wipe σ4 vs1) j k a → At Γ' (wipe σ vs) j k a := fun j k a z => noAt j k a (S56.f j k a (At.wiped z).1)
                have e7 : ER K π G7 (wipe σ vs) H7 (wipeE Γ7 vs) := by
                  have := N.e.wiped vs
                  rwa [wipe_wipe vs1 hv, hw] at this
                refine ⟨G7, _, acc ++ ys1, us7, zs', ⟨e7, ?_, fun j k a z => ?_⟩, d7, h7, r7, ec2, by rw [List.append_assoc]; exact ea⟩
                · refine (S3.trans (toW S56)).g.trans N.g fun a z => ?_
                  rcases z with ⟨j, k, n, z⟩ | z
                  · exact .inl ⟨j, k, n, S.f j k a (back j k a z)⟩
                  · exact .inr (z ▸ hD)
                · have z' : At (wipeE Γ7 vs) (wipe (wipe σ4 vs1) vs) j k a := by
                    rw [wipe_wipe vs1 hv, hw]
                    exact z
                  exact S.f j k a (back j k a (N.f j k a (At.wiped z').1))
  · have e : i = ps.length := by omega
    subst e
    rw [List.drop_length] at el
    cases el
    rw [List.append_nil] at ea
    subst ea
    exact .inl ⟨wk.stop H' (S.g.g.trans S.e.sub) cH, q G' H' us S gd hd hr⟩
end
@[simp] def dComp2 (vs : List Nat) (it : D (List PV)) (g : PV → Ev → Option Ev) (t : D Bool) (it1 : D (List PV)) (vs1 : List Nat) (g1 : PV → Ev → Option Ev) (t1 : D Bool) (e : D PV) (Γ : Ev) : Option (Rs × Ev) := match it Γ with
  | some (ps, Γ1) => match compL2 vs g t it1 vs1 g1 t1 e ps (wipeE Γ1 vs) with
    | some (ys, Γ2) => if fits ys.length = true then some (.new (.lst ys), back Γ1 Γ2 vs) else none
    | none => none
  | none => none
section
variable {X : Cx} {pos p : Pos} {tg iter tg1 iter1 elt : Expr} {ifs ifs1 : List Expr} {scope : Scope} {own : List (Str × Nat)} {it it1 : D (List PV)} {g g1 : PV → Ev → Option Ev} {ws ws1 vs1 : List Nat} {t t1 : D Bool} {e : D PV}
theorem t_comp2 {K : PySem.W.Frag} (hws : ∀ w ∈ ws, w ∈ own.map (·.2)) (hws1 : ∀ w ∈ ws1, w ∈ vs1) (hv : ∀ v ∈ vs1, v ∈ own.map (·.2)) {σ : St} {H : Hp} {Q : VK} (tt : tR K (dComp2 (own.map (·.2)) it g t it1 vs1 g1 t1 e) σ H Q) : tLc2 (tI K it) (tG K ws g) (tB K t) (tI K it1) (tG K ws1 g1) (tB K t1) (tV K e) (own.map (·.2)) vs1 σ H Q := by
  obtain ⟨π, G, Γ, r, Γ', E, ef, q⟩ := tt
  unfold dComp2 at ef
  cases e1 : it Γ with
  | none => rw [e1] at ef; cases ef
  | some z =>
    obtain ⟨ps, Γ1⟩ := z
    rw [e1] at ef
    dsimp only at ef
    cases e2 : compL2 (own.map (·.2)) g t it1 vs1 g1 t1 e ps (wipeE Γ1 (own.map (·.2))) with
    | none => rw [e2] at ef; cases ef
    | some z =>
      obtain ⟨ys, Γ2⟩ := z
      rw [e2] at ef
      dsimp only at ef
      split at ef
      · rename_i hz
        have hz := of_fits hz
        cases ef
        refine ⟨π, G, Γ, ps, Γ1, E, e1, fun J G1 H1 S wk Dd hD => ?_⟩
        refine comp2_turns rfl hws hws1 hv (S.e.wiped _) wk (fun _ _ _ => trivial) hz hD e2 fun G2 H2 us S2 gd hd hr => ?_
        have B := block_back (rs := own.map (·.2)) S.e (fun _ h => h) S2 (fun j k a z => ⟨k, (At.wiped z).1, (At.wiped z).2, .inl rfl⟩) (fun j k a z hj ⟨i, k', n, w⟩ => by
          obtain ⟨w1, w2⟩ := At.wiped w
          exact w2 (S.e.inj j i k k' a z w1 ▸ hj)) fun a ⟨i, k', n, w⟩ => ⟨i, k', n, (At.wiped w).1⟩
        exact q _ G2 H2 (S.trans B) ⟨Dd, rfl, S.g.nothing hD, gd, us, hd, hr⟩
      · cases ef
theorem sr_comp2 (hc : X.calm = true) (hN : X.N.Nodup) (hi : SI X tg iter it) (ok : blkC X.N X.env.scope scope own = true) (hws : ∀ w ∈ ws, w ∈ own.map (·.2)) (hws1 : ∀ w ∈ ws1, w ∈ vs1) (hv : ∀ v ∈ vs1, v ∈ own.map (·.2))
    (hg : ∀ (s : Shared) (H : Hp) (C : Addr) (cl : List (Str × Addr)) (fp : List Addr), SG (X.blk s H scope (compEnvC scope cl C X.env) fp) tg ws g) (ht : ∀ (s : Shared) (H : Hp) (C : Addr) (cl : List (Str × Addr)) (fp : List Addr), SIf (X.blk s H scope (compEnvC scope cl C X.env) fp) ifs t)
    (hi1 : ∀ (s : Shared) (H : Hp) (C : Addr) (cl : List (Str × Addr)) (fp : List Addr), SI (X.blk s H scope (compEnvC scope cl C X.env) fp) tg1 iter1 it1)
    (hg1 : ∀ (s : Shared) (H : Hp) (C : Addr) (cl : List (Str × Addr)) (fp : List Addr), SG (X.blk s H scope (compEnvC scope cl C X.env) fp) tg1 ws1 g1) (ht1 : ∀ (s : Shared) (H : Hp) (C : Addr) (cl : List (Str × Addr)) (fp : List Addr), SIf (X.blk s H scope (compEnvC scope cl C X.env) fp) ifs1 t1)
    (he : ∀ (s : Shared) (H : Hp) (C : Addr) (cl : List (Str × Addr)) (fp : List Addr), SV (X.blk s H scope (compEnvC scope cl C X.env) fp) elt e) (hs : ∀ x, foldedSetIterable iter X.env x = pure x := by intro _; rfl) (hs1 : ∀ env x, foldedSetIterable iter1 env x = pure x := by intro _ _; rfl) :
    SR X (.ListComp elt [⟨tg, iter, ifs, 0⟩, ⟨tg1, iter1, ifs1, 0⟩] scope pos) (dComp2 (own.map (·.2)) it g t it1 vs1 g1 t1 e) := (pe_lc2 hc hN hi (blkOk_by ok) hv hg ht hi1 hg1 ht1 he hs hs1).imp fun _ _ _ tt => t_comp2 hws hws1 hv tt
end
end
section
variable [Fx]
/-! ### stores: a list's item, a dict's -/
def gSto : PV → PV → PV → Option PV
  | .lst c, .int k, v => (ixN c.length k).map fun j => .lst (c.set j v)
  | .dic ks vs, p, v => if okd ks p = true ∧ fits (ks.length + 1) = true then some (.dic (pPutK ks p) (pPutV ks vs p v)) else none
  | _, _, _ => none
@[simp] def muAt (i : Nat) (Γ : Ev) : Option (Kd × PV) := match Γ[i]? with
  | some (.mu .own c) => some (.own, c)
  | some (.mu .par c) => some (.par, c)
  | _ => none
theorem muAt_some {i : Nat} {Γ : Ev} {k : Kd} {c : PV} (h : muAt i Γ = some (k, c)) : Γ[i]? = some (.mu k c) ∧ k ≠ .lck := by
  unfold muAt at h
  split at h
  · cases h
    exact ⟨by assumption, by decide⟩
  · cases h
    exact ⟨by assumption, by decide⟩
  · cases h
/-- d[i] = v by values -/
def rSetX (K : PySem.W.Frag) : V → V → V → Hp → (Hp → Prop) → Prop := fun o i v H Q => ∃ G a ks vs p z, o = .ref a ∧ Same G H ∧ G a = none ∧ DAt K G H a ks vs ∧ okd ks p = true ∧ ks.length < sizeLine ∧ Rep K G i p ∧ Rep K G v z ∧
  ∀ o', DAt K G (upd H a o') a (pPutK ks p) (pPutV ks vs p z) → Q (upd H a o')
theorem set_dic {X : Cx} (hu : X.A.units + 64 < cLine) (hw : X.w = Fx.w) : PSet X (rSetX X.K) := by
  intro pins s σ H o i v ov iv u Q I ro ri rv h
  obtain ⟨G, a, ks, vs, p, z, rfl, sm, gn, d, ok, hl, rp, rz, q⟩ := h
  cases (show ov = _ from ro)
  exact x_setItem hu hw I sm gn d ok hl rp ri rz rv fun o' s' I' d' _ => ⟨_, I', q o' d'⟩
theorem PSet.or {X : Cx} {r r' : TSet} (h : PSet X r) (h' : PSet X r') : PSet X (fun o i v H Q => r o i v H Q ∨ r' o i v H Q) := by
  intro pins s σ H o i v ov iv u Q I ro ri rv q
  rcases q with q | q
  · exact h pins s σ H o i v ov iv u Q I ro ri rv q
  · exact h' pins s σ H o i v ov iv u Q I ro ri rv q
/-- the slot's object is stored into -/
theorem sto_at {K : PySem.W.Frag} {π : Nat → Addr} {σ : St} {G H : Hp} {Γ : Ev} {n : Nat} {k : Kd} {c c' iv v : PV} {w u : V} {Q : Hp → Prop} {a : Addr} (E : ER K π G σ H Γ) (e : Γ[n]? = some (.mu k c)) (hk : k ≠ .lck) (hs : σ[n]? = some (some (.ref a))) (rw' : Rep K G w iv) (ru : Rep K G u v) (es : gSto c iv v = some c')
    (q : ∀ H', Ste K π σ G H Γ G H' (Γ.set n (.mu k c')) → Q H') : rSetL (.ref a) w u H Q ∨ rSetX K (.ref a) w u H Q := by
  obtain ⟨b, p1, p2, ob, p4⟩ := E.mu n _ _ e
  rw [hs] at p1
  cases p1
  cases c with
  | lst c =>
    cases iv with
    | int kk =>
      obtain ⟨us2, p3, p3'⟩ := ob
      obtain ⟨j, e6, rfl⟩ := Option.map_eq_some_iff.mp (show (ixN c.length kk).map (fun j => PV.lst (c.set j v)) = some c' from es)
      obtain ⟨gw, sw⟩ := gr_write (o := .lst (us2.set j u)) E.sub p2 ⟨_, p3, nc_lst _⟩
      refine .inl ⟨a, us2, kk, j, rfl, rw', p3, by rw [p3'.length]; exact e6, q _ ?_⟩
      exact slot_put (p' := .lst (c.set j _)) E e hk hs gw sw p2 ⟨_, upd_same, p3'.set j ru⟩
    | _ => cases es
  | dic ks vs =>
    have es : (if okd ks iv = true ∧ fits (ks.length + 1) = true then some (PV.dic (pPutK ks iv) (pPutV ks vs iv v)) else none) = some c' := es
    split at es
    · rename_i hz
      cases es
      have hz2 := of_fits hz.2
      have := line_m
      refine .inr ⟨G, a, ks, vs, iv, v, rfl, E.sub, p2, ob, hz.1, by omega, rw', ru, fun o' d' => q _ ?_⟩
      obtain ⟨o, kws, us, h1, h2, h3, h4⟩ := ob
      obtain ⟨gw, sw⟩ := gr_write (o := o') E.sub p2 ⟨_, h1, h4.nc⟩
      exact slot_put (p' := .dic (pPutK ks iv) (pPutV ks vs iv v)) E e hk hs gw sw p2 d'
    · cases es
  | _ => exact ob.elim
@[simp] def dSto (n : Nat) (f h : D PV) (Γ : Ev) : Option Out := match f Γ with
  | some (v, Γ1) => match muAt n Γ1 with
    | some _ => match h Γ1 with
      | some (i, Γ2) => match muAt n Γ2 with
        | some kc => match gSto kc.2 i v with
          | some c' => some (.nx (Γ2.set n (.mu kc.1 c')))
          | none => none
        | none => none
      | none => none
    | none => none
  | none => none
section
variable {X : Cx} {pos p : Pos} {a b c e : Expr} {es : List Expr} {f h k : D PV} {l : D (List PV)}
theorem ss_sto (n : Nat) {x : Str} {pos' pos2 : Pos} {i : Expr} (hu : X.A.units + 64 < cLine) (hw' : X.w = Fx.w) (he : SV X e f) (hi : SV X i h) (hN : X.N[n]? = some x := by rfl) (hv : Vis X.env.scope x := by first | exact Or.inl rfl | exact Or.inr (Or.inl rfl) | exact Or.inr (Or.inr rfl)) (hd : (x == ("__debug__" : Str)) = false := by decide)
    (hcd : (x == ("__classdict__" : Str)) = false := by decide) (ha : ∀ v, assign (.Subscript (.Name x pos') i pos2) X.env v = (do
      let ov ← holding [v] (eval (.Name x pos') X.env)
      let iv ← holding [v, ov] (eval i X.env)
      standAt pos2
      holding [v, ov, iv] (setItem ov iv v)
      release [v, ov, iv] []) := by intro _; rfl)
    (hs : swapsWithSole [.Subscript (.Name x pos') i pos2] e pos.line X.env = pure false := by rfl) (hw : swappedStores [.Subscript (.Name x pos') i pos2] e X.env = pure none := by rfl)
    (h1 : (assignEach [.Subscript (.Name x pos') i pos2] X.env).map (·.2) = [assign (.Subscript (.Name x pos') i pos2) X.env] := by rfl) : SS X (.Assign [.Subscript (.Name x pos') i pos2] e pos) (dSto n f h) := (ps_asg he (pg_sub (pe_var hN hv hd hcd) hi (PSet.or set_list (set_dic hu hw')) ha) hs hw h1).imp fun D σ H ⟨π, G, Γ, o, E, ef, q⟩ => by
  unfold dSto at ef
  cases e1 : f Γ with
  | none => rw [e1] at ef; cases ef
  | some z =>
    obtain ⟨v, Γ1⟩ := z
    rw [e1] at ef
    dsimp only at ef
    cases e2 : muAt n Γ1 with
    | none => rw [e2] at ef; cases ef
    | some kc =>
      rw [e2] at ef
      dsimp only at ef
      cases e3 : h Γ1 with
      | none => rw [e3] at ef; cases ef
      | some z2 =>
        obtain ⟨iv, Γ2⟩ := z2
        rw [e3] at ef
        dsimp only at ef
        cases e4 : muAt n Γ2 with
        | none => rw [e4] at ef; cases ef
        | some kc2 =>
          rw [e4] at ef
          dsimp only at ef
          cases e5 : gSto kc2.2 iv v with
          | none => rw [e5] at ef; cases ef
          | some c' =>
            rw [e5] at ef
            cases ef
            obtain ⟨s1, n1⟩ := muAt_some (k := kc.1) (c := kc.2) e2
            obtain ⟨s2, n2⟩ := muAt_some (k := kc2.1) (c := kc2.2) e4
            refine ⟨π, G, Γ, v, Γ1, E, e1, fun u G1 H1 S r => ?_⟩
            obtain ⟨b, q1, _⟩ := S.e.mu n _ _ s1
            refine ⟨_, q1, π, G1, Γ1, iv, Γ2, S.e, e3, fun w G2 H2 S2 r2 => ?_⟩
            exact sto_at S2.e s2 n2 q1 r2 (r.mono S2.g.g) e5 fun H' S3 => q σ G2 _ ((S.trans S2).trans S3).sts
end
end
section
open PySem PySem.Spec L2 NdefX LamX
variable [Fx]
/-! ### cells, held while a function that reads them is handed on -/
/-- a cell that nobody writes for a while -/
def cellF (o : Obj) : HO := .frz o (.ext fun _ => True)
open Classical in
def cutH (p : Addr → Prop) (H : Hp) : Hp := fun b => if p b then none else H b
open Classical in
def putC (p : Addr → Prop) (h : Heap) (H : Hp) : Hp := fun b => if p b then (h.get? b).map cellF else H b
open Classical in
def mixH (p : Addr → Prop) (H0 H : Hp) : Hp := fun b => if p b then H0 b else H b
theorem cut_at {p : Addr → Prop} {H : Hp} {b : Addr} (h : ¬ p b) : cutH p H b = H b := if_neg h
theorem cut_no {p : Addr → Prop} {H : Hp} {b : Addr} (h : p b) : cutH p H b = none := if_pos h
theorem cut_some {p : Addr → Prop} {H : Hp} {b : Addr} {o : HO} (h : cutH p H b = some o) : ¬ p b ∧ H b = some o := by
  by_cases z : p b
  · rw [cut_no z] at h
    cases h
  · rw [cut_at z] at h
    exact ⟨z, h⟩
theorem putC_at {p : Addr → Prop} {h : Heap} {H : Hp} {b : Addr} (n : ¬ p b) : putC p h H b = H b := if_neg n
theorem putC_in {p : Addr → Prop} {h : Heap} {H : Hp} {b : Addr} (n : p b) : putC p h H b = (h.get? b).map cellF := if_pos n
theorem mix_at {p : Addr → Prop} {H0 H : Hp} {b : Addr} (n : ¬ p b) : mixH p H0 H b = H b := if_neg n
theorem mix_in {p : Addr → Prop} {H0 H : Hp} {b : Addr} (n : p b) : mixH p H0 H b = H0 b := if_pos n
theorem cell_ne_tbl {o : Obj} {ps : Array Value} : cellF o ≠ .tbl ps := fun z => by unfold cellF at z; cases z
theorem cell_ne_code {o : Obj} {c : Addr} {q : Str} : cellF o ≠ CodeO c q := fun z => by unfold cellF CodeO at z; cases z
/-- plain values do not lean on cells -/
def SubC (G G2 : Hp) : Prop := ∀ b o, G b = some o → (∀ q, o ≠ cellF q) → G2 b = some o
theorem SubC.seqT {K : PySem.W.Frag} {G G2 : Hp} {a : Addr} {xs : List V} (e : SubC G G2) (h : SqT K G a xs) : SqT K G2 a xs := by
  rcases h with (h | ⟨o, h⟩) | h
  · exact .inl (.inl (e _ _ h fun q z => by unfold cellF at z; cases z))
  · exact .inl (.inr ⟨o, e _ _ h fun q z => by unfold cellF at z; cases z⟩)
  · exact .inr h
theorem SubC.seqL {K : PySem.W.Frag} {G G2 : Hp} {a : Addr} {xs : List V} (e : SubC G G2) (h : SqL K G a xs) : SqL K G2 a xs := by
  rcases h with (h | ⟨o, h⟩) | h
  · exact .inl (.inl (e _ _ h fun q z => by unfold cellF at z; cases z))
  · exact .inl (.inr ⟨o, e _ _ h fun q z => by unfold cellF at z; cases z⟩)
  · exact .inr h
mutual
theorem Rep.cut {K : PySem.W.Frag} {G G' : Hp} (s : SubC G G') : ∀ {p : PV} {v : V}, Rep K G v p → Rep K G' v p
  | .non, v, h => h
  | .bl _, v, h => h
  | .int _, v, h => h
  | .str _, v, h => h
  | .ty _, v, h => h
  | .tup xs, v, h => by
    obtain ⟨a, vs, e, q, r⟩ := h
    exact ⟨a, vs, e, s.seqT q, Reps.cut s r⟩
  | .lst xs, v, h => by
    obtain ⟨a, vs, e, q, r⟩ := h
    exact ⟨a, vs, e, s _ _ q fun q z => (by unfold cellF at z; cases z), Reps.cut s r⟩
  | .scr ns, v, h => by
    obtain ⟨a, e, q⟩ := h
    exact ⟨a, e, s.seqL q⟩
  | .dic ks vs, v, h => by
    obtain ⟨a, o, kws, us, e, g, r1, r2, d⟩ := h
    refine ⟨a, o, kws, us, e, s _ _ g fun q z => ?_, Reps.cut s r1, Reps.cut s r2, d⟩
    obtain ⟨_, _, ⟨fk, _, _, rfl⟩ | ⟨bs, nk, _, _, _, _, _, rfl⟩⟩ := d
    · unfold cellF at z
      cases z
    · unfold cellF NDO at z
      cases z
theorem Reps.cut {K : PySem.W.Frag} {G G' : Hp} (s : SubC G G') : ∀ {ps : List PV} {vs : List V}, Reps K G vs ps → Reps K G' vs ps
  | [], vs, h => h
  | p :: ps, vs, h => by
    obtain ⟨v, r, e, a, b⟩ := h
    exact ⟨v, r, e, Rep.cut s a, Reps.cut s b⟩
end
theorem Ob.cut {K : PySem.W.Frag} {G G' H H' : Hp} {a : Addr} {p : PV} (h : Ob K G H a p) (s : SubC G G') (e : H' a = H a) : Ob K G' H' a p := by
  cases p with
  | lst xs =>
    obtain ⟨vs, h1, h2⟩ := h
    exact ⟨vs, by rw [e, h1], h2.cut s⟩
  | dic ks vs =>
    obtain ⟨o, kws, us, h1, h2, h3, h4⟩ := h
    exact ⟨o, kws, us, by rw [e, h1], h2.cut s, h3.cut s, h4⟩
  | _ => exact h.elim
theorem tabN_cut {T : List NTab} {H H' : Hp} (t : TabsN T H) (h : ∀ b o, H b = some o → (∀ q, o ≠ cellF q) → H' b = some o) : TabsN T H' := fun p hp => by
  obtain ⟨ps, h1, h2, h3⟩ := t p hp
  refine ⟨ps, h _ _ h1 fun q z => cell_ne_tbl z.symm, h2, fun pos cv hc => ?_⟩
  obtain ⟨c, e1, e2⟩ := h3 pos cv hc
  exact ⟨c, e1, h _ _ e2 fun q z => cell_ne_code z.symm⟩
/-- a heap without some cells is held too -/
theorem HOk.cut {P : Program} {w : World} {H : Hp} {h : Heap} {p : Addr → Prop} (ok : HOk P w H h) (hc : ∀ b o, p b → H b = some o → ∃ q, o = cellF q) : HOk P w (cutH p H) h := fun b o e => by
  obtain ⟨n, e⟩ := cut_some e
  refine (ok b o e).stay (fun _ _ _ q => q) (fun d q => ?_) fun d xs q => ?_
  · rw [cut_at fun z => ?_]
    · exact q
    · obtain ⟨o', e'⟩ := hc d _ z q
      unfold cellF at e'
      cases e'
  · rw [cut_at fun z => ?_]
    · exact q
    · obtain ⟨o', e'⟩ := hc d _ z q
      unfold cellF at e'
      cases e'
/-! ### a function made of an expression -/
/-- the object at f is the function F with the expression body -/
def FnL (f : Addr) (F : NF) (body : Expr) : HO := .ext fun h => ∃ (od : Option Addr) (sl : Array (Option Value)) (pm ctv : Value), h.get? f = some (⟨.type "function", od, .func (PySem.W.kla_fn F.name F.qual F.params body F.scope F.cl pm (.ref F.c) ctv), sl⟩ : Obj)
/-- what a lambda does, its captured values caps -/
@[simp] def semL (d : D Rs) (np n : Nat) (caps : List PV) (qs : List PV) : Option Rs := if qs.length = np then match d ((qs ++ caps).map Sl.val ++ List.replicate (n - (qs ++ caps).length) .un) with
  | some (r, _) => some r
  | none => none
  else none
/-- what the cells hold -/
structure CapG (K : PySem.W.Frag) (G : Hp) (cl : List (Str × Addr)) (fr : List Str) (ws : List V) (caps : List PV) : Prop where
  len : ws.length = fr.length
  reps : Reps K G ws caps
  all : ∀ y c, cl.lookup y = some c → ∃ o v, G c = some (cellF o) ∧ o.data = .cell v
  inj : ∀ x y c, cl.lookup x = some c → cl.lookup y = some c → x = y
  has : ∀ (i : Nat) (y : Str), fr[i]? = some y → ∃ c o u v, cl.lookup y = some c ∧ G c = some (cellF o) ∧ o.data = .cell (some u) ∧ ws[i]? = some v ∧ L2.RelV v u
theorem lam_clo {K : PySem.W.Frag} {G : Hp} {N ps fr : List Str} {F : NF} {f : Addr} {k : Nat} {body : Expr} {d : D Rs} {ws : List V} {caps : List PV} (S : NScope N ps fr F.scope)
    (hb : ∀ (pm ctv : Value) (us : List Value), us.length = ps.length → bindArgs (PySem.W.kla_fn F.name F.qual F.params body F.scope F.cl pm (.ref F.c) ctv) ⟨us, []⟩ = pure (ps.zip us))
    (hbody : ∀ (A : Around) (outer : List Env) (s : Shared) (H : Hp) (E : XK), Room k (A.deeper (envF F f s.heap.objs.size)) → SR (ncx CX0 Fx.P Fx.w K Fx.mg Fx.base N F f A outer s H E) body d)
    (gf : G f = some (FnL f F body)) (gc : G F.c = some (CodeO F.c F.qual)) (C : CapG K G F.cl fr ws caps) : Clo K G (k + 1) f (semL d ps.length N.length caps) := by
  have fnat : ∀ (H : Hp) (h : Heap), HOk Fx.P Fx.w H h → Same G H → ∃ (od : Option Addr) (sl : Array (Option Value)) (pm ctv : Value), h.get? f = some (⟨.type "function", od, .func (PySem.W.kla_fn F.name F.qual F.params body F.scope F.cl pm (.ref F.c) ctv), sl⟩ : Obj) := fun H h ok sm => by
    obtain ⟨z, _, _⟩ := ok f _ (sm _ _ gf)
    exact z
  refine ⟨fun H h ok sm _ => ?_, fun A outer s H us vs Q E hr e0 sm rv ⟨G1, qs, r, s1, s2, tb, rp, em, q⟩ => ?_⟩
  · obtain ⟨od, sl, pm, ctv, e⟩ := fnat H h ok sm
    exact ⟨_, od, _, sl, e⟩
  let p : Addr → Prop := fun b => ∃ y, F.cl.lookup y = some b
  have cellAt : ∀ b, p b → ∃ o v, G b = some (cellF o) ∧ o.data = .cell v := fun b ⟨y, hy⟩ => C.all y b hy
  have hcell : ∀ b, p b → ∃ o v, H b = some (cellF o) ∧ o.data = .cell v ∧ s.heap.get? b = some o := fun b hp => by
    obtain ⟨o, v, e1, e2⟩ := cellAt b hp
    have e3 := sm _ _ e1
    obtain ⟨e4, _⟩ := e0.hok b _ e3
    exact ⟨o, v, e3, e2, e4⟩
  have gcell : ∀ b, p b → ∃ o, G1 b = some (cellF o) := fun b hp => by
    obtain ⟨o, v, e1, e2⟩ := cellAt b hp
    exact ⟨o, s1 _ _ e1⟩
  -- the heaps without the cells
  have subG : SubC G1 (cutH p G1) := fun b o e n => by
    rw [cut_at fun z => ?_]
    · exact e
    · obtain ⟨o', e'⟩ := gcell b z
      rw [e] at e'
      exact n _ (Option.some.inj e')
  have same0 : Same (cutH p G1) (cutH p H) := fun b o e => by
    obtain ⟨n, e⟩ := cut_some e
    rw [cut_at n]
    exact s2 _ _ e
  have hok0 : HOk Fx.P Fx.w (cutH p H) s.heap := HOk.cut e0.hok fun b o hp e => by
    obtain ⟨o', v, e1, _⟩ := hcell b hp
    rw [e] at e1
    exact ⟨o', Option.some.inj e1⟩
  have none0 : ∀ b, H b = none → cutH p H b = none := fun b e => by
    by_cases z : p b
    · exact cut_no z
    · rw [cut_at z, e]
  have e00 : Env0 Fx.P Fx.w K Fx.mg Fx.base A outer s (cutH p H) := ⟨e0.frames, e0.mod, fun b o e => ⟨(e0.bs b o e).1, none0 b (e0.bs b o e).2⟩, e0.bsz, e0.funs, fun b hb => none0 b (e0.frf b hb), hok0, e0.bare⟩
  have tb0 : TabG (cutH p G1) (cutH p H) := ⟨tabN_cut tb.1 fun b o e n => by
    rw [cut_at fun z => ?_]
    · exact e
    · obtain ⟨o', v, e1, _⟩ := hcell b z
      rw [e] at e1
      exact n _ (Option.some.inj e1), fun b o e => tb.2 b o (cut_some e).2⟩
  have CA : CellsAt F.cl fr (ws.map some) s.heap (cutH p H) := by
    refine ⟨by rw [List.length_map]; exact C.len, fun y c e => ?_, C.inj, fun i y e => ?_⟩
    · obtain ⟨o, v, e1, e2, e3⟩ := hcell c ⟨y, e⟩
      exact ⟨cut_no ⟨y, e⟩, v, o, e3, e2⟩
    · obtain ⟨c, o, u, v, h1, h2, h3, h4, h5⟩ := C.has i y e
      refine ⟨c, h1, fun v' ev => ?_⟩
      rw [List.getElem?_map, h4] at ev
      cases ev
      obtain ⟨e4, _⟩ := e0.hok c _ (sm _ _ h2)
      exact ⟨u, h5, o, e4, h3⟩
  unfold semL at em
  split at em
  · rename_i hl
    cases ed : d ((qs ++ caps).map Sl.val ++ List.replicate (N.length - (qs ++ caps).length) .un) with
    | none => rw [ed] at em; cases em
    | some z =>
      obtain ⟨r', Γ'⟩ := z
      rw [ed] at em
      cases em
      have hlv : vs.length = ps.length := by rw [rp.length]; exact hl
      have rall : Reps K (cutH p G1) (vs ++ ws) (qs ++ caps) := (rp.cut subG).append ((C.reps.mono s1).cut subG)
      have E0 := er_start (K := K) (π := fun _ => 0) (n := N.length) same0 tb0 rall
      have est : startF N vs (ws.map some) = (vs ++ ws).map some ++ List.replicate (N.length - (vs ++ ws).length) none := by
        unfold startF
        rw [List.map_append, List.append_assoc, List.length_append, List.length_map, Nat.sub_sub]
      have lim : s.heap.NoLimit := e0.mod.nolimit.keeps fun b o e => (e0.bs b o e).1
      obtain ⟨od, sl, pm, ctv, ho⟩ := fnat H s.heap e0.hok sm
      obtain ⟨oc, cvs, t, c1, c2, c3⟩ := (show ∃ (oc : Obj) (vs : Array Value) (t : Tok), s.heap.get? F.c = some oc ∧ oc.data = .fields vs ∧ vs[1]? = some (.str F.qual t) from by
        obtain ⟨z, _, _⟩ := e0.hok F.c _ (sm _ _ gc)
        exact z)
      refine PySem.W.kla_callFunE hr.depth ho rfl S.co S.gen rfl ⟨F.c, oc, cvs, t, rfl, c1, c2, c3⟩ ?_
      rw [hb pm ctv us (by rw [← rv.length]; exact hlv)]
      refine wpAny_pure (wpAny_newFunctionEnv S.nocell (fun ⟨n, _⟩ hy => S.par n (List.of_mem_zip hy).1) (fun h₁ hns hsb => ⟨lim.fresh _ hsb, ?_⟩) S.kind)
      show codeAny _ _ (.expr body (envF F f s.heap.objs.size)) _ _
      have kp : ∀ b o, s.heap.get? b = some o → h₁.get? b = some o := fun b o e => hsb.extBut b o (Nat.ne_of_lt (Heap.lt_size e)) (Heap.get?_push_of_some _ e)
      have I : Inv (ncx CX0 Fx.P Fx.w K Fx.mg Fx.base N F f A outer s (cutH p H) E) [] (startF N vs (ws.map some)) (cutH p H) { s with heap := h₁, toks := s.toks + (ps.zip us).length } := inv_startN S hr.hd e00 hlv rv CA hns kp
      refine PySem.W.kla_codeExpr (wpAny_mono ((hbody A outer s (cutH p H) E (hr.deeper _)).run [] _ _ _ (fun x H2 => ∃ G2, Gr (fun _ => False) (cutH p G1) (cutH p H) G2 H2 ∧ Same G2 H2 ∧ RR K G2 H2 (fun a => cutH p H a = none) x r) I ?_) (fun v s' hq => ?_) fun e s' hq => hq)
      · rw [est]
        have noAt : ∀ j k a, ¬ At ((qs ++ caps).map Sl.val ++ List.replicate (N.length - (qs ++ caps).length) Sl.un) ((vs ++ ws).map some ++ List.replicate (N.length - (vs ++ ws).length) none) j k a := fun j k a ⟨p', e1, _⟩ => by
          by_cases hi : j < (qs ++ caps).length
          · rw [List.getElem?_append_left (by simpa using hi), List.getElem?_map] at e1
            obtain ⟨q, e, e2⟩ := Option.map_eq_some_iff.mp e1
            cases e2
          · rw [List.getElem?_append_right (by simp at hi ⊢; omega), List.getElem?_replicate] at e1
            split at e1 <;> cases e1
        exact ⟨_, _, _, _, _, E0, ed, fun x G2 H2 T rr => ⟨G2, T.g.mono fun a ⟨j, k, n, z⟩ => noAt j k a z, T.e.sub, rr⟩⟩
      · obtain ⟨w', H2, J, rw', G2, g2, sm2, rr⟩ := hq
        have un := J.base
        -- the cells come back
        have no2 : ∀ b, p b → H2 b = none := fun b hp => by
          obtain ⟨o, v, e1, e2, e3⟩ := hcell b hp
          exact un.free b o e3 (cut_no hp) (by simp [ncx])
        have ne2 : ∀ {b : Addr} {o : HO}, H2 b = some o → ¬ p b := fun {b o} e hp => by
          rw [no2 b hp] at e
          cases e
        have there2 : ∀ b, p b → ∃ o, H b = some (cellF o) ∧ s'.heap.get? b = some o := fun b hp => by
          obtain ⟨o, v, e1, e2, e3⟩ := hcell b hp
          refine ⟨o, e1, un.keep b o e3 (cut_no hp) (fun z => ?_) (by simp [ncx])⟩
          have z : b ∈ frs outer := z
          rw [e0.frf b z] at e1
          cases e1
        have sub2 : Same G2 (mixH p G1 G2) := fun b o e => by
          rw [mix_at (ne2 (sm2 _ _ e))]
          exact e
        have sameH : Same (mixH p G1 G2) (mixH p H H2) := fun b o e => by
          by_cases hp : p b
          · rw [mix_in hp] at e ⊢
            exact s2 _ _ e
          · rw [mix_at hp] at e ⊢
            exact sm2 _ _ e
        refine ⟨w', mixH p H H2, J.os, J.bare, ?_, ?_, rw', q w' (mixH p G1 G2) (mixH p H H2) ?_ sameH ?_⟩
        · refine ⟨fun b o e n hf hx => ?_, fun b o e n hf hx => ?_, fun b o e n hx => ?_, fun b o e hx => un.there b o e hx, fun b xs e => ?_, fun b o u e => ?_, fun b ps' e => ?_⟩
          · exact un.keep b o e (none0 b n) hf hx
          · exact un.slot b o e (none0 b n) hf hx
          · by_cases hp : p b
            · rw [mix_in hp]
              exact n
            · rw [mix_at hp]
              exact un.free b o e (none0 b n) hx
          · have hp : ¬ p b := fun z => by
              obtain ⟨o, _, e1, _⟩ := hcell b z
              rw [e] at e1
              unfold cellF at e1
              cases e1
            rw [mix_at hp]
            exact un.tups b xs (by show cutH p H b = _; rw [cut_at hp, e])
          · by_cases hp : p b
            · rw [mix_in hp]
              exact e
            · rw [mix_at hp]
              exact un.frzs b o u (by show cutH p H b = _; rw [cut_at hp, e])
          · have hp : ¬ p b := fun z => by
              obtain ⟨o, _, e1, _⟩ := hcell b z
              rw [e] at e1
              unfold cellF at e1
              cases e1
            rw [mix_at hp]
            exact un.tbls b ps' (by show cutH p H b = _; rw [cut_at hp, e])
        · intro b o e
          by_cases hp : p b
          · rw [mix_in hp] at e
            obtain ⟨o', e1, e2⟩ := there2 b hp
            rw [e] at e1
            cases e1
            exact ⟨e2, trivial, ⟨_, e2⟩, fun _ _ _ _ => trivial⟩
          · rw [mix_at hp] at e
            refine (J.hok b o e).stay (fun _ _ _ q => q) (fun d q => ?_) fun d xs q => ?_
            · rw [mix_at (ne2 q)]
              exact q
            · rw [mix_at (ne2 q)]
              exact q
        · refine ⟨fun b o e => ?_, fun b o e _ nt => ?_, fun b o e _ nc n => ?_, fun b o e => ?_, fun t => ?_⟩
          · by_cases hp : p b
            · rw [mix_in hp]
              exact e
            · rw [mix_at hp]
              exact g2.g _ _ (by rw [cut_at hp]; exact e)
          · by_cases hp : p b
            · rw [mix_in hp]
              exact e
            · rw [mix_at hp]
              exact g2.h b o (by rw [cut_at hp]; exact e) (fun z => z) nt
          · by_cases hp : p b
            · rw [mix_in hp]
              exact n
            · rw [mix_at hp]
              exact g2.f b o (by rw [cut_at hp]; exact e) (fun z => z) nc (by rw [cut_at hp]; exact n)
          · by_cases hp : p b
            · exact ⟨o, by rw [mix_in hp]; exact e⟩
            · rw [mix_at hp]
              exact g2.k b o (by rw [cut_at hp]; exact e)
          · refine ⟨(g2.t tb0).1.ext fun b o e => by rw [mix_at (ne2 e)]; exact e, fun b o e => ?_⟩
            by_cases hp : p b
            · rw [mix_in hp] at e
              exact tb.2 b o e
            · rw [mix_at hp] at e
              exact (g2.t tb0).2 b o e
        · cases r with
          | val z => exact Rep.mono sub2 rr
          | new z =>
            obtain ⟨a, h1, h2, h3, h4⟩ := rr
            have ha : ¬ p a := by
              obtain ⟨o, e⟩ := h4.there
              exact ne2 e
            refine ⟨a, h1, by rw [cut_at ha] at h2; exact h2, by rw [mix_at ha]; exact h3, h4.mono sub2 (by rw [mix_at ha])⟩
  · cases em
end
section
open PySem PySem.Spec L2 NdefX LamX
variable [Fx]
/-! ### a lambda is made -/
abbrev lamF (X : Cx) (params : Arguments) (scope : Scope) (c' : Addr) : NF := ⟨"<lambda>", X.env.qual ++ "<lambda>", params, [], scope, cloFrom X.env.cells scope.names [], c'⟩
theorem upd_no {H : Hp} {a b : Addr} {o : HO} (e : upd H a o b = Option.none) : H b = Option.none := by
  by_cases z : b = a
  · rw [z, upd_same] at e
    cases e
  · rwa [upd_ne z] at e
section
variable {X : Cx} {pins : List (Addr × Obj)} {σ : L2.St} {H : Hp} {s : Shared}
theorem lam_laid {F : NF} {body : Expr} {h' : Heap} {t' : Nat} {o : Obj} {pm ctv : Value} (I : Inv X pins σ H { s with heap := h', toks := t' }) (ho : o = ({ cls := .type "function", data := .func (PySem.W.kla_fn F.name F.qual F.params body F.scope F.cl pm (.ref F.c) ctv) } : Obj)) :
    Inv X pins σ (upd H h'.objs.size (FnL h'.objs.size F body)) { s with heap := h'.push o, toks := t' } := by
  subst ho
  have I' := I.laid (h' := h'.push ({ cls := .type "function", data := .func (PySem.W.kla_fn F.name F.qual F.params body F.scope F.cl pm (.ref F.c) ctv) } : Obj)) (t' := t') (a := h'.objs.size) (o := FnL h'.objs.size F body) (fun b u e => Heap.get?_push_of_some _ e) (Nat.le_refl _) ?_
  · exact I'
  · have e := Heap.get?_push_size h' (o := ({ cls := .type "function", data := .func (PySem.W.kla_fn F.name F.qual F.params body F.scope F.cl pm (.ref F.c) ctv) } : Obj)) rfl
    exact ⟨⟨_, _, pm, ctv, e⟩, ⟨_, e⟩, fun h1 h2 ⟨od, sl, p, t, z⟩ st => ⟨od, sl, p, t, st _ z⟩⟩
theorem lam_new {T : List NTab} {nm : Nat → Nat → Str} {c P : Addr} {params : Arguments} {body : Expr} {scope : Scope} {pos : Pos} {E : Value → Shared → Prop} {Q : Value → Shared → Prop} (I : Inv X pins σ H s) (TB : TabB X.base X.mg c P) (hcode : X.env.code = .ref c)
    (hm : (P, nm) ∈ T) (hn : nm pos.line pos.col = X.env.qual ++ "<lambda>") (hu : ∀ p ∈ T, p.1 = P → p.2 = nm) (hT : TabsN T H) (hdef : defaultsOf params X.env = ([], [])) (hfree : ∀ y ∈ scope.names, y.2 = .free → ∃ c, X.env.cells.lookup y.1 = some c)
    (h : ∀ (f c' : Addr) (H1 : Hp) (s' : Shared), Inv X pins σ H1 s' → ExtN H H1 → (∀ b, H1 b = Option.none → H b = Option.none) → TabsN T H1 → H f = none → f ≠ c' → H1 f = some (FnL f (lamF X params scope c') body) → H1 c' = some (CodeO c' (X.env.qual ++ "<lambda>")) →
      (H c' = none ∨ H c' = some (CodeO c' (X.env.qual ++ "<lambda>"))) → Q (.ref f) s') :
    wpAny (model X.prog X.w) X.A (eval (.Lambda params body scope pos) X.env) Q E s := by
  obtain ⟨ps, hP, ht, ha⟩ := (show TabN H P nm from hT _ hm)
  refine PySem.W.kla_eval hdef ?_
  have bP : s.heap.BuiltinsAt X.mg P := TB.bm.keeps I.bk
  have hP' : s.heap.get? P = some { cls := .none, data := .fields ps } := I.hok P _ hP
  cases hc : codeAmong pos ps.toList with
  | none =>
    refine PySem.W.kla_makeFunction (mg := X.mg) (c := c) (P := P) (ps := ps) (closure_ok hfree) I.ok.glob (I.mod.glob.keeps I.bk) hcode (TB.code.keeps I.bk) hP' ht hc TB.gP bP fun c' ctv h' tk hx hge hlt hrec htb => ?_
    obtain ⟨c2, oc, vs, t, e2, hoc, hd, hv⟩ := hrec
    cases e2
    have nC : H c' = none := I.hok.fresh hge
    have I1 := inv_table (t' := tk) (more := #[rawInt pos.line, rawInt pos.col, .ref c']) (h' := h') (q := X.env.qual ++ "<lambda>") I hP (fun b o hb e => hx b o hb e) htb hge ⟨oc, vs, t, hoc, hd, hv⟩
    generalize hH1 : upd (upd H P (.tbl (ps ++ #[rawInt pos.line, rawInt pos.col, .ref c']))) c' (CodeO c' (X.env.qual ++ "<lambda>")) = H1 at I1
    have hE : ExtN H H1 := fun b o e n => by
      rw [← hH1, upd_ne (ne_of_none e nC), upd_ne (fun z => n ps (Option.some.inj (e.symm.trans (by rw [z]; exact hP))))]
      exact e
    have hC : H1 c' = some (CodeO c' (X.env.qual ++ "<lambda>")) := by rw [← hH1]; exact upd_same
    have eL : (ps ++ #[rawInt pos.line, rawInt pos.col, .ref c']).toList = ps.toList ++ [rawInt pos.line, rawInt pos.col, .ref c'] := by simp
    have T1 : TabsN T H1 := fun p hp => by
      by_cases hb : p.1 = P
      · rw [hu p hp hb, hb]
        refine ⟨_, by rw [← hH1, upd_ne (ne_of_none hP nC), upd_same], by rw [eL]; exact PySem.TriplesOk_snoc _ _ _ _ ht, fun p' cv hcv => ?_⟩
        rw [eL] at hcv
        rcases among_app2 _ ht hcv with z | ⟨z, z1, z2⟩
        · obtain ⟨c0, e1, e2⟩ := ha p' cv z
          exact ⟨c0, e1, hE _ _ e2 codeO_ne⟩
        · exact ⟨c', z, by rw [← z1, ← z2, hn]; exact hC⟩
      · obtain ⟨ps', a1, a2, a3⟩ := hT p hp
        refine ⟨ps', by rw [← hH1, upd_ne (ne_of_none a1 nC), upd_ne hb]; exact a1, a2, fun p' cv hcv => ?_⟩
        obtain ⟨c0, e1, e2⟩ := a3 p' cv hcv
        exact ⟨c0, e1, hE _ _ e2 codeO_ne⟩
    have nF : H1 h'.objs.size = none := I1.hok.fresh (Nat.le_refl _)
    have I2 := lam_laid (F := lamF X params scope c') (body := body) (pm := (X.mg "__name__").getD .none) (ctv := ctv) I1 rfl
    refine h h'.objs.size c' _ _ I2 (fun b o e n => ?_) (fun b e => ?_) (T1.ext fun b o e => ?_) (I.hok.fresh (Nat.le_trans hge (Nat.le_of_lt hlt))) (Nat.ne_of_gt hlt) upd_same ?_ (.inl nC)
    · have e1 := hE b o e n
      exact (upd_ne (ne_of_none e1 nF)).trans e1
    · have e1 := upd_no e
      rw [← hH1] at e1
      exact upd_no (upd_no e1)
    · exact (upd_ne (ne_of_none e nF)).trans e
    · exact (upd_ne (Nat.ne_of_lt hlt)).trans hC
  | some cv =>
    obtain ⟨c', e, hco⟩ := ha pos cv hc
    subst e
    rw [hn] at hco
    refine PySem.W.kla_makeFunctionHit (mg := X.mg) (c := c) (P := P) (ps := ps) (closure_ok hfree) I.ok.glob (I.mod.glob.keeps I.bk) hcode (TB.code.keeps I.bk) hP' ht hc bP fun ctv h' tk hx hsz => ?_
    have I1 : Inv X pins σ H { s with heap := h', toks := tk } := I.kept hx
    have nF : H h'.objs.size = none := I1.hok.fresh (Nat.le_refl _)
    have I2 := lam_laid (F := lamF X params scope c') (body := body) (pm := (X.mg "__name__").getD .none) (ctv := ctv) I1 rfl
    refine h h'.objs.size c' _ _ I2 (fun b o e n => ?_) (fun b e => upd_no e) (hT.ext fun b o e => ?_) nF (ne_of_none hco nF).symm upd_same ?_ (.inr hco)
    · exact (upd_ne (ne_of_none e nF)).trans e
    · exact (upd_ne (ne_of_none e nF)).trans e
    · exact (upd_ne (ne_of_none hco nF)).trans hco
end
/-! ### functions as arguments -/
/-- Gc knows the cells of X's frame, and what they hold -/
structure CellsOf (X : Cx) (σ : L2.St) (G Gc : Hp) : Prop where
  sub : Same G Gc
  all : ∀ y c, X.env.cells.lookup y = some c → ∃ o v, Gc c = some (cellF o) ∧ o.data = .cell v
  has : ∀ (i : Nat) (y : Str) (v : V) (c : Addr), X.N[i]? = some y → σ[i]? = some (some v) → (X.env.scope.names.lookup y = some .cell ∨ X.env.scope.names.lookup y = some .free) → X.env.cells.lookup y = some c → ∃ o u, Gc c = some (cellF o) ∧ o.data = .cell (some u) ∧ L2.RelV v u
/-- a function that reads the cells of X's frame -/
def RawF (X : Cx) (σ : L2.St) (G : Hp) (k : Nat) (x : V) (m : List PV → Option Rs) : Prop := ∃ f, x = .ref f ∧ ∀ Gc, CellsOf X σ G Gc → Clo X.K Gc k f m
theorem RawF.mono {X : Cx} {σ : L2.St} {G G' : Hp} {k : Nat} {x : V} {m : List PV → Option Rs} (h : RawF X σ G k x m) (s : Same G G') : RawF X σ G' k x m := by
  obtain ⟨f, e, q⟩ := h
  exact ⟨f, e, fun Gc c => q Gc ⟨s.trans c.sub, c.all, c.has⟩⟩
def ArgR (X : Cx) (σ : L2.St) (G : Hp) : List V → List Sl → Prop
  | [], [] => True
  | v :: vs, .val p :: as => Rep X.K G v p ∧ ArgR X σ G vs as
  | v :: vs, .fn k m :: as => RawF X σ G k v m ∧ ArgR X σ G vs as
  | _, _ => False
theorem ArgR.mono {X : Cx} {σ : L2.St} {G G' : Hp} (s : Same G G') : ∀ {vs : List V} {as : List Sl}, ArgR X σ G vs as → ArgR X σ G' vs as
  | [], [], _ => trivial
  | [], _ :: _, h => by cases h
  | _ :: _, [], h => by cases h
  | v :: vs, .val p :: as, h => ⟨h.1.mono s, ArgR.mono s h.2⟩
  | v :: vs, .fn k m :: as, h => ⟨RawF.mono h.1 s, ArgR.mono s h.2⟩
  | v :: vs, .un :: as, h => by cases h
  | v :: vs, .mu _ _ :: as, h => by cases h
def tA (X : Cx) (f : D (List Sl)) : TA := fun σ H Q => ∃ π G Γ as Γ', ER X.K π G σ H Γ ∧ f Γ = some (as, Γ') ∧ ∀ xs G' H', Ste X.K π σ G H Γ G' H' Γ' → ArgR X σ G' xs as → Q xs H'
abbrev SA (X : Cx) (es : List Expr) (f : D (List Sl)) : Prop := PA X es (tA X f)
/-- the captured names' values -/
@[simp] def dCaps : List Nat → D (List PV)
  | [], Γ => some ([], Γ)
  | j :: js, Γ => (bnd (dNm j) fun x => bnd (dCaps js) fun xs => ret (x :: xs)) Γ
theorem caps_some {K : PySem.W.Frag} {π : Nat → Addr} {σ : St} {H : Hp} : ∀ {js : List Nat} {G : Hp} {Γ Γ' : Ev} {caps : List PV}, ER K π G σ H Γ → dCaps js Γ = some (caps, Γ') → ∃ (G' : Hp) (ws : List V), Ste K π σ G H Γ G' H Γ' ∧ ws.length = js.length ∧ (∀ (i j : Nat), js[i]? = some j → ∃ v, σ[j]? = some (some v) ∧ ws[i]? = some v) ∧ Reps K G' ws caps
  | [], G, Γ, Γ', caps, E, h => by
    cases h
    exact ⟨G, [], .refl E, rfl, fun i j e => by simp at e, .nil⟩
  | j :: js, G, Γ, Γ', caps, E, h => by
    unfold dCaps at h
    obtain ⟨x, Γ1, e1, h⟩ := bnd_some h
    obtain ⟨xs, Γ2, e2, h⟩ := bnd_some h
    obtain ⟨rfl, rfl⟩ := ret_some h
    have one : ∃ G1 v, Ste K π σ G H Γ G1 H Γ1 ∧ σ[j]? = some (some v) ∧ Rep K G1 v x := by
      unfold dNm at e1
      split at e1
      · rename_i p e
        cases e1
        obtain ⟨v, h1, h2⟩ := E.val j _ e
        exact ⟨G, v, .refl E, h1, h2⟩
      · rename_i p e
        cases e1
        obtain ⟨a, G', h1, S, hr⟩ := slot_lock E e
        exact ⟨G', _, S, h1, hr⟩
      · cases e1
    obtain ⟨G1, v, S1, h1, r1⟩ := one
    obtain ⟨G2, ws, S2, h2, h3, r2⟩ := caps_some S1.e e2
    refine ⟨G2, v :: ws, S1.trans S2, by rw [List.length_cons, h2, List.length_cons], fun i j' e => ?_, .cons (r1.mono S2.g.g) r2⟩
    cases i with
    | zero =>
      simp at e
      subst e
      exact ⟨v, h1, rfl⟩
    | succ i =>
      obtain ⟨v', q1, q2⟩ := h3 i j' (by simpa using e)
      exact ⟨v', q1, by simpa using q2⟩
@[simp] def dAN (Γ : Ev) : Option (List Sl × Ev) := some ([], Γ)
@[simp] def dAV (f : D PV) (h : D (List Sl)) (Γ : Ev) : Option (List Sl × Ev) := (bnd f fun x => bnd h fun xs => ret (Sl.val x :: xs)) Γ
@[simp] def dAF (k : Nat) (js : List Nat) (M : List PV → List PV → Option Rs) (h : D (List Sl)) (Γ : Ev) : Option (List Sl × Ev) := (bnd (dCaps js) fun cs => bnd h fun xs => ret (Sl.fn k (M cs) :: xs)) Γ
@[simp] def dFn (i : Nat) (Γ : Ev) : Option ((Nat × (List PV → Option Rs)) × Ev) := match Γ[i]? with
  | some (.fn k m) => some ((k, m), Γ)
  | _ => none
@[simp] def dAL (i : Nat) (h : D (List Sl)) (Γ : Ev) : Option (List Sl × Ev) := (bnd (dFn i) fun z => bnd h fun xs => ret (Sl.fn z.1 z.2 :: xs)) Γ
theorem dFn_some {i : Nat} {Γ Γ1 : Ev} {z : Nat × (List PV → Option Rs)} (h : dFn i Γ = some (z, Γ1)) : Γ1 = Γ ∧ Γ[i]? = some (.fn z.1 z.2) := by
  unfold dFn at h
  split at h
  · rename_i k m e
    cases h
    exact ⟨rfl, e⟩
  · cases h
section
variable {X : Cx} {pos p : Pos} {e : Expr} {es : List Expr} {f : D PV} {l : D (List Sl)}
theorem sa_nil : SA X [] dAN := pa_nil.imp fun σ H Q ⟨π, G, Γ, w, Γ', E, ef, q⟩ => by
  cases ef
  exact q [] G H (.refl E) trivial
theorem sa_val (ha : SV X e f) (hr : SA X es l) (hs : starEach (e :: es) X.env = (false, eval e X.env) :: starEach es X.env := by rfl) : SA X (e :: es) (dAV f l) := (pa_cons ha hr hs).imp fun σ H Q ⟨π, G, Γ, w, Γ', E, ef, q⟩ => by
  obtain ⟨x, Γ1, e1, ef⟩ := bnd_some ef
  obtain ⟨xs, Γ2, e2, ef⟩ := bnd_some ef
  obtain ⟨rfl, rfl⟩ := ret_some ef
  exact ⟨π, G, Γ, x, Γ1, E, e1, fun u G1 H1 S1 r1 => ⟨π, G1, Γ1, xs, _, S1.e, e2, fun us G2 H2 S2 r2 => q _ G2 H2 (S1.trans S2) ⟨r1.mono S2.g.g, r2⟩⟩⟩
/-- a function made here -/
def tFn (X : Cx) (k : Nat) (js : List Nat) (M : List PV → List PV → Option Rs) : TE := fun σ H Q => ∃ π G Γ cs Γ', ER X.K π G σ H Γ ∧ dCaps js Γ = some (cs, Γ') ∧ ∀ x G' H', Ste X.K π σ G H Γ G' H' Γ' → RawF X σ G' k x (M cs) → Q x H'
theorem sa_fn {k : Nat} {js : List Nat} {M : List PV → List PV → Option Rs} (ha : PE X e (tFn X k js M)) (hr : SA X es l) (hs : starEach (e :: es) X.env = (false, eval e X.env) :: starEach es X.env := by rfl) : SA X (e :: es) (dAF k js M l) := (pa_cons ha hr hs).imp fun σ H Q ⟨π, G, Γ, w, Γ', E, ef, q⟩ => by
  obtain ⟨x, Γ1, e1, ef⟩ := bnd_some ef
  obtain ⟨xs, Γ2, e2, ef⟩ := bnd_some ef
  obtain ⟨rfl, rfl⟩ := ret_some ef
  exact ⟨π, G, Γ, x, Γ1, E, e1, fun u G1 H1 S1 r1 => ⟨π, G1, Γ1, xs, _, S1.e, e2, fun us G2 H2 S2 r2 => q _ G2 H2 (S1.trans S2) ⟨r1.mono S2.g.g, r2⟩⟩⟩
theorem sa_loc (i : Nat) {x : Str} (hr : SA X es l) (hN : X.N[i]? = some x := by rfl) (hv : Vis X.env.scope x := by first | exact Or.inl rfl | exact Or.inr (Or.inl rfl) | exact Or.inr (Or.inr rfl)) (hd : (x == ("__debug__" : Str)) = false := by decide) (hcd : (x == ("__classdict__" : Str)) = false := by decide)
    (hs : starEach (.Name x pos :: es) X.env = (false, eval (.Name x pos) X.env) :: starEach es X.env := by rfl) : SA X (.Name x pos :: es) (dAL i l) := (pa_cons (pe_var hN hv hd hcd) hr hs).imp fun σ H Q ⟨π, G, Γ, w, Γ', E, ef, q⟩ => by
  obtain ⟨z, Γ1, e1, ef⟩ := bnd_some ef
  obtain ⟨xs, Γ2, e2, ef⟩ := bnd_some ef
  obtain ⟨rfl, rfl⟩ := ret_some ef
  obtain ⟨rfl, e3⟩ := dFn_some e1
  obtain ⟨g, h1, h2⟩ := E.fn i _ _ e3
  exact ⟨_, h1, π, G, _, xs, _, E, e2, fun us G2 H2 S2 r2 => q _ G2 H2 S2 ⟨⟨g, rfl, fun Gc c => h2.mono (S2.g.g.trans c.sub)⟩, r2⟩⟩
/-- lambda params: body; fr the captured names, js their slots here, N' the lambda's own slots -/
theorem pe_lam {nm : Nat → Nat → Str} {c P : Addr} {params : Arguments} {body : Expr} {scope : Scope} {k : Nat} {js : List Nat} {N' ps fr : List Str} {d : D Rs} (hX : X.prog = Fx.P ∧ X.w = Fx.w ∧ X.mg = Fx.mg ∧ X.base = Fx.base) (TB : TabB X.base X.mg c P) (hcode : X.env.code = .ref c)
    (hm : (P, nm) ∈ Fx.T) (hu : ∀ p ∈ Fx.T, p.1 = P → p.2 = nm) (hn : nm pos.line pos.col = X.env.qual ++ "<lambda>") (hdef : defaultsOf params X.env = ([], []))
    (hcap : ndefB X.env.scope scope fr = true) (hjs : js.map (fun j => X.N[j]?) = fr.map some) (S : NScope N' ps fr scope)
    (hb : ∀ (q : Str) (cl : List (Str × Addr)) (pm cv ctv : Value) (us : List Value), us.length = ps.length → bindArgs (PySem.W.kla_fn "<lambda>" q params body scope cl pm cv ctv) ⟨us, []⟩ = pure (ps.zip us))
    (hbody : ∀ (f c' : Addr) (A : Around) (outer : List Env) (s : Shared) (H : Hp) (E : XK), Room k (A.deeper (envF (lamF X params scope c') f s.heap.objs.size)) → SR (ncx CX0 Fx.P Fx.w X.K Fx.mg Fx.base N' (lamF X params scope c') f A outer s H E) body d) :
    PE X (.Lambda params body scope pos) (tFn X (k + 1) js (semL d ps.length N'.length)) := by
  refine ⟨fun pins s σ H Q I h => ?_⟩
  obtain ⟨π, G, Γ, cs, Γ', E, ec, q⟩ := h
  obtain ⟨G', ws, S1, l1, l2, rw1⟩ := caps_some E ec
  have hfree := ndef_free hcap
  have hfr := ndef_fr hcap
  have hfc : ∀ y ∈ scope.names, y.2 = .free → ∃ c, X.env.cells.lookup y.1 = some c := fun y hy e => (hfree y hy e).elim (fun z => I.ok.has _ (.inl z)) fun z => I.ok.has _ (.inr z)
  refine lam_new I TB hcode hm hn hu E.tabs.1 hdef hfc fun f c' H1 s' I1 eN nn T1 f0 fc f1 c1 hc0 => ?_
  -- what is known from now on
  have gf : G' f = none := S1.e.sub.free f0
  let G1 : Hp := upd (upd G' c' (CodeO c' (X.env.qual ++ "<lambda>"))) f (FnL f (lamF X params scope c') body)
  have gc : ∀ o, G' c' = some o → o = CodeO c' (X.env.qual ++ "<lambda>") := fun o e => by
    rcases hc0 with z | z
    · rw [S1.e.sub.free z] at e
      cases e
    · rw [S1.e.sub _ _ e] at z
      exact Option.some.inj z
  have sm1 : Same G' G1 := fun b o e => by
    show upd (upd G' c' _) f _ b = _
    rw [upd_ne (ne_of_none e gf)]
    by_cases z : b = c'
    · rw [z, upd_same, gc o (by rw [← z]; exact e)]
    · rw [upd_ne z]
      exact e
  have noTbl : ∀ b o, G' b = some o → ∀ ps', o ≠ .tbl ps' := fun b o e ps' z => by
    have := S1.e.tabs.2 b o e
    rw [z] at this
    exact this
  have smH : Same G1 H1 := fun b o e => by
    by_cases z : b = f
    · rw [z] at e ⊢
      rw [show G1 f = _ from upd_same] at e
      rw [f1, e]
    · rw [show G1 b = _ from upd_ne z] at e
      by_cases z2 : b = c'
      · rw [z2, upd_same] at e
        rw [z2, c1, e]
      · rw [upd_ne z2] at e
        exact eN b o (S1.e.sub _ _ e) (noTbl b o e)
  have kk : ∀ a o, H a = some o → ∃ o', H1 a = some o' := fun a o e => by
    cases w : H1 a with
    | some o' => exact ⟨o', rfl⟩
    | none =>
      rw [nn a w] at e
      cases e
  have ff : ∀ a o, H a = some o → NC o → G' a = none → G1 a = none := fun a o e nc n => by
    have h1 : a ≠ f := ne_of_none e f0
    show upd (upd G' c' _) f _ a = _
    rw [upd_ne h1]
    by_cases z : a = c'
    · rcases hc0 with w | w
      · rw [z, w] at e
        cases e
      · rw [z, w] at e
        cases e
        exact absurd rfl (nc.2 _ _)
    · rw [upd_ne z]
      exact n
  have tt : TabG G' H → TabG G1 H1 := fun t => ⟨T1, fun b o e => by
    by_cases z : b = f
    · rw [z, show G1 f = _ from upd_same] at e
      cases e
      trivial
    · rw [show G1 b = _ from upd_ne z] at e
      by_cases z2 : b = c'
      · rw [z2, upd_same] at e
        cases e
        trivial
      · rw [upd_ne z2] at e
        exact t.2 b o e⟩
  have gr : Gr (fun _ => False) G' H G1 H1 := ⟨sm1, fun a o e _ nt => eN a o e fun ps' z => by rw [z] at nt; exact nt, fun a o e _ nc n => ff a o e nc n, kk, tt⟩
  refine ⟨.ref f, H1, I1, rfl, q (.ref f) G1 H1 (S1.trans (.grow S1.e gr smH)) ⟨f, rfl, fun Gc C => ?_⟩⟩
  refine lam_clo (ws := ws) S (fun pm ctv us hl => hb _ _ pm _ ctv us hl) (fun A outer s H E hr => hbody f c' A outer s H E hr) (C.sub _ _ upd_same) (C.sub _ _ ?_) ⟨?_, rw1.mono (sm1.trans C.sub), fun y c e => C.all y c (clo_cm hfc e), fun x y c e1 e2 => I.ok.inj x y c (clo_cm hfc e1) (clo_cm hfc e2), fun i y e => ?_⟩
  · show upd (upd G' c' _) f _ c' = _
    rw [upd_ne fc.symm, upd_same]
  · rw [l1]
    have := congrArg List.length hjs
    simpa using this
  · have e2 : (js.map fun j => X.N[j]?)[i]? = some (some y) := by
      rw [hjs, List.getElem?_map, e]
      rfl
    rw [List.getElem?_map] at e2
    obtain ⟨j, ej, e3⟩ := Option.map_eq_some_iff.mp e2
    obtain ⟨v, q1, q2⟩ := l2 i j ej
    have hyf := hfr y (List.mem_of_getElem? e)
    have hk := hfree (y, .free) hyf rfl
    obtain ⟨cc, hcc⟩ := hfc (y, .free) hyf rfl
    obtain ⟨o, u, w1, w2, w3⟩ := C.has j y v cc e3 q1 hk hcc
    exact ⟨cc, o, u, v, clo_has hfc hyf hcc, w1, w2, q2, w3⟩
end
end
section
open PySem PySem.Spec L2 NdefX LamX
variable [Fx]
/-! ### defs that are given functions -/
/-- the arguments; kc: how much room their functions may want -/
def ArgC (K : PySem.W.Frag) (G : Hp) (kc : Nat) : List V → List Sl → Prop
  | [], [] => True
  | v :: vs, .val p :: as => Rep K G v p ∧ ArgC K G kc vs as
  | v :: vs, .fn k m :: as => (∃ f, v = .ref f ∧ Clo K G k f m ∧ k ≤ kc) ∧ ArgC K G kc vs as
  | _, _ => False
theorem ArgC.length {K : PySem.W.Frag} {G : Hp} {kc : Nat} : ∀ {vs : List V} {as : List Sl}, ArgC K G kc vs as → vs.length = as.length
  | [], [], _ => rfl
  | [], _ :: _, h => by cases h
  | _ :: _, [], h => by cases h
  | v :: vs, .val p :: as, h => by rw [List.length_cons, List.length_cons, ArgC.length h.2]
  | v :: vs, .fn k m :: as, h => by rw [List.length_cons, List.length_cons, ArgC.length h.2]
  | v :: vs, .un :: as, h => by cases h
  | v :: vs, .mu _ _ :: as, h => by cases h
theorem ArgC.get {K : PySem.W.Frag} {G : Hp} {kc : Nat} : ∀ {vs : List V} {as : List Sl} {i : Nat} {a : Sl}, ArgC K G kc vs as → as[i]? = some a → ∃ v, vs[i]? = some v ∧ ((∃ p, a = .val p ∧ Rep K G v p) ∨ ∃ k m, a = .fn k m ∧ ∃ f, v = .ref f ∧ Clo K G k f m ∧ k ≤ kc)
  | [], [], i, a, h, e => by simp at e
  | [], _ :: _, _, _, h, _ => by cases h
  | _ :: _, [], _, _, h, _ => by cases h
  | v :: vs, .val p :: as, i, a, h, e => by
    cases i with
    | zero =>
      cases e
      exact ⟨v, rfl, .inl ⟨p, rfl, h.1⟩⟩
    | succ i =>
      obtain ⟨u, h1, h2⟩ := ArgC.get h.2 (i := i) (by simpa using e)
      exact ⟨u, by simpa using h1, h2⟩
  | v :: vs, .fn k m :: as, i, a, h, e => by
    cases i with
    | zero =>
      cases e
      exact ⟨v, rfl, .inr ⟨k, m, rfl, h.1⟩⟩
    | succ i =>
      obtain ⟨u, h1, h2⟩ := ArgC.get h.2 (i := i) (by simpa using e)
      exact ⟨u, by simpa using h1, h2⟩
  | v :: vs, .un :: as, _, _, h, _ => by cases h
  | v :: vs, .mu _ _ :: as, _, _, h, _ => by cases h
/-- what a def of np parameters and n slots does, functions among them -/
@[simp] def semF (d : DS) (np n : Nat) (as : List Sl) : Option Rs := if as.length = np then match d (as ++ List.replicate (n - as.length) .un) with
  | some (.rt r _) => some r
  | some (.nx _) => some (.val .non)
  | _ => none
  else none
def SpF (K : PySem.W.Frag) (kc : Nat) (sem : List Sl → Option Rs) : Sp := fun vs H Q _ => ∃ G as r, Same G H ∧ TabG G H ∧ ArgC K G kc vs as ∧ sem as = some r ∧ ∀ x G' H', Gr (fun _ => False) G H G' H' → Same G' H' → RR K G' H' (fun a => H a = none) x r → Q x H'
/-- a body from its arguments -/
theorem body_ok {K : PySem.W.Frag} {kc np : Nat} {N : List Str} {d : DS} {vs : List V} {H : Hp} {Q : VK} {E : XK} (h : SpF K kc (semF d np N.length) vs H Q E) : vs.length = np ∧ tS K d { nx := fun _ H' => Q .non H', rt := Q } (start N vs) H := by
  obtain ⟨G, as, r, sm, tb, ra, e, q⟩ := h
  have hl := ra.length
  unfold semF at e
  split at e
  · rename_i hlen
    refine ⟨by omega, ?_⟩
    have es : start N vs = vs.map some ++ List.replicate (N.length - vs.length) none := rfl
    have noMu : ∀ (i : Nat) k p, (as ++ List.replicate (N.length - as.length) Sl.un)[i]? ≠ some (.mu k p) := fun i k p h => by
      by_cases hi : i < as.length
      · rw [List.getElem?_append_left hi] at h
        obtain ⟨v, _, ⟨p', z, _⟩ | ⟨k', m, z, _⟩⟩ := ra.get h
        · cases z
        · cases z
      · rw [List.getElem?_append_right (by omega), List.getElem?_replicate] at h
        split at h <;> cases h
    have E0 : ER K (fun _ => 0) G (start N vs) H (as ++ List.replicate (N.length - as.length) Sl.un) := by
      rw [es]
      refine ⟨sm, by simp [hl], fun i p e => ?_, fun i k p e => absurd e (noMu i k p), fun i j k l a ⟨p, e, _⟩ _ => absurd e (noMu i k p), tb, fun i k m e => ?_⟩
      · by_cases hi : i < as.length
        · rw [List.getElem?_append_left hi] at e
          obtain ⟨v, hv, ⟨p', z, rv⟩ | ⟨k', m, z, _⟩⟩ := ra.get e
          · cases z
            refine ⟨v, ?_, rv⟩
            rw [List.getElem?_append_left (by simp; omega), List.getElem?_map, hv]
            rfl
          · cases z
        · rw [List.getElem?_append_right (by omega), List.getElem?_replicate] at e
          split at e <;> cases e
      · by_cases hi : i < as.length
        · rw [List.getElem?_append_left hi] at e
          obtain ⟨v, hv, ⟨p', z, rv⟩ | ⟨k', m, z, f, e1, c, _⟩⟩ := ra.get e
          · cases z
          · cases z
            refine ⟨f, ?_, c⟩
            rw [List.getElem?_append_left (by simp; omega), List.getElem?_map, hv, e1]
            rfl
        · rw [List.getElem?_append_right (by omega), List.getElem?_replicate] at e
          split at e <;> cases e
    have noAt : ∀ j k a, ¬ At (as ++ List.replicate (N.length - as.length) Sl.un) (start N vs) j k a := fun j k a ⟨p, e1, _⟩ => noMu j k p e1
    have nf : ∀ a, ¬ Foot (as ++ List.replicate (N.length - as.length) Sl.un) (start N vs) a := fun a ⟨j, k, n, z⟩ => noAt j k a z
    split at e
    · rename_i r' Γ' ed
      cases e
      exact ⟨_, G, _, _, E0, ed, fun x σ' G' H' T rr => q x G' H' (T.g.mono fun a z => nf a z) T.e.sub (RR_mono rr fun a z => z.elim (fun z => z) fun ⟨j, z⟩ => absurd z (noAt j _ a))⟩
    · rename_i Γ' ed
      cases e
      exact ⟨_, G, _, _, E0, ed, fun σ' G' H' T => q .non G' H' (T.g.mono fun a z => nf a z) T.e.sub rfl⟩
    · cases e
  · cases e
/-- a def that makes functions: its code object is known -/
structure FunC (K : PySem.W.Frag) (x qual : Str) (st : Stmt) (f : Addr) (fd : FuncData) (c : Addr) : Prop where
  ex : ∃ (oc : Value) (od : Option Addr) (kV doc pm : Value) (an : Option Addr) (ct : Value) (osl : Array (Option Value)),
    fd = PySem.W.fnOf x qual (defArgs st) (defBody st) (defScope st) .none kV doc pm an (.ref c) ct ∧ K.lookup f = some ⟨oc, od, .func fd, osl⟩ ∧ PySem.W.codeIn K (.ref c) qual = true
  kp : PySem.W.keepIn K (.ref f) = true
section
variable {K : PySem.W.Frag}
theorem funC_mk {x qual : Str} {st : Stmt} {f c : Addr} {oc : Value} {od an : Option Addr} {osl : Array (Option Value)} {kV doc pm ct : Value} (l : K.lookup f = some ⟨oc, od, .func (PySem.W.fnOf x qual (defArgs st) (defBody st) (defScope st) .none kV doc pm an (.ref c) ct), osl⟩)
    (cd : PySem.W.codeIn K (.ref c) qual = true) (k : PySem.W.keepIn K (.ref f) = true) : FunC K x qual st f (PySem.W.fnOf x qual (defArgs st) (defBody st) (defScope st) .none kV doc pm an (.ref c) ct) c := ⟨⟨oc, od, kV, doc, pm, an, ct, osl, rfl, l, cd⟩, k⟩
theorem FunC.fun {x qual : Str} {st : Stmt} {f c : Addr} {fd : FuncData} (F : FunC K x qual st f fd c) : Fun K x qual st f fd := by
  obtain ⟨oc, od, kV, doc, pm, an, ct, osl, h1, h2, h3⟩ := F.ex
  exact ⟨⟨oc, od, kV, doc, pm, an, _, ct, osl, h1, h2, h3⟩, F.kp⟩
theorem fn_okF {x qual : Str} {st : Stmt} {f : Addr} {fd : FuncData} {N ps : List Str} {k kc : Nat} {d : DS} (F : Fun K x qual st f fd) (S : FnScope N ps (defScope st))
    (hb : ∀ (cdv : Value) (A : Around) (outer : List Env) (s : Shared) (H : Hp) (E : XK), Room k (A.deeper (envOfC qual (defScope st) s.heap.objs.size f cdv)) → SSs (cxOf CX0 Fx.P Fx.w K Fx.mg Fx.base N qual (defScope st) f cdv A outer s H E).nox (defBody st) d) :
    FnOk Fx.P Fx.w K Fx.mg Fx.base CX0 (k + 1) f fd ps (SpF K kc (semF d ps.length N.length)) :=
  F.ok S (fun vs H Q E h => (body_ok h).1) fun cdv A outer s H vs Q E hr h => ⟨_, hb cdv A outer s H E hr, (body_ok h).2⟩
theorem fn_okFC {x qual : Str} {st : Stmt} {f c : Addr} {fd : FuncData} {N ps : List Str} {k kc : Nat} {d : DS} (F : FunC K x qual st f fd c) (S : FnScope N ps (defScope st))
    (hb : ∀ (A : Around) (outer : List Env) (s : Shared) (H : Hp) (E : XK), Room k (A.deeper (envOfC qual (defScope st) s.heap.objs.size f (.ref c))) → SSs (cxOf CX0 Fx.P Fx.w K Fx.mg Fx.base N qual (defScope st) f (.ref c) A outer s H E).nox (defBody st) d) :
    FnOk Fx.P Fx.w K Fx.mg Fx.base CX0 (k + 1) f fd ps (SpF K kc (semF d ps.length N.length)) := by
  obtain ⟨oc, od, kV, doc, pm, an, ct, osl, rfl, lk, hcd⟩ := F.ex
  refine fn_of lk hcd S (fun vs H Q E h => (body_ok h).1) fun A outer s H vs Q E hr h => ?_
  exact ⟨_, (hb A outer s H E hr).nox, (body_ok h).2⟩
theorem argc_vals {G : Hp} {kc : Nat} : ∀ {vs : List V} {ps : List PV}, Reps K G vs ps → ArgC K G kc vs (ps.map Sl.val)
  | [], [], _ => trivial
  | _ :: _, [], h => by cases (show _ :: _ = [] from h)
  | vs, p :: ps, h => by
    obtain ⟨v, r, rfl, a, b⟩ := h
    exact ⟨a, argc_vals b⟩
theorem semF_vals {d : DS} {np n : Nat} {qs : List PV} {r : Rs} (h : sem0 d np n qs = some r) : semF d np n (qs.map Sl.val) = some r := by
  unfold sem0 at h
  unfold semF
  rw [List.length_map]
  split at h
  · rename_i hl
    rw [if_pos hl]
    exact h
  · cases h
theorem fn_ok0C {x qual : Str} {st : Stmt} {f c : Addr} {fd : FuncData} {N ps : List Str} {k : Nat} {d : DS} (F : FunC K x qual st f fd c) (S : FnScope N ps (defScope st))
    (hb : ∀ (A : Around) (outer : List Env) (s : Shared) (H : Hp) (E : XK), Room k (A.deeper (envOfC qual (defScope st) s.heap.objs.size f (.ref c))) → SSs (cxOf CX0 Fx.P Fx.w K Fx.mg Fx.base N qual (defScope st) f (.ref c) A outer s H E).nox (defBody st) d) :
    FnOk Fx.P Fx.w K Fx.mg Fx.base CX0 (k + 1) f fd ps (Sp0 K (sem0 d ps.length N.length)) :=
  (fn_okFC (kc := 0) F S hb).imp fun vs H Q E ⟨G, qs, r, sm, tb, rp, e, q⟩ => ⟨G, _, r, sm, tb, argc_vals rp, semF_vals e, q⟩
end
/-- a call of a function that was given: its room is at most kc -/
@[simp] def dCL (kc i : Nat) (f : D (List PV)) (Γ : Ev) : Option (Rs × Ev) := (bnd (dFn i) fun _ => bnd f fun ps => bnd (dFn i) fun z => if z.1 ≤ kc then opt (z.2 ps) else fun _ => none) Γ
/-- a call with functions among the arguments -/
def lvOk (kc : Nat) (as : List Sl) : Bool := as.all fun a => match a with
  | .fn k _ => decide (k ≤ kc)
  | _ => true
@[simp] def dCF (kc : Nat) (sem : List Sl → Option Rs) (f : D (List Sl)) (Γ : Ev) : Option (Rs × Ev) := (bnd f fun as => if lvOk kc as = true then opt (sem as) else fun _ => none) Γ
section
variable {X : Cx} {pos p : Pos} {e : Expr} {es : List Expr} {l : D (List PV)} {la : D (List Sl)}
theorem sr_cl (i : Nat) {kc kr : Nat} {x : Str} (hX : X.prog = Fx.P ∧ X.w = Fx.w ∧ X.mg = Fx.mg ∧ X.base = Fx.base) (hr : Room kr X.A) (hk : kc ≤ kr) (ha : SL X (e :: es) l) (hN : X.N[i]? = some x := by rfl) (hv : Vis X.env.scope x := by first | exact Or.inl rfl | exact Or.inr (Or.inl rfl) | exact Or.inr (Or.inr rfl))
    (hd : (x == ("__debug__" : Str)) = false := by decide) (hcd : (x == ("__classdict__" : Str)) = false := by decide)
    (he : starEach (e :: es) X.env = (false, eval e X.env) :: starEach es X.env := by rfl) (hpl : (backTo pos (starEach es X.env)).any (·.1) = false := by rfl) :
    SR X (.Call (.Name x p) (e :: es) [] pos) (dCL kc i l) := by
  refine ⟨fun pins s σ H Q I h => ?_⟩
  obtain ⟨π, G, Γ, r, Γ', E, ef, q⟩ := h
  obtain ⟨z0, Γ0, e0, f1⟩ := bnd_some ef
  obtain ⟨ps, Γ1, e1, f2⟩ := bnd_some f1
  obtain ⟨z, Γ2, e2, f3⟩ := bnd_some f2
  obtain ⟨e4', e3⟩ := dFn_some e0
  obtain ⟨e4, e5⟩ := dFn_some e2
  clear ef f1 f2
  subst e4
  rw [e4'] at e1 e0
  split at f3
  · rename_i hz
    obtain ⟨e6, rfl⟩ := opt_some f3
    obtain ⟨f, h1, h2⟩ := E.fn i _ _ e3
    refine wpAny_Call_Name_kw (thn ((pe_var (pos := p) hN hv hd hcd).run pins s σ H (fun v H1 => v = .ref f ∧ H1 = H) I ⟨.ref f, h1, rfl, rfl⟩) fun u s1 ⟨v, H1, I1, r1, q1⟩ => ?_)
    obtain ⟨ev, eH⟩ := q1
    subst ev
    rw [eH] at I1
    obtain rfl : u = Value.ref f := r1
    obtain ⟨x1, x2, x3, x4⟩ := hX
    have fnat : ∀ {H2 : Hp} {s2 : Shared} {G2 : Hp}, Inv X pins σ H2 s2 → Same G G2 → Same G2 H2 → PySem.W.FnAt f s2.heap := fun {H2 s2 G2} I2 a b => h2.at_ H2 s2.heap (by rw [← x1, ← x2]; exact I2.hok) (a.trans b) I2.kIn
    refine PySem.W.callWith_F (first := []) (fnat I1 (Same.refl _) E.sub) (thn (ha.run pos pins s1 σ H (fun xs H2 => ∃ G2, Ste X.K π σ G H Γ G2 H2 Γ' ∧ Reps X.K G2 xs ps) I1 ⟨π, G, _, ps, _, E, e1, fun xs G2 H2 S rr => ⟨G2, S, rr⟩⟩) fun us s2 ⟨vs, H2, I2, rv, G2, S, rp⟩ => ⟨fnat I2 S.g.g S.e.sub, ?_⟩) he hpl
    show wpAny _ _ (call (.ref f) us) _ _ _
    obtain ⟨f', h1', h2'⟩ := S.e.fn i _ _ e5
    rw [h1] at h1'
    cases h1'
    have run := h2'.run X.A X.stack s2 H2 us vs Q (fun _ _ _ => False) (hr.mono (Nat.le_trans hz hk)) (by rw [← x1, ← x2, ← x3, ← x4]; exact I2.env0) S.e.sub rv ⟨G2, ps, r, Same.refl _, S.e.sub, S.e.tabs, rp, e6, fun x G3 H3 g3 s3 rr => q x G3 H3 (S.trans (.grow S.e g3 s3)) (RR_mono rr fun a n => S.g.nothing n)⟩
    rw [← x1, ← x2] at run
    refine wpAny_call (codeAny_mono run fun r s' hq => ?_)
    cases r with
    | error e => exact (show False from hq).elim
    | ok fl =>
      cases fl with
      | ret u => exact I2.after hq
      | next => exact False.elim hq
      | brk => exact False.elim hq
      | cont => exact False.elim hq
  · cases f3
theorem argc_of {σ : L2.St} {G Gc : Hp} {kc : Nat} (C : CellsOf X σ G Gc) : ∀ {vs : List V} {as : List Sl}, ArgR X σ G vs as → lvOk kc as = true → ArgC X.K Gc kc vs as
  | [], [], _, _ => trivial
  | [], _ :: _, h, _ => by cases h
  | _ :: _, [], h, _ => by cases h
  | v :: vs, .val p :: as, h, hl => ⟨h.1.mono C.sub, argc_of C h.2 (by simpa [lvOk] using hl)⟩
  | v :: vs, .fn k m :: as, h, hl => by
    obtain ⟨f, e, c⟩ := h.1
    have hl2 : k ≤ kc ∧ lvOk kc as = true := by simpa [lvOk] using hl
    exact ⟨⟨f, e, c Gc C, hl2.1⟩, argc_of C h.2 hl2.2⟩
  | v :: vs, .un :: as, h, _ => by cases h
  | v :: vs, .mu _ _ :: as, h, _ => by cases h
theorem sr_cF {sem : List Sl → Option Rs} {n kc : Nat} {fa : Addr} {fd : FuncData} {ps : List Str} {x : Str} (F : FnOk X.prog X.w X.K X.mg X.base CX0 n fa fd ps (SpF X.K kc sem)) (hfn : ∀ y c, X.env.cells.lookup y = some c → X.fn y = true) (hr : Room n X.A) (hg : Gl X x) (hm : X.mg x = some (.ref fa)) (hk : PySem.W.keepIn X.K (.ref fa) = true) (hb : Binds X.K fd ps [])
    (ha : SA X (e :: es) la) (hdb : (x == ("__debug__" : Str)) = false := by decide) (he : starEach (e :: es) X.env = (false, eval e X.env) :: starEach es X.env := by rfl) (hpl : (backTo pos (starEach es X.env)).any (·.1) = false := by rfl) :
    SR X (.Call (.Name x p) (e :: es) [] pos) (dCF kc sem la) := by
  refine ⟨fun pins s σ H Q I h => ?_⟩
  obtain ⟨π, G, Γ, r, Γ', E, ef, q⟩ := h
  obtain ⟨as, Γ1, e1, ef⟩ := bnd_some ef
  split at ef
  · rename_i hz
    obtain ⟨e2, rfl⟩ := opt_some ef
    refine wpAny_Call_Name_kw (ld_glob I hg hm ?_ hdb)
    refine PySem.W.callWith_K (h₀ := X.base) I.ok.mod.kin hk (thn (ha.run pos pins s σ H (fun xs H1 => ∃ G1, Ste X.K π σ G H Γ G1 H1 Γ' ∧ ArgR X σ G1 xs as) I ⟨π, G, Γ, as, _, E, e1, fun xs G1 H1 S rr => ⟨G1, S, rr⟩⟩) fun us s1 ⟨vs, H1, I1, rv, G1, S, ra⟩ => ⟨I1.kIn, ?_⟩) he hpl
    show wpAny _ _ (call (.ref fa) us) _ _ _
    let pp : Addr → Prop := fun b => ∃ y, X.env.cells.lookup y = some b
    have cellAt : ∀ b, pp b → ∃ o v, s1.heap.get? b = some o ∧ o.data = .cell v ∧ H1 b = none := fun b ⟨y, hy⟩ => by
      obtain ⟨v, o, h1, h2⟩ := I1.cell y b hy
      exact ⟨o, v, h1, h2, I1.freeC y b hy⟩
    have notP : ∀ {b : Addr} {o : HO}, H1 b = some o → ¬ pp b := fun {b o} e hp => by
      obtain ⟨_, _, _, _, n⟩ := cellAt b hp
      rw [e] at n
      cases n
    have inP : ∀ {b : Addr} {o : Obj}, s1.heap.get? b = some o → pp b → putC pp s1.heap H1 b = some (cellF o) ∧ putC pp s1.heap G1 b = some (cellF o) := fun {b o} e hp => by
      rw [putC_in hp, putC_in hp, e]
      exact ⟨rfl, rfl⟩
    have sameC : Same (putC pp s1.heap G1) (putC pp s1.heap H1) := fun b o e => by
      by_cases hp : pp b
      · rw [putC_in hp] at e ⊢
        exact e
      · rw [putC_at hp] at e ⊢
        exact S.e.sub _ _ e
    have sameG : Same G1 (putC pp s1.heap G1) := fun b o e => by
      rw [putC_at (notP (S.e.sub _ _ e))]
      exact e
    have extH : ∀ b o, H1 b = some o → putC pp s1.heap H1 b = some o := fun b o e => by
      rw [putC_at (notP e)]
      exact e
    have C : CellsOf X σ G1 (putC pp s1.heap G1) := by
      refine ⟨sameG, fun y c hc => ?_, fun i y v c hi hs hkd hc => ?_⟩
      · obtain ⟨o, v, h1, h2, _⟩ := cellAt c ⟨y, hc⟩
        exact ⟨o, v, (inP h1 ⟨y, hc⟩).2, h2⟩
      · obtain ⟨m, hn, hl⟩ := I1.loc
        obtain ⟨u, ru, l⟩ := hl i y v hi hs (hkd.elim (fun z => .inr (.inl z)) fun z => .inr (.inr z))
        rcases l with ⟨z, _⟩ | ⟨_, c', hc', o, ho, hod⟩
        · have z : X.env.scope.names.lookup y = some .local := z
          rcases hkd with w | w <;> rw [w] at z <;> cases z
        · rw [hc] at hc'
          cases hc'
          exact ⟨o, u, (inP ho ⟨y, hc⟩).2, hod, ru⟩
    have ac := argc_of C ra hz
    have hok : HOk X.prog X.w (putC pp s1.heap H1) s1.heap := fun b o e => by
      by_cases hp : pp b
      · obtain ⟨ob, v, h1, h2, _⟩ := cellAt b hp
        rw [(inP h1 hp).1] at e
        cases e
        exact ⟨h1, trivial, ⟨_, h1⟩, fun _ _ _ _ => trivial⟩
      · rw [putC_at hp] at e
        exact (I1.hok b o e).stay (fun _ _ _ q => q) (fun d q => extH d _ q) fun d xs q => extH d _ q
    have nframe : ∀ b ∈ frs X.stack, ¬ pp b := fun b hb ⟨y, hy⟩ => by
      rcases List.mem_cons.mp (I1.stkSub b hb) with z | z
      · exact I1.cne y b hy z
      · obtain ⟨_, o, ho, _⟩ := I1.ok.funs.mem z
        exact absurd (Nat.lt_of_lt_of_le (Heap.lt_size ho) (I1.ok.cab y b (hfn y b hy) hy)) (Nat.lt_irrefl _)
    have env0 : Env0 X.prog X.w X.K X.mg X.base X.A X.stack s1 (putC pp s1.heap H1) := by
      obtain ⟨f1, f2, f3, f4, f5, f6, f7, f8⟩ := I1.env0
      refine ⟨f1, f2, fun b o e => ⟨(f3 b o e).1, ?_⟩, f4, f5, fun b hb => ?_, hok, f8⟩
      · have np : ¬ pp b := fun ⟨y, hy⟩ => by
          have h1 := I1.ok.cab y b (hfn y b hy) hy
          exact absurd (Nat.lt_of_lt_of_le (Heap.lt_size e) (Nat.le_trans I1.ok.bsz h1)) (Nat.lt_irrefl _)
        rw [putC_at np]
        exact (f3 b o e).2
      · rw [putC_at (nframe b hb)]
        exact f6 b hb
    have tabC : TabG (putC pp s1.heap G1) (putC pp s1.heap H1) := ⟨S.e.tabs.1.ext extH, fun b o e => by
      by_cases hp : pp b
      · obtain ⟨ob, v, h1, h2, _⟩ := cellAt b hp
        rw [(inP h1 hp).2] at e
        cases e
        trivial
      · rw [putC_at hp] at e
        exact S.e.tabs.2 b o e⟩
    have hlen : (us ++ ([] : List Value)).length = ps.length := by
      rw [List.append_nil, ← rv.length]
      exact F.len _ _ (fun _ _ => True) (fun _ _ _ => False) ⟨_, as, r, sameC, tabC, ac, e2, fun _ _ _ _ _ _ => trivial⟩
    have bind := hb s1 us I1.kIn hlen
    rw [List.append_nil] at bind
    refine wpAny_call (codeAny_mono (F.run X.A X.stack s1 (putC pp s1.heap H1) ⟨us, []⟩ us vs (fun v H2 => ∃ G2, Gr (fun _ => False) (putC pp s1.heap G1) (putC pp s1.heap H1) G2 H2 ∧ Same G2 H2 ∧ RR X.K G2 H2 (fun a => putC pp s1.heap H1 a = none) v r) (fun _ _ _ => False) hr env0 bind rv ⟨_, as, r, sameC, tabC, ac, e2, fun x G2 H2 g2 s2 rr => ⟨G2, g2, s2, rr⟩⟩) fun rr s' hq => ?_)
    cases rr with
    | error e => exact (show False from hq).elim
    | ok fl =>
      cases fl with
      | next => exact False.elim hq
      | brk => exact False.elim hq
      | cont => exact False.elim hq
      | ret u =>
        obtain ⟨v, H2, os, bare, un, hok2, rv2, G2, g2, sm2, rr⟩ := hq
        have back : ∀ b, pp b → ∃ o, s1.heap.get? b = some o ∧ H2 b = some (cellF o) ∧ s'.heap.get? b = some o := fun b hp => by
          obtain ⟨o, v, h1, h2, _⟩ := cellAt b hp
          have e := un.frzs b o _ (inP h1 hp).1
          obtain ⟨e3, _⟩ := hok2 b _ e
          exact ⟨o, h1, e, e3⟩
        have no1 : ∀ b, ¬ pp b → H1 b = none → putC pp s1.heap H1 b = none := fun b hp e => by rw [putC_at hp]; exact e
        have subC : SubC G2 (cutH pp G2) := fun b o e n => by
          rw [cut_at fun hp => ?_]
          · exact e
          · obtain ⟨ob, _, e3, _⟩ := back b hp
            rw [sm2 _ _ e] at e3
            exact n _ (Option.some.inj e3)
        have smF : Same (cutH pp G2) (cutH pp H2) := fun b o e => by
          obtain ⟨n, e⟩ := cut_some e
          rw [cut_at n]
          exact sm2 _ _ e
        have grF : Gr (fun _ => False) G1 H1 (cutH pp G2) (cutH pp H2) := by
          refine ⟨fun b o e => ?_, fun b o e _ nt => ?_, fun b o e _ nc n => ?_, fun b o e => ?_, fun t => ⟨?_, fun b o e => ?_⟩⟩
          · have hp := notP (S.e.sub _ _ e)
            rw [cut_at hp]
            exact g2.g _ _ (by rw [putC_at hp]; exact e)
          · have hp := notP e
            rw [cut_at hp]
            exact g2.h b o (by rw [putC_at hp]; exact e) (fun z => z) nt
          · have hp := notP e
            rw [cut_at hp]
            exact g2.f b o (by rw [putC_at hp]; exact e) (fun z => z) nc (by rw [putC_at hp]; exact n)
          · have hp := notP e
            rw [cut_at hp]
            exact g2.k b o (by rw [putC_at hp]; exact e)
          · refine tabN_cut (g2.t tabC).1 fun b o e n => ?_
            rw [cut_at fun hp => ?_]
            · exact e
            · obtain ⟨ob, _, e3, _⟩ := back b hp
              rw [e] at e3
              exact n _ (Option.some.inj e3)
          · exact (g2.t tabC).2 b o (cut_some e).2
        refine I1.after ⟨v, cutH pp H2, os, bare, ?_, HOk.cut hok2 fun b o hp e => ?_, rv2, q v (cutH pp G2) (cutH pp H2) (S.trans (.grow S.e grF smF)) ?_⟩
        · refine ⟨fun b o e n hf hx => ?_, fun b o e n hf hx => ?_, fun b o e n hx => ?_, fun b o e hx => un.there b o e hx, fun b xs e => ?_, fun b o u e => ?_, fun b ps' e => ?_⟩
          · by_cases hp : pp b
            · obtain ⟨ob, h1, _, h3⟩ := back b hp
              rw [e] at h1
              cases h1
              exact h3
            · exact un.keep b o e (no1 b hp n) hf hx
          · have hp := nframe b hf
            exact un.slot b o e (no1 b hp n) hf hx
          · by_cases hp : pp b
            · exact cut_no hp
            · rw [cut_at hp]
              exact un.free b o e (no1 b hp n) hx
          · rw [cut_at (notP e)]
            exact un.tups b xs (extH b _ e)
          · rw [cut_at (notP e)]
            exact un.frzs b o u (extH b _ e)
          · rw [cut_at (notP e)]
            exact un.tbls b ps' (extH b _ e)
        · obtain ⟨ob, _, e3, _⟩ := back b hp
          rw [e] at e3
          exact ⟨ob, Option.some.inj e3⟩
        · cases r with
          | val z => exact Rep.cut subC rr
          | new z =>
            obtain ⟨a, h1, h2, h3, h4⟩ := rr
            have ha : ¬ pp a := fun hp => by
              obtain ⟨ob, v', w1, _⟩ := cellAt a hp
              rw [(inP w1 hp).1] at h2
              cases h2
            refine ⟨a, h1, S.g.nothing (by rw [putC_at ha] at h2; exact h2), by rw [cut_at ha]; exact h3, h4.cut subC (by rw [cut_at ha])⟩
  · cases ef
end
end
section
variable [Fx]
/-! ### new dicts -/
@[simp] def dDic0 (Γ : Ev) : Option (Rs × Ev) := some (.new (.dic [] []), Γ)
@[simp] def dDic1 (f h : D PV) (Γ : Ev) : Option (Rs × Ev) := (bnd f fun x => bnd h fun y => if okd [] x = true then ret (Rs.new (.dic [x] [y])) else fun _ => none) Γ
theorem ob_dic0 {K : PySem.W.Frag} {G H : Hp} {a : Addr} (h : H a = some (.dK [])) : Ob K G H a (.dic [] []) :=
  ⟨_, [], [], h, .nil, .nil, rfl, Nat.zero_le _, .inl ⟨[], rfl, List.nodup_nil, rfl⟩⟩
section
variable {X : Cx} {pos p : Pos} {a b c e : Expr} {es : List Expr} {f h k : D PV} {l : D (List PV)}
theorem sr_dic0 : SR X (.Dict [] [] pos) dDic0 := pe_dnewK.imp fun σ H Q ⟨π, G, Γ, r, Γ', E, ef, q⟩ => by
  cases ef
  intro p hp
  obtain ⟨g, s, gn⟩ := gr_made (F := fun _ => False) (o := .dK []) E.sub hp
  exact q _ G _ (.grow E g s) ⟨p, rfl, hp, gn, ob_dic0 upd_same⟩
theorem sr_dic1 (hu : X.A.units + 64 < cLine) (hw : X.w = Fx.w) (ha : SV X a f) (hb : SV X b h) : SR X (.Dict [some a] [b] pos) (dDic1 f h) := by
  refine ⟨fun pins s σ H Q I hh => ?_⟩
  obtain ⟨π, G, Γ, r, Γ', E, ef, q⟩ := hh
  obtain ⟨x, Γ1, e1, f1⟩ := bnd_some ef
  obtain ⟨y, Γ2, e2, f2⟩ := bnd_some f1
  split at f2
  · rename_i ok
    obtain ⟨rfl, rfl⟩ := ret_some f2
    have hn := I.hok.fresh (Nat.le_refl s.heap.objs.size)
    generalize hp : s.heap.objs.size = pp at hn
    have I1 := I.laid (a := pp) (o := .dK []) (h' := s.heap.push { cls := .type "dict", data := .dict #[] }) (t' := s.toks) (fun _ _ q => Heap.get?_push_of_some _ q) (Nat.le_of_eq hp) (by rw [← hp]; exact dk_empty s.heap I.big)
    obtain ⟨g0, s0, gn0⟩ := gr_made (F := fun _ => False) (o := .dK []) E.sub hn
    have S0 := Ste.grow E g0 s0
    have noAt : ∀ {Γ9 : Ev} {G9 H9 : Hp}, Ste X.K π σ G (upd H pp (.dK [])) Γ G9 H9 Γ9 → ∀ j k, ¬ At Γ9 σ j k pp := fun {Γ9 G9 H9} S j k z => by
      obtain ⟨_, o, e⟩ := E.foot (S.f j k pp z)
      rw [hn] at e
      cases e
    have foot0 : ¬ Foot Γ σ pp := fun ⟨j, k, _, z⟩ => by
      obtain ⟨_, o, e⟩ := E.foot z
      rw [hn] at e
      cases e
    refine wpAny_Dict_any (by rfl) rfl (by simp) (show 1 ≤ 15 by decide) ?_
    refine wpAny_mono ((pps_cons ha hb pps_nil).run pins _ σ _ (fun ps H2 => ∃ xv yv G2, ps = [(xv, yv)] ∧ Ste X.K π σ G (upd H pp (.dK [])) Γ G2 H2 Γ' ∧ Rep X.K G2 xv x ∧ Rep X.K G2 yv y) I1 ⟨π, G, Γ, x, Γ1, S0.e, e1, fun xv G1 H1 S1 r1 => ⟨π, G1, Γ1, y, _, S1.e, e2, fun yv G2 H2 S2 r2 => ⟨xv, yv, G2, rfl, S1.trans S2, r1.mono S2.g.g, r2⟩⟩⟩) (fun ws s2 ⟨ps, H2, I2, rel, xv, yv, G2, eps, S, rx, ry⟩ => ?_) fun _ _ e => e
    subst eps
    cases rel with
    | @cons _ w0 _ wr hr1 hr2 =>
      cases hr2
      obtain ⟨w1, w2⟩ := w0
      have h2 : H2 pp = some (.dK []) := S.g.h pp _ upd_same foot0 trivial
      have g2 : G2 pp = none := S.g.f pp _ upd_same foot0 (nc_dK _) gn0
      unfold storeAll
      rw [List.forIn_cons]
      rw [hp]
      refine wpAny_bind (wpAny_bind (x_dictSet hu hw I2 S.e.sub g2 (ob_dic0 (K := X.K) (G := G2) h2) ok (by show 0 < sizeLine; decide) rx hr1.1 ry hr1.2 fun o s3 I3 d3 _ => wpAny_pure ?_))
      dsimp only
      rw [List.forIn_nil]
      refine wpAny_pure ?_
      obtain ⟨gw, sw⟩ := gr_write (o := o) S.e.sub g2 ⟨_, h2, nc_dK _⟩
      have Sw : Ste X.K π σ G H Γ G2 (upd H2 pp o) Γ' := by
        exact ⟨S.e.grow gw sw fun a j k z w => noAt S j k (w ▸ z), (((g0.mono fun _ z => z.elim).trans S.g fun x z => .inl z).trans gw fun x z => .inr (z ▸ hn)), fun i k a z => S.f i k a z⟩
      refine ⟨.ref pp, _, I3, rfl, q _ G2 _ Sw ⟨pp, rfl, hn, g2, ?_⟩⟩
      exact d3
  · cases f2
end
section
variable {X : Cx} {pos p : Pos} {tg iter elt : Expr} {ifs : List Expr} {scope : Scope} {own : List (Str × Nat)} {g : PV → Ev → Option Ev} {ws : List Nat} {t : D Bool} {e : D PV}
/-- name = [.. for .. in name], over a list in a slot -/
theorem ss_setLcN (j i : Nat) {x y : Str} {px py spos : Pos} (hc : X.calm = true) (hN : X.N.Nodup) (hsw : swapsWith (.ListComp elt [⟨tg, .Name x px, ifs, 0⟩] scope pos) (some (.Name y py)) spos.line X.env = pure true) (ok : blkC X.N X.env.scope scope own = true) (hws : ∀ w ∈ ws, w ∈ own.map (·.2))
    (hg : ∀ (s : Shared) (H : Hp) (C : Addr) (cl : List (Str × Addr)) (fp : List Addr), SG (X.blk s H scope (compEnvC scope cl C X.env) fp) tg ws g) (ht : ∀ (s : Shared) (H : Hp) (C : Addr) (cl : List (Str × Addr)) (fp : List Addr), SIf (X.blk s H scope (compEnvC scope cl C X.env) fp) ifs t)
    (he : ∀ (s : Shared) (H : Hp) (C : Addr) (cl : List (Str × Addr)) (fp : List Addr), SV (X.blk s H scope (compEnvC scope cl C X.env) fp) elt e) (hNj : X.N[j]? = some x := by rfl) (hv : Vis X.env.scope x := by first | exact Or.inl rfl | exact Or.inr (Or.inl rfl) | exact Or.inr (Or.inr rfl)) (hd : (x == ("__debug__" : Str)) = false := by decide)
    (hcd : (x == ("__classdict__" : Str)) = false := by decide) (hy : X.N[i]? = some y := by rfl) (hyl : X.env.scope.names.lookup y = some .local := by rfl) (hs : ∀ z, foldedSetIterable (.Name x px) X.env z = pure z := by intro _; rfl) :
    SS X (.Assign [.Name y py] (.ListComp elt [⟨tg, .Name x px, ifs, 0⟩] scope pos) spos) (dSet i (dCompN j (own.map (·.2)) g t e)) := (ps_setLc hc hN hy hyl hsw (pi_list (pe_var hNj hv hd hcd)) (blkOk_by ok) hg ht he hs).imp fun D σ H tt => by
  have h := t_set tt
  exact t_compN (Q := fun x H1 => gName i x σ H1 D.nx) j hws (show tR X.K (dCompN j (own.map (·.2)) g t e) σ H (fun x H1 => gName i x σ H1 D.nx) from h)
end
/-! ### the law's own start -/
/-- the heap without the tables -/
def noT (H : Hp) : Hp := fun b => match H b with
  | some (.tbl _) => none
  | o => o
theorem noT_some {H : Hp} {b : Addr} {o : HO} (e : noT H b = some o) : H b = some o ∧ NT o := by
  unfold noT at e
  split at e
  · cases e
  · rename_i h
    refine ⟨e, ?_⟩
    cases o with
    | tbl ps => exact (h ps e).elim
    | _ => trivial
theorem noT_of {H : Hp} {b : Addr} {o : HO} (e : H b = some o) (n : NT o) : noT H b = some o := by
  unfold noT
  split
  · rename_i ps h
    rw [e] at h
    cases h
    exact n.elim
  · exact e
theorem noT_same {H : Hp} : Same (noT H) H := fun b o e => (noT_some e).1
theorem noT_tab {H : Hp} (t : NdefX.TabsN Fx.T H) : TabG (noT H) H := ⟨t, fun b o e => (noT_some e).2⟩
theorem noT_seq {K : PySem.W.Frag} {H : Hp} {a : Addr} {xs : List V} (h : SqL K H a xs) : SqL K (noT H) a xs := by
  rcases h with (h | ⟨o, h⟩) | h
  · exact .inl (.inl (noT_of h trivial))
  · exact .inl (.inr ⟨o, noT_of h trivial⟩)
  · exact .inr h
def spL (T : List NdefX.NTab) (K : PySem.W.Frag) : Sp := fun vs H Q _ => ∃ (a : Addr) (ns : List Int), vs = [.ref a] ∧ SqL K H a (ns.map V.int) ∧ ns.length ≤ 63 ∧ NdefX.TabsN T H ∧ ∀ H', Q (.bl true) H'
theorem law_end {K : PySem.W.Frag} {k : Nat} {fa : Addr} {fd : FuncData} {m : List PV → Option Rs} (F : FnOk Fx.P Fx.w K Fx.mg Fx.base CX0 k fa fd ["script"] (Sp0 K m)) (main : ∀ ns : List Int, ns.length ≤ 63 → m [.scr ns] = some (.val (.bl true))) :
    FnOk Fx.P Fx.w K Fx.mg Fx.base CX0 k fa fd ["script"] (spL Fx.T K) :=
  F.imp fun vs H Q E ⟨a, ns, e, hS, hl, ht, q⟩ => ⟨noT H, [.scr ns], _, noT_same, noT_tab ht, by subst e; exact ⟨_, _, rfl, ⟨a, rfl, noT_seq hS⟩, rfl⟩, main ns hl, fun x G' H' _ _ r => by cases (show x = V.bl true from r); exact q H'⟩
theorem codeHd_at {K : PySem.W.Frag} {h : Heap} {c P : Addr} (X : K.In h) (e : PySem.W.codeHdIn K c P = true) : PySem.W.CodeHd h c P := PySem.W.codeHd_of_K X e
end
section
variable [Fx]
/-! ### tuple * int -/
def repOk (n : Nat) (k : Int) : Bool := hide (fun z : Nat × Int => 0 < z.1 ∧ z.1 ≤ 1000 ∧ 2 ≤ z.2 ∧ z.2 ≤ 1000) (n, k)
def gRepT : PV → PV → Option PV
  | .tup xs, .int k => if repOk xs.length k = true then some (.tup (List.replicate k.toNat xs).flatten) else none
  | _, _ => none
theorem gRepT_of {xs : List PV} {k : Int} (h : 0 < xs.length ∧ xs.length ≤ 1000 ∧ 2 ≤ k ∧ k ≤ 1000) : gRepT (.tup xs) (.int k) = some (.tup (List.replicate k.toNat xs).flatten) := if_pos (hide_of (P := fun z : Nat × Int => 0 < z.1 ∧ z.1 ≤ 1000 ∧ 2 ≤ z.2 ∧ z.2 ≤ 1000) (x := (xs.length, k)) h)
theorem ov_repT {K : PySem.W.Frag} : OpV K (rRepT K) gRepT := fun x y p q z G H Q s r1 r2 e A => by
  unfold gRepT at e
  split at e
  · rename_i xs k
    split at e
    · rename_i h
      have h := of_hide h
      cases e
      obtain ⟨a, vs, e1, q1, s1⟩ := r1
      have l1 := s1.length
      refine ⟨a, k, vs, e1, r2, Same.seqT s q1, fun e => ?_, h.2.2.1, h.2.2.2, by rw [l1]; exact h.2.1, fun p hp => A.tup s (reps_rep s1 _) hp⟩
      rw [e] at l1
      have := h.1
      simp at l1
      omega
    · cases e
  · cases e
section
variable {X : Cx} {pos : Pos} {a b c : Expr} {f h k : D PV}
theorem sv_repT (ha : SV X a f) (hb : SV X b h) : SV X (.BinOp a .Mult b pos) (dOp gRepT f h) := sv_op op_repT ov_repT ha hb
end
end
section
variable [Fx]
/-! ### lemmas on denotations: what loops and comprehensions give -/
@[simp] theorem fits_0 : fits 0 = true := fits_of (by decide)
@[simp] theorem fits_1 : fits 1 = true := fits_of (by decide)
@[simp] theorem fits_2 : fits 2 = true := fits_of (by decide)
@[simp] theorem fits_3 : fits 3 = true := fits_of (by decide)
@[simp] theorem fits_4 : fits 4 = true := fits_of (by decide)
@[simp] theorem fits_5 : fits 5 = true := fits_of (by decide)
@[simp] theorem fits_6 : fits 6 = true := fits_of (by decide)
@[simp] theorem fits_7 : fits 7 = true := fits_of (by decide)
@[simp] theorem fits_8 : fits 8 = true := fits_of (by decide)
@[simp] theorem fits_9 : fits 9 = true := fits_of (by decide)
@[simp] theorem fits_10 : fits 10 = true := fits_of (by decide)
@[simp] theorem fits_11 : fits 11 = true := fits_of (by decide)
@[simp] theorem fits_12 : fits 12 = true := fits_of (by decide)
@[simp] theorem fits_13 : fits 13 = true := fits_of (by decide)
@[simp] theorem fits_14 : fits 14 = true := fits_of (by decide)
@[simp] theorem fits_15 : fits 15 = true := fits_of (by decide)
@[simp] theorem fits_16 : fits 16 = true := fits_of (by decide)
@[simp] theorem fits_17 : fits 17 = true := fits_of (by decide)
@[simp] theorem fits_18 : fits 18 = true := fits_of (by decide)
@[simp] theorem fits_19 : fits 19 = true := fits_of (by decide)
@[simp] theorem fits_20 : fits 20 = true := fits_of (by decide)
theorem itR1_nat {n : Nat} (h : n ≤ 1000000) : itR1 (.int n) = some (rgP 0 n) := by
  unfold itR1
  exact if_pos (hide_of (by omega))
theorem itR1_int {j : Int} {n : Nat} (e : j = n) (h : n ≤ 1000000) : itR1 (.int j) = some (rgP 0 n) := e ▸ itR1_nat h
theorem itR2_int {i j : Int} {n : Nat} (h : -1000000 ≤ i) (h1 : i ≤ 1000000) (e : j = i + n) (h2 : n ≤ 1000000) : itR2 (.int i) (.int j) = some (rgP i n) := by
  subst e
  unfold itR2
  have : (i + (n : Int) - i).toNat = n := by omega
  dsimp only
  rw [if_pos ⟨hide_of (by omega), hide_of (by omega)⟩, this]
@[simp] theorem pv_val (p : PV) : (Rs.val p).pv = p := rfl
@[simp] theorem pv_new (p : PV) : (Rs.new p).pv = p := rfl
theorem sem0_rt {d : DS} {np n : Nat} {qs : List PV} {r : Rs} {Γ' : Ev} (hn : qs.length = np) (h : d (qs.map Sl.val ++ List.replicate (n - qs.length) .un) = some (.rt r Γ')) : sem0 d np n qs = some r := by
  unfold sem0 runD
  rw [if_pos hn, h]
theorem sem1_rt {d : DS} {np n : Nat} {c c' : PV} {qs : List PV} {r : Rs} {Γ' : Ev} (hn : qs.length + 1 = np) (h : d (.mu .par c :: (qs.map Sl.val ++ List.replicate (n - (qs.length + 1)) .un)) = some (.rt r (.mu .par c' :: Γ'))) : sem1 d np n c qs = some (r, c') := by
  unfold sem1 runD1
  rw [if_pos hn, h]
  rfl
theorem dSeq_nx {d e : DS} {Γ Γ1 : Ev} (h : d Γ = some (.nx Γ1)) : dSeq d e Γ = e Γ1 := by
  unfold dSeq
  rw [h]
theorem dSeq_rt {d e : DS} {Γ Γ1 : Ev} {r : Rs} (h : d Γ = some (.rt r Γ1)) : dSeq d e Γ = some (.rt r Γ1) := by
  unfold dSeq
  rw [h]
theorem dFor_of {it : D (List PV)} {g : PV → Ev → Option Ev} {d : DS} {Γ Γ1 : Ev} {xs : List PV} (h : it Γ = some (xs, Γ1)) : dFor it g d Γ = loopD (dTurn g d) xs Γ1 := by
  unfold dFor
  rw [h]
theorem ixN_nat {n i : Nat} (h : i < n) : ixN n (i : Int) = some i := by
  unfold ixN
  rw [if_pos (by omega), if_pos (by omega)]
  rfl
theorem atI_of {α : Type} {xs : List α} {i : Nat} {x : α} (h : xs[i]? = some x) : atI xs (i : Int) = some x := by
  unfold atI
  rw [ixN_nat (List.getElem?_eq_some_iff.mp h).1]
  exact h
theorem atI_lt {α : Type} {xs : List α} {i : Nat} (h : i < xs.length) : atI xs (i : Int) = some xs[i] := atI_of (List.getElem?_eq_getElem h)
theorem atI_map {α β : Type} {f : α → β} {xs : List α} {i : Int} : atI (xs.map f) i = (atI xs i).map f := by
  unfold atI
  rw [List.length_map]
  cases ixN xs.length i with
  | none => rfl
  | some j => simp
/-- over each item the same slots, each item kept -/
theorem compL_map {vs : List Nat} {g : PV → Ev → Option Ev} {t : D Bool} {e : D PV} (f : PV → PV) (Γ : Ev) : ∀ (xs : List PV), (∀ x ∈ xs, ∃ Γ1 Γ2 Γ3, g x Γ = some Γ1 ∧ t Γ1 = some (true, Γ2) ∧ e Γ2 = some (f x, Γ3) ∧ wipeE Γ3 vs = Γ) → compL vs g t e xs Γ = some (xs.map f, Γ)
  | [], _ => rfl
  | x :: xs, h => by
    obtain ⟨Γ1, Γ2, Γ3, h1, h2, h3, h4⟩ := h x List.mem_cons_self
    unfold compL
    rw [h1]
    dsimp only
    rw [h2]
    dsimp only
    rw [if_pos rfl, h3]
    dsimp only
    rw [h4, compL_map f Γ xs fun y hy => h y (List.mem_cons_of_mem _ hy)]
    rfl
/-- .. some items dropped -/
theorem compL_filter {vs : List Nat} {g : PV → Ev → Option Ev} {t : D Bool} {e : D PV} (p : PV → Bool) (f : PV → PV) (Γ : Ev) : ∀ (xs : List PV), (∀ x ∈ xs, ∃ Γ1 Γ2, g x Γ = some Γ1 ∧ t Γ1 = some (p x, Γ2) ∧ (p x = true → ∃ Γ3, e Γ2 = some (f x, Γ3) ∧ wipeE Γ3 vs = Γ) ∧ (p x = false → wipeE Γ2 vs = Γ)) → compL vs g t e xs Γ = some ((xs.filter p).map f, Γ)
  | [], _ => rfl
  | x :: xs, h => by
    obtain ⟨Γ1, Γ2, h1, h2, h3, h4⟩ := h x List.mem_cons_self
    have ih := compL_filter p f Γ xs fun y hy => h y (List.mem_cons_of_mem _ hy)
    unfold compL
    rw [h1]
    dsimp only
    rw [h2]
    dsimp only
    cases hp : p x with
    | true =>
      obtain ⟨Γ3, h5, h6⟩ := h3 hp
      rw [if_pos rfl, h5]
      dsimp only
      rw [h6, ih, List.filter_cons, hp]
      rfl
    | false =>
      rw [if_neg Bool.false_ne_true, h4 hp, ih, List.filter_cons, hp]
      rfl
/-- .. with a state that goes along -/
theorem compL_state {S : Type} {vs : List Nat} {g : PV → Ev → Option Ev} {t : D Bool} {e : D PV} (env : S → Ev) (f : S → PV → PV × S) (I : S → Prop) : ∀ (xs : List PV) (s : S), I s → (∀ x ∈ xs, ∀ s, I s → I (f s x).2 ∧ ∃ Γ1 Γ2 Γ3, g x (env s) = some Γ1 ∧ t Γ1 = some (true, Γ2) ∧ e Γ2 = some ((f s x).1, Γ3) ∧ wipeE Γ3 vs = env (f s x).2) →
    ∃ ys s', compL vs g t e xs (env s) = some (ys, env s') ∧ I s' ∧ ys.length = xs.length ∧ ∀ y ∈ ys, ∃ x ∈ xs, ∃ s, I s ∧ y = (f s x).1
  | [], s, i, _ => ⟨[], s, rfl, i, rfl, fun _ h => by cases h⟩
  | x :: xs, s, i, h => by
    obtain ⟨i2, Γ1, Γ2, Γ3, h1, h2, h3, h4⟩ := h x List.mem_cons_self s i
    obtain ⟨ys, s', h5, h6, h7, h8⟩ := compL_state env f I xs (f s x).2 i2 fun y hy => h y (List.mem_cons_of_mem _ hy)
    refine ⟨(f s x).1 :: ys, s', ?_, h6, by simp [h7], fun y hy => ?_⟩
    · unfold compL
      rw [h1]
      dsimp only
      rw [h2]
      dsimp only
      rw [if_pos rfl, h3]
      dsimp only
      rw [h4, h5]
    · rcases List.mem_cons.mp hy with rfl | hy
      · exact ⟨x, List.mem_cons_self, s, i, rfl⟩
      · obtain ⟨x', hx, s2, hs, e⟩ := h8 y hy
        exact ⟨x', List.mem_cons_of_mem _ hx, s2, hs, e⟩
/-- a loop whose turns all go on: the slots told by a state -/
theorem loopD_fold {S : Type} {step : PV → DS} (env : S → Ev) (f : S → PV → S) (I : S → Prop) : ∀ (xs : List PV) (s : S), I s → (∀ x ∈ xs, ∀ s, I s → I (f s x) ∧ (step x (env s) = some (.nx (env (f s x))) ∨ step x (env s) = some (.ct (env (f s x))))) →
    loopD step xs (env s) = some (.nx (env (xs.foldl f s))) ∧ I (xs.foldl f s)
  | [], s, i, _ => ⟨rfl, i⟩
  | x :: xs, s, i, h => by
    obtain ⟨i2, h1⟩ := h x List.mem_cons_self s i
    obtain ⟨h3, h4⟩ := loopD_fold env f I xs (f s x) i2 fun y hy => h y (List.mem_cons_of_mem _ hy)
    refine ⟨?_, h4⟩
    unfold loopD
    rcases h1 with h1 | h1
    · rw [h1]
      exact h3
    · rw [h1]
      exact h3
/-- .. by an invariant of the slots over the number of turns -/
theorem loopD_inv {step : PV → DS} (I : Nat → Ev → Prop) : ∀ (xs : List PV) (k : Nat) (Γ : Ev), I k Γ → (∀ i x Γ, xs[i]? = some x → I (k + i) Γ → ∃ Γ', (step x Γ = some (.nx Γ') ∨ step x Γ = some (.ct Γ')) ∧ I (k + i + 1) Γ') → ∃ Γ', loopD step xs Γ = some (.nx Γ') ∧ I (k + xs.length) Γ'
  | [], k, Γ, i, _ => ⟨Γ, rfl, i⟩
  | x :: xs, k, Γ, i, h => by
    obtain ⟨Γ1, h1, i1⟩ := h 0 x Γ rfl i
    obtain ⟨Γ2, h2, i2⟩ := loopD_inv I xs (k + 1) Γ1 i1 fun j y Γ' hy hj => by
      have := h (j + 1) y Γ' hy (by rw [show k + (j + 1) = k + 1 + j by omega]; exact hj)
      rw [show k + (j + 1) + 1 = k + 1 + j + 1 by omega] at this
      exact this
    refine ⟨Γ2, ?_, by rw [List.length_cons, show k + (xs.length + 1) = k + 1 + xs.length by omega]; exact i2⟩
    unfold loopD
    rcases h1 with h1 | h1
    · rw [h1]
      exact h2
    · rw [h1]
      exact h2
theorem rgP_length (lo : Int) (n : Nat) : (rgP lo n).length = n := by
  unfold rgP
  simp
theorem rgP_mem {lo : Int} {n : Nat} {x : PV} (h : x ∈ rgP lo n) : ∃ i : Nat, i < n ∧ x = .int (lo + i) := by
  unfold rgP at h
  obtain ⟨i, hi, e⟩ := List.mem_map.mp h
  exact ⟨i, List.mem_range.mp hi, e.symm⟩
theorem rgP0_mem {n : Nat} {x : PV} (h : x ∈ rgP 0 n) : ∃ i : Nat, i < n ∧ x = .int i := by
  obtain ⟨i, h1, h2⟩ := rgP_mem h
  exact ⟨i, h1, by rw [h2, Int.zero_add]⟩
theorem rgP_get {lo : Int} {n i : Nat} {x : PV} (h : (rgP lo n)[i]? = some x) : i < n ∧ x = .int (lo + i) := by
  have hi : i < n := by
    have := (List.getElem?_eq_some_iff.mp h).1
    rwa [rgP_length] at this
  unfold rgP at h
  rw [List.getElem?_map, List.getElem?_range hi] at h
  exact ⟨hi, (Option.some.inj h).symm⟩
theorem gIn_false {ys : List PV} (h : ∀ y ∈ ys, y = .bl true) : gIn (.bl false) (.lst ys) = some false := by
  have h1 : ys.all pflat = true := List.all_eq_true.mpr fun y hy => by rw [h y hy]; rfl
  have h2 : (ys.any fun q => pfEq q (.bl false)) = false := by
    rw [List.any_eq_false]
    intro y hy
    rw [h y hy]
    decide
  have h3 : (pflat (.bl false) && ys.all pflat) = true := by rw [h1]; rfl
  unfold gIn
  dsimp only
  rw [if_pos h3, h2]
/-- a value that _law_same can compare within n calls -/
def fine : Nat → PV → Prop
  | 0, _ => False
  | _ + 1, .non => True
  | _ + 1, .bl _ => True
  | _ + 1, .int _ => True
  | _ + 1, .str s => PyData.strOk s = true
  | n + 1, .tup xs => xs.length ≤ 1000000 ∧ ∀ x ∈ xs, fine n x
  | n + 1, .lst xs => xs.length ≤ 1000000 ∧ ∀ x ∈ xs, fine n x
  | _ + 1, _ => False
@[simp] theorem shp_int (i : Int) : shp (.int i) = true := rfl
@[simp] theorem shp_bl (i : Bool) : shp (.bl i) = true := rfl
@[simp] theorem shp_non : shp .non = true := rfl
theorem shp_str {s : Str} (h : PyData.strOk s = true) : shp (.str s) = true := by
  unfold shp SeqAt.shaped
  simp [toPD, PyData.canLay0, PyData.depth, h]
@[simp] theorem pvEq_int (i j : Int) : pvEq (.int i) (.int j) = (i == j) := rfl
@[simp] theorem pvEq_bl (i j : Bool) : pvEq (.bl i) (.bl j) = (i == j) := rfl
@[simp] theorem pvEq_non : pvEq .non .non = true := rfl
@[simp] theorem pvEq_str (i j : Str) : pvEq (.str i) (.str j) = (i == j) := rfl
end
/-! ### the denotations of the defs -/
/-- law_take(draws, many): slots draws many -/
def d_law_take : DS :=
  dSeq (dIfS (dTr (dOp gEq (dUn gLen (dPk 0)) (dInt 0))) (dRt (vl (dInt 0))) (dSkip))
        (dRt (vl (dOp gMod (dUn gInt (dMt gPop 0 dNil)) (dNm 1))))
def m_law_take : PV → List PV → Option (Rs × PV) := sem1 d_law_take 2 2
/-- law_pick(draws, row): slots draws row -/
def d_law_pick : DS :=
  dRt (vl (dIxN 1 (fz (dC1 (m_law_take) 0 (dCons (dUn gLen (dPk 1)) (dNil))))))
def m_law_pick : PV → List PV → Option (Rs × PV) := sem1 d_law_pick 2 2
/-- law_closings(draws, town, t): slots draws town t told place row door time -/
def d_law_closings : DS :=
  dSeq (dSet 3 (dLst (dNil)))
        (dSeq (dFor (dIt itP (dNm 1)) (gN 4) (dSeq (dSet 5 (dLst (dNil)))
        (dSeq (dFor (dIt itP (dIxN 4 (dInt 1))) (gN 6) (dSeq (dSet 7 (vl (dOp gSub (dOp gAdd (dNm 2) (fz (dC1 (m_law_take) 0 (dCons (dInt 14) (dNil))))) (dInt 1))))
        (dEx (dMt gAppend 5 (dCons (fz (dC1 (m_law_pick) 0 (dCons (fz (dLst (dCons (dNon) (dCons (dNm 7) (dCons (dNm 7) (dCons (dNm 7) (dCons (dNm 7) (dCons (dOp gAdd (dNm 2) (dOp gPow (dInt 10) (dInt 22))) (dCons (dOp gSub (dNm 2) (dOp gPow (dInt 10) (dInt 22))) (dNil)))))))))) (dNil)))) (dNil))))))
        (dEx (dMt gAppend 3 (dCons (dUn gTupOf (dPk 5)) (dNil)))))))
        (dRt (vl (dUn gTupOf (dPk 3)))))
def m_law_closings : PV → List PV → Option (Rs × PV) := sem1 d_law_closings 3 8
/-- law_draws(script, many): slots script many cells left draws k place cell mixed -/
def d_law_draws : DS :=
  dSeq (dSet 2 (dComp [7] (dIt itP (fz (dSlN 0 (dPn) (dPt (dInt 63))))) (gN 7) (dYes) (dOp gMod (dUn gInt (dPk 7)) (dOp gShl (dInt 1) (dInt 7200)))))
        (dSeq (dIfS (dTr (dOp gEq (dUn gLen (dPk 2)) (dInt 0))) (dEx (dMt gAppend 2 (dCons (dInt 0) (dNil)))) (dSkip))
        (dSeq (dSet 3 (dR1 gLstOf (dPk 2)))
        (dSeq (dSet 4 (dLst (dNil)))
        (dSeq (dFor (dIt itR1 (dNm 1)) (gN 5) (dSeq (dSet 6 (vl (dOp gMod (dUn gInt (dPk 5)) (dUn gLen (dPk 2)))))
        (dIfS (dBAnd (dTr (dOp gGe (dIxN 2 (dNm 6)) (dOp gPow (dInt 10) (dInt 18)))) (dTr (dOp gGt (dIxN 3 (dNm 6)) (dInt 0)))) (dSeq (dEx (dMt gAppend 4 (dCons (dOp gMod (dUn gInt (dIxN 3 (dNm 6))) (dInt 1000)) (dNil))))
        (dSto 3 (dOp gDiv (dIxN 3 (dNm 6)) (dInt 1000)) (dNm 6))) (dSeq (dSet 8 (vl (dOp gMod (dUn gInt (dOp gAdd (dOp gAdd (dOp gMul (dIxN 2 (dNm 6)) (dInt 48271)) (dOp gMul (dNm 5) (dInt 69621))) (dInt 11))) (dInt 2147483647))))
        (dEx (dMt gAppend 4 (dCons (dOp gMod (dUn gInt (dOp gAdd (dOp gAdd (dOp gMul (dNm 8) (dNm 8)) (dOp gMul (dInt 3) (dNm 8))) (dNm 5))) (dInt 1000003)) (dNil))))))))
        (dSeq (dEx (dMt gReverse 4 dNil))
        (dRtN 4))))))
def m_law_draws : List PV → Option Rs := sem0 d_law_draws 2 9
/-- law_goal(town, place, door): slots town place door doors -/
def d_law_goal : DS :=
  dSeq (dSet 3 (vl (dOp gIx (dIxN 0 (dNm 1)) (dInt 1))))
        (dSeq (dIfS (dBOr (dTr (dOp gLt (dNm 2) (dInt 0))) (dTr (dOp gGe (dNm 2) (dUn gLen (dPk 3))))) (dRt (vl (dNon))) (dSkip))
        (dRt (vl (dIxN 3 (dNm 2)))))
def m_law_goal : List PV → Option Rs := sem0 d_law_goal 3 4
/-- law_can_go(town, times, place, door, time): slots town times place door time closing -/
def d_law_can_go : DS :=
  dSeq (dIfS (dTr (dIsN (fz (dC0 (m_law_goal) (dCons (dNm 0) (dCons (dNm 2) (dCons (dNm 3) (dNil)))))))) (dRt (vl (dBl false))) (dSkip))
        (dSeq (dSet 5 (vl (dOp gIx (dIxN 1 (dNm 2)) (dNm 3))))
        (dRt (vl (dOr (dIsN (dPk 5)) (dOp gLt (dNm 4) (dNm 5))))))
def m_law_can_go : List PV → Option Rs := sem0 d_law_can_go 5 6
/-- law_opens(town, place): slots town place k -/
def d_law_opens : DS :=
  dRt (dComp [2] (dIt itR1 (dUn gLen (dOp gIx (dIxN 0 (dNm 1)) (dInt 1)))) (gN 2) (dTr (dNotN (dOp gIx (dOp gIx (dIxN 0 (dNm 1)) (dInt 1)) (dNm 2)))) (dNm 2))
def m_law_opens : List PV → Option Rs := sem0 d_law_opens 2 3
/-- law_timed_moves(data, state): slots data state doors town times place time door -/
def d_law_timed_moves : DS :=
  dSeq (dAsg (dNm 0) (gT 2 (gsC (gN 3) (gsC (gN 4) (gsN)))))
        (dSeq (dAsg (dNm 1) (gT 2 (gsC (gN 5) (gsC (gN 6) (gsN)))))
        (dSeq (dSet 2 (dComp [7] (dIt itP (fz (dC0 (m_law_opens) (dCons (dNm 3) (dCons (dNm 5) (dNil)))))) (gN 7) (dTr (fz (dC0 (m_law_can_go) (dCons (dNm 3) (dCons (dNm 4) (dCons (dNm 5) (dCons (dNm 7) (dCons (dNm 6) (dNil))))))))) (dNm 7)))
        (dRt (dCompN 2 [7] (gN 7) (dYes) (fz (dLst (dCons (dNm 7) (dCons (dTup (dCons (dOp gIx (dOp gIx (dIxN 3 (dNm 5)) (dInt 1)) (dNm 7)) (dCons (dOp gAdd (dNm 6) (dInt 1)) (dNil)))) (dNil)))))))))
def m_law_timed_moves : List PV → Option Rs := sem0 d_law_timed_moves 2 8
/-- law_timed_rows(town, times, place, t): slots town times place t rows queue k here move goal -/
def d_law_timed_rows : DS :=
  dSeq (dSet 4 (dR2 gRep (fz (dLst (dCons (dNon) (dNil)))) (dUn gLen (dPk 0))))
        (dSeq (dSto 4 (dTup (dNil)) (dNm 2))
        (dSeq (dSet 5 (dLst (dCons (dNm 2) (dNil))))
        (dSeq (dFor (dIt itR1 (dUn gLen (dPk 0))) (gN 6) (dIfS (dTr (dOp gLt (dNm 6) (dUn gLen (dPk 5)))) (dSeq (dSet 7 (vl (dIxN 5 (dNm 6))))
        (dFor (dIt itP (fz (dC0 (m_law_timed_moves) (dCons (fz (dLst (dCons (dNm 0) (dCons (dNm 1) (dNil))))) (dCons (dTup (dCons (dNm 7) (dCons (dOp gAdd (dNm 3) (dUn gLen (dIxN 4 (dNm 7)))) (dNil)))) (dNil)))))) (gN 8) (dSeq (dSet 9 (vl (dOp gIx (dIxN 8 (dInt 1)) (dInt 0))))
        (dIfS (dTr (dIsN (dIxN 4 (dNm 9)))) (dSeq (dSto 4 (dOp gAdd (dIxN 4 (dNm 7)) (dTup (dCons (dIxN 8 (dInt 0)) (dNil)))) (dNm 9))
        (dEx (dMt gAppend 5 (dCons (dNm 9) (dNil))))) (dSkip))))) (dSkip)))
        (dRtN 4))))
def m_law_timed_rows : List PV → Option Rs := sem0 d_law_timed_rows 4 10
/-- law_first_times(town, times, place, t): slots town times place t told row -/
def d_law_first_times : DS :=
  dSeq (dSet 4 (dLst (dNil)))
        (dSeq (dFor (dIt itP (fz (dC0 (m_law_timed_rows) (dCons (dNm 0) (dCons (dNm 1) (dCons (dNm 2) (dCons (dNm 3) (dNil)))))))) (gN 5) (dIfS (dTr (dIsN (dPk 5))) (dEx (dMt gAppend 4 (dCons (dNon) (dNil)))) (dEx (dMt gAppend 4 (dCons (dOp gAdd (dNm 3) (dUn gLen (dPk 5))) (dNil))))))
        (dRt (vl (dUn gTupOf (dPk 4)))))
def m_law_first_times : List PV → Option Rs := sem0 d_law_first_times 4 6
/-- law_words(draws, many): slots draws many words k size word j other -/
def d_law_words : DS :=
  dSeq (dSet 2 (dLst (dNil)))
        (dSeq (dFor (dIt itR1 (dNm 1)) (gN 3) (dSeq (dSet 4 (vl (dOp gAdd (dInt 1) (fz (dC1 (m_law_take) 0 (dCons (dInt 3) (dNil)))))))
        (dSeq (dIfS (dTr (dOp gEq (fz (dC1 (m_law_take) 0 (dCons (dInt 9) (dNil)))) (dInt 0))) (dSet 4 (vl (dOp gAdd (dOp gAdd (dNm 4) (dInt 3)) (fz (dC1 (m_law_take) 0 (dCons (dInt 20) (dNil))))))) (dSkip))
        (dSeq (dSet 5 (vl (dOp gJoin (dStr "") (fz (dComp [6] (dIt itR1 (dNm 4)) (gN 6) (dYes) (dOp gIx (dStr "abcdefghijklmnopqrstuvwxyz") (fz (dC1 (m_law_take) 0 (dCons (dInt 26) (dNil))))))))))
        (dSeq (dIfS (dTr (dIn (dNm 5) (dPk 2))) (dSet 5 (vl (dOp gMulS (dStr "z") (dOp gAdd (dInt 1) (dUn gMax (fz (dR2 gCat (fz (dLst (dCons (dInt 5) (dNil)))) (fz (dCompN 2 [7] (gN 7) (dYes) (dUn gLen (dPk 7))))))))))) (dSkip))
        (dEx (dMt gAppend 2 (dCons (dNm 5) (dNil)))))))))
        (dRtN 2))
def m_law_words : PV → List PV → Option (Rs × PV) := sem1 d_law_words 2 8
/-- law_great_town(draws, least, most): slots draws least most many words ring told k doors j goal -/
def d_law_great_town : DS :=
  dSeq (dSet 3 (vl (dOp gAdd (dNm 1) (fz (dC1 (m_law_take) 0 (dCons (dOp gAdd (dOp gSub (dNm 2) (dNm 1)) (dInt 1)) (dNil)))))))
        (dSeq (dSet 4 (dC1 (m_law_words) 0 (dCons (dOp gAdd (dInt 1) (fz (dC1 (m_law_take) 0 (dCons (dInt 3) (dNil))))) (dNil))))
        (dSeq (dSet 5 (dC1 (m_law_take) 0 (dCons (dInt 2) (dNil))))
        (dSeq (dSet 6 (dLst (dNil)))
        (dSeq (dFor (dIt itR1 (dNm 3)) (gN 7) (dSeq (dSet 8 (dComp [9] (dIt itR1 (fz (dC1 (m_law_take) 0 (dCons (dInt 4) (dNil))))) (gN 9) (dYes) (fz (dC1 (m_law_take) 0 (dCons (dNm 3) (dNil))))))
        (dSeq (dSet 8 (dCompN 8 [10] (gN 10) (dYes) (dOp gIx (fz (dLst (dCons (dNm 10) (dCons (dNon) (dNil))))) (dUn gInt (dOp gEq (fz (dC1 (m_law_take) 0 (dCons (dInt 6) (dNil)))) (dInt 0))))))
        (dSeq (dIfS (dTr (dOp gEq (dNm 5) (dInt 1))) (dSet 8 (dR2 gCat (fz (dLst (dCons (dOp gMod (dUn gInt (dOp gAdd (dNm 7) (dInt 1))) (dNm 3)) (dNil)))) (dPk 8))) (dSkip))
        (dEx (dMt gAppend 6 (dCons (dTup (dCons (fz (dC1 (m_law_pick) 0 (dCons (dNm 4) (dNil)))) (dCons (dUn gTupOf (dPk 8)) (dNil)))) (dNil))))))))
        (dRt (vl (dUn gTupOf (dPk 6))))))))
def m_law_great_town : PV → List PV → Option (Rs × PV) := sem1 d_law_great_town 3 11
/-- law_is_int(thing): slots thing -/
def d_law_is_int : DS :=
  dRt (vl (dAnd (dUn (gIsi "int") (dPk 0)) (dNot (dUn (gIsi "bool") (dPk 0)))))
def m_law_is_int : List PV → Option Rs := sem0 d_law_is_int 1 1
/-- law_earlier(behind, closing): slots behind closing -/
def d_law_earlier : DS :=
  dSeq (dIfS (dBAnd (dTr (dOp gEq (dNm 0) (dStr "always"))) (dTr (dIsN (dPk 1)))) (dRt (vl (dStr "always"))) (dSkip))
        (dSeq (dIfS (dTr (dOp gEq (dNm 0) (dStr "always"))) (dRt (vl (dOp gSub (dNm 1) (dInt 1)))) (dSkip))
        (dSeq (dIfS (dTr (dIsN (dPk 1))) (dRt (vl (dOp gSub (dNm 0) (dInt 1)))) (dSkip))
        (dRt (vl (dOp gSub (dOp gMin2 (dNm 1) (dNm 0)) (dInt 1))))))
def m_law_earlier : List PV → Option Rs := sem0 d_law_earlier 2 2
/-- law_later(one, other): slots one other -/
def d_law_later : DS :=
  dSeq (dIfS (dBOr (dTr (dOp gEq (dNm 0) (dStr "always"))) (dTr (dOp gEq (dNm 1) (dStr "always")))) (dRt (vl (dStr "always"))) (dSkip))
        (dSeq (dIfS (dTr (dIsN (dPk 0))) (dRtN 1) (dSkip))
        (dRt (vl (dOp gMax2 (dNm 0) (dNm 1)))))
def m_law_later : List PV → Option Rs := sem0 d_law_later 2 2
/-- law_last_times_of(town, times, target): slots town times target told turn place door behind -/
def d_law_last_times_of : DS :=
  dSeq (dSet 3 (dR2 gRep (fz (dLst (dCons (dNon) (dNil)))) (dUn gLen (dPk 0))))
        (dSeq (dSto 3 (dStr "always") (dNm 2))
        (dSeq (dFor (dIt itR1 (dUn gLen (dPk 0))) (gN 4) (dFor (dIt itR1 (dUn gLen (dPk 0))) (gN 5) (dFor (dIt itP (fz (dC0 (m_law_opens) (dCons (dNm 0) (dCons (dNm 5) (dNil)))))) (gN 6) (dSeq (dSet 7 (vl (dIxN 3 (dOp gIx (dOp gIx (dIxN 0 (dNm 5)) (dInt 1)) (dNm 6)))))
        (dIfS (dBAnd (dTr (dOp gNe (dNm 5) (dNm 2))) (dTr (dNotN (dPk 7)))) (dSto 3 (fz (dC0 (m_law_later) (dCons (dIxN 3 (dNm 5)) (dCons (fz (dC0 (m_law_earlier) (dCons (dNm 7) (dCons (dOp gIx (dIxN 1 (dNm 5)) (dNm 6)) (dNil))))) (dNil))))) (dNm 5)) (dSkip))))))
        (dRt (vl (dUn gTupOf (dPk 3))))))
def m_law_last_times_of : List PV → Option Rs := sem0 d_law_last_times_of 3 8
/-- law_same(actual, due): slots actual due k -/
def d_law_same (rec : List PV → Option Rs) : DS :=
  dSeq (dIfS (dTr (dUn (gIsi2 "tuple" "list") (dPk 1))) (dSeq (dIfS (dBOr (dTr (dOp gNe (dUn (gIsi "tuple") (dPk 0)) (dUn (gIsi "tuple") (dPk 1)))) (dTr (dOp gNe (dUn (gIsi "list") (dPk 0)) (dUn (gIsi "list") (dPk 1))))) (dRt (vl (dBl false))) (dSkip))
        (dSeq (dIfS (dTr (dOp gNe (dUn gLen (dPk 0)) (dUn gLen (dPk 1)))) (dRt (vl (dBl false))) (dSkip))
        (dRt (vl (dNotIn (dBl false) (fz (dComp [2] (dIt itR1 (dUn gLen (dPk 1))) (gN 2) (dYes) (fz (dC0 (rec) (dCons (dIxN 0 (dNm 2)) (dCons (dIxN 1 (dNm 2)) (dNil)))))))))))) (dSkip))
        (dSeq (dIfS (dBOr (dTr (dOp gNe (dUn (gIsi "bool") (dPk 0)) (dUn (gIsi "bool") (dPk 1)))) (dTr (dOp gNe (dUn (gIsi "int") (dPk 0)) (dUn (gIsi "int") (dPk 1))))) (dRt (vl (dBl false))) (dSkip))
        (dSeq (dIfS (dBOr (dTr (dOp gNe (dUn (gIsi "str") (dPk 0)) (dUn (gIsi "str") (dPk 1)))) (dTr (dOp gNe (dIsN (dPk 0)) (dIsN (dPk 1))))) (dRt (vl (dBl false))) (dSkip))
        (dRt (vl (dOp gEq (dNm 0) (dNm 1))))))
def m_law_same : Nat → List PV → Option Rs
  | 0 => fun _ => none
  | n + 1 => sem0 (d_law_same (m_law_same n)) 2 3
/-- is_passable(closing, time): slots closing time -/
def d_is_passable : DS :=
  dRt (vl (dOr (dIsN (dPk 0)) (dOp gLt (dNm 1) (dNm 0))))
def m_is_passable : List PV → Option Rs := sem0 d_is_passable 2 2
/-- open_doors(town, place): slots town place door goal -/
def d_open_doors : DS :=
  dRt (dComp [2, 3] (dIt itE (dOp gIx (dIxN 0 (dNm 1)) (dInt 1))) (gT 2 (gsC (gN 2) (gsC (gN 3) (gsN)))) (dTr (dNotN (dPk 3))) (dTup (dCons (dNm 2) (dCons (dNm 3) (dNil)))))
def m_open_doors : List PV → Option Rs := sem0 d_open_doors 2 4
/-- timed_doors(town, times, place, time): slots town times place time door goal -/
def d_timed_doors : DS :=
  dRt (dComp [4, 5] (dIt itP (fz (dC0 (m_open_doors) (dCons (dNm 0) (dCons (dNm 2) (dNil)))))) (gT 2 (gsC (gN 4) (gsC (gN 5) (gsN)))) (dTr (fz (dC0 (m_is_passable) (dCons (dOp gIx (dIxN 1 (dNm 2)) (dNm 4)) (dCons (dNm 3) (dNil)))))) (dTup (dCons (dNm 4) (dCons (dNm 5) (dNil)))))
def m_timed_doors : List PV → Option Rs := sem0 d_timed_doors 4 6
/-- ways_in_time(start, t, moves): slots start t moves ways queue many state door behind -/
def d_ways_in_time (kc : Nat) : DS :=
  dSeq (dSet 3 (dDic1 (dNm 0) (dTup (dNil))))
        (dSeq (dSet 4 (dLst (dCons (dNm 0) (dNil))))
        (dSeq (dSet 5 (vl (dInt 0)))
        (dSeq (whileD (dTr (dOp gLt (dNm 5) (dUn gLen (dPk 4)))) (dSeq (dSet 6 (vl (dIxN 4 (dNm 5))))
        (dSeq (dAug 5 (gI fun i j => some (.int (i + j))) (dInt 1))
        (dFor (dIt itP (fz (dCL kc 2 (dCons (dNm 6) (dCons (dOp gAdd (dNm 1) (dUn gLen (dIxN 3 (dNm 6)))) (dNil)))))) (gT 2 (gsC (gN 7) (gsC (gN 8) (gsN)))) (dIfS (dTr (dNotIn (dNm 8) (dPk 3))) (dSeq (dSto 3 (dOp gAdd (dIxN 3 (dNm 6)) (dTup (dCons (dNm 7) (dNil)))) (dNm 8))
        (dEx (dMt gAppend 4 (dCons (dNm 8) (dNil))))) (dSkip))))) 1000000)
        (dRtN 3))))
def m_ways_in_time (kc : Nat) : List Sl → Option Rs := semF (d_ways_in_time kc) 3 9
/-- a lambda of first_ways: slots now time town times -/
def d_first_ways_l1 : D Rs :=
  dC0 (m_timed_doors) (dCons (dNm 2) (dCons (dNm 3) (dCons (dNm 0) (dCons (dNm 1) (dNil)))))
/-- first_ways(town, times, place, t): slots town times place t -/
def d_first_ways : DS :=
  dRt (dCF 3 (m_ways_in_time 3) (dAV (dNm 2) (dAV (dNm 3) (dAF 3 [0, 1] (semL d_first_ways_l1 2 4) (dAN)))))
def m_first_ways : List PV → Option Rs := sem0 d_first_ways 4 4
/-- first_timed_walk(town, times, place, t, target): slots town times place t target ways -/
def d_first_timed_walk : DS :=
  dSeq (dSet 5 (dC0 (m_first_ways) (dCons (dNm 0) (dCons (dNm 1) (dCons (dNm 2) (dCons (dNm 3) (dNil)))))))
        (dRt (vl (dIf (dTr (dIn (dNm 4) (dPk 5))) (dIxN 5 (dNm 4)) (dNon))))
def m_first_timed_walk : List PV → Option Rs := sem0 d_first_timed_walk 5 6
/-- last_through(closing, behind): slots closing behind -/
def d_last_through : DS :=
  dSeq (dIfS (dTr (dIsN (dPk 1))) (dRt (vl (dNon))) (dSkip))
        (dSeq (dIfS (dTr (dOp gEq (dNm 1) (dStr "always"))) (dRt (vl (dIf (dTr (dIsN (dPk 0))) (dStr "always") (dOp gSub (dNm 0) (dInt 1))))) (dSkip))
        (dRt (vl (dIf (dTr (dIsN (dPk 0))) (dOp gSub (dNm 1) (dInt 1)) (dOp gSub (dOp gMin2 (dNm 0) (dNm 1)) (dInt 1))))))
def m_last_through : List PV → Option Rs := sem0 d_last_through 2 2
/-- later_one(time, other): slots time other -/
def d_later_one : DS :=
  dSeq (dIfS (dBOr (dTr (dIsN (dPk 0))) (dTr (dOp gEq (dNm 1) (dStr "always")))) (dRtN 1) (dSkip))
        (dSeq (dIfS (dBOr (dTr (dIsN (dPk 1))) (dTr (dOp gEq (dNm 0) (dStr "always")))) (dRtN 0) (dSkip))
        (dRt (vl (dOp gMax2 (dNm 0) (dNm 1)))))
def m_later_one : List PV → Option Rs := sem0 d_later_one 2 2
/-- last_times(town, times, target): slots town times target lasts _ changed place time door goal -/
def d_last_times : DS :=
  dSeq (dSet 3 (dComp [6] (dIt itP (dNm 0)) (gN 6) (dYes) (dNon)))
        (dSeq (dSto 3 (dStr "always") (dNm 2))
        (dSeq (dFor (dIt itP (dNm 0)) (gN 4) (dSeq (dSet 5 (vl (dBl false)))
        (dSeq (dFor (dIt itR1 (dUn gLen (dPk 0))) (gN 6) (dSeq (dSet 7 (vl (dIxN 3 (dNm 6))))
        (dSeq (dFor (dIt itP (fz (dC0 (m_open_doors) (dCons (dNm 0) (dCons (dNm 6) (dNil)))))) (gT 2 (gsC (gN 8) (gsC (gN 9) (gsN)))) (dSet 7 (dC0 (m_later_one) (dCons (dNm 7) (dCons (fz (dC0 (m_last_through) (dCons (dOp gIx (dIxN 1 (dNm 6)) (dNm 8)) (dCons (dIxN 3 (dNm 9)) (dNil))))) (dNil))))))
        (dIfS (dTr (dOp gNe (dNm 7) (dIxN 3 (dNm 6)))) (dSeq (dSto 3 (dNm 7) (dNm 6))
        (dSet 5 (vl (dBl true)))) (dSkip)))))
        (dIfS (dBNot (dTr (dNm 5))) (dBk) (dSkip)))))
        (dRt (vl (dUn gTupOf (dPk 3))))))
def m_last_times : List PV → Option Rs := sem0 d_last_times 3 10
/-- law_last_right(town, times, target): slots town times target due place -/
def d_law_last_right : DS :=
  dSeq (dSet 3 (dC0 (m_law_last_times_of) (dCons (dNm 0) (dCons (dNm 1) (dCons (dNm 2) (dNil))))))
        (dSeq (dIfS (dBNot (dTr (fz (dC0 (m_law_same 8) (dCons (fz (dC0 (m_last_times) (dCons (dNm 0) (dCons (dNm 1) (dCons (dNm 2) (dNil)))))) (dCons (dNm 3) (dNil))))))) (dRt (vl (dBl false))) (dSkip))
        (dSeq (dFor (dIt itR1 (dUn gLen (dPk 0))) (gN 4) (dIfS (dTr (fz (dC0 (m_law_is_int) (dCons (dIxN 3 (dNm 4)) (dNil))))) (dSeq (dIfS (dTr (dIsN (fz (dC0 (m_first_timed_walk) (dCons (dNm 0) (dCons (dNm 1) (dCons (dNm 4) (dCons (dIxN 3 (dNm 4)) (dCons (dNm 2) (dNil)))))))))) (dRt (vl (dBl false))) (dSkip))
        (dIfS (dTr (dNotN (fz (dC0 (m_first_timed_walk) (dCons (dNm 0) (dCons (dNm 1) (dCons (dNm 4) (dCons (dOp gAdd (dIxN 3 (dNm 4)) (dInt 1)) (dCons (dNm 2) (dNil)))))))))) (dRt (vl (dBl false))) (dSkip))) (dSkip)))
        (dRt (vl (dBl true)))))
def m_law_last_right : List PV → Option Rs := sem0 d_law_last_right 3 5
/-- law_time(draws): slots draws -/
def d_law_time : DS :=
  dSeq (dIfS (dTr (dOp gEq (fz (dC1 (m_law_take) 0 (dCons (dInt 5) (dNil)))) (dInt 0))) (dRt (dC1 (m_law_pick) 0 (dCons (fz (dLst (dCons (dOp gAdd (dOp gPow (dInt 10) (dInt 30)) (dInt 7)) (dCons (dUn gNeg (dOp gPow (dInt 10) (dInt 25))) (dCons (dInt 1000003) (dNil)))))) (dNil)))) (dSkip))
        (dRt (vl (dOp gSub (fz (dC1 (m_law_take) 0 (dCons (dInt 15) (dNil)))) (dInt 7))))
def m_law_time : PV → List PV → Option (Rs × PV) := sem1 d_law_time 1 1
/-- law_is_time_bound(town, times, place, t, bound): slots town times place t bound k door goal -/
def d_law_is_time_bound : DS :=
  dSeq (dIfS (dBOr (dTr (dIsN (dIxN 4 (dNm 2)))) (dTr (dOp gGt (dIxN 4 (dNm 2)) (dNm 3)))) (dRt (vl (dBl false))) (dSkip))
        (dSeq (dFor (dIt itR1 (dUn gLen (dPk 0))) (gN 5) (dFor (dIt itP (fz (dC0 (m_law_opens) (dCons (dNm 0) (dCons (dNm 5) (dNil)))))) (gN 6) (dIfS (dBAnd (dTr (dNotN (dIxN 4 (dNm 5)))) (dTr (fz (dC0 (m_law_can_go) (dCons (dNm 0) (dCons (dNm 1) (dCons (dNm 5) (dCons (dNm 6) (dCons (dIxN 4 (dNm 5)) (dNil)))))))))) (dSeq (dSet 7 (vl (dIxN 4 (dOp gIx (dOp gIx (dIxN 0 (dNm 5)) (dInt 1)) (dNm 6)))))
        (dIfS (dBOr (dTr (dIsN (dPk 7))) (dTr (dOp gGt (dNm 7) (dOp gAdd (dIxN 4 (dNm 5)) (dInt 1))))) (dRt (vl (dBl false))) (dSkip))) (dSkip))))
        (dRt (vl (dBl true))))
def m_law_is_time_bound : List PV → Option Rs := sem0 d_law_is_time_bound 5 8
/-- law_plus(number, more): slots number more -/
def d_law_plus : DS :=
  dSeq (dIfS (dTr (dIsN (dPk 0))) (dRt (vl (dNon))) (dSkip))
        (dRt (vl (dOp gAdd (dNm 0) (dNm 1))))
def m_law_plus : List PV → Option Rs := sem0 d_law_plus 2 2
/-- law_put(row, k, thing): slots row k thing -/
def d_law_put : DS :=
  dRt (vl (dOp gAdd (dOp gAdd (fz (dSlN 0 (dPn) (dPt (dNm 1)))) (dTup (dCons (dNm 2) (dNil)))) (fz (dSlN 0 (dPt (dOp gAdd (dNm 1) (dInt 1))) (dPn)))))
def m_law_put : List PV → Option Rs := sem0 d_law_put 3 3
/-- is_number(part): slots part -/
def d_is_number : DS :=
  dRt (vl (dAnd (dUn (gIsi "int") (dPk 0)) (dNot (dUn (gIsi "bool") (dPk 0)))))
def m_is_number : List PV → Option Rs := sem0 d_is_number 1 1
/-- is_row_of(part, size): slots part size -/
def d_is_row_of : DS :=
  dRt (vl (dAnd (dUn (gIsi "tuple") (dPk 0)) (dOp gEq (dUn gLen (dPk 0)) (dNm 1))))
def m_is_row_of : List PV → Option Rs := sem0 d_is_row_of 2 2
/-- judge_time_bound(town, times, place, t, bound): slots town times place t bound now time _ goal part -/
def d_judge_time_bound : DS :=
  dSeq (dIfS (dBOr (dBNot (dTr (fz (dC0 (m_is_row_of) (dCons (dNm 4) (dCons (dUn gLen (dPk 0)) (dNil))))))) (dBNot (dTr (dUn gAll (fz (dComp [9] (dIt itP (dNm 4)) (gN 9) (dYes) (dOr (dIsN (dPk 9)) (fz (dC0 (m_is_number) (dCons (dNm 9) (dNil))))))))))) (dRt (vl (dBl false))) (dSkip))
        (dSeq (dIfS (dBOr (dTr (dIsN (dIxN 4 (dNm 2)))) (dTr (dOp gGt (dIxN 4 (dNm 2)) (dNm 3)))) (dRt (vl (dBl false))) (dSkip))
        (dSeq (dFor (dIt itE (dNm 4)) (gT 2 (gsC (gN 5) (gsC (gN 6) (gsN)))) (dSeq (dIfS (dTr (dIsN (dPk 6))) (dCt) (dSkip))
        (dFor (dIt itP (fz (dC0 (m_timed_doors) (dCons (dNm 0) (dCons (dNm 1) (dCons (dNm 5) (dCons (dNm 6) (dNil)))))))) (gT 2 (gsC (gN 7) (gsC (gN 8) (gsN)))) (dIfS (dBOr (dTr (dIsN (dIxN 4 (dNm 8)))) (dTr (dOp gGt (dIxN 4 (dNm 8)) (dOp gAdd (dNm 6) (dInt 1))))) (dRt (vl (dBl false))) (dSkip)))))
        (dRt (vl (dBl true)))))
def m_judge_time_bound : List PV → Option Rs := sem0 d_judge_time_bound 5 10
/-- law_time_bounds_right(draws, town, times, place, t): slots draws town times place t first bounds k bound spot more due -/
def d_law_time_bounds_right : DS :=
  dSeq (dSet 5 (dC0 (m_law_first_times) (dCons (dNm 1) (dCons (dNm 2) (dCons (dNm 3) (dCons (dNm 4) (dNil)))))))
        (dSeq (dSet 6 (dLst (dCons (dNm 5) (dCons (dOp gRepT (dTup (dCons (dNm 4) (dNil))) (dUn gLen (dPk 1))) (dCons (dOp gRepT (dTup (dCons (dOp gSub (dNm 4) (dInt 3)) (dNil))) (dUn gLen (dPk 1))) (dCons (dOp gRepT (dTup (dCons (dOp gAdd (dNm 4) (dInt 1)) (dNil))) (dUn gLen (dPk 1))) (dNil)))))))
        (dSeq (dFor (dIt itR1 (dInt 4)) (gN 7) (dSeq (dSet 9 (dC1 (m_law_take) 0 (dCons (dUn gLen (dPk 1)) (dNil))))
        (dSeq (dFor (dIt itP (fz (dLst (dCons (dInt 1) (dCons (dUn gNeg (dInt 1)) (dCons (dUn gNeg (dOp gPow (dInt 10) (dInt 20))) (dNil))))))) (gN 10) (dEx (dMt gAppend 6 (dCons (fz (dC0 (m_law_put) (dCons (dNm 5) (dCons (dNm 9) (dCons (fz (dC0 (m_law_plus) (dCons (dIxN 5 (dNm 9)) (dCons (dNm 10) (dNil))))) (dNil)))))) (dNil)))))
        (dSeq (dEx (dMt gAppend 6 (dCons (fz (dC0 (m_law_put) (dCons (dNm 5) (dCons (dNm 9) (dCons (dNon) (dNil)))))) (dNil))))
        (dEx (dMt gAppend 6 (dCons (fz (dC0 (m_law_put) (dCons (dNm 5) (dCons (dNm 9) (dCons (dNm 4) (dNil)))))) (dNil))))))))
        (dSeq (dFor (dIt itP (dNm 6)) (gN 8) (dSeq (dSet 11 (dC0 (m_law_is_time_bound) (dCons (dNm 1) (dCons (dNm 2) (dCons (dNm 3) (dCons (dNm 4) (dCons (dNm 8) (dNil))))))))
        (dIfS (dBNot (dTr (fz (dC0 (m_law_same 8) (dCons (fz (dC0 (m_judge_time_bound) (dCons (dNm 1) (dCons (dNm 2) (dCons (dNm 3) (dCons (dNm 4) (dCons (dNm 8) (dNil)))))))) (dCons (dNm 11) (dNil))))))) (dRt (vl (dBl false))) (dSkip))))
        (dRt (vl (dBl true))))))
def m_law_time_bounds_right : PV → List PV → Option (Rs × PV) := sem1 d_law_time_bounds_right 5 12
/-- law_end(town, place, walk): slots town place walk now door -/
def d_law_end : DS :=
  dSeq (dSet 3 (vl (dNm 1)))
        (dSeq (dFor (dIt itP (dNm 2)) (gN 4) (dSeq (dSet 3 (dC0 (m_law_goal) (dCons (dNm 0) (dCons (dNm 3) (dCons (dNm 4) (dNil))))))
        (dIfS (dTr (dIsN (dPk 3))) (dRt (vl (dNon))) (dSkip))))
        (dRtN 3))
def m_law_end : List PV → Option Rs := sem0 d_law_end 3 5
/-- step_from(town, place, door): slots town place door doors -/
def d_step_from : DS :=
  dSeq (dSet 3 (vl (dOp gIx (dIxN 0 (dNm 1)) (dInt 1))))
        (dSeq (dIfS (dTr (dOp gGe (dNm 2) (dUn gLen (dPk 3)))) (dRt (vl (dNon))) (dSkip))
        (dRt (vl (dIxN 3 (dNm 2)))))
def m_step_from : List PV → Option Rs := sem0 d_step_from 3 4
/-- timed_end(town, times, place, t, walk): slots town times place t walk now time part goal -/
def d_timed_end : DS :=
  dSeq (dSet 5 (vl (dNm 2)))
        (dSeq (dSet 6 (vl (dNm 3)))
        (dSeq (dFor (dIt itP (dNm 4)) (gN 7) (dSeq (dIfS (dTr (dOp gNe (dNm 7) (dUn gNeg (dInt 1)))) (dSeq (dSet 8 (dC0 (m_step_from) (dCons (dNm 0) (dCons (dNm 5) (dCons (dNm 7) (dNil))))))
        (dSeq (dIfS (dBOr (dTr (dIsN (dPk 8))) (dBNot (dTr (fz (dC0 (m_is_passable) (dCons (dOp gIx (dIxN 1 (dNm 5)) (dNm 7)) (dCons (dNm 6) (dNil)))))))) (dRt (vl (dNon))) (dSkip))
        (dSet 5 (vl (dNm 8))))) (dSkip))
        (dAug 6 (gI fun i j => some (.int (i + j))) (dInt 1))))
        (dRt (vl (dTup (dCons (dNm 5) (dCons (dNm 6) (dNil))))))))
def m_timed_end : List PV → Option Rs := sem0 d_timed_end 5 9
/-- law_timed_walks_right(town, times, place, t): slots town times place t rows target row spot closed -/
def d_law_timed_walks_right : DS :=
  dSeq (dSet 4 (dC0 (m_law_timed_rows) (dCons (dNm 0) (dCons (dNm 1) (dCons (dNm 2) (dCons (dNm 3) (dNil)))))))
        (dSeq (dFor (dIt itR1 (dUn gLen (dPk 0))) (gN 5) (dSeq (dSet 6 (vl (dIxN 4 (dNm 5))))
        (dSeq (dIfS (dBNot (dTr (fz (dC0 (m_law_same 8) (dCons (fz (dC0 (m_first_timed_walk) (dCons (dNm 0) (dCons (dNm 1) (dCons (dNm 2) (dCons (dNm 3) (dCons (dNm 5) (dNil)))))))) (dCons (dNm 6) (dNil))))))) (dRt (vl (dBl false))) (dSkip))
        (dSeq (dIfS (dTr (dNotN (dPk 6))) (dSeq (dIfS (dBNot (dTr (fz (dC0 (m_law_same 8) (dCons (fz (dC0 (m_timed_end) (dCons (dNm 0) (dCons (dNm 1) (dCons (dNm 2) (dCons (dNm 3) (dCons (dNm 6) (dNil)))))))) (dCons (dTup (dCons (dNm 5) (dCons (dOp gAdd (dNm 3) (dUn gLen (dPk 6))) (dNil)))) (dNil))))))) (dRt (vl (dBl false))) (dSkip))
        (dIfS (dBNot (dTr (fz (dC0 (m_law_same 8) (dCons (fz (dC0 (m_timed_end) (dCons (dNm 0) (dCons (dNm 1) (dCons (dNm 2) (dCons (dNm 3) (dCons (dOp gAdd (dNm 6) (dTup (dCons (dUn gNeg (dInt 1)) (dNil)))) (dNil)))))))) (dCons (dTup (dCons (dNm 5) (dCons (dOp gAdd (dOp gAdd (dNm 3) (dUn gLen (dPk 6))) (dInt 1)) (dNil)))) (dNil))))))) (dRt (vl (dBl false))) (dSkip))) (dSkip))
        (dIfS (dBAnd (dTr (dNotN (dPk 6))) (dTr (dOp gGt (dUn gLen (dPk 6)) (dInt 0)))) (dSeq (dSet 7 (dC0 (m_law_end) (dCons (dNm 0) (dCons (dNm 2) (dCons (fz (dSlN 6 (dPn) (dPt (dUn gNeg (dInt 1))))) (dNil))))))
        (dSeq (dSet 8 (dC0 (m_law_put) (dCons (dNm 1) (dCons (dNm 7) (dCons (fz (dC0 (m_law_put) (dCons (dIxN 1 (dNm 7)) (dCons (dIxN 6 (dUn gNeg (dInt 1))) (dCons (dOp gSub (dOp gAdd (dNm 3) (dUn gLen (dPk 6))) (dInt 1)) (dNil)))))) (dNil))))))
        (dIfS (dTr (dNotN (fz (dC0 (m_timed_end) (dCons (dNm 0) (dCons (dNm 8) (dCons (dNm 2) (dCons (dNm 3) (dCons (dNm 6) (dNil)))))))))) (dRt (vl (dBl false))) (dSkip)))) (dSkip))))))
        (dRt (vl (dBl true))))
def m_law_timed_walks_right : List PV → Option Rs := sem0 d_law_timed_walks_right 4 9
/-- first_times(town, times, place, t): slots town times place t ways goal -/
def d_first_times : DS :=
  dSeq (dSet 4 (dC0 (m_first_ways) (dCons (dNm 0) (dCons (dNm 1) (dCons (dNm 2) (dCons (dNm 3) (dNil)))))))
        (dRt (vl (dUn gTupOf (fz (dComp [5] (dIt itR1 (dUn gLen (dPk 0))) (gN 5) (dYes) (dIf (dTr (dIn (dNm 5) (dPk 4))) (dOp gAdd (dNm 3) (dUn gLen (dIxN 4 (dNm 5)))) (dNon)))))))
def m_first_times : List PV → Option Rs := sem0 d_first_times 4 6
/-- starts_to_all(town, times, t): slots town times t place -/
def d_starts_to_all : DS :=
  dRt (vl (dUn gTupOf (fz (dComp [3] (dIt itR1 (dUn gLen (dPk 0))) (gN 3) (dTr (dOp gEq (dUn gLen (fz (dC0 (m_first_ways) (dCons (dNm 0) (dCons (dNm 1) (dCons (dNm 3) (dCons (dNm 2) (dNil)))))))) (dUn gLen (dPk 0)))) (dNm 3)))))
def m_starts_to_all : List PV → Option Rs := sem0 d_starts_to_all 3 4
/-- law(script): slots script draws town t times place starts k -/
def d_law : DS :=
  dSeq (dSet 1 (dC0 (m_law_draws) (dCons (dNm 0) (dCons (dInt 420) (dNil)))))
        (dSeq (dSet 2 (dC1 (m_law_great_town) 1 (dCons (dInt 7) (dCons (dInt 12) (dNil)))))
        (dSeq (dSet 3 (dC1 (m_law_time) 1 (dNil)))
        (dSeq (dSet 4 (dC1 (m_law_closings) 1 (dCons (dNm 2) (dCons (dNm 3) (dNil)))))
        (dSeq (dSet 5 (dC1 (m_law_take) 1 (dCons (dUn gLen (dPk 2)) (dNil))))
        (dSeq (dIfS (dBNot (dTr (fz (dC0 (m_law_same 8) (dCons (fz (dC0 (m_first_times) (dCons (dNm 2) (dCons (dNm 4) (dCons (dNm 5) (dCons (dNm 3) (dNil))))))) (dCons (fz (dC0 (m_law_first_times) (dCons (dNm 2) (dCons (dNm 4) (dCons (dNm 5) (dCons (dNm 3) (dNil))))))) (dNil))))))) (dRt (vl (dBl false))) (dSkip))
        (dSeq (dIfS (dBNot (dTr (fz (dC0 (m_law_timed_walks_right) (dCons (dNm 2) (dCons (dNm 4) (dCons (dNm 5) (dCons (dNm 3) (dNil))))))))) (dRt (vl (dBl false))) (dSkip))
        (dSeq (dIfS (dBNot (dTr (fz (dC0 (m_law_last_right) (dCons (dNm 2) (dCons (dNm 4) (dCons (fz (dC1 (m_law_take) 1 (dCons (dUn gLen (dPk 2)) (dNil)))) (dNil)))))))) (dRt (vl (dBl false))) (dSkip))
        (dSeq (dSet 6 (dComp [7] (dIt itR1 (dUn gLen (dPk 2))) (gN 7) (dTr (dNotIn (dNon) (fz (dC0 (m_law_timed_rows) (dCons (dNm 2) (dCons (dNm 4) (dCons (dNm 7) (dCons (dNm 3) (dNil))))))))) (dNm 7)))
        (dSeq (dIfS (dBNot (dTr (fz (dC0 (m_law_same 8) (dCons (fz (dC0 (m_starts_to_all) (dCons (dNm 2) (dCons (dNm 4) (dCons (dNm 3) (dNil)))))) (dCons (dUn gTupOf (dPk 6)) (dNil))))))) (dRt (vl (dBl false))) (dSkip))
        (dRt (dC1 (m_law_time_bounds_right) 1 (dCons (dNm 2) (dCons (dNm 4) (dCons (dNm 5) (dCons (dNm 3) (dNil))))))))))))))))
def m_law : List PV → Option Rs := sem0 d_law 1 8
section
variable [Fx]
theorem gSto_lst {c : List PV} {p : Nat} {v : PV} (h : p < c.length) : gSto (.lst c) (.int p) v = some (.lst (c.set p v)) := by
  show (ixN c.length (p : Int)).map _ = _
  rw [ixN_nat h]
  rfl
/-! ### the helpers of the law -/
theorem same_seq {n : Nat} {p : PV} {xs : List PV} (hp : p = .tup xs ∨ p = .lst xs) (ih : ∀ p, fine n p → m_law_same n [p, p] = some (.val (.bl true))) (hx : ∀ x ∈ xs, fine n x) :
    compL [2] (gN 2) dYes (fz (dC0 (m_law_same n) (dCons (dIxN 0 (dNm 2)) (dCons (dIxN 1 (dNm 2)) dNil)))) (rgP 0 xs.length) [.val p, .val p, .un] = some ((rgP 0 xs.length).map fun _ => .bl true, [.val p, .val p, .un]) := by
  refine compL_map (fun _ => .bl true) _ _ fun x hx' => ?_
  obtain ⟨i, hi, rfl⟩ := rgP0_mem hx'
  have e1 : gIx p (.int i) = some xs[i] := by
    rcases hp with rfl | rfl <;> exact atI_lt hi
  have e2 := ih xs[i] (hx _ (List.getElem_mem hi))
  refine ⟨[.val p, .val p, .val (.int i)], _, [.val p, .val p, .val (.int i)], rfl, rfl, ?_, rfl⟩
  simp [-gIx, e1, e2, Rs.pv]
theorem same_refl : ∀ (n : Nat) (p : PV), fine n p → m_law_same n [p, p] = some (.val (.bl true)) := by
  intro n
  induction n with
  | zero => exact fun _ h => h.elim
  | succ n ih =>
    intro p h
    cases p with
    | non => simp [m_law_same, d_law_same]
    | bl b => simp [m_law_same, d_law_same]
    | int i => simp [m_law_same, d_law_same]
    | str s =>
      have h2 := shp_str (show PyData.strOk s = true from h)
      simp [m_law_same, d_law_same, h2]
    | ty _ => exact h.elim
    | scr _ => exact h.elim
    | dic _ _ => exact h.elim
    | tup xs =>
      obtain ⟨hl, hx⟩ := h
      have hc := same_seq (.inl rfl) ih hx
      have hg := gIn_false (ys := (rgP 0 xs.length).map fun _ => .bl true) (by simp)
      simp [m_law_same, d_law_same, itR1_nat hl, rgP_length, fits_of hl, hc, hg]
    | lst xs =>
      obtain ⟨hl, hx⟩ := h
      have hc := same_seq (.inr rfl) ih hx
      have hg := gIn_false (ys := (rgP 0 xs.length).map fun _ => .bl true) (by simp)
      simp [m_law_same, d_law_same, itR1_nat hl, rgP_length, fits_of hl, hc, hg]
/-- draws: whole numbers -/
abbrev dr (ds : List Int) : PV := .lst (ds.map PV.int)
theorem take_eq (ds : List Int) (many : Int) (hm : 0 < many) : ∃ (k : Nat) (ds' : List Int), (k : Int) < many ∧ m_law_take (dr ds) [.int many] = some (.val (.int k), dr ds') := by
  rcases List.eq_nil_or_concat ds with rfl | ⟨r, x, rfl⟩
  · exact ⟨0, [], hm, by simp [m_law_take, d_law_take]⟩
  · have h1 : 0 ≤ x.fmod many := Int.fmod_nonneg_of_pos x hm
    have h2 : x.fmod many < many := Int.fmod_lt_of_pos x hm
    refine ⟨(x.fmod many).toNat, r, by omega, ?_⟩
    have h3 : ((x.fmod many).toNat : Int) = x.fmod many := Int.toNat_of_nonneg h1
    have h4 : ¬ (((r.length : Int) + 1) = 0) := by omega
    have h5 : many ≠ 0 := by omega
    simp [m_law_take, d_law_take, gPop, h3, h4, h5]
theorem pick_eq (ds : List Int) (row : PV) (xs : List PV) (hr : row = .lst xs ∨ row = .tup xs) (hx : xs ≠ []) : ∃ (x : PV) (ds' : List Int), x ∈ xs ∧ m_law_pick (dr ds) [row] = some (.val x, dr ds') := by
  have hl : 0 < (xs.length : Int) := by
    have := List.length_pos_iff.mpr hx
    omega
  obtain ⟨k, ds', hk, e⟩ := take_eq ds xs.length hl
  have hk' : k < xs.length := by omega
  refine ⟨xs[k], ds', List.getElem_mem hk', ?_⟩
  have e1 : gIx row (.int k) = some xs[k] := by
    rcases hr with rfl | rfl <;> exact atI_lt hk'
  have e2 : gLen row = some (.int xs.length) := by
    rcases hr with rfl | rfl <;> rfl
  simp [m_law_pick, d_law_pick, -gIx, -gLen, e, e1, e2, Rs.pv]
/-! ### sizes -/
def bd (k : Nat) (i : Int) : Prop := i.natAbs < 2 ^ k
theorem bd.mono {k l : Nat} {i : Int} (h : bd k i) (hl : k ≤ l) : bd l i := Nat.lt_of_lt_of_le h (Nat.pow_le_pow_right (by decide) hl)
theorem bd.neg {k : Nat} {i : Int} (h : bd k i) : bd k (-i) := by
  unfold bd at *
  rwa [Int.natAbs_neg]
theorem bd.add {k : Nat} {i j : Int} (h1 : bd k i) (h2 : bd k j) : bd (k + 1) (i + j) := by
  unfold bd at *
  rw [Nat.pow_succ]
  have := Int.natAbs_add_le i j
  omega
theorem bd.sub {k : Nat} {i j : Int} (h1 : bd k i) (h2 : bd k j) : bd (k + 1) (i - j) := by
  rw [Int.sub_eq_add_neg]
  exact h1.add h2.neg
theorem bd.mul {k l : Nat} {i j : Int} (h1 : bd k i) (h2 : bd l j) : bd (k + l) (i * j) := by
  unfold bd at *
  rw [Int.natAbs_mul, Nat.pow_add]
  exact Nat.mul_lt_mul'' h1 h2
theorem bd.log {k : Nat} {i : Int} (h : bd k i) : i.natAbs.log2 ≤ k := by
  by_cases e : i.natAbs = 0
  · rw [e]
    exact Nat.zero_le _
  · exact Nat.le_of_lt ((Nat.log2_lt e).mpr h)
theorem mulOk_of {k l : Nat} {i j : Int} (h1 : bd k i) (h2 : bd l j) (h : k + l < 1000000) : mulOk i j = true := by
  have := h1.log
  have := h2.log
  exact hide_of (P := fun z : Int × Int => z.1.natAbs.log2 + z.2.natAbs.log2 < 1000000) (by dsimp only; omega)
theorem bd_lit {k : Nat} {i : Int} (h : i.natAbs < 2 ^ k) : bd k i := h
theorem bd_of {k : Nat} {i : Int} (h1 : -(2 ^ k) < i) (h2 : i < 2 ^ k) : bd k i := by
  unfold bd
  have : ((2 ^ k : Nat) : Int) = 2 ^ k := by norm_cast
  omega
theorem bd_fmod {k : Nat} {i m : Int} (h : 0 < m) (hm : m ≤ 2 ^ k) : bd k (i.fmod m) := by
  have h1 := Int.fmod_nonneg_of_pos i h
  have h2 := Int.fmod_lt_of_pos i h
  have : (0 : Int) < 2 ^ k := by omega
  exact bd_of (by omega) (by omega)
def ils (xs : List Int) : List PV := xs.map PV.int
@[simp] theorem ils_length (xs : List Int) : (ils xs).length = xs.length := List.length_map _
theorem atI_ils {xs : List Int} {i : Nat} (h : i < xs.length) : atI (ils xs) (i : Int) = some (.int xs[i]) := by
  unfold ils
  rw [atI_map, atI_lt h]
  rfl
@[simp] theorem ils_set (xs : List Int) (p : Nat) (x : Int) : (ils xs).set p (.int x) = ils (xs.set p x) := by simp [ils]
@[simp] theorem ils_append (xs : List Int) (x : Int) : ils xs ++ [.int x] = ils (xs ++ [x]) := by simp [ils]
def dDstep : DS := dSeq (dSet 6 (vl (dOp gMod (dUn gInt (dPk 5)) (dUn gLen (dPk 2)))))
        (dIfS (dBAnd (dTr (dOp gGe (dIxN 2 (dNm 6)) (dOp gPow (dInt 10) (dInt 18)))) (dTr (dOp gGt (dIxN 3 (dNm 6)) (dInt 0)))) (dSeq (dEx (dMt gAppend 4 (dCons (dOp gMod (dUn gInt (dIxN 3 (dNm 6))) (dInt 1000)) (dNil))))
        (dSto 3 (dOp gDiv (dIxN 3 (dNm 6)) (dInt 1000)) (dNm 6))) (dSeq (dSet 8 (vl (dOp gMod (dUn gInt (dOp gAdd (dOp gAdd (dOp gMul (dIxN 2 (dNm 6)) (dInt 48271)) (dOp gMul (dNm 5) (dInt 69621))) (dInt 11))) (dInt 2147483647))))
        (dEx (dMt gAppend 4 (dCons (dOp gMod (dUn gInt (dOp gAdd (dOp gAdd (dOp gMul (dNm 8) (dNm 8)) (dOp gMul (dInt 3) (dNm 8))) (dNm 5))) (dInt 1000003)) (dNil))))))
/-- the slots of _law_draws -/
def drE (ns : List Int) (many : Nat) (cs left ds : List Int) (a b c d : Sl) : Ev := [.val (.scr ns), .val (.int many), .mu .own (.lst (ils cs)), .mu .own (.lst (ils left)), .mu .own (.lst (ils ds)), a, b, c, d]
theorem pow18 : gPow (.int 10) (.int 18) = some (.int 1000000000000000000) := by
  unfold gPow gI
  exact if_pos (hide_of (by dsimp only; omega))
theorem div1000 (i : Int) : gDiv (.int i) (.int 1000) = some (.int (i / 1000)) := if_pos (hide_of ⟨by decide, by decide⟩)
theorem mix_eq {c : Int} {k : Nat} (hb : bd 7200 c) (hk : k < 1000) : ∃ m, bd 31 m ∧ gMul (.int c) (.int 48271) = some (.int (c * 48271)) ∧ gMul (.int k) (.int 69621) = some (.int ((k : Int) * 69621)) ∧ m = (c * 48271 + (k : Int) * 69621 + 11).fmod 2147483647 ∧ gMul (.int m) (.int m) = some (.int (m * m)) ∧ gMul (.int 3) (.int m) = some (.int (3 * m)) := by
  have b1 : bd 31 ((c * 48271 + (k : Int) * 69621 + 11).fmod 2147483647) := bd_fmod (by decide) (by decide)
  refine ⟨_, b1, if_pos (mulOk_of (l := 20) hb (bd_lit (by decide)) (by omega)), if_pos (mulOk_of (k := 20) (l := 20) (bd_of (by omega) (by omega)) (bd_lit (by decide)) (by omega)), rfl, if_pos (mulOk_of b1 b1 (by omega)), if_pos (mulOk_of (k := 2) (bd_lit (by decide)) b1 (by omega))⟩
theorem draw_step (ns : List Int) (many : Nat) (cs left ds : List Int) (a b c d : Sl) (k : Nat) (hk : k < 1000) (hn : 0 < cs.length) (hb : ∀ c ∈ cs, bd 7200 c) (hl : left.length = cs.length) (h5 : fits (ds.length + 1) = true) :
    ∃ left' x b' d', left'.length = cs.length ∧ dTurn (gN 5) dDstep (.int k) (drE ns many cs left ds a b c d) = some (.nx (drE ns many cs left' (ds ++ [x]) (.val (.int k)) b' c d')) := by
  have hp : ∃ p : Nat, p < cs.length ∧ (k : Int).fmod cs.length = p := by
    have h1 := Int.fmod_nonneg_of_pos (k : Int) (b := (cs.length : Int)) (by omega)
    have h2 := Int.fmod_lt_of_pos (k : Int) (b := (cs.length : Int)) (by omega)
    exact ⟨((k : Int).fmod cs.length).toNat, by omega, by omega⟩
  obtain ⟨p, hp, ep⟩ := hp
  have hne : cs ≠ [] := List.length_pos_iff.mp hn
  have a1 := atI_ils hp
  have a2 := atI_ils (hl ▸ hp : p < left.length)
  have gS := gSto_lst (c := ils left) (v := .int (left[p] / 1000)) (p := p) (by rw [ils_length]; omega)
  obtain ⟨m, _, m1, m2, m0, m3, m4⟩ := mix_eq (hb _ (List.getElem_mem hp)) hk
  unfold drE dDstep
  by_cases c1 : (1000000000000000000 : Int) ≤ cs[p] ∧ 0 < left[p]
  · refine ⟨left.set p (left[p] / 1000), left[p].fmod 1000, .val (.int p), d, by simpa using hl, ?_⟩
    simp [ep, hne, a1, a2, c1.1, c1.2, pow18, h5, div1000, gS]
  · refine ⟨left, (m * m + 3 * m + k).fmod 1000003, .val (.int p), .val (.int m), hl, ?_⟩
    by_cases c2 : (1000000000000000000 : Int) ≤ cs[p]
    · have c3 : ¬ 0 < left[p] := fun h => c1 ⟨c2, h⟩
      simp [ep, hne, a1, a2, c2, c3, pow18, h5, m1, m2, ← m0, m3, m4]
    · simp [ep, hne, a1, a2, c2, pow18, h5, m1, m2, ← m0, m3, m4]
theorem draws_eq (ns : List Int) (hns : ns.length ≤ 63) (many : Nat) (hm : many ≤ 1000) : ∃ ds, m_law_draws [.scr ns, .int many] = some (.new (dr ds)) := by
  let cs0 := (cutA ns none (some 63)).map fun i => i.fmod (2 ^ 7200)
  have hl0 : (cutA ns none (some 63)).length ≤ 63 := by
    unfold cutA
    simp
    omega
  have hc : compL [7] (gN 7) dYes (dOp gMod (dUn gInt (dPk 7)) (dOp gShl (dInt 1) (dInt 7200))) ((cutA ns none (some 63)).map PV.int) [.val (.scr ns), .val (.int many), .un, .un, .un, .un, .un, .un, .un] = some (ils cs0, [.val (.scr ns), .val (.int many), .un, .un, .un, .un, .un, .un, .un]) := by
    have e : ils cs0 = ((cutA ns none (some 63)).map PV.int).map fun p => match p with
      | .int i => .int (i.fmod (2 ^ 7200))
      | p => p := by simp [ils, cs0]
    rw [e]
    refine compL_map _ _ _ fun x hx => ?_
    obtain ⟨i, hi, rfl⟩ := List.mem_map.mp hx
    refine ⟨[.val (.scr ns), .val (.int many), .un, .un, .un, .un, .un, .val (.int i), .un], _, [.val (.scr ns), .val (.int many), .un, .un, .un, .un, .un, .val (.int i), .un], rfl, rfl, ?_, rfl⟩
    have h7 : (2 : Int) ^ 7200 ≠ 0 := Int.ne_of_gt (Int.pow_pos (by decide))
    have h8 : gShl (.int 1) (.int 7200) = some (.int (2 ^ 7200)) := by
      unfold gShl gI
      rw [show ((2 : Int) ^ 7200) = 1 * 2 ^ 7200 from (Int.one_mul _).symm]
      exact if_pos (hide_of (by dsimp only; omega))
    simp [h8, h7]
  have hcs0 : cs0.length ≤ 63 := by simpa [cs0] using hl0
  have hb0 : ∀ c ∈ cs0, bd 7200 c := fun c hc => by
    obtain ⟨i, hi, rfl⟩ := List.mem_map.mp hc
    exact bd_fmod (Int.pow_pos (by decide)) (Int.le_refl _)
  generalize cs0 = cs1 at hc hcs0 hb0
  obtain ⟨cs, hcs, hn, hb, e2⟩ : ∃ cs : List Int, cs.length ≤ 63 ∧ 0 < cs.length ∧ (∀ c ∈ cs, bd 7200 c) ∧ (dIfS (dTr (dOp gEq (dUn gLen (dPk 2)) (dInt 0))) (dEx (dMt gAppend 2 (dCons (dInt 0) (dNil)))) (dSkip)) [.val (.scr ns), .val (.int many), .mu .own (.lst (ils cs1)), .un, .un, .un, .un, .un, .un] = some (.nx [.val (.scr ns), .val (.int many), .mu .own (.lst (ils cs)), .un, .un, .un, .un, .un, .un]) := by
    cases cs1 with
    | nil => exact ⟨[0], by simp, by simp, by simp; exact bd_lit (by decide), by simp [ils]⟩
    | cons c cs => exact ⟨c :: cs, hcs0, by simp, hb0, by
        have : ¬ ((cs.length : Int) + 1 = 0) := by omega
        simp [ils, this]⟩
  let I : Nat → Ev → Prop := fun k Γ => ∃ (left ds : List Int) (a b c d : Sl), left.length = cs.length ∧ ds.length = k ∧ Γ = drE ns many cs left ds a b c d
  obtain ⟨Γ', e3, left, ds, a, b, c, d, _, hds, rfl⟩ := loopD_inv (step := dTurn (gN 5) dDstep) I (rgP 0 many) 0 (drE ns many cs cs [] .un .un .un .un) ⟨cs, [], .un, .un, .un, .un, rfl, rfl, rfl⟩ fun k x Γ hx ⟨left, ds, a, b, c, d, hl, hd, hΓ⟩ => by
      obtain ⟨hk, rfl⟩ := rgP_get hx
      subst hΓ
      rw [Int.zero_add]
      obtain ⟨left', x, b', d', h1, h2⟩ := draw_step ns many cs left ds a b c d k (by omega) hn hb hl (fits_of (by omega))
      exact ⟨_, .inl h2, left', ds ++ [x], _, _, _, _, h1, by rw [List.length_append, hd, List.length_singleton], rfl⟩
  refine ⟨ds.reverse, ?_⟩
  have f1 : fits (cutA ns none (some 63)).length = true := fits_of (by omega)
  have f2 : itR1 (.int many) = some (rgP 0 many) := itR1_nat (by omega)
  refine sem0_rt rfl (Γ' := [.val (.scr ns), .val (.int many), .mu .own (.lst (ils cs)), .mu .own (.lst (ils left)), .un, a, b, c, d]) ?_
  unfold d_law_draws
  refine (dSeq_nx (Γ1 := [.val (.scr ns), .val (.int many), .mu .own (.lst (ils cs1)), .un, .un, .un, .un, .un, .un]) (by simp [hc, f1])).trans ?_
  refine (dSeq_nx e2).trans ?_
  refine (dSeq_nx (Γ1 := [.val (.scr ns), .val (.int many), .mu .own (.lst (ils cs)), .mu .own (.lst (ils cs)), .un, .un, .un, .un, .un]) (by simp)).trans ?_
  refine (dSeq_nx (Γ1 := [.val (.scr ns), .val (.int many), .mu .own (.lst (ils cs)), .mu .own (.lst (ils cs)), .mu .own (.lst (ils [])), .un, .un, .un, .un]) (by simp [mkL, ils])).trans ?_
  refine (dSeq_nx ((dFor_of (xs := rgP 0 many) (by simp [f2]; rfl)).trans e3)).trans ?_
  simp [drE, dr, ils]
/-! ### for every law -/
theorem compL_inv {vs : List Nat} {g : PV → Ev → Option Ev} {t : D Bool} {e : D PV} (I : Ev → Prop) (P : PV → PV → Prop) : ∀ (xs : List PV) (Γ : Ev), I Γ → (∀ x ∈ xs, ∀ Γ, I Γ → ∃ Γ1 Γ2 Γ3 y, g x Γ = some Γ1 ∧ t Γ1 = some (true, Γ2) ∧ e Γ2 = some (y, Γ3) ∧ I (wipeE Γ3 vs) ∧ P x y) →
    ∃ ys Γ', compL vs g t e xs Γ = some (ys, Γ') ∧ I Γ' ∧ ys.length = xs.length ∧ ∀ y ∈ ys, ∃ x ∈ xs, P x y
  | [], Γ, i, _ => ⟨[], Γ, rfl, i, rfl, fun _ h => by cases h⟩
  | x :: xs, Γ, i, h => by
    obtain ⟨Γ1, Γ2, Γ3, y, h1, h2, h3, h4, h9⟩ := h x List.mem_cons_self Γ i
    obtain ⟨ys, s', h5, h6, h7, h8⟩ := compL_inv I P xs _ h4 fun y hy => h y (List.mem_cons_of_mem _ hy)
    refine ⟨y :: ys, s', ?_, h6, by simp [h7], fun z hz => ?_⟩
    · unfold compL
      rw [h1]
      dsimp only
      rw [h2]
      dsimp only
      rw [if_pos rfl, h3]
      dsimp only
      rw [h5]
    · rcases List.mem_cons.mp hz with rfl | hz
      · exact ⟨x, List.mem_cons_self, h9⟩
      · obtain ⟨x', hx, s2⟩ := h8 z hz
        exact ⟨x', List.mem_cons_of_mem _ hx, s2⟩
def optI : Option Int → PV
  | none => .non
  | some i => .int i
def tupI (xs : List Int) : PV := .tup (ils xs)
theorem pickI (ds xs : List Int) (hx : xs ≠ []) : ∃ (x : Int) (ds' : List Int), x ∈ xs ∧ m_law_pick (dr ds) [.lst (ils xs)] = some (.val (.int x), dr ds') := by
  obtain ⟨x, ds', h1, h2⟩ := pick_eq ds (.lst (ils xs)) (ils xs) (.inl rfl) (by simpa [ils] using hx)
  obtain ⟨i, hi, rfl⟩ := List.mem_map.mp h1
  exact ⟨i, ds', hi, h2⟩
theorem take_small (ds : List Int) (m : Nat) (hm : 0 < m) : ∃ (k : Nat) (ds' : List Int), k < m ∧ m_law_take (dr ds) [.int m] = some (.val (.int k), dr ds') := by
  obtain ⟨k, ds', h, e⟩ := take_eq ds m (by omega)
  exact ⟨k, ds', by omega, e⟩
theorem compL_ix {vs : List Nat} {g : PV → Ev → Option Ev} {t : D Bool} {e : D PV} (Γ : Ev) : ∀ (xs : List PV) (y : Nat → PV), (∀ i x, xs[i]? = some x → ∃ Γ1 Γ2 Γ3, g x Γ = some Γ1 ∧ t Γ1 = some (true, Γ2) ∧ e Γ2 = some (y i, Γ3) ∧ wipeE Γ3 vs = Γ) → compL vs g t e xs Γ = some ((List.range xs.length).map y, Γ)
  | [], _, _ => rfl
  | x :: xs, y, h => by
    obtain ⟨Γ1, Γ2, Γ3, h1, h2, h3, h4⟩ := h 0 x rfl
    unfold compL
    rw [h1]
    dsimp only
    rw [h2]
    dsimp only
    rw [if_pos rfl, h3]
    dsimp only
    rw [h4, compL_ix Γ xs (fun i => y (i + 1)) fun i x hx => h (i + 1) x hx]
    simp [List.range_succ_eq_map, Function.comp_def]
theorem compL_on {α : Type} {vs : List Nat} {g : PV → Ev → Option Ev} {t : D Bool} {e : D PV} (en f : α → PV) (Γ : Ev) : ∀ (xs : List α), (∀ x ∈ xs, ∃ Γ1 Γ2 Γ3, g (en x) Γ = some Γ1 ∧ t Γ1 = some (true, Γ2) ∧ e Γ2 = some (f x, Γ3) ∧ wipeE Γ3 vs = Γ) → compL vs g t e (xs.map en) Γ = some (xs.map f, Γ)
  | [], _ => rfl
  | x :: xs, h => by
    obtain ⟨Γ1, Γ2, Γ3, h1, h2, h3, h4⟩ := h x List.mem_cons_self
    rw [List.map_cons]
    unfold compL
    rw [h1]
    dsimp only
    rw [h2]
    dsimp only
    rw [if_pos rfl, h3]
    dsimp only
    rw [h4, compL_on en f Γ xs fun y hy => h y (List.mem_cons_of_mem _ hy)]
    rfl
theorem pInts_ils : ∀ xs : List Int, pInts (ils xs) = some xs
  | [] => rfl
  | x :: xs => by
    show (pInts (ils xs)).map _ = _
    rw [pInts_ils xs]
    rfl
@[simp] theorem gSum_ils (xs : List Int) : gSum (.lst (ils xs)) = some (.int xs.sum) := by
  unfold gSum
  dsimp only
  rw [pInts_ils]
  rfl
theorem gMax_ils {xs : List Int} (h : xs ≠ []) : gMax (.lst (ils xs)) = some (.int (maxI xs)) := by
  unfold gMax
  dsimp only
  rw [pInts_ils]
  cases xs with
  | nil => exact absurd rfl h
  | cons x xs => rfl
def bls (xs : List Bool) : List PV := xs.map PV.bl
theorem pBls_bls : ∀ xs : List Bool, pBls (bls xs) = some xs
  | [] => rfl
  | x :: xs => by
    show (pBls (bls xs)).map _ = _
    rw [pBls_bls xs]
    rfl
@[simp] theorem gAll_bls (xs : List Bool) : gAll (.lst (bls xs)) = some (.bl (xs.all id)) := by
  unfold gAll
  dsimp only
  rw [pBls_bls]
  rfl
@[simp] theorem at4_0 (x y z w : PV) : atI [x, y, z, w] 0 = some x := rfl
@[simp] theorem at4_1 (x y z w : PV) : atI [x, y, z, w] 1 = some y := rfl
@[simp] theorem at4_2 (x y z w : PV) : atI [x, y, z, w] 2 = some z := rfl
@[simp] theorem at4_3 (x y z w : PV) : atI [x, y, z, w] 3 = some w := rfl
@[simp] theorem at3_2 (x y z : PV) : atI [x, y, z] 2 = some z := rfl
@[simp] theorem at2_0 (x y : PV) : atI [x, y] 0 = some x := rfl
@[simp] theorem at2_1 (x y : PV) : atI [x, y] 1 = some y := rfl
theorem fine_tup {n : Nat} {xs : List PV} (hl : xs.length ≤ 1000000) (h : ∀ x ∈ xs, fine n x) : fine (n + 1) (.tup xs) := ⟨hl, h⟩
theorem fine_lst {n : Nat} {xs : List PV} (hl : xs.length ≤ 1000000) (h : ∀ x ∈ xs, fine n x) : fine (n + 1) (.lst xs) := ⟨hl, h⟩
theorem fine_ils {n : Nat} {xs : List Int} : ∀ x ∈ ils xs, fine (n + 1) x := fun x hx => by
  obtain ⟨i, _, rfl⟩ := List.mem_map.mp hx
  trivial
theorem fine_bls {n : Nat} {xs : List Bool} : ∀ x ∈ bls xs, fine (n + 1) x := fun x hx => by
  obtain ⟨i, _, rfl⟩ := List.mem_map.mp hx
  trivial
theorem maxI_le {xs : List Int} {e : Int} (h : xs ≠ []) : maxI xs ≤ e ↔ ∀ x ∈ xs, x ≤ e := by
  cases xs with
  | nil => exact absurd rfl h
  | cons x xs =>
    obtain ⟨h1, h2, h3⟩ := foldl_max_ge xs x
    show xs.foldl max x ≤ e ↔ _
    constructor
    · intro a y hy
      rcases List.mem_cons.mp hy with rfl | hy
      · omega
      · have := h2 y hy
        omega
    · intro a
      rcases h3 with h3 | h3
      · rw [h3]
        exact a x List.mem_cons_self
      · exact a _ (List.mem_cons_of_mem _ h3)
theorem maxI_nonneg {xs : List Int} (h : ∀ x ∈ xs, 0 ≤ x) (hx : xs ≠ []) : 0 ≤ maxI xs := by
  cases xs with
  | nil => exact absurd rfl hx
  | cons x xs =>
    have h1 := (foldl_max_ge xs x).1
    have h2 := h x List.mem_cons_self
    show 0 ≤ xs.foldl max x
    omega
theorem fine_optI {n : Nat} (o : Option Int) : fine (n + 1) (optI o) := by
  cases o <;> trivial
theorem comp_ils {xs : List Int} {f : Int → PV} {d : D PV} {i : Nat} {Γ : Ev} (hd : ∀ x ∈ xs, d (Γ.set i (.val (.int x))) = some (f x, Γ.set i (.val (.int x)))) (hΓ : Γ[i]? = some .un) : compL [i] (gN i) dYes d (ils xs) Γ = some (xs.map f, Γ) := by
  refine compL_on PV.int _ _ xs fun r hr => ⟨Γ.set i (.val (.int r)), _, Γ.set i (.val (.int r)), rfl, rfl, hd r hr, ?_⟩
  unfold wipeE
  unfold wipeE
  rw [List.set_set]
  apply List.ext_getElem?
  intro j
  rw [List.getElem?_set]
  split
  · rename_i e
    subst e
    split
    · exact hΓ.symm
    · rename_i h
      rw [List.getElem?_eq_none (by omega)]
  · rfl
theorem same_ils {xs : List Int} (h : xs.length ≤ 1000000) : m_law_same 8 [.lst (ils xs), .lst (ils xs)] = some (.val (.bl true)) := same_refl 8 _ (fine_lst (by simpa using h) fine_ils)
theorem same_bls {xs : List Bool} (h : xs.length ≤ 1000000) : m_law_same 8 [.lst (bls xs), .lst (bls xs)] = some (.val (.bl true)) := same_refl 8 _ (fine_lst (by simpa [bls] using h) fine_bls)
theorem exist_ils : ∀ {ys : List PV} {p : Int → Prop}, (∀ y ∈ ys, ∃ w, p w ∧ y = .int w) → ∃ ws, ys = ils ws ∧ ∀ w ∈ ws, p w
  | [], _, _ => ⟨[], rfl, fun _ h => by cases h⟩
  | y :: ys, p, h => by
    obtain ⟨w, h1, rfl⟩ := h y List.mem_cons_self
    obtain ⟨ws, rfl, h2⟩ := exist_ils (p := p) fun z hz => h z (List.mem_cons_of_mem _ hz)
    refine ⟨w :: ws, rfl, fun v hv => ?_⟩
    rcases List.mem_cons.mp hv with rfl | hv
    · exact h1
    · exact h2 v hv
/-! ### texts -/
def okS (L : Nat) (w : Str) : Prop := PyData.strOk w = true ∧ w.length ≤ L
theorem okS.mono {L M : Nat} {w : Str} (h : okS L w) (hl : L ≤ M) : okS M w := ⟨h.1, Nat.le_trans h.2 hl⟩
theorem str_len_append (x y : Str) : (x ++ y).length = x.length + y.length := Array.size_append
theorem okS.append {L M : Nat} {x y : Str} (h1 : okS L x) (h2 : okS M y) : okS (L + M) (x ++ y) := by
  refine ⟨?_, by rw [str_len_append]; have := h1.2; have := h2.2; omega⟩
  have e : (x ++ y).cps = x.cps ++ y.cps := rfl
  unfold PyData.strOk
  rw [e, Array.all_append, Bool.and_eq_true]
  exact ⟨h1.1, h2.1⟩
theorem strOk_empty : PyData.strOk Str.empty = true := by simp [PyData.strOk, Str.empty]
theorem foldl_cps (c : Array Nat) (hc : c.all (· < 0x110000) = true) : ∀ (n : Nat) (acc : Array Nat), acc.all (· < 0x110000) = true → ((List.replicate n c).foldl (· ++ ·) acc).all (· < 0x110000) = true ∧ ((List.replicate n c).foldl (· ++ ·) acc).size = acc.size + n * c.size
  | 0, acc, h => ⟨h, by simp⟩
  | n + 1, acc, h => by
    rw [List.replicate_succ, List.foldl_cons]
    obtain ⟨a, b⟩ := foldl_cps c hc n (acc ++ c) (by rw [Array.all_append, Bool.and_eq_true]; exact ⟨h, hc⟩)
    refine ⟨a, ?_⟩
    rw [b, Array.size_append, Nat.succ_mul]
    omega
theorem okS_mul {x : Str} {n : Int} (h : PyData.strOk x = true) : okS (x.length * n.toNat) (Txt.mul x n) := by
  unfold Txt.mul
  split
  · exact ⟨strOk_empty, Nat.zero_le _⟩
  · rename_i hn
    split
    · rename_i hc
      refine ⟨h, ?_⟩
      rcases Bool.or_eq_true _ _ ▸ hc with z | z
      · have : n = 1 := by simpa using z
        subst this
        simp
      · have : x.length = 0 := by simpa using z
        rw [this]
        exact Nat.zero_le _
    · obtain ⟨a, b⟩ := foldl_cps x.cps h n.toNat #[] (by simp)
      refine ⟨a, ?_⟩
      show ((List.replicate n.toNat x.cps).foldl (· ++ ·) #[]).size ≤ _
      rw [b]
      have : x.cps.size = x.length := rfl
      rw [this, Nat.mul_comm]
      simp
def sls (ws : List Str) : List PV := ws.map PV.str
@[simp] theorem sls_length (ws : List Str) : (sls ws).length = ws.length := List.length_map _
theorem pStrs_sls : ∀ ws : List Str, pStrs (sls ws) = some ws
  | [] => rfl
  | x :: xs => by
    show (pStrs (sls xs)).map _ = _
    rw [pStrs_sls xs]
    rfl
theorem join_aux : ∀ (cs : List Nat) (acc : Array Nat), acc.all (· < 0x110000) = true → (∀ c ∈ cs, c < 0x110000) → ((cs.map fun c => (⟨#[c]⟩ : Str)).foldl (fun acc p => acc ++ (Str.empty).cps ++ p.cps) acc).all (· < 0x110000) = true ∧ ((cs.map fun c => (⟨#[c]⟩ : Str)).foldl (fun acc p => acc ++ (Str.empty).cps ++ p.cps) acc).size = acc.size + cs.length
  | [], acc, h, _ => ⟨h, by simp⟩
  | c :: cs, acc, h, hc => by
    rw [List.map_cons, List.foldl_cons]
    have e : (Str.empty).cps = #[] := rfl
    obtain ⟨a, b⟩ := join_aux cs (acc ++ (Str.empty).cps ++ #[c]) (by
      rw [e, Array.append_empty, Array.all_append, Bool.and_eq_true]
      exact ⟨h, by simp; exact hc c List.mem_cons_self⟩) fun d hd => hc d (List.mem_cons_of_mem _ hd)
    refine ⟨a, ?_⟩
    rw [b, e, Array.append_empty, Array.size_append]
    simp
    omega
theorem okS_join (cs : List Nat) (hc : ∀ c ∈ cs, c < 0x110000) : okS cs.length (Txt.join Str.empty (cs.map fun c => (⟨#[c]⟩ : Str))) := by
  cases cs with
  | nil => exact ⟨strOk_empty, Nat.le_refl _⟩
  | cons c cs =>
    obtain ⟨a, b⟩ := join_aux cs #[c] (by simp; exact hc c List.mem_cons_self) fun d hd => hc d (List.mem_cons_of_mem _ hd)
    refine ⟨a, ?_⟩
    show (((cs.map fun c => (⟨#[c]⟩ : Str)).foldl (fun acc p => acc ++ (Str.empty).cps ++ p.cps) #[c])).size ≤ _
    rw [b]
    simp
    omega
theorem gJoin_eq (cs : List Nat) (hl : cs.length ≤ 1000) : gJoin (.str Str.empty) (.lst (cs.map fun c => PV.str ⟨#[c]⟩)) = some (.str (Txt.join Str.empty (cs.map fun c => (⟨#[c]⟩ : Str)))) := by
  have e : (cs.map fun c => PV.str ⟨#[c]⟩) = sls (cs.map fun c => (⟨#[c]⟩ : Str)) := by simp [sls, Function.comp_def]
  have hs : ∀ cs : List Nat, (((cs.map fun c => (⟨#[c]⟩ : Str)).map (·.length)).sum : Nat) = cs.length := fun cs => by
    induction cs with
    | nil => rfl
    | cons c cs ih =>
      simp only [List.map_cons, List.sum_cons, List.length_cons, ih]
      show 1 + cs.length = _
      omega
  have hf : fits ((((cs.map fun c => (⟨#[c]⟩ : Str)).map (·.length)).sum : Nat) + (cs.map fun c => (⟨#[c]⟩ : Str)).length * (Str.empty).length) = true := by
    rw [hs]
    have : (Str.empty).length = 0 := rfl
    rw [this, Nat.mul_zero, Nat.add_zero]
    exact fits_of (by omega)
  unfold gJoin
  rw [e]
  dsimp only
  rw [pStrs_sls]
  show (if _ then _ else _) = _
  rw [if_pos hf]
theorem popOk_mk {n : Int} (h : -(2 ^ 63) ≤ n ∧ n < 2 ^ 63) : popOk n = true := hide_of (P := fun i : Int => -(2 ^ 63) ≤ i ∧ i < 2 ^ 63) h
theorem gMulS_eq {z : Str} {n : Int} (h1 : z.length * n.toNat ≤ 1000000) (h2 : -(2 ^ 63) ≤ n ∧ n < 2 ^ 63) : gMulS (.str z) (.int n) = some (.str (Txt.mul z n)) := by
  unfold gMulS
  dsimp only
  rw [if_pos (fits_of h1), if_pos (popOk_mk h2)]
theorem alpha_len : ("abcdefghijklmnopqrstuvwxyz" : Str).length = 26 := by decide +kernel
theorem alpha_ok : PyData.strOk ("abcdefghijklmnopqrstuvwxyz" : Str) = true := by decide +kernel
theorem alpha_at {k : Nat} (hk : k < 26) : ∃ c, c < 0x110000 ∧ gIx (.str "abcdefghijklmnopqrstuvwxyz") (.int k) = some (.str ⟨#[c]⟩) := by
  have hl : k < ("abcdefghijklmnopqrstuvwxyz" : Str).cps.toList.length := by
    rw [Array.length_toList]
    exact Nat.lt_of_lt_of_le hk (Nat.le_of_eq alpha_len.symm)
  refine ⟨("abcdefghijklmnopqrstuvwxyz" : Str).cps.toList[k], ?_, ?_⟩
  · have h1 := alpha_ok
    unfold PyData.strOk at h1
    rw [← Array.all_toList, List.all_eq_true] at h1
    exact of_decide_eq_true (h1 _ (List.getElem_mem hl))
  · unfold gIx
    dsimp only
    rw [if_pos (fits_of (by rw [alpha_len]; decide)), atI_lt hl]
    rfl
theorem gIn_strs (w : Str) (ws : List Str) : ∃ b, gIn (.str w) (.lst (sls ws)) = some b := by
  have h : (sls ws).all pflat = true := List.all_eq_true.mpr fun y hy => by
    obtain ⟨z, _, rfl⟩ := List.mem_map.mp hy
    rfl
  refine ⟨(sls ws).any fun q => pfEq q (.str w), ?_⟩
  unfold gIn
  dsimp only
  rw [h]
  rfl
def lens (ws : List Str) : List Int := ws.map fun w => (w.length : Int)
def dWord : D PV := dOp gJoin (dStr "") (fz (dComp [6] (dIt itR1 (dNm 4)) (gN 6) (dYes) (dOp gIx (dStr "abcdefghijklmnopqrstuvwxyz") (fz (dC1 (m_law_take) 0 (dCons (dInt 26) (dNil)))))))
theorem word_eq (ds : List Int) (many k : PV) (ws : List Str) (size : Nat) (hs : size ≤ 30) (s5 s6 s7 : Sl) : ∃ (w : Str) (ds' : List Int), okS 30 w ∧
    dWord [.mu .par (dr ds), .val many, .mu .own (.lst (sls ws)), .val k, .val (.int size), s5, s6, s7] = some (.str w, [.mu .par (dr ds'), .val many, .mu .own (.lst (sls ws)), .val k, .val (.int size), s5, s6, s7]) := by
  let I : Ev → Prop := fun Γ => ∃ ds, Γ = [.mu .par (dr ds), .val many, .mu .own (.lst (sls ws)), .val k, .val (.int size), s5, .un, s7]
  obtain ⟨ys, Γ', e, ⟨ds', rfl⟩, hl, hy⟩ := compL_inv (vs := [6]) (g := gN 6) (t := dYes) (e := (dOp gIx (dStr "abcdefghijklmnopqrstuvwxyz") (fz (dC1 (m_law_take) 0 (dCons (dInt 26) (dNil)))))) I (fun _ y => ∃ c, c < 0x110000 ∧ y = .str ⟨#[c]⟩) (rgP 0 size) [.mu .par (dr ds), .val many, .mu .own (.lst (sls ws)), .val k, .val (.int size), s5, .un, s7] ⟨ds, rfl⟩ fun x _ Γ ⟨ds, hΓ⟩ => by
    subst hΓ
    obtain ⟨t, ds', ht, e⟩ := take_small ds 26 (by decide)
    obtain ⟨c, hc, e2⟩ := alpha_at ht
    rw [show ((26 : Nat) : Int) = 26 from rfl] at e
    refine ⟨[.mu .par (dr ds), .val many, .mu .own (.lst (sls ws)), .val k, .val (.int size), s5, .val x, s7], _, [.mu .par (dr ds'), .val many, .mu .own (.lst (sls ws)), .val k, .val (.int size), s5, .val x, s7], .str ⟨#[c]⟩, rfl, rfl, ?_, ⟨ds', rfl⟩, c, hc, rfl⟩
    simp [-gIx, e, e2]
  have : ∀ ys : List PV, (∀ y ∈ ys, ∃ c, c < 0x110000 ∧ y = PV.str ⟨#[c]⟩) → ∃ cs : List Nat, (∀ c ∈ cs, c < 0x110000) ∧ ys = cs.map fun c => PV.str ⟨#[c]⟩ := fun ys => by
    induction ys with
    | nil => exact fun _ => ⟨[], (fun _ h => by cases h), rfl⟩
    | cons y ys ih =>
      intro h
      obtain ⟨c, hc, rfl⟩ := h y List.mem_cons_self
      obtain ⟨cs, h1, rfl⟩ := ih fun z hz => h z (List.mem_cons_of_mem _ hz)
      refine ⟨c :: cs, fun d hd => ?_, rfl⟩
      rcases List.mem_cons.mp hd with rfl | hd
      · exact hc
      · exact h1 d hd
  obtain ⟨cs, hc, rfl⟩ := this ys fun y h => by
    obtain ⟨x, _, z⟩ := hy y h
    exact z
  rw [rgP_length, List.length_map] at hl
  have j := gJoin_eq cs (by omega)
  have ez : ("" : Str) = Str.empty := by decide +kernel
  refine ⟨_, ds', (okS_join cs hc).mono (by omega), ?_⟩
  have f1 : fits size = true := fits_of (by omega)
  unfold dWord
  rw [ez]
  simp [itR1_nat (show size ≤ 1000000 by omega), rgP_length, f1, e, j]
def dWordBody : DS := (dSeq (dSet 4 (vl (dOp gAdd (dInt 1) (fz (dC1 (m_law_take) 0 (dCons (dInt 3) (dNil)))))))
        (dSeq (dIfS (dTr (dOp gEq (fz (dC1 (m_law_take) 0 (dCons (dInt 9) (dNil)))) (dInt 0))) (dSet 4 (vl (dOp gAdd (dOp gAdd (dNm 4) (dInt 3)) (fz (dC1 (m_law_take) 0 (dCons (dInt 20) (dNil))))))) (dSkip))
        (dSeq (dSet 5 (vl dWord))
        (dSeq (dIfS (dTr (dIn (dNm 5) (dPk 2))) (dSet 5 (vl (dOp gMulS (dStr "z") (dOp gAdd (dInt 1) (dUn gMax (fz (dR2 gCat (fz (dLst (dCons (dInt 5) (dNil)))) (fz (dCompN 2 [7] (gN 7) (dYes) (dUn gLen (dPk 7))))))))))) (dSkip))
        (dEx (dMt gAppend 2 (dCons (dNm 5) (dNil))))))))
theorem mem_lens {ws : List Str} {x : Int} (h : x ∈ lens ws) : ∃ w ∈ ws, x = w.length := by
  obtain ⟨w, hw, rfl⟩ := List.mem_map.mp h
  exact ⟨w, hw, rfl⟩
theorem wordBody_eq (ds : List Int) (many : PV) (k : PV) (ws : List Str) (L : Nat) (hL : 30 ≤ L) (hL2 : L ≤ 1000) (hw : ∀ w ∈ ws, okS L w) (hl : ws.length ≤ 1000) (s3 s4 s5 s6 : Sl) : ∃ (w : Str) (ds' : List Int) (s4' s5' : Sl), okS (L + 1) w ∧
    dTurn (gN 3) dWordBody k [.mu .par (dr ds), .val many, .mu .own (.lst (sls ws)), s3, s4, s5, s6, .un] = some (.nx [.mu .par (dr ds'), .val many, .mu .own (.lst (sls (ws ++ [w]))), .val k, s4', s5', s6, .un]) := by
  obtain ⟨t1, ds1, h1, e1⟩ := take_eq ds 3 (by decide)
  obtain ⟨t2, ds2, h2, e2⟩ := take_eq ds1 9 (by decide)
  have f1 : fits (ws.length + 1) = true := fits_of (by omega)
  have f2 : fits ws.length = true := fits_of (by omega)
  obtain ⟨size, ds3, hs, e3⟩ : ∃ (size : Nat) (ds3 : List Int), size ≤ 30 ∧ (dIfS (dTr (dOp gEq (fz (dC1 (m_law_take) 0 (dCons (dInt 9) (dNil)))) (dInt 0))) (dSet 4 (vl (dOp gAdd (dOp gAdd (dNm 4) (dInt 3)) (fz (dC1 (m_law_take) 0 (dCons (dInt 20) (dNil))))))) (dSkip)) [.mu .par (dr ds1), .val many, .mu .own (.lst (sls ws)), .val k, .val (.int (1 + (t1 : Int))), s5, s6, .un] = some (.nx [.mu .par (dr ds3), .val many, .mu .own (.lst (sls ws)), .val k, .val (.int size), s5, s6, .un]) := by
    by_cases c : t2 = 0
    · subst c
      obtain ⟨t3, ds3, h3, e3⟩ := take_eq ds2 20 (by decide)
      refine ⟨1 + t1 + 3 + t3, ds3, by omega, ?_⟩
      simp [e2, e3]
    · refine ⟨1 + t1, ds2, by omega, ?_⟩
      simp [e2, c]
  obtain ⟨w, ds4, ow, e4⟩ := word_eq ds3 many k ws size hs s5 s6 .un
  obtain ⟨b, eb⟩ := gIn_strs w ws
  have hc : compL [7] (gN 7) dYes (dUn gLen (dPk 7)) (sls ws) [.mu .par (dr ds4), .val many, .mu .lck (.lst (sls ws)), .val k, .val (.int size), .val (.str w), s6, .un] = some (ils (lens ws), [.mu .par (dr ds4), .val many, .mu .lck (.lst (sls ws)), .val k, .val (.int size), .val (.str w), s6, .un]) := by
    have e : ils (lens ws) = ws.map (fun w => PV.int (w.length : Int)) := by simp [ils, lens, Function.comp_def]
    rw [e]
    refine compL_on PV.str _ _ ws fun x hx => ⟨[.mu .par (dr ds4), .val many, .mu .lck (.lst (sls ws)), .val k, .val (.int size), .val (.str w), s6, .val (.str x)], _, [.mu .par (dr ds4), .val many, .mu .lck (.lst (sls ws)), .val k, .val (.int size), .val (.str w), s6, .val (.str x)], rfl, rfl, ?_, rfl⟩
    have := (hw x hx).2
    simp [fits_of (show x.length ≤ 1000000 by omega)]
  have hm : maxI (5 :: lens ws) ≤ L ∧ 5 ≤ maxI (5 :: lens ws) := by
    refine ⟨(maxI_le (by simp)).mpr fun x hx => ?_, (maxI_le (xs := 5 :: lens ws) (by simp)).mp (Int.le_refl _) 5 List.mem_cons_self⟩
    rcases List.mem_cons.mp hx with rfl | hx
    · omega
    · obtain ⟨v, hv, rfl⟩ := mem_lens hx
      have := (hw v hv).2
      omega
  have ez : ("z" : Str).length = 1 := by decide +kernel
  have oz : PyData.strOk ("z" : Str) = true := by decide +kernel
  have mz := gMulS_eq (z := "z") (n := 1 + maxI (5 :: lens ws)) (by rw [ez]; omega) (by omega)
  have mx := gMax_ils (xs := 5 :: lens ws) (by simp)
  have oz2 : okS (L + 1) (Txt.mul "z" (1 + maxI (5 :: lens ws))) := (okS_mul oz).mono (by rw [ez]; omega)
  have f3 : fits (1 + (lens ws).length) = true := fits_of (by simp [lens]; omega)
  have cat : PV.int 5 :: ils (lens ws) = ils (5 :: lens ws) := rfl
  refine ⟨if b = true then Txt.mul "z" (1 + maxI (5 :: lens ws)) else w, ds4, .val (.int size), .val (.str (if b = true then Txt.mul "z" (1 + maxI (5 :: lens ws)) else w)), ?_, ?_⟩
  · split
    · exact oz2
    · exact ow.mono (by omega)
  show dWordBody _ = _
  unfold dWordBody
  refine (dSeq_nx (Γ1 := [.mu .par (dr ds1), .val many, .mu .own (.lst (sls ws)), .val k, .val (.int (1 + (t1 : Int))), s5, s6, .un]) (by simp [e1])).trans ?_
  refine (dSeq_nx e3).trans ?_
  refine (dSeq_nx (Γ1 := [.mu .par (dr ds4), .val many, .mu .own (.lst (sls ws)), .val k, .val (.int size), .val (.str w), s6, .un]) (by simp [e4])).trans ?_
  refine (dSeq_nx (Γ1 := [.mu .par (dr ds4), .val many, .mu .own (.lst (sls ws)), .val k, .val (.int size), .val (.str (if b = true then Txt.mul "z" (1 + maxI (5 :: lens ws)) else w)), s6, .un]) ?_).trans ?_
  · cases b with
    | false => simp [eb]
    | true => simp [eb, mkL, f2, hc, f3, cat, mx, mz]
  · simp [f1, sls]
theorem words_eq (ds : List Int) (many : Nat) (hm : many ≤ 300) : ∃ (ws : List Str) (ds' : List Int), ws.length = many ∧ (∀ w ∈ ws, okS (30 + many) w) ∧ m_law_words (dr ds) [.int many] = some (.new (.lst (sls ws)), dr ds') := by
  let I : Nat → Ev → Prop := fun k Γ => ∃ (ds : List Int) (ws : List Str) (a b c d : Sl), ws.length = k ∧ (∀ w ∈ ws, okS (30 + k) w) ∧ Γ = [.mu .par (dr ds), .val (.int many), .mu .own (.lst (sls ws)), a, b, c, d, .un]
  obtain ⟨Γ', e3, ds', ws, a, b, c, d, h1, h2, rfl⟩ := loopD_inv (step := dTurn (gN 3) dWordBody) I (rgP 0 many) 0 [.mu .par (dr ds), .val (.int many), .mu .own (.lst (sls [])), .un, .un, .un, .un, .un] ⟨ds, [], _, _, _, _, rfl, (fun _ h => by cases h), rfl⟩ fun k x Γ hx ⟨ds, ws, a, b, c, d, h1, h2, hΓ⟩ => by
    obtain ⟨hk, rfl⟩ := rgP_get hx
    subst hΓ
    obtain ⟨w, ds', s4, s5, ow, e⟩ := wordBody_eq ds (.int many) (.int (0 + (k : Int))) ws (30 + (0 + k)) (by omega) (by omega) h2 (by omega) a b c d
    refine ⟨_, .inl e, ds', ws ++ [w], _, _, _, _, by rw [List.length_append, h1]; rfl, fun v hv => ?_, rfl⟩
    rcases List.mem_append.mp hv with hv | hv
    · exact (h2 v hv).mono (by omega)
    · cases List.mem_singleton.mp hv
      exact ow.mono (by omega)
  rw [rgP_length, Nat.zero_add] at h1 h2
  refine ⟨ws, ds', h1, h2, ?_⟩
  refine sem1_rt rfl (Γ' := [.val (.int many), .un, a, b, c, d, .un]) ?_
  unfold d_law_words
  refine (dSeq_nx (Γ1 := [.mu .par (dr ds), .val (.int many), .mu .own (.lst (sls [])), .un, .un, .un, .un, .un]) (by simp [mkL, sls])).trans ?_
  refine (dSeq_nx ((dFor_of (xs := rgP 0 many) (by simp [itR1_nat (show many ≤ 1000000 by omega)])).trans e3)).trans ?_
  simp
/-! ### towns and closings -/
theorem comp_rows {vs : List Nat} {g : PV → Ev → Option Ev} {e : D PV} (I : Ev → Prop) (P : PV → PV → Prop) (xs : List PV) (Γ : Ev) (hI : I Γ) (h : ∀ x ∈ xs, ∀ Γ, I Γ → ∃ Γ1 Γ3 y, g x Γ = some Γ1 ∧ e Γ1 = some (y, Γ3) ∧ I (wipeE Γ3 vs) ∧ P x y) : ∃ ys Γ', compL vs g dYes e xs Γ = some (ys, Γ') ∧ I Γ' ∧ ys.length = xs.length ∧ ∀ y ∈ ys, ∃ x ∈ xs, P x y :=
  compL_inv I P xs Γ hI fun x hx Γ i => by
    obtain ⟨Γ1, Γ3, y, a, b, c, d⟩ := h x hx Γ i
    exact ⟨Γ1, Γ1, Γ3, y, a, rfl, b, c, d⟩
abbrev Pl := Str × List (Option Nat)
def encO : Option Nat → PV
  | none => .non
  | some g => .int g
def encR (row : List (Option Nat)) : List PV := row.map encO
def encP (p : Pl) : PV := .tup [.str p.1, .tup (encR p.2)]
def encT (t : List Pl) : PV := .tup (t.map encP)
def nls (xs : List Nat) : List PV := xs.map fun (i : Nat) => PV.int (i : Int)
structure OKP (n : Nat) (p : Pl) : Prop where
  len : p.2.length ≤ 10
  goal : ∀ g, some g ∈ p.2 → g < n
@[simp] theorem encR_len (r : List (Option Nat)) : (encR r).length = r.length := List.length_map _
theorem exist_row : ∀ {ys : List PV} {n : Nat}, (∀ y ∈ ys, y = .non ∨ ∃ g : Nat, g < n ∧ y = .int g) → ∃ row : List (Option Nat), ys = encR row ∧ ∀ g, some g ∈ row → g < n
  | [], _, _ => ⟨[], rfl, fun _ h => by cases h⟩
  | y :: ys, n, h => by
    obtain ⟨r, rfl, h2⟩ := exist_row fun z hz => h z (List.mem_cons_of_mem _ hz)
    rcases h y List.mem_cons_self with rfl | ⟨g, hg, rfl⟩
    · refine ⟨none :: r, rfl, fun v hv => ?_⟩
      rcases List.mem_cons.mp hv with e | hv
      · cases e
      · exact h2 v hv
    · refine ⟨some g :: r, rfl, fun v hv => ?_⟩
      rcases List.mem_cons.mp hv with e | hv
      · cases e; exact hg
      · exact h2 v hv
def dGT : DS := (dSeq (dSet 8 (dComp [9] (dIt itR1 (fz (dC1 (m_law_take) 0 (dCons (dInt 4) (dNil))))) (gN 9) (dYes) (fz (dC1 (m_law_take) 0 (dCons (dNm 3) (dNil))))))
        (dSeq (dSet 8 (dCompN 8 [10] (gN 10) (dYes) (dOp gIx (fz (dLst (dCons (dNm 10) (dCons (dNon) (dNil))))) (dUn gInt (dOp gEq (fz (dC1 (m_law_take) 0 (dCons (dInt 6) (dNil)))) (dInt 0))))))
        (dSeq (dIfS (dTr (dOp gEq (dNm 5) (dInt 1))) (dSet 8 (dR2 gCat (fz (dLst (dCons (dOp gMod (dUn gInt (dOp gAdd (dNm 7) (dInt 1))) (dNm 3)) (dNil)))) (dPk 8))) (dSkip))
        (dEx (dMt gAppend 6 (dCons (dTup (dCons (fz (dC1 (m_law_pick) 0 (dCons (dNm 4) (dNil)))) (dCons (dUn gTupOf (dPk 8)) (dNil)))) (dNil)))))))
theorem gt_step (ds : List Int) (many : Nat) (hm : 0 < many) (ws : List Str) (hw : ws ≠ []) (ring : Nat) (t : List Pl) (ht : t.length ≤ 100) (p1 p2 k : PV) (kk : Nat) (hk : k = .int kk) (a4 a b c d : Sl) (h4 : a4 = .mu .own (.lst (sls ws)) ∨ a4 = .val (.lst (sls ws))) : ∃ (p : Pl) (ds' : List Int) (b' : Sl), OKP many p ∧
    dTurn (gN 7) dGT k [.mu .par (dr ds), .val p1, .val p2, .val (.int many), a4, .val (.int ring), .mu .own (.lst (t.map encP)), a, b, .un, .un] = some (.nx [.mu .par (dr ds'), .val p1, .val p2, .val (.int many), .val (.lst (sls ws)), .val (.int ring), .mu .own (.lst ((t ++ [p]).map encP)), .val k, b', .un, .un]) := by
  subst hk
  obtain ⟨t1, ds1, ht1, e1⟩ := take_small ds 4 (by decide)
  obtain ⟨ys, Γ', c1, ⟨ds2, rfl⟩, l1, y1⟩ := comp_rows (vs := [9]) (g := gN 9) (e := fz (dC1 (m_law_take) 0 (dCons (dNm 3) (dNil)))) (fun Γ => ∃ ds, Γ = [.mu .par (dr ds), .val p1, .val p2, .val (.int many), a4, .val (.int ring), .mu .own (.lst (t.map encP)), .val (.int kk), b, .un, .un]) (fun _ y => ∃ g : Nat, g < many ∧ y = .int g) (rgP 0 t1) _ ⟨ds1, rfl⟩ fun x _ Γ ⟨ds, hΓ⟩ => by
    subst hΓ
    obtain ⟨g, ds', hg, e⟩ := take_small ds many hm
    exact ⟨[.mu .par (dr ds), .val p1, .val p2, .val (.int many), a4, .val (.int ring), .mu .own (.lst (t.map encP)), .val (.int kk), b, .val x, .un], [.mu .par (dr ds'), .val p1, .val p2, .val (.int many), a4, .val (.int ring), .mu .own (.lst (t.map encP)), .val (.int kk), b, .val x, .un], _, rfl, by simp [e], ⟨ds', rfl⟩, g, hg, rfl⟩
  rw [rgP_length] at l1
  obtain ⟨zs, Γ', c2, ⟨ds3, rfl⟩, l2, y2⟩ := comp_rows (vs := [10]) (g := gN 10) (e := (dOp gIx (fz (dLst (dCons (dNm 10) (dCons (dNon) (dNil))))) (dUn gInt (dOp gEq (fz (dC1 (m_law_take) 0 (dCons (dInt 6) (dNil)))) (dInt 0))))) (fun Γ => ∃ ds, Γ = [.mu .par (dr ds), .val p1, .val p2, .val (.int many), a4, .val (.int ring), .mu .own (.lst (t.map encP)), .val (.int kk), .mu .lck (.lst ys), .un, .un]) (fun x y => y = .non ∨ y = x) ys _ ⟨ds2, rfl⟩ fun x _ Γ ⟨ds, hΓ⟩ => by
    subst hΓ
    obtain ⟨g, ds', hg, e⟩ := take_small ds 6 (by decide)
    refine ⟨[.mu .par (dr ds), .val p1, .val p2, .val (.int many), a4, .val (.int ring), .mu .own (.lst (t.map encP)), .val (.int kk), .mu .lck (.lst ys), .un, .val x], [.mu .par (dr ds'), .val p1, .val p2, .val (.int many), a4, .val (.int ring), .mu .own (.lst (t.map encP)), .val (.int kk), .mu .lck (.lst ys), .un, .val x], if g = 0 then .non else x, rfl, ?_, ⟨ds', rfl⟩, ?_⟩
    · rw [show ((6 : Nat) : Int) = 6 from rfl] at e
      by_cases h : g = 0
      · subst h
        simp [e, mkL, b2i]
      · have : ¬ (g : Int) = 0 := by omega
        simp [e, mkL, h, b2i]
    · split
      · exact .inl rfl
      · exact .inr rfl
  obtain ⟨row, rfl, hr⟩ : ∃ row : List (Option Nat), zs = encR row ∧ ∀ g, some g ∈ row → g < many := exist_row fun y hy => by
    obtain ⟨x, hx, z⟩ := y2 y hy
    rcases z with rfl | rfl
    · exact .inl rfl
    · obtain ⟨_, _, w⟩ := y1 _ hx
      exact .inr w
  rw [encR_len] at l2
  obtain ⟨q, ds4, hq, e4⟩ := pick_eq ds3 (.lst (sls ws)) (sls ws) (.inl rfl) (by simpa [sls] using hw)
  obtain ⟨w, hw1, rfl⟩ := List.mem_map.mp hq
  have f0 : itR1 (.int t1) = some (rgP 0 t1) := itR1_nat (by omega)
  have f1 : fits ys.length = true := fits_of (by omega)
  have f2 : fits (t.length + 1) = true := fits_of (by omega)
  have f3 : fits (1 + row.length) = true := fits_of (by omega)
  have f4 : fits row.length = true := fits_of (by omega)
  have f5 : fits t1 = true := fits_of (by omega)
  have m0 : ∃ m : Nat, m < many ∧ ((kk : Int) + 1).fmod many = m := by
    have h1 := Int.fmod_nonneg_of_pos ((kk : Int) + 1) (b := (many : Int)) (by omega)
    have h2 := Int.fmod_lt_of_pos ((kk : Int) + 1) (b := (many : Int)) (by omega)
    exact ⟨(((kk : Int) + 1).fmod many).toNat, by omega, by omega⟩
  obtain ⟨m, hm1, em⟩ := m0
  have hm0 : ¬ (many = 0) := by omega
  rw [show ((4 : Nat) : Int) = 4 from rfl] at e1
  refine ⟨(w, if ring = 1 then some m :: row else row), ds4, .mu .own (.lst (encR (if ring = 1 then some m :: row else row))), ⟨?_, ?_⟩, ?_⟩
  · dsimp only
    split
    · simp; omega
    · omega
  · dsimp only
    intro g hg
    split at hg
    · rcases List.mem_cons.mp hg with e | hg
      · cases e; exact hm1
      · exact hr g hg
    · exact hr g hg
  show dGT _ = _
  unfold dGT
  refine (dSeq_nx (Γ1 := [.mu .par (dr ds2), .val p1, .val p2, .val (.int many), a4, .val (.int ring), .mu .own (.lst (t.map encP)), .val (.int kk), .mu .own (.lst ys), .un, .un]) (by simp [e1, f0, c1, f5, rgP_length])).trans ?_
  refine (dSeq_nx (Γ1 := [.mu .par (dr ds3), .val p1, .val p2, .val (.int many), a4, .val (.int ring), .mu .own (.lst (t.map encP)), .val (.int kk), .mu .own (.lst (encR row)), .un, .un]) (by simp [f1, c2])).trans ?_
  by_cases h : ring = 1
  · subst h
    refine (dSeq_nx (Γ1 := [.mu .par (dr ds3), .val p1, .val p2, .val (.int many), a4, .val (.int 1), .mu .own (.lst (t.map encP)), .val (.int kk), .mu .own (.lst (encR (some m :: row))), .un, .un]) (by simp [mkL, em, hm0, f3]; simp [encR, encO])).trans ?_
    rcases h4 with rfl | rfl <;> simp [e4, f2, encP, mkT]
  · have : ¬ (ring : Int) = 1 := by omega
    refine (dSeq_nx (Γ1 := [.mu .par (dr ds3), .val p1, .val p2, .val (.int many), a4, .val (.int ring), .mu .own (.lst (t.map encP)), .val (.int kk), .mu .own (.lst (encR row)), .un, .un]) (by simp [this])).trans ?_
    rcases h4 with rfl | rfl <;> simp [e4, f2, encP, h, mkT]
theorem great_town_eq (ds : List Int) : ∃ (t : List Pl) (ds' : List Int), 7 ≤ t.length ∧ t.length ≤ 12 ∧ (∀ p ∈ t, OKP t.length p) ∧ m_law_great_town (dr ds) [.int 7, .int 12] = some (.val (encT t), dr ds') := by
  obtain ⟨m0, ds1, hm, e1⟩ := take_small ds 6 (by decide)
  obtain ⟨w0, ds2, hw, e2⟩ := take_small ds1 3 (by decide)
  obtain ⟨ws, ds3, lw, ow, e3⟩ := words_eq ds2 (1 + w0) (by omega)
  obtain ⟨ring, ds4, hr, e4⟩ := take_small ds3 2 (by decide)
  have hws : ws ≠ [] := by intro h; rw [h] at lw; simp at lw; omega
  let many := 7 + m0
  let I : Nat → Ev → Prop := fun k Γ => ∃ (ds : List Int) (t : List Pl) (a4 a b : Sl), (a4 = .mu .own (.lst (sls ws)) ∨ a4 = .val (.lst (sls ws))) ∧ t.length = k ∧ (∀ p ∈ t, OKP many p) ∧ Γ = [.mu .par (dr ds), .val (.int 7), .val (.int 12), .val (.int many), a4, .val (.int ring), .mu .own (.lst (t.map encP)), a, b, .un, .un]
  obtain ⟨Γ', e5, ds5, t, a4, a, b, _, h1, h2, rfl⟩ := loopD_inv (step := dTurn (gN 7) dGT) I (rgP 0 many) 0 [.mu .par (dr ds4), .val (.int 7), .val (.int 12), .val (.int many), .mu .own (.lst (sls ws)), .val (.int ring), .mu .own (.lst []), .un, .un, .un, .un] ⟨ds4, [], _, _, _, .inl rfl, rfl, (fun _ h => by cases h), rfl⟩ fun k x Γ hx ⟨ds, t, a4, a, b, h4, h1, h2, hΓ⟩ => by
    obtain ⟨hk, rfl⟩ := rgP_get hx
    subst hΓ
    obtain ⟨p, ds', b', op, e⟩ := gt_step ds many (by omega) ws hws ring t (by omega) (.int 7) (.int 12) (.int (0 + (k : Int))) k (by rw [Int.zero_add]) a4 a b .un .un h4
    refine ⟨_, .inl e, ds', t ++ [p], _, _, _, .inr rfl, by rw [List.length_append, h1]; rfl, fun v hv => ?_, rfl⟩
    rcases List.mem_append.mp hv with hv | hv
    · exact h2 v hv
    · cases List.mem_singleton.mp hv
      exact op
  rw [rgP_length, Nat.zero_add] at h1
  refine ⟨t, ds5, by omega, by omega, by rw [h1]; exact h2, ?_⟩
  refine sem1_rt rfl (Γ' := [.val (.int 7), .val (.int 12), .val (.int many), a4, .val (.int ring), .mu .own (.lst (t.map encP)), a, b, .un, .un]) ?_
  have w1 : (1 + (w0 : Int)) = ((1 + w0 : Nat) : Int) := by omega
  have m1 : (7 + (m0 : Int)) = (many : Int) := by omega
  rw [show ((6 : Nat) : Int) = 6 from rfl] at e1
  rw [show ((3 : Nat) : Int) = 3 from rfl] at e2
  rw [show ((2 : Nat) : Int) = 2 from rfl] at e4
  rw [← w1] at e3
  unfold d_law_great_town
  refine (dSeq_nx (Γ1 := [.mu .par (dr ds1), .val (.int 7), .val (.int 12), .val (.int many), .un, .un, .un, .un, .un, .un, .un]) (by simp [e1, m1])).trans ?_
  refine (dSeq_nx (Γ1 := [.mu .par (dr ds3), .val (.int 7), .val (.int 12), .val (.int many), .mu .own (.lst (sls ws)), .un, .un, .un, .un, .un, .un]) (by simp [e2, e3])).trans ?_
  refine (dSeq_nx (Γ1 := [.mu .par (dr ds4), .val (.int 7), .val (.int 12), .val (.int many), .mu .own (.lst (sls ws)), .val (.int ring), .un, .un, .un, .un, .un]) (by simp [e4])).trans ?_
  refine (dSeq_nx (Γ1 := [.mu .par (dr ds4), .val (.int 7), .val (.int 12), .val (.int many), .mu .own (.lst (sls ws)), .val (.int ring), .mu .own (.lst []), .un, .un, .un, .un]) (by simp [mkL])).trans ?_
  refine (dSeq_nx ((dFor_of (xs := rgP 0 many) (by simp [itR1_nat (show many ≤ 1000000 by omega)])).trans e5)).trans ?_
  simp [encT]
/-! ### closings, the time -/
abbrev Cl := List (List (Option Int))
def encC (r : List (Option Int)) : List PV := r.map optI
def encM (m : Cl) : PV := .tup (m.map fun r => .tup (encC r))
@[simp] theorem encC_len (r : List (Option Int)) : (encC r).length = r.length := List.length_map _
def dCl1 : DS := (dSeq (dSet 7 (vl (dOp gSub (dOp gAdd (dNm 2) (fz (dC1 (m_law_take) 0 (dCons (dInt 14) (dNil))))) (dInt 1))))
        (dEx (dMt gAppend 5 (dCons (fz (dC1 (m_law_pick) 0 (dCons (fz (dLst (dCons (dNon) (dCons (dNm 7) (dCons (dNm 7) (dCons (dNm 7) (dCons (dNm 7) (dCons (dOp gAdd (dNm 2) (dOp gPow (dInt 10) (dInt 22))) (dCons (dOp gSub (dNm 2) (dOp gPow (dInt 10) (dInt 22))) (dNil)))))))))) (dNil)))) (dNil)))))
def dCl : DS := (dSeq (dSet 5 (dLst (dNil)))
        (dSeq (dFor (dIt itP (dIxN 4 (dInt 1))) (gN 6) dCl1)
        (dEx (dMt gAppend 3 (dCons (dUn gTupOf (dPk 5)) (dNil))))))
theorem pow22 : gPow (.int 10) (.int 22) = some (.int 10000000000000000000000) := by
  unfold gPow gI
  exact if_pos (hide_of (by dsimp only; omega))
theorem pow30 : gPow (.int 10) (.int 30) = some (.int 1000000000000000000000000000000) := by
  unfold gPow gI
  exact if_pos (hide_of (by dsimp only; omega))
theorem pow25 : gPow (.int 10) (.int 25) = some (.int 10000000000000000000000000) := by
  unfold gPow gI
  exact if_pos (hide_of (by dsimp only; omega))
theorem pow20 : gPow (.int 10) (.int 20) = some (.int 100000000000000000000) := by
  unfold gPow gI
  exact if_pos (hide_of (by dsimp only; omega))
theorem cl_in (ds : List Int) (T : Int) (t : List Pl) (told p5 : PV) (row : List (Option Nat)) (hr : row.length ≤ 10) (a6 a7 : Sl) : ∃ (r : List (Option Int)) (ds' : List Int) (b6 b7 : Sl), r.length = row.length ∧
    loopD (dTurn (gN 6) dCl1) (encR row) [.mu .par (dr ds), .val (encT t), .val (.int T), .mu .own told, .val p5, .mu .own (.lst []), a6, a7] = some (.nx [.mu .par (dr ds'), .val (encT t), .val (.int T), .mu .own told, .val p5, .mu .own (.lst (encC r)), b6, b7]) := by
  let I : Nat → Ev → Prop := fun k Γ => ∃ (ds : List Int) (r : List (Option Int)) (a b : Sl), r.length = k ∧ Γ = [.mu .par (dr ds), .val (encT t), .val (.int T), .mu .own told, .val p5, .mu .own (.lst (encC r)), a, b]
  obtain ⟨Γ', e, ds', r, a, b, h1, rfl⟩ := loopD_inv (step := dTurn (gN 6) dCl1) I (encR row) 0 [.mu .par (dr ds), .val (encT t), .val (.int T), .mu .own told, .val p5, .mu .own (.lst []), a6, a7] ⟨ds, [], _, _, rfl, rfl⟩ fun k x Γ hx ⟨ds, r, a, b, h1, hΓ⟩ => by
    subst hΓ
    have hk : k < (encR row).length := (List.getElem?_eq_some_iff.mp hx).1
    rw [encR_len] at hk
    obtain ⟨m, ds1, hm, e1⟩ := take_small ds 14 (by decide)
    rw [show ((14 : Nat) : Int) = 14 from rfl] at e1
    obtain ⟨y, ds2, hy, e2⟩ := pick_eq ds1 (.lst ([none, some (T + m - 1), some (T + m - 1), some (T + m - 1), some (T + m - 1), some (T + 10000000000000000000000), some (T - 10000000000000000000000)].map optI)) _ (.inl rfl) (by simp)
    obtain ⟨o, _, rfl⟩ := List.mem_map.mp hy
    have f : fits (r.length + 1) = true := fits_of (by omega)
    refine ⟨[.mu .par (dr ds2), .val (encT t), .val (.int T), .mu .own told, .val p5, .mu .own (.lst (encC (r ++ [o]))), .val x, .val (.int (T + m - 1))], .inl ?_, ds2, _, _, _, by rw [List.length_append, h1]; rfl, rfl⟩
    simp [optI] at e2
    simp [dCl1, e1, pow22, mkL, e2, f]
    simp [encC]
    cases o <;> rfl
  rw [Nat.zero_add, encR_len] at h1
  exact ⟨r, ds', a, b, h1, e⟩
theorem closings_eq (ds : List Int) (T : Int) (t : List Pl) (ht : t.length ≤ 100) (ok : ∀ p ∈ t, p.2.length ≤ 10) : ∃ (m : Cl) (ds' : List Int), m.map List.length = t.map (fun p => p.2.length) ∧ m_law_closings (dr ds) [encT t, .int T] = some (.val (encM m), dr ds') := by
  let I : Nat → Ev → Prop := fun k Γ => ∃ (ds : List Int) (m : Cl) (a b c d : Sl), m.map List.length = (t.take k).map (fun p => p.2.length) ∧ Γ = [.mu .par (dr ds), .val (encT t), .val (.int T), .mu .own (.lst (m.map fun r => .tup (encC r))), a, b, c, d]
  obtain ⟨Γ', e, ds', m, a, b, c, d, h1, rfl⟩ := loopD_inv (step := dTurn (gN 4) dCl) I (t.map encP) 0 [.mu .par (dr ds), .val (encT t), .val (.int T), .mu .own (.lst []), .un, .un, .un, .un] ⟨ds, [], _, _, _, _, rfl, rfl⟩ fun k x Γ hx ⟨ds, m, a, b, c, d, h1, hΓ⟩ => by
    subst hΓ
    rw [List.getElem?_map] at hx
    obtain ⟨p, hp, rfl⟩ := Option.map_eq_some_iff.mp hx
    have hk := (List.getElem?_eq_some_iff.mp hp).1
    obtain ⟨r, ds1, b6, b7, h2, e1⟩ := cl_in ds T t (.lst (m.map fun r => .tup (encC r))) (encP p) p.2 (ok _ (List.mem_of_getElem? hp)) c d
    have hl : m.length = k := by
      have := congrArg List.length h1
      simp at this
      omega
    have f : fits (m.length + 1) = true := fits_of (by omega)
    rw [Nat.zero_add] at h1 ⊢
    refine ⟨[.mu .par (dr ds1), .val (encT t), .val (.int T), .mu .own (.lst ((m ++ [r]).map fun r => .tup (encC r))), .val (encP p), .mu .own (.lst (encC r)), b6, b7], .inl ?_, ds1, m ++ [r], _, _, _, _, ?_, rfl⟩
    · show dCl _ = _
      unfold dCl
      refine (dSeq_nx (Γ1 := [.mu .par (dr ds), .val (encT t), .val (.int T), .mu .own (.lst (m.map fun r => .tup (encC r))), .val (encP p), .mu .own (.lst []), c, d]) (by simp [mkL])).trans ?_
      refine (dSeq_nx ((dFor_of (xs := encR p.2) (by simp [encP])).trans e1)).trans ?_
      simp [f]
    · rw [List.map_append, h1, List.take_add_one, hp]
      simp [h2]
  rw [List.length_map, Nat.zero_add, List.take_length] at h1
  refine ⟨m, ds', h1, ?_⟩
  refine sem1_rt rfl (Γ' := [.val (encT t), .val (.int T), .mu .own (.lst (m.map fun r => .tup (encC r))), a, b, c, d]) ?_
  unfold d_law_closings
  refine (dSeq_nx (Γ1 := [.mu .par (dr ds), .val (encT t), .val (.int T), .mu .own (.lst []), .un, .un, .un, .un]) (by simp [mkL])).trans ?_
  refine (dSeq_nx ((dFor_of (xs := t.map encP) (by simp [encT])).trans e)).trans ?_
  simp [encM]
theorem time_eq (ds : List Int) : ∃ (T : Int) (ds' : List Int), m_law_time (dr ds) [] = some (.val (.int T), dr ds') := by
  obtain ⟨m, ds1, hm, e1⟩ := take_small ds 5 (by decide)
  rw [show ((5 : Nat) : Int) = 5 from rfl] at e1
  by_cases h : m = 0
  · subst h
    obtain ⟨x, ds2, _, e2⟩ := pickI ds1 [1000000000000000000000000000007, -10000000000000000000000000, 1000003] (by simp)
    refine ⟨x, ds2, ?_⟩
    simp [ils] at e2
    simp [m_law_time, d_law_time, e1, pow30, pow25, mkL, e2]
  · obtain ⟨j, ds2, hj, e2⟩ := take_small ds1 15 (by decide)
    rw [show ((15 : Nat) : Int) = 15 from rfl] at e2
    refine ⟨j - 7, ds2, ?_⟩
    have : ¬ (m : Int) = 0 := by omega
    simp [m_law_time, d_law_time, e1, h, e2]
/-! ### a town and its closings: what the small defs say -/
theorem compL_if {α : Type} {vs : List Nat} {g : PV → Ev → Option Ev} {t : D Bool} {e : D PV} (en : α → PV) (p : α → Bool) (f : α → PV) (Γ : Ev) : ∀ (xs : List α), (∀ x ∈ xs, ∃ Γ1 Γ2, g (en x) Γ = some Γ1 ∧ t Γ1 = some (p x, Γ2) ∧ (p x = true → ∃ Γ3, e Γ2 = some (f x, Γ3) ∧ wipeE Γ3 vs = Γ) ∧ (p x = false → wipeE Γ2 vs = Γ)) → compL vs g t e (xs.map en) Γ = some ((xs.filter p).map f, Γ)
  | [], _ => rfl
  | x :: xs, h => by
    obtain ⟨Γ1, Γ2, h1, h2, h3, h4⟩ := h x List.mem_cons_self
    have ih := compL_if en p f Γ xs fun y hy => h y (List.mem_cons_of_mem _ hy)
    rw [List.map_cons]
    unfold compL
    rw [h1]
    dsimp only
    rw [h2]
    dsimp only
    cases hp : p x with
    | true =>
      obtain ⟨Γ3, h5, h6⟩ := h3 hp
      rw [if_pos rfl, h5]
      dsimp only
      rw [h6, ih, List.filter_cons, hp]
      rfl
    | false =>
      rw [if_neg Bool.false_ne_true, h4 hp, ih, List.filter_cons, hp]
      rfl
theorem rgP_nls (n : Nat) : rgP 0 n = nls (List.range n) := by
  unfold rgP nls
  refine List.map_congr_left fun i _ => ?_
  rw [Int.zero_add]
theorem nls_length (xs : List Nat) : (nls xs).length = xs.length := List.length_map _
theorem at_T {t : List Pl} {i : Nat} {p : Pl} (h : t[i]? = some p) : atI (t.map encP) (i : Int) = some (encP p) := atI_of (by rw [List.getElem?_map, h]; rfl)
theorem at_nls {xs : List Nat} {i : Nat} {x : Nat} (h : xs[i]? = some x) : atI (nls xs) (i : Int) = some (.int x) := atI_of (by unfold nls; rw [List.getElem?_map, h]; rfl)
def row (t : List Pl) (i : Nat) : List (Option Nat) := (t.getD i (Str.empty, [])).2
def stp (t : List Pl) (i d : Nat) : Option Nat := ((row t i)[d]?).join
def crow (m : Cl) (i : Nat) : List (Option Int) := m.getD i []
def cls (m : Cl) (i d : Nat) : Option Int := ((crow m i)[d]?).join
structure TM (t : List Pl) (m : Cl) : Prop where
  pos : 0 < t.length
  few : t.length ≤ 60
  pl : ∀ p ∈ t, OKP t.length p
  len : m.length = t.length
  rows : ∀ i, (crow m i).length = (row t i).length
def psb (m : Cl) (i d : Nat) (τ : Int) : Bool := match cls m i d with
  | none => true
  | some c => decide (τ < c)
/-- the doors that lead somewhere -/
def od (t : List Pl) (i : Nat) : List Nat := (List.range (row t i).length).filter fun d => (stp t i d).isSome
def gl (t : List Pl) (i d : Nat) : Nat := (stp t i d).getD 0
/-- the doors that lead somewhere at the time -/
def mvs (t : List Pl) (m : Cl) (i : Nat) (τ : Int) : List Nat := (od t i).filter fun d => psb m i d τ
theorem getD_at {t : List Pl} {i : Nat} (h : i < t.length) : t[i]? = some (t.getD i (Str.empty, [])) := by simp [List.getD, h]
theorem row_len {t : List Pl} {m : Cl} (ok : TM t m) (i : Nat) : (row t i).length ≤ 10 := by
  by_cases h : i < t.length
  · exact (ok.pl _ (List.mem_of_getElem? (getD_at h))).len
  · unfold row
    rw [List.getD_eq_getElem?_getD, List.getElem?_eq_none (by omega)]
    exact Nat.zero_le _
theorem stp_lt {t : List Pl} {m : Cl} (ok : TM t m) {i d j : Nat} (h : stp t i d = some j) : j < t.length := by
  by_cases hi : i < t.length
  · have hp := ok.pl _ (List.mem_of_getElem? (getD_at hi))
    unfold stp row at h
    generalize t.getD i (Str.empty, []) = p at *
    cases e : p.2[d]? with
    | none => rw [e] at h; cases h
    | some o =>
      rw [e] at h
      have : o = some j := h
      subst this
      exact hp.goal j (List.mem_of_getElem? e)
  · unfold stp row at h
    have e0 : t[i]? = none := List.getElem?_eq_none (by omega)
    rw [List.getD_eq_getElem?_getD, e0] at h
    simp at h
theorem mem_od {t : List Pl} {i d : Nat} : d ∈ od t i ↔ ∃ j, stp t i d = some j := by
  unfold od
  rw [List.mem_filter, List.mem_range, Option.isSome_iff_exists]
  refine ⟨fun h => h.2, fun h => ⟨?_, h⟩⟩
  obtain ⟨j, h⟩ := h
  unfold stp at h
  by_cases c : d < (row t i).length
  · exact c
  · rw [List.getElem?_eq_none (by omega)] at h
    cases h
theorem gl_of {t : List Pl} {i d j : Nat} (h : stp t i d = some j) : gl t i d = j := by
  unfold gl
  rw [h]
  rfl
theorem gl_lt {t : List Pl} {m : Cl} (ok : TM t m) {i d : Nat} (h : d ∈ od t i) : gl t i d < t.length := by
  obtain ⟨j, e⟩ := mem_od.mp h
  rw [gl_of e]
  exact stp_lt ok e
theorem od_lt {t : List Pl} {i d : Nat} (h : d ∈ od t i) : d < (row t i).length := List.mem_range.mp (List.mem_filter.mp h).1
/-- the row of a place -/
def rowP (t : List Pl) (i : Nat) : PV := .tup (encR (row t i))
theorem ixT {t : List Pl} {i : Nat} (h : i < t.length) : ∃ p : PV, gIx (encT t) (.int i) = some p ∧ gIx p (.int 1) = some (rowP t i) := ⟨_, at_T (getD_at h), rfl⟩
theorem at_R {r : List (Option Nat)} {d : Nat} (h : d < r.length) : gIx (.tup (encR r)) (.int d) = some (encO (r[d]?).join) := by
  have e : r[d]? = some r[d] := List.getElem?_eq_getElem h
  rw [e]
  exact atI_of (by unfold encR; rw [List.getElem?_map, e]; rfl)
theorem at_row {t : List Pl} {i d : Nat} (h : d < (row t i).length) : gIx (rowP t i) (.int d) = some (encO (stp t i d)) := at_R h
theorem ixC {t : List Pl} {m : Cl} (ok : TM t m) {i : Nat} (h : i < t.length) : gIx (encM m) (.int i) = some (.tup (encC (crow m i))) := by
  have : m[i]? = some (crow m i) := by
    unfold crow
    simp [List.getD, ok.len ▸ h, ok.len, h]
  exact atI_of (by rw [List.getElem?_map, this]; rfl)
theorem at_C {t : List Pl} {m : Cl} (ok : TM t m) {i d : Nat} (h : d < (row t i).length) : gIx (.tup (encC (crow m i))) (.int d) = some (optI (cls m i d)) := by
  have h := (ok.rows i).symm ▸ h
  have e : (crow m i)[d]? = some (crow m i)[d] := List.getElem?_eq_getElem h
  unfold cls
  rw [e]
  exact atI_of (by unfold encC; rw [List.getElem?_map, e]; rfl)
theorem step_eq {t : List Pl} {i : Nat} (d : Nat) (hi : i < t.length) : m_step_from [encT t, .int i, .int d] = some (.val (encO (stp t i d))) := by
  obtain ⟨p, e1, e2⟩ := ixT hi
  by_cases c : d < (row t i).length
  · have e3 := at_row c
    have c2 : ¬ (row t i).length ≤ d := by omega
    have e4 : gLen (rowP t i) = some (.int (row t i).length) := by simp [rowP]
    simp [-gIx, -gLen, m_step_from, d_step_from, e1, e2, e4, c2, e3]
  · have c2 : (row t i).length ≤ d := by omega
    have e4 : gLen (rowP t i) = some (.int (row t i).length) := by simp [rowP]
    unfold stp
    rw [List.getElem?_eq_none c2]
    simp [-gIx, -gLen, m_step_from, d_step_from, e1, e2, e4, c2, encO]
theorem goal_eq {t : List Pl} {i : Nat} (d : Nat) (hi : i < t.length) : m_law_goal [encT t, .int i, .int d] = some (.val (encO (stp t i d))) := by
  obtain ⟨p, e1, e2⟩ := ixT hi
  have c0 : ¬ ((d : Int) < 0) := by omega
  have e4 : gLen (rowP t i) = some (.int (row t i).length) := by simp [rowP]
  by_cases c : d < (row t i).length
  · have e3 := at_row c
    have c2 : ¬ (row t i).length ≤ d := by omega
    simp [-gIx, -gLen, m_law_goal, d_law_goal, e1, e2, e4, c0, c2, e3]
  · have c2 : (row t i).length ≤ d := by omega
    unfold stp
    rw [List.getElem?_eq_none c2]
    simp [-gIx, -gLen, m_law_goal, d_law_goal, e1, e2, e4, c0, c2, encO]
theorem passable_eq (m : Cl) (i d : Nat) (τ : Int) : m_is_passable [optI (cls m i d), .int τ] = some (.val (.bl (psb m i d τ))) := by
  unfold psb
  cases cls m i d <;> simp [m_is_passable, d_is_passable, optI]
theorem can_go_eq {t : List Pl} {m : Cl} (ok : TM t m) {i d : Nat} (τ : Int) (hi : i < t.length) (hd : d ∈ od t i) : m_law_can_go [encT t, encM m, .int i, .int d, .int τ] = some (.val (.bl (psb m i d τ))) := by
  have e1 := goal_eq (t := t) d hi
  obtain ⟨j, e⟩ := mem_od.mp hd
  rw [e] at e1
  have e2 := ixC ok hi
  have e3 := at_C ok (od_lt hd)
  unfold psb
  cases h : cls m i d with
  | none =>
    rw [h] at e3
    simp [-gIx, m_law_can_go, d_law_can_go, e1, encO, e2, e3, optI]
  | some c =>
    rw [h] at e3
    simp [-gIx, m_law_can_go, d_law_can_go, e1, encO, e2, e3, optI]
theorem wipe1 {Γ : Ev} {i : Nat} (hi : Γ[i]? = some .un) (s : Sl) : wipeE (Γ.set i s) [i] = Γ := by
  unfold wipeE
  unfold wipeE
  rw [List.set_set]
  apply List.ext_getElem?
  intro j
  rw [List.getElem?_set]
  split
  · rename_i e
    subst e
    split
    · exact hi.symm
    · rw [List.getElem?_eq_none (by omega)]
  · rfl
theorem opens_eq {t : List Pl} {m : Cl} (ok : TM t m) {i : Nat} (hi : i < t.length) : m_law_opens [encT t, .int i] = some (.new (.lst (nls (od t i)))) := by
  obtain ⟨p, e1, e2⟩ := ixT hi
  have e4 : gLen (rowP t i) = some (.int (row t i).length) := by simp [rowP]
  have f0 : itR1 (.int (row t i).length) = some (nls (List.range (row t i).length)) := by
    rw [itR1_nat (by have := row_len ok i; omega), rgP_nls]
  have hc : compL [2] (gN 2) (dTr (dNotN (dOp gIx (dOp gIx (dIxN 0 (dNm 1)) (dInt 1)) (dNm 2)))) (dNm 2) (nls (List.range (row t i).length)) [.val (encT t), .val (.int i), .un] = some ((od t i).map fun (d : Nat) => PV.int d, [.val (encT t), .val (.int i), .un]) := by
    refine compL_if (fun (d : Nat) => PV.int d) _ _ _ _ fun d hd => ?_
    have e3 := at_row (List.mem_range.mp hd)
    refine ⟨[.val (encT t), .val (.int i), .val (.int d)], [.val (encT t), .val (.int i), .val (.int d)], rfl, ?_, fun _ => ⟨[.val (encT t), .val (.int i), .val (.int d)], rfl, rfl⟩, fun _ => rfl⟩
    cases h : stp t i d <;> (rw [h] at e3; simp [-gIx, e1, e2, e3, encO])
  have f : fits (nls (List.range (row t i).length)).length = true := fits_of (by rw [nls_length, List.length_range]; have := row_len ok i; omega)
  simp [-gIx, -gLen, m_law_opens, d_law_opens, e1, e2, e4, f0, f, hc]
  rfl
theorem enumP_map : ∀ (xs : List PV) (k : Nat), enumP k xs = (List.range xs.length).map fun d => .tup [.int ((k + d : Nat) : Int), xs.getD d .non]
  | [], _ => rfl
  | x :: xs, k => by
    rw [List.length_cons, List.range_succ_eq_map, List.map_cons, List.map_map]
    show _ :: enumP (k + 1) xs = _
    rw [enumP_map xs (k + 1)]
    congr 1
    refine List.map_congr_left fun d _ => ?_
    simp [Function.comp]
    omega
def encDG (t : List Pl) (i d : Nat) : PV := .tup [.int d, .int (gl t i d)]
theorem open_doors_eq {t : List Pl} {m : Cl} (ok : TM t m) {i : Nat} (hi : i < t.length) : m_open_doors [encT t, .int i] = some (.new (.lst ((od t i).map (encDG t i)))) := by
  obtain ⟨p, e1, e2⟩ := ixT hi
  have hx : itE (rowP t i) = some ((List.range (row t i).length).map fun (d : Nat) => .tup [.int d, encO (stp t i d)]) := by
    unfold rowP itE
    dsimp only
    rw [enumP_map, encR_len]
    congr 1
    refine List.map_congr_left fun d hd => ?_
    have hd := List.mem_range.mp hd
    have : (encR (row t i)).getD d .non = encO (stp t i d) := by
      unfold encR stp
      rw [List.getD_eq_getElem?_getD, List.getElem?_map, List.getElem?_eq_getElem hd]
      rfl
    rw [this, Nat.zero_add]
  have hc : compL [2, 3] (gT 2 (gsC (gN 2) (gsC (gN 3) (gsN)))) (dTr (dNotN (dPk 3))) (dTup (dCons (dNm 2) (dCons (dNm 3) (dNil)))) ((List.range (row t i).length).map fun (d : Nat) => .tup [.int d, encO (stp t i d)]) [.val (encT t), .val (.int i), .un, .un] = some ((od t i).map (encDG t i), [.val (encT t), .val (.int i), .un, .un]) := by
    refine compL_if (fun (d : Nat) => PV.tup [.int d, encO (stp t i d)]) _ _ _ _ fun d hd => ?_
    refine ⟨[.val (encT t), .val (.int i), .val (.int d), .val (encO (stp t i d))], [.val (encT t), .val (.int i), .val (.int d), .val (encO (stp t i d))], rfl, ?_, fun h => ⟨[.val (encT t), .val (.int i), .val (.int d), .val (encO (stp t i d))], ?_, rfl⟩, fun _ => rfl⟩
    · cases h : stp t i d <;> simp [encO]
    · unfold encDG gl
      cases h' : stp t i d with
      | none => rw [h'] at h; cases h
      | some j => simp [encO, mkT]
  have f : fits (row t i).length = true := fits_of (by have := row_len ok i; omega)
  simp [-gIx, -gLen, -itE, m_open_doors, d_open_doors, e1, e2, hx, f, hc]
/-! ### what can be gone at a time -/
theorem od_len {t : List Pl} {m : Cl} (ok : TM t m) (i : Nat) : (od t i).length ≤ 10 := Nat.le_trans (List.length_filter_le _ _) (by rw [List.length_range]; exact row_len ok i)
theorem mvs_len {t : List Pl} {m : Cl} (ok : TM t m) (i : Nat) (τ : Int) : (mvs t m i τ).length ≤ 10 := Nat.le_trans (List.length_filter_le _ _) (od_len ok i)
theorem mem_mvs {t : List Pl} {m : Cl} {i d : Nat} {τ : Int} : d ∈ mvs t m i τ ↔ d ∈ od t i ∧ psb m i d τ = true := List.mem_filter
theorem timed_doors_eq {t : List Pl} {m : Cl} (ok : TM t m) {i : Nat} (τ : Int) (hi : i < t.length) : m_timed_doors [encT t, encM m, .int i, .int τ] = some (.new (.lst ((mvs t m i τ).map (encDG t i)))) := by
  have e0 := open_doors_eq ok hi
  have hc : compL [4, 5] (gT 2 (gsC (gN 4) (gsC (gN 5) (gsN)))) (dTr (fz (dC0 (m_is_passable) (dCons (dOp gIx (dIxN 1 (dNm 2)) (dNm 4)) (dCons (dNm 3) (dNil)))))) (dTup (dCons (dNm 4) (dCons (dNm 5) (dNil)))) ((od t i).map (encDG t i)) [.val (encT t), .val (encM m), .val (.int i), .val (.int τ), .un, .un] = some (((mvs t m i τ)).map (encDG t i), [.val (encT t), .val (encM m), .val (.int i), .val (.int τ), .un, .un]) := by
    refine compL_if (encDG t i) _ _ _ _ fun d hd => ?_
    have e1 := ixC ok hi
    have e2 := at_C ok (od_lt hd)
    have e3 := passable_eq m i d τ
    refine ⟨[.val (encT t), .val (encM m), .val (.int i), .val (.int τ), .val (.int d), .val (.int (gl t i d))], [.val (encT t), .val (encM m), .val (.int i), .val (.int τ), .val (.int d), .val (.int (gl t i d))], rfl, ?_, fun _ => ⟨[.val (encT t), .val (encM m), .val (.int i), .val (.int τ), .val (.int d), .val (.int (gl t i d))], ?_, rfl⟩, fun _ => rfl⟩
    · simp [-gIx, e1, e2, e3]
    · simp [mkT, encDG]
  have f : fits (od t i).length = true := fits_of (by have := od_len ok i; omega)
  simp [-gIx, m_timed_doors, d_timed_doors, e0, f, hc]
def encMv (t : List Pl) (i : Nat) (τ : Int) (d : Nat) : PV := .lst [.int d, .tup [.int (gl t i d), .int (τ + 1)]]
theorem timed_moves_eq {t : List Pl} {m : Cl} (ok : TM t m) {i : Nat} (τ : Int) (hi : i < t.length) : m_law_timed_moves [.lst [encT t, encM m], .tup [.int i, .int τ]] = some (.new (.lst ((mvs t m i τ).map (encMv t i τ)))) := by
  have e0 := opens_eq ok hi
  have hc : compL [7] (gN 7) (dTr (fz (dC0 (m_law_can_go) (dCons (dNm 3) (dCons (dNm 4) (dCons (dNm 5) (dCons (dNm 7) (dCons (dNm 6) (dNil))))))))) (dNm 7) (nls (od t i)) [.val (.lst [encT t, encM m]), .val (.tup [.int i, .int τ]), .un, .val (encT t), .val (encM m), .val (.int i), .val (.int τ), .un] = some ((mvs t m i τ).map (fun (d : Nat) => PV.int d), [.val (.lst [encT t, encM m]), .val (.tup [.int i, .int τ]), .un, .val (encT t), .val (encM m), .val (.int i), .val (.int τ), .un]) := by
    refine compL_if (fun (d : Nat) => PV.int d) _ _ _ _ fun d hd => ?_
    have e1 := can_go_eq ok τ hi hd
    refine ⟨[.val (.lst [encT t, encM m]), .val (.tup [.int i, .int τ]), .un, .val (encT t), .val (encM m), .val (.int i), .val (.int τ), .val (.int d)], [.val (.lst [encT t, encM m]), .val (.tup [.int i, .int τ]), .un, .val (encT t), .val (encM m), .val (.int i), .val (.int τ), .val (.int d)], rfl, ?_, fun _ => ⟨[.val (.lst [encT t, encM m]), .val (.tup [.int i, .int τ]), .un, .val (encT t), .val (encM m), .val (.int i), .val (.int τ), .val (.int d)], rfl, rfl⟩, fun _ => rfl⟩
    simp [e1]
  have hd : compL [7] (gN 7) dYes (fz (dLst (dCons (dNm 7) (dCons (dTup (dCons (dOp gIx (dOp gIx (dIxN 3 (dNm 5)) (dInt 1)) (dNm 7)) (dCons (dOp gAdd (dNm 6) (dInt 1)) (dNil)))) (dNil))))) ((mvs t m i τ).map fun (d : Nat) => PV.int d) [.val (.lst [encT t, encM m]), .val (.tup [.int i, .int τ]), .mu .lck (.lst ((mvs t m i τ).map fun (d : Nat) => PV.int d)), .val (encT t), .val (encM m), .val (.int i), .val (.int τ), .un] = some ((mvs t m i τ).map (encMv t i τ), [.val (.lst [encT t, encM m]), .val (.tup [.int i, .int τ]), .mu .lck (.lst ((mvs t m i τ).map fun (d : Nat) => PV.int d)), .val (encT t), .val (encM m), .val (.int i), .val (.int τ), .un]) := by
    refine compL_on (fun (d : Nat) => PV.int d) _ _ _ fun d hd => ?_
    obtain ⟨p, e1, e2⟩ := ixT hi
    have hd := (mem_mvs.mp hd).1
    have e3 := at_row (od_lt hd)
    obtain ⟨j, ej⟩ := mem_od.mp hd
    rw [ej] at e3
    refine ⟨[.val (.lst [encT t, encM m]), .val (.tup [.int i, .int τ]), .mu .lck (.lst ((mvs t m i τ).map fun (d : Nat) => PV.int d)), .val (encT t), .val (encM m), .val (.int i), .val (.int τ), .val (.int d)], _, [.val (.lst [encT t, encM m]), .val (.tup [.int i, .int τ]), .mu .lck (.lst ((mvs t m i τ).map fun (d : Nat) => PV.int d)), .val (encT t), .val (encM m), .val (.int i), .val (.int τ), .val (.int d)], rfl, rfl, ?_, rfl⟩
    simp [-gIx, e1, e2, e3, encO, mkT, mkL, encMv, gl_of ej]
  have f : fits (od t i).length = true := fits_of (by have := od_len ok i; omega)
  have f2 : fits (mvs t m i τ).length = true := fits_of (by have := mvs_len ok i τ; omega)
  simp [-gIx, m_law_timed_moves, d_law_timed_moves, e0, f, f2, hc, hd, nls_length]
/-! ### the search, plainly -/
abbrev Sd := List (Nat × List Nat)
def keys (s : Sd) : List Nat := s.map (·.1)
def addd (t : List Pl) (path : List Nat) (i : Nat) (s : Sd) (d : Nat) : Sd := if gl t i d ∈ keys s then s else s ++ [(gl t i d, path ++ [d])]
def vis (t : List Pl) (m : Cl) (T : Int) (s : Sd) (k : Nat) : Sd := match s[k]? with
  | none => s
  | some p => (mvs t m p.1 (T + p.2.length)).foldl (addd t p.2 p.1) s
def fin (t : List Pl) (m : Cl) (T : Int) (i0 : Nat) : Sd := (List.range t.length).foldl (vis t m T) [(i0, [])]
def wlk (t : List Pl) (m : Cl) : Nat → Int → List Nat → Option Nat
  | i, _, [] => some i
  | i, τ, d :: w => match stp t i d with
    | some j => if psb m i d τ = true then wlk t m j (τ + 1) w else none
    | none => none
theorem wlk_cons {t : List Pl} {m : Cl} {i d : Nat} {τ : Int} {w : List Nat} : wlk t m i τ (d :: w) = match stp t i d with
    | some j => if psb m i d τ = true then wlk t m j (τ + 1) w else none
    | none => none := rfl
theorem wlk_app {t : List Pl} {m : Cl} : ∀ (w w' : List Nat) (i : Nat) (τ : Int), wlk t m i τ (w ++ w') = (wlk t m i τ w).bind fun j => wlk t m j (τ + w.length) w'
  | [], w', i, τ => by simp [wlk]
  | d :: w, w', i, τ => by
    show wlk t m i τ (d :: (w ++ w')) = _
    rw [wlk_cons, wlk_cons]
    cases stp t i d with
    | none => rfl
    | some j =>
      dsimp only
      split
      · rw [wlk_app w w' j (τ + 1), List.length_cons, show τ + ((w.length + 1 : Nat) : Int) = τ + 1 + w.length by push_cast; omega]
      · rfl
theorem nodup_lt : ∀ (n : Nat) (l : List Nat), l.Nodup → (∀ x ∈ l, x < n) → l.length ≤ n
  | 0, l, _, h => by
    cases l with
    | nil => exact Nat.le_refl _
    | cons x l => exact absurd (h x List.mem_cons_self) (Nat.not_lt_zero _)
  | n + 1, l, nd, h => by
    by_cases c : n ∈ l
    · have := nodup_lt n (l.erase n) (nd.erase n) fun x hx => by
        obtain ⟨h1, h2⟩ := (List.Nodup.mem_erase_iff nd).mp hx
        have := h x h2
        omega
      rw [List.length_erase_of_mem c] at this
      omega
    · have := nodup_lt n l nd fun x hx => by
        have h1 := h x hx
        have : x ≠ n := fun e => c (e ▸ hx)
        omega
      omega
structure Sok (t : List Pl) (m : Cl) (T : Int) (i0 : Nat) (s : Sd) : Prop where
  nd : (keys s).Nodup
  lt : ∀ p ∈ s, p.1 < t.length
  len : ∀ (k : Nat) (p : Nat × List Nat), s[k]? = some p → p.2.length ≤ k
  hd : s[0]? = some (i0, [])
  wk : ∀ p ∈ s, wlk t m i0 T p.2 = some p.1
theorem Sok.few {t : List Pl} {m : Cl} {T : Int} {i0 : Nat} {s : Sd} (h : Sok t m T i0 s) : s.length ≤ t.length := by
  have := nodup_lt t.length (keys s) h.nd fun x hx => by
    obtain ⟨p, hp, rfl⟩ := List.mem_map.mp hx
    exact h.lt p hp
  rwa [keys, List.length_map] at this
theorem Sok.add {t : List Pl} {m : Cl} (ok : TM t m) {T : Int} {i0 : Nat} {s : Sd} (h : Sok t m T i0 s) {k i d : Nat} {path : List Nat} (e : s[k]? = some (i, path)) (hd : d ∈ mvs t m i (T + path.length)) : Sok t m T i0 (addd t path i s d) := by
  unfold addd
  split
  · exact h
  · rename_i c
    obtain ⟨h1, h2⟩ := mem_mvs.mp hd
    obtain ⟨j, hj⟩ := mem_od.mp h1
    have hk := (List.getElem?_eq_some_iff.mp e).1
    refine ⟨?_, fun p hp => ?_, fun q p hp => ?_, ?_, fun p hp => ?_⟩
    · unfold keys
      rw [List.map_append]
      refine List.nodup_append.mpr ⟨h.nd, by simp, fun a ha b hb => ?_⟩
      cases List.mem_singleton.mp hb
      exact fun e => c ((show a = gl t i d from e) ▸ ha)
    · rcases List.mem_append.mp hp with hp | hp
      · exact h.lt p hp
      · cases List.mem_singleton.mp hp
        exact gl_lt ok h1
    · by_cases hq : q < s.length
      · rw [List.getElem?_append_left hq] at hp
        exact h.len q p hp
      · rw [List.getElem?_append_right (by omega)] at hp
        have := List.mem_of_getElem? hp
        cases List.mem_singleton.mp this
        have := h.len k _ e
        simp only [List.length_append, List.length_singleton] at *
        omega
    · rw [List.getElem?_append_left (by omega)]
      exact h.hd
    · rcases List.mem_append.mp hp with hp | hp
      · exact h.wk p hp
      · cases List.mem_singleton.mp hp
        have := h.wk _ (List.mem_of_getElem? e)
        rw [wlk_app, this]
        show wlk t m i _ [d] = some (gl t i d)
        unfold wlk
        rw [hj, gl_of hj]
        dsimp only
        rw [if_pos h2]
        rfl
theorem add_grow (t : List Pl) (path : List Nat) (i : Nat) (s : Sd) (d : Nat) : ∃ r, addd t path i s d = s ++ r := by
  unfold addd
  split
  · exact ⟨[], (List.append_nil _).symm⟩
  · exact ⟨_, rfl⟩
theorem grow_at {s r : Sd} {k : Nat} {p : Nat × List Nat} (h : s[k]? = some p) : (s ++ r)[k]? = some p := by
  rw [List.getElem?_append_left (List.getElem?_eq_some_iff.mp h).1]
  exact h
theorem Sok.adds {t : List Pl} {m : Cl} (ok : TM t m) {T : Int} {i0 k i : Nat} {path : List Nat} : ∀ (ds : List Nat) {s : Sd}, Sok t m T i0 s → s[k]? = some (i, path) → (∀ d ∈ ds, d ∈ mvs t m i (T + path.length)) → Sok t m T i0 (ds.foldl (addd t path i) s) ∧ ∃ r, ds.foldl (addd t path i) s = s ++ r
  | [], s, h, _, _ => ⟨h, [], (List.append_nil _).symm⟩
  | d :: ds, s, h, e, hd => by
    have h1 := h.add ok e (hd d List.mem_cons_self)
    obtain ⟨r, hr⟩ := add_grow t path i s d
    have e1 : (addd t path i s d)[k]? = some (i, path) := by rw [hr]; exact grow_at e
    obtain ⟨h2, r2, e2⟩ := Sok.adds ok ds h1 e1 fun x hx => hd x (List.mem_cons_of_mem _ hx)
    refine ⟨h2, r ++ r2, ?_⟩
    rw [List.foldl_cons, e2, hr, List.append_assoc]
theorem Sok.vis {t : List Pl} {m : Cl} (ok : TM t m) {T : Int} {i0 : Nat} {s : Sd} (h : Sok t m T i0 s) (k : Nat) : Sok t m T i0 (vis t m T s k) ∧ ∃ r, vis t m T s k = s ++ r := by
  unfold Pw.vis
  cases e : s[k]? with
  | none => exact ⟨h, [], (List.append_nil _).symm⟩
  | some p => exact Sok.adds ok _ h e fun d hd => hd
theorem Sok.start {t : List Pl} {m : Cl} {T : Int} {i0 : Nat} (hi : i0 < t.length) : Sok t m T i0 [(i0, [])] := by
  refine ⟨by simp [keys], fun p hp => ?_, fun k p hp => ?_, rfl, fun p hp => ?_⟩
  · cases List.mem_singleton.mp hp
    exact hi
  · have := List.mem_of_getElem? hp
    cases List.mem_singleton.mp this
    exact Nat.zero_le _
  · cases List.mem_singleton.mp hp
    rfl
theorem Sok.fold {t : List Pl} {m : Cl} (ok : TM t m) {T : Int} {i0 : Nat} : ∀ (ks : List Nat) {s : Sd}, Sok t m T i0 s → Sok t m T i0 (ks.foldl (Pw.vis t m T) s)
  | [], _, h => h
  | k :: ks, _, h => Sok.fold ok ks (h.vis ok k).1
theorem Sok.fin {t : List Pl} {m : Cl} (ok : TM t m) {T : Int} {i0 : Nat} (hi : i0 < t.length) : Sok t m T i0 (Pw.fin t m T i0) := Sok.fold ok _ (Sok.start hi)
/-- behind the end nothing is visited -/
theorem vis_end {t : List Pl} {m : Cl} {T : Int} {s : Sd} : ∀ (ks : List Nat), (∀ k ∈ ks, s.length ≤ k) → ks.foldl (vis t m T) s = s
  | [], _ => rfl
  | k :: ks, h => by
    have e : vis t m T s k = s := by
      unfold vis
      rw [List.getElem?_eq_none (h k List.mem_cons_self)]
    rw [List.foldl_cons, e]
    exact vis_end ks fun x hx => h x (List.mem_cons_of_mem _ hx)
/-! ### the search as a dict and as rows -/
def KS (s : Sd) : List PV := nls (keys s)
def VS (s : Sd) : List PV := s.map fun p => .tup (nls p.2)
theorem nls_app (xs : List Nat) (x : Nat) : nls xs ++ [.int x] = nls (xs ++ [x]) := by simp [nls]
theorem keys_app (s : Sd) (j : Nat) (w : List Nat) : keys (s ++ [(j, w)]) = keys s ++ [j] := by simp [keys]
theorem KS_app (s : Sd) (j : Nat) (w : List Nat) : KS (s ++ [(j, w)]) = KS s ++ [.int j] := by simp [KS, keys_app, nls]
theorem VS_app (s : Sd) (j : Nat) (w : List Nat) : VS (s ++ [(j, w)]) = VS s ++ [.tup (nls w)] := by simp [VS]
@[simp] theorem KS_len (s : Sd) : (KS s).length = s.length := by simp [KS, keys, nls]
theorem mem_nls {xs : List Nat} {j : Nat} : PV.int j ∈ nls xs ↔ j ∈ xs := by
  unfold nls
  rw [List.mem_map]
  constructor
  · rintro ⟨a, ha, e⟩
    have : (a : Int) = j := PV.int.inj e
    have : a = j := by omega
    exact this ▸ ha
  · exact fun h => ⟨j, h, rfl⟩
theorem okd_KS (s : Sd) (j : Nat) : okd (KS s) (.int j) = true := by
  unfold okd
  rw [Bool.or_eq_true, Bool.and_eq_true]
  refine .inl ⟨rfl, List.all_eq_true.mpr fun x hx => ?_⟩
  obtain ⟨i, _, rfl⟩ := List.mem_map.mp hx
  rfl
theorem pHas_KS (s : Sd) (j : Nat) : pHas (KS s) (.int j) = decide (j ∈ keys s) := by
  unfold pHas
  rw [decide_eq_decide]
  exact mem_nls
theorem pAt_KS : ∀ {s : Sd} {k i : Nat} {w : List Nat}, (keys s).Nodup → s[k]? = some (i, w) → pAt (KS s) (VS s) (.int i) = some (.tup (nls w))
  | [], _, _, _, _, h => by cases h
  | p :: s, 0, i, w, _, h => by
    cases h
    show (if _ then _ else _) = _
    rw [if_pos rfl]
  | p :: s, k + 1, i, w, nd, h => by
    have hn := List.nodup_cons.mp nd
    have hm : i ∈ keys s := List.mem_map.mpr ⟨_, List.mem_of_getElem? h, rfl⟩
    have : ¬ (PV.int (p.1 : Nat) = PV.int i) := fun e => by
      have : (p.1 : Int) = i := PV.int.inj e
      have : p.1 = i := by omega
      exact (show p.1 ∉ keys s from hn.1) (this ▸ hm)
    show (if _ then _ else _) = _
    rw [if_neg this]
    exact pAt_KS hn.2 h
theorem pPutK_KS {s : Sd} {j : Nat} (h : j ∉ keys s) : pPutK (KS s) (.int j) = KS s ++ [.int j] := by
  unfold pPutK
  exact if_neg fun c => h (mem_nls.mp c)
theorem pPutV_KS : ∀ {s : Sd} {j : Nat} {z : PV}, j ∉ keys s → pPutV (KS s) (VS s) (.int j) z = VS s ++ [z]
  | [], _, _, _ => rfl
  | p :: s, j, z, h => by
    have : ¬ (PV.int (p.1 : Nat) = PV.int j) := fun e => by
      have : (p.1 : Int) = j := PV.int.inj e
      have : p.1 = j := by omega
      exact h (this ▸ List.mem_cons_self)
    show (if _ then _ else _) = _
    rw [if_neg this]
    show _ :: pPutV (KS s) (VS s) (.int j) z = _
    rw [pPutV_KS fun c => h (List.mem_cons_of_mem _ c)]
    rfl
def look (s : Sd) (j : Nat) : Option (List Nat) := (s.find? fun p => p.1 == j).map (·.2)
theorem look_none {s : Sd} {j : Nat} : look s j = none ↔ j ∉ keys s := by
  unfold look keys
  rw [Option.map_eq_none_iff, List.find?_eq_none]
  constructor
  · rintro h c
    obtain ⟨p, hp, rfl⟩ := List.mem_map.mp c
    exact h p hp (by simp)
  · rintro h p hp e
    exact h (List.mem_map.mpr ⟨p, hp, by simpa using e⟩)
theorem look_at : ∀ {s : Sd} {k i : Nat} {w : List Nat}, (keys s).Nodup → s[k]? = some (i, w) → look s i = some w
  | [], _, _, _, _, h => by cases h
  | p :: s, 0, i, w, _, h => by
    cases h
    unfold look
    rw [List.find?_cons_of_pos (by simp)]
    rfl
  | p :: s, k + 1, i, w, nd, h => by
    have hn := List.nodup_cons.mp nd
    have hm : i ∈ keys s := List.mem_map.mpr ⟨_, List.mem_of_getElem? h, rfl⟩
    have : ¬ p.1 = i := fun e => (show p.1 ∉ keys s from hn.1) (e ▸ hm)
    unfold look
    rw [List.find?_cons_of_neg (by simpa using this)]
    exact look_at hn.2 h
theorem look_some {s : Sd} {j : Nat} {w : List Nat} (h : look s j = some w) : (j, w) ∈ s := by
  unfold look at h
  obtain ⟨p, hp, rfl⟩ := Option.map_eq_some_iff.mp h
  have h1 := List.find?_some hp
  have h2 := List.mem_of_find?_eq_some hp
  have : p.1 = j := by simpa using h1
  rw [← this]
  exact h2
theorem look_app {s : Sd} {j x : Nat} {w : List Nat} (h : j ∉ keys s) : look (s ++ [(j, w)]) x = if x = j then some w else look s x := by
  unfold look
  rw [List.find?_append]
  split
  · rename_i e
    subst e
    have := look_none.mpr h
    unfold look at this
    rw [Option.map_eq_none_iff.mp this]
    simp
  · rename_i e
    have : (j == x) = false := by simpa using fun c => e c.symm
    simp [this]
def encL : Option (List Nat) → PV
  | none => .non
  | some w => .tup (nls w)
def RW (n : Nat) (s : Sd) : List PV := (List.range n).map fun j => encL (look s j)
@[simp] theorem RW_len (n : Nat) (s : Sd) : (RW n s).length = n := by simp [RW]
theorem RW_at {n j : Nat} (s : Sd) (h : j < n) : atI (RW n s) (j : Int) = some (encL (look s j)) := atI_of (by unfold RW; rw [List.getElem?_map, List.getElem?_range h]; rfl)
theorem RW_set {n j : Nat} {s : Sd} {w : List Nat} (hj : j < n) (h : j ∉ keys s) : (RW n s).set j (.tup (nls w)) = RW n (s ++ [(j, w)]) := by
  apply List.ext_getElem?
  intro x
  rw [List.getElem?_set]
  unfold RW
  rw [List.length_map, List.length_range, List.getElem?_map, List.getElem?_map]
  by_cases hx : x < n
  · rw [List.getElem?_range hx]
    split
    · rename_i e
      subst e
      show _ = some (encL (look (s ++ [(j, w)]) j))
      rw [look_app h, if_pos rfl]
      rfl
    · rename_i e
      show some (encL (look s x)) = some (encL (look (s ++ [(j, w)]) x))
      rw [look_app h, if_neg fun c => e c.symm]
  · rw [List.getElem?_eq_none (by rw [List.length_range]; omega)]
    split
    · rename_i e
      subst e
      exact absurd hj hx
    · rfl
/-! ### the search as the program makes it -/
def dW1 : DS := (dIfS (dTr (dNotIn (dNm 8) (dPk 3))) (dSeq (dSto 3 (dOp gAdd (dIxN 3 (dNm 6)) (dTup (dCons (dNm 7) (dNil)))) (dNm 8))
        (dEx (dMt gAppend 4 (dCons (dNm 8) (dNil))))) (dSkip))
def dW : DS := (dSeq (dSet 6 (vl (dIxN 4 (dNm 5))))
        (dSeq (dAug 5 (gI fun i j => some (.int (i + j))) (dInt 1))
        (dFor (dIt itP (fz (dCL 3 2 (dCons (dNm 6) (dCons (dOp gAdd (dNm 1) (dUn gLen (dIxN 3 (dNm 6)))) (dNil)))))) (gT 2 (gsC (gN 7) (gsC (gN 8) (gsN)))) dW1)))
def wE (i0 : Nat) (T : Int) (f : List PV → Option Rs) (s : Sd) (k : Nat) (a b c : Sl) : Ev := [.val (.int i0), .val (.int T), .fn 3 f, .mu .own (.dic (KS s) (VS s)), .mu .own (.lst (KS s)), .val (.int k), a, b, c]
theorem gIx_KS {s : Sd} {k i : Nat} {w : List Nat} (nd : (keys s).Nodup) (e : s[k]? = some (i, w)) : gIx (.dic (KS s) (VS s)) (.int i) = some (.tup (nls w)) := by
  have := pAt_KS nd e
  unfold gIx
  simp [okd_KS, this]
theorem gIn_KS (s : Sd) (j : Nat) : gIn (.int j) (.dic (KS s) (VS s)) = some (decide (j ∈ keys s)) := by
  unfold gIn
  simp [okd_KS, pHas_KS]
theorem gSto_KS {s : Sd} {j : Nat} {w : List Nat} (hs : s.length ≤ 1000) (h : j ∉ keys s) : gSto (.dic (KS s) (VS s)) (.int j) (.tup (nls w)) = some (.dic (KS (s ++ [(j, w)])) (VS (s ++ [(j, w)]))) := by
  have f : fits (s.length + 1) = true := fits_of (by omega)
  unfold gSto
  simp [okd_KS, f, pPutK_KS h, pPutV_KS h, KS_app, VS_app]
theorem way_in {t : List Pl} {m : Cl} (ok : TM t m) {T : Int} {i0 : Nat} (f : List PV → Option Rs) {k0 k i : Nat} {path : List Nat} : ∀ (ds : List Nat) {s : Sd}, Sok t m T i0 s → s[k]? = some (i, path) → (∀ d ∈ ds, d ∈ mvs t m i (T + path.length)) → ∀ b c, ∃ b' c', loopD (dTurn (gT 2 (gsC (gN 7) (gsC (gN 8) (gsN)))) dW1) (ds.map (encDG t i)) (wE i0 T f s k0 (.val (.int i)) b c) = some (.nx (wE i0 T f (ds.foldl (addd t path i) s) k0 (.val (.int i)) b' c'))
  | [], s, _, _, _, b, c => ⟨b, c, rfl⟩
  | d :: ds, s, h, e, hd, b, c => by
    have h1 := h.add ok e (hd d List.mem_cons_self)
    obtain ⟨r, hr⟩ := add_grow t path i s d
    have e1 : (addd t path i s d)[k]? = some (i, path) := by rw [hr]; exact grow_at e
    obtain ⟨b', c', ih⟩ := way_in ok f ds h1 e1 (fun x hx => hd x (List.mem_cons_of_mem _ hx)) (.val (.int d)) (.val (.int (gl t i d)))
    refine ⟨b', c', ?_⟩
    have ht : dTurn (gT 2 (gsC (gN 7) (gsC (gN 8) (gsN)))) dW1 (encDG t i d) (wE i0 T f s k0 (.val (.int i)) b c) = some (.nx (wE i0 T f (addd t path i s d) k0 (.val (.int i)) (.val (.int d)) (.val (.int (gl t i d))))) := by
      have g1 := gIn_KS s (gl t i d)
      have g2 := gIx_KS h.nd e
      have hs := h.few
      have hl := h.len k _ e
      have hk := (List.getElem?_eq_some_iff.mp e).1
      have hf := ok.few
      have f1 : fits ((nls path).length + 1) = true := fits_of (by rw [nls_length]; simp only at hl; omega)
      have f2 : fits (s.length + 1) = true := fits_of (by omega)
      unfold addd
      by_cases cc : gl t i d ∈ keys s
      · simp [-gIx, dW1, encDG, wE, g1, cc]
      · have g3 := gSto_KS (s := s) (w := path ++ [d]) (by omega) cc
        have g4 : gAdd (.tup (nls path)) (.tup [.int d]) = some (.tup (nls (path ++ [d]))) := by
          refine (if_pos f1).trans ?_
          rw [nls_app]
        simp [-gIx, -gAdd, dW1, encDG, wE, g1, cc, g2, g3, g4, mkT, f2]
        simp [KS_app]
    rw [List.map_cons, List.foldl_cons]
    unfold loopD
    rw [ht]
    exact ih
theorem way_go {t : List Pl} {m : Cl} (ok : TM t m) {T : Int} {i0 : Nat} (f : List PV → Option Rs) (hf : ∀ (i : Nat) (τ : Int), i < t.length → f [.int i, .int τ] = some (.new (.lst ((mvs t m i τ).map (encDG t i))))) : ∀ (fuel n k : Nat) {s : Sd}, Sok t m T i0 s → k + n = t.length → n < fuel → ∀ a b c, ∃ k' a' b' c', whileD (dTr (dOp gLt (dNm 5) (dUn gLen (dPk 4)))) dW fuel (wE i0 T f s k a b c) = some (.nx (wE i0 T f ((List.range' k n).foldl (vis t m T) s) k' a' b' c'))
  | 0, _, _, _, _, _, hn, _, _, _ => absurd hn (Nat.not_lt_zero _)
  | fuel + 1, n, k, s, h, hk, hn, a, b, c => by
    by_cases c1 : k < s.length
    · have e : s[k]? = some s[k] := List.getElem?_eq_getElem c1
      generalize s[k] = p at e
      obtain ⟨i, path⟩ := p
      have hi := h.lt _ (List.mem_of_getElem? e)
      have hs := h.few
      obtain ⟨n, rfl⟩ : ∃ n', n = n' + 1 := ⟨n - 1, by omega⟩
      have hv : vis t m T s k = (mvs t m i (T + path.length)).foldl (addd t path i) s := by
        unfold vis
        rw [e]
      obtain ⟨b1, c2, e1⟩ := way_in ok f (k0 := k + 1) (mvs t m i (T + path.length)) h e (fun _ h => h) b c
      rw [← hv] at e1
      obtain ⟨k', a', b', c', e2⟩ := way_go ok f hf fuel n (k + 1) (h.vis ok k).1 (by omega) (by omega) (.val (.int i)) b1 c2
      refine ⟨k', a', b', c', ?_⟩
      rw [List.range'_succ, List.foldl_cons]
      have h1 : (dTr (dOp gLt (dNm 5) (dUn gLen (dPk 4)))) (wE i0 T f s k a b c) = some (true, wE i0 T f s k a b c) := by simp [wE, c1]
      have h2 : dW (wE i0 T f s k a b c) = some (.nx (wE i0 T f (vis t m T s k) (k + 1) (.val (.int i)) b1 c2)) := by
        have g0 : gIx (.lst (KS s)) (.int k) = some (.int i) := at_nls (by unfold keys; rw [List.getElem?_map, e]; rfl)
        have g1 := gIx_KS h.nd e
        have g2 := hf i (T + path.length) hi
        have f1 : fits (mvs t m i (T + path.length)).length = true := fits_of (by have := mvs_len ok i (T + path.length); omega)
        unfold dW
        refine (dSeq_nx (Γ1 := wE i0 T f s k (.val (.int i)) b c) (by simp [-gIx, wE, g0])).trans ?_
        refine (dSeq_nx (Γ1 := wE i0 T f s (k + 1) (.val (.int i)) b c) (by simp [wE])).trans ?_
        exact (dFor_of (xs := (mvs t m i (T + path.length)).map (encDG t i)) (by simp [-gIx, wE, g1, g2, nls_length])).trans e1
      unfold whileD
      rw [h1]
      dsimp only
      rw [if_pos rfl, h2]
      exact e2
    · refine ⟨k, a, b, c, ?_⟩
      rw [vis_end _ fun x hx => by have := (List.mem_range'_1.mp hx).1; omega]
      have h1 : (dTr (dOp gLt (dNm 5) (dUn gLen (dPk 4)))) (wE i0 T f s k a b c) = some (false, wE i0 T f s k a b c) := by simp [wE, c1]
      unfold whileD
      rw [h1]
      rfl
theorem ways_eq {t : List Pl} {m : Cl} (ok : TM t m) {T : Int} {i0 : Nat} (hi : i0 < t.length) (f : List PV → Option Rs) (hf : ∀ (i : Nat) (τ : Int), i < t.length → f [.int i, .int τ] = some (.new (.lst ((mvs t m i τ).map (encDG t i))))) : m_ways_in_time 3 [.val (.int i0), .val (.int T), .fn 3 f] = some (.new (.dic (KS (fin t m T i0)) (VS (fin t m T i0)))) := by
  obtain ⟨k', a', b', c', e⟩ := way_go ok f hf 1000000 t.length 0 (Sok.start (m := m) (T := T) hi) (by omega) (by have := ok.few; omega) .un .un .un
  rw [← List.range_eq_range'] at e
  have ok0 : okd [] (.int i0) = true := okd_KS [] i0
  have : d_ways_in_time 3 [.val (.int i0), .val (.int T), .fn 3 f, .un, .un, .un, .un, .un, .un] = some (.rt (.new (.dic (KS (fin t m T i0)) (VS (fin t m T i0)))) [.val (.int i0), .val (.int T), .fn 3 f, .un, .mu .own (.lst (KS (fin t m T i0))), .val (.int k'), a', b', c']) := by
    unfold d_ways_in_time
    refine (dSeq_nx (Γ1 := [.val (.int i0), .val (.int T), .fn 3 f, .mu .own (.dic (KS [(i0, [])]) (VS [(i0, [])])), .un, .un, .un, .un, .un]) (by simp [mkT, KS, VS, keys, nls, ok0])).trans ?_
    refine (dSeq_nx (Γ1 := [.val (.int i0), .val (.int T), .fn 3 f, .mu .own (.dic (KS [(i0, [])]) (VS [(i0, [])])), .mu .own (.lst (KS [(i0, [])])), .un, .un, .un, .un]) (by simp [mkL]; simp [KS, keys, nls])).trans ?_
    refine (dSeq_nx (Γ1 := wE i0 T f [(i0, [])] 0 .un .un .un) (by simp [wE])).trans ?_
    refine (dSeq_nx e).trans ?_
    simp [wE, fin]
  unfold m_ways_in_time
  simp [this]
theorem first_ways_eq {t : List Pl} {m : Cl} (ok : TM t m) {T : Int} {i0 : Nat} (hi : i0 < t.length) : m_first_ways [encT t, encM m, .int i0, .int T] = some (.new (.dic (KS (fin t m T i0)) (VS (fin t m T i0)))) := by
  have hf : ∀ (i : Nat) (τ : Int), i < t.length → semL d_first_ways_l1 2 4 [encT t, encM m] [.int i, .int τ] = some (.new (.lst ((mvs t m i τ).map (encDG t i)))) := fun i τ h => by
    have := timed_doors_eq ok τ h
    simp [d_first_ways_l1, this]
  have e := ways_eq ok (T := T) hi _ hf
  simp [-semL, m_first_ways, d_first_ways, lvOk, e]
theorem mem_keys_look {s : Sd} {j : Nat} : j ∈ keys s ↔ ∃ w, look s j = some w := by
  cases e : look s j with
  | none => simp [look_none.mp e]
  | some w => simp [show j ∈ keys s from List.mem_map.mpr ⟨_, look_some e, rfl⟩]
theorem pAt_look : ∀ {s : Sd} {j : Nat} {w : List Nat}, look s j = some w → pAt (KS s) (VS s) (.int j) = some (.tup (nls w))
  | [], _, _, h => by cases h
  | p :: s, j, w, h => by
    show (if _ then _ else _) = _
    by_cases c : p.1 = j
    · subst c
      rw [if_pos rfl]
      unfold look at h
      rw [List.find?_cons_of_pos (by simp)] at h
      cases h
      rfl
    · have : ¬ (PV.int (p.1 : Nat) = PV.int j) := fun e => c (by have : (p.1 : Int) = j := PV.int.inj e; omega)
      rw [if_neg this]
      unfold look at h
      rw [List.find?_cons_of_neg (by simpa using c)] at h
      exact pAt_look h
theorem gIx_look {s : Sd} {j : Nat} {w : List Nat} (h : look s j = some w) : gIx (.dic (KS s) (VS s)) (.int j) = some (.tup (nls w)) := by
  have := pAt_look h
  unfold gIx
  simp [okd_KS, this]
theorem first_walk_eq {t : List Pl} {m : Cl} (ok : TM t m) {T : Int} {i0 : Nat} (hi : i0 < t.length) (j : Nat) : m_first_timed_walk [encT t, encM m, .int i0, .int T, .int j] = some (.val (encL (look (fin t m T i0) j))) := by
  have e1 := first_ways_eq ok (T := T) hi
  have e2 := gIn_KS (fin t m T i0) j
  cases e : look (fin t m T i0) j with
  | none => simp [-gIx, m_first_timed_walk, d_first_timed_walk, e1, e2, look_none.mp e, encL]
  | some w => simp [-gIx, m_first_timed_walk, d_first_timed_walk, e1, e2, mem_keys_look.mpr ⟨w, e⟩, gIx_look e, encL]
def encF (T : Int) : Option (List Nat) → PV
  | none => .non
  | some w => .int (T + w.length)
theorem first_times_eq {t : List Pl} {m : Cl} (ok : TM t m) {T : Int} {i0 : Nat} (hi : i0 < t.length) : m_first_times [encT t, encM m, .int i0, .int T] = some (.val (.tup ((List.range t.length).map fun j => encF T (look (fin t m T i0) j)))) := by
  have e1 := first_ways_eq ok (T := T) hi
  have f0 : itR1 (.int t.length) = some (nls (List.range t.length)) := by rw [itR1_nat (by have := ok.few; omega), rgP_nls]
  have hc : compL [5] (gN 5) dYes (dIf (dTr (dIn (dNm 5) (dPk 4))) (dOp gAdd (dNm 3) (dUn gLen (dIxN 4 (dNm 5)))) (dNon)) (nls (List.range t.length)) [.val (encT t), .val (encM m), .val (.int i0), .val (.int T), .mu .own (.dic (KS (fin t m T i0)) (VS (fin t m T i0))), .un] = some ((List.range t.length).map fun j => encF T (look (fin t m T i0) j), [.val (encT t), .val (encM m), .val (.int i0), .val (.int T), .mu .own (.dic (KS (fin t m T i0)) (VS (fin t m T i0))), .un]) := by
    refine compL_on (fun (j : Nat) => PV.int j) _ _ _ fun j hj => ?_
    refine ⟨[.val (encT t), .val (encM m), .val (.int i0), .val (.int T), .mu .own (.dic (KS (fin t m T i0)) (VS (fin t m T i0))), .val (.int j)], _, [.val (encT t), .val (encM m), .val (.int i0), .val (.int T), .mu .own (.dic (KS (fin t m T i0)) (VS (fin t m T i0))), .val (.int j)], rfl, rfl, ?_, rfl⟩
    have e2 := gIn_KS (fin t m T i0) j
    cases e : look (fin t m T i0) j with
    | none => simp [-gIx, e2, look_none.mp e, encF]
    | some w => simp [-gIx, e2, mem_keys_look.mpr ⟨w, e⟩, gIx_look e, encF, nls_length]
  have f : fits t.length = true := fits_of (by have := ok.few; omega)
  have e4 : gLen (encT t) = some (.int t.length) := by simp [encT]
  simp [-gIx, -gLen, m_first_times, d_first_times, e1, e4, f0, nls_length, f, hc]
theorem starts_eq {t : List Pl} {m : Cl} (ok : TM t m) {T : Int} : m_starts_to_all [encT t, encM m, .int T] = some (.val (.tup (nls ((List.range t.length).filter fun i => decide ((fin t m T i).length = t.length))))) := by
  have f0 : itR1 (.int t.length) = some (nls (List.range t.length)) := by rw [itR1_nat (by have := ok.few; omega), rgP_nls]
  have e4 : gLen (encT t) = some (.int t.length) := by simp [encT]
  have hc : compL [3] (gN 3) (dTr (dOp gEq (dUn gLen (fz (dC0 (m_first_ways) (dCons (dNm 0) (dCons (dNm 1) (dCons (dNm 3) (dCons (dNm 2) (dNil)))))))) (dUn gLen (dPk 0)))) (dNm 3) (nls (List.range t.length)) [.val (encT t), .val (encM m), .val (.int T), .un] = some (((List.range t.length).filter fun i => decide ((fin t m T i).length = t.length)).map (fun (d : Nat) => PV.int d), [.val (encT t), .val (encM m), .val (.int T), .un]) := by
    refine compL_if (fun (d : Nat) => PV.int d) _ _ _ _ fun i hi => ?_
    have e1 := first_ways_eq ok (T := T) (List.mem_range.mp hi)
    refine ⟨[.val (encT t), .val (encM m), .val (.int T), .val (.int i)], [.val (encT t), .val (encM m), .val (.int T), .val (.int i)], rfl, ?_, fun _ => ⟨[.val (encT t), .val (encM m), .val (.int T), .val (.int i)], rfl, rfl⟩, fun _ => rfl⟩
    have e5 : gLen (.dic (KS (fin t m T i)) (VS (fin t m T i))) = some (.int (fin t m T i).length) := by simp
    simp [-gLen, e1, e4, e5]
    rw [Bool.eq_iff_iff]
    simp
    omega
  have f : fits t.length = true := fits_of (by have := ok.few; omega)
  simp [-gIx, -gLen, m_starts_to_all, d_starts_to_all, e4, f0, nls_length, f, hc]
  rfl
/-! ### the search as the law makes it -/
def dR1' : DS := (dSeq (dSet 9 (vl (dOp gIx (dIxN 8 (dInt 1)) (dInt 0))))
        (dIfS (dTr (dIsN (dIxN 4 (dNm 9)))) (dSeq (dSto 4 (dOp gAdd (dIxN 4 (dNm 7)) (dTup (dCons (dIxN 8 (dInt 0)) (dNil)))) (dNm 9))
        (dEx (dMt gAppend 5 (dCons (dNm 9) (dNil))))) (dSkip)))
def dR0 : DS := (dIfS (dTr (dOp gLt (dNm 6) (dUn gLen (dPk 5)))) (dSeq (dSet 7 (vl (dIxN 5 (dNm 6))))
        (dFor (dIt itP (fz (dC0 (m_law_timed_moves) (dCons (fz (dLst (dCons (dNm 0) (dCons (dNm 1) (dNil))))) (dCons (dTup (dCons (dNm 7) (dCons (dOp gAdd (dNm 3) (dUn gLen (dIxN 4 (dNm 7)))) (dNil)))) (dNil)))))) (gN 8) dR1')) (dSkip))
def lE (t : List Pl) (m : Cl) (i0 : Nat) (T : Int) (s : Sd) (a b c d : Sl) : Ev := [.val (encT t), .val (encM m), .val (.int i0), .val (.int T), .mu .own (.lst (RW t.length s)), .mu .own (.lst (KS s)), a, b, c, d]
theorem isn_encL (o : Option (List Nat)) : (match encL o with | .non => true | _ => false) = o.isNone := by cases o <;> rfl
theorem row_in {t : List Pl} {m : Cl} (ok : TM t m) {T : Int} {i0 : Nat} {k i : Nat} {path : List Nat} (τ : Int) (a : Sl) : ∀ (ds : List Nat) {s : Sd}, Sok t m T i0 s → s[k]? = some (i, path) → (∀ d ∈ ds, d ∈ mvs t m i (T + path.length)) → ∀ c d, ∃ c' d', loopD (dTurn (gN 8) dR1') (ds.map (encMv t i τ)) (lE t m i0 T s a (.val (.int i)) c d) = some (.nx (lE t m i0 T (ds.foldl (addd t path i) s) a (.val (.int i)) c' d'))
  | [], s, _, _, _, b, c => ⟨b, c, rfl⟩
  | d :: ds, s, h, e, hd, b, c => by
    have h1 := h.add ok e (hd d List.mem_cons_self)
    obtain ⟨r, hr⟩ := add_grow t path i s d
    have e1 : (addd t path i s d)[k]? = some (i, path) := by rw [hr]; exact grow_at e
    obtain ⟨b', c', ih⟩ := row_in ok τ a ds h1 e1 (fun x hx => hd x (List.mem_cons_of_mem _ hx)) (.val (encMv t i τ d)) (.val (.int (gl t i d)))
    refine ⟨b', c', ?_⟩
    have ht : dTurn (gN 8) dR1' (encMv t i τ d) (lE t m i0 T s a (.val (.int i)) b c) = some (.nx (lE t m i0 T (addd t path i s d) a (.val (.int i)) (.val (encMv t i τ d)) (.val (.int (gl t i d))))) := by
      have hi := h.lt _ (List.mem_of_getElem? e)
      have hg := gl_lt ok (mem_mvs.mp (hd d List.mem_cons_self)).1
      have g1 := RW_at s hg
      have g2 := RW_at s hi
      rw [look_at h.nd e] at g2
      have hs := h.few
      have hl := h.len k _ e
      have hk := (List.getElem?_eq_some_iff.mp e).1
      have hf := ok.few
      have f1 : fits ((nls path).length + 1) = true := fits_of (by rw [nls_length]; simp only at hl; omega)
      have f2 : fits (s.length + 1) = true := fits_of (by omega)
      unfold addd
      cases hl : look s (gl t i d) with
      | some w =>
        rw [hl] at g1
        have cc := mem_keys_look.mpr ⟨w, hl⟩
        simp [dR1', encMv, lE, g1, cc, encL]
      | none =>
        rw [hl] at g1
        have cc := look_none.mp hl
        have g3 := gSto_lst (c := RW t.length s) (v := .tup (nls (path ++ [d]))) (p := gl t i d) (by rw [RW_len]; exact hg)
        rw [RW_set hg cc] at g3
        have g4 : gAdd (.tup (nls path)) (.tup [.int d]) = some (.tup (nls (path ++ [d]))) := by
          refine (if_pos f1).trans ?_
          rw [nls_app]
        simp [-gAdd, dR1', encMv, lE, g1, cc, g2, g3, g4, mkT, f2, encL]
        simp [KS_app]
    rw [List.map_cons, List.foldl_cons]
    unfold loopD
    rw [ht]
    exact ih
theorem rows_eq {t : List Pl} {m : Cl} (ok : TM t m) {T : Int} {i0 : Nat} (hi : i0 < t.length) : m_law_timed_rows [encT t, encM m, .int i0, .int T] = some (.new (.lst (RW t.length (fin t m T i0)))) := by
  have hf := ok.few
  let I : Nat → Ev → Prop := fun k Γ => ∃ (s : Sd) (a b c d : Sl), Sok t m T i0 s ∧ s = (List.range k).foldl (vis t m T) [(i0, [])] ∧ Γ = lE t m i0 T s a b c d
  obtain ⟨Γ', e, s, a, b, c, d, _, h1, rfl⟩ := loopD_inv (step := dTurn (gN 6) dR0) I (rgP 0 t.length) 0 (lE t m i0 T [(i0, [])] .un .un .un .un) ⟨_, _, _, _, _, Sok.start hi, rfl, rfl⟩ fun k x Γ hx ⟨s, a, b, c, d, h, h1, hΓ⟩ => by
    obtain ⟨hk, rfl⟩ := rgP_get hx
    subst hΓ
    rw [Nat.zero_add] at h1
    rw [Int.zero_add, Nat.zero_add]
    have hv : (List.range (k + 1)).foldl (vis t m T) [(i0, [])] = vis t m T s k := by
      rw [List.range_succ, List.foldl_append, ← h1]
      rfl
    by_cases c1 : k < s.length
    · have e : s[k]? = some s[k] := List.getElem?_eq_getElem c1
      generalize s[k] = p at e
      obtain ⟨i, path⟩ := p
      have hi := h.lt _ (List.mem_of_getElem? e)
      have hv' : vis t m T s k = (mvs t m i (T + path.length)).foldl (addd t path i) s := by
        unfold vis
        rw [e]
      obtain ⟨c', d', e1⟩ := row_in ok (T + path.length) (.val (.int k)) (mvs t m i (T + path.length)) h e (fun _ h => h) c d
      rw [← hv'] at e1
      refine ⟨_, .inl ?_, vis t m T s k, .val (.int k), .val (.int i), c', d', (h.vis ok k).1, hv.symm, rfl⟩
      have g0 : gIx (.lst (KS s)) (.int k) = some (.int i) := at_nls (by unfold keys; rw [List.getElem?_map, e]; rfl)
      have g2 := RW_at s hi
      rw [look_at h.nd e] at g2
      have g3 : gIx (.lst (RW t.length s)) (.int i) = some (.tup (nls path)) := g2
      have g4 := timed_moves_eq ok (T + path.length) hi
      have f1 : fits (mvs t m i (T + path.length)).length = true := fits_of (by have := mvs_len ok i (T + path.length); omega)
      have h2 : (dTr (dOp gLt (dNm 6) (dUn gLen (dPk 5)))) (lE t m i0 T s (.val (.int k)) b c d) = some (true, lE t m i0 T s (.val (.int k)) b c d) := by simp [lE, c1]
      show dR0 (lE t m i0 T s (.val (.int k)) b c d) = _
      unfold dR0 dIfS
      rw [h2]
      dsimp only
      rw [if_pos rfl]
      refine (dSeq_nx (Γ1 := lE t m i0 T s (.val (.int k)) (.val (.int i)) c d) (by simp [-gIx, lE, g0])).trans ?_
      exact (dFor_of (xs := (mvs t m i (T + path.length)).map (encMv t i (T + path.length))) (by simp [-gIx, lE, mkT, mkL, g3, g4, nls_length])).trans e1
    · refine ⟨lE t m i0 T s (.val (.int k)) b c d, .inl ?_, s, .val (.int k), b, c, d, h, ?_, rfl⟩
      · simp [dR0, lE, c1]
      · rw [hv]
        unfold vis
        rw [List.getElem?_eq_none (by omega)]
  rw [rgP_length, Nat.zero_add] at h1
  have e4 : gLen (encT t) = some (.int t.length) := by simp [encT]
  have hr : gRep (.lst [.non]) (.int t.length) = some (.new (.lst (List.replicate t.length .non))) := by
    unfold gRep
    have f : fits (([PV.non] : List PV).length * ((t.length : Int)).toNat) = true := fits_of (by simp; omega)
    dsimp only
    rw [if_pos ⟨popOk_mk (by omega), f⟩]
    simp
  have hs := gSto_lst (c := RW t.length []) (v := .tup (nls [])) (p := i0) (by rw [RW_len]; exact hi)
  rw [RW_set hi (by simp [keys])] at hs
  have hrw : RW t.length [] = List.replicate t.length .non := by
    unfold RW
    rw [show (fun j => encL (look [] j)) = fun _ => PV.non from rfl, List.map_const', List.length_range]
  rw [← hrw] at hr
  refine sem0_rt rfl (Γ' := [.val (encT t), .val (encM m), .val (.int i0), .val (.int T), .un, .mu .own (.lst (KS s)), a, b, c, d]) ?_
  unfold d_law_timed_rows
  refine (dSeq_nx (Γ1 := [.val (encT t), .val (encM m), .val (.int i0), .val (.int T), .mu .own (.lst (RW t.length [])), .un, .un, .un, .un, .un]) (by simp [-gLen, mkL, e4, hr])).trans ?_
  refine (dSeq_nx (Γ1 := [.val (encT t), .val (encM m), .val (.int i0), .val (.int T), .mu .own (.lst (RW t.length [(i0, [])])), .un, .un, .un, .un, .un]) (by simp [mkT]; simp [nls] at hs; simp [hs])).trans ?_
  refine (dSeq_nx (Γ1 := lE t m i0 T [(i0, [])] .un .un .un .un) (by simp [mkL, lE, KS, keys, nls])).trans ?_
  refine (dSeq_nx ((dFor_of (xs := rgP 0 t.length) (by simp [-gLen, lE, e4, itR1_nat (show t.length ≤ 1000000 by omega)])).trans e)).trans ?_
  rw [show s = fin t m T i0 from h1]
  simp [lE]
theorem law_times_eq {t : List Pl} {m : Cl} (ok : TM t m) {T : Int} {i0 : Nat} (hi : i0 < t.length) : m_law_first_times [encT t, encM m, .int i0, .int T] = some (.val (.tup ((List.range t.length).map fun j => encF T (look (fin t m T i0) j)))) := by
  have e1 := rows_eq ok (T := T) hi
  let I : Nat → Ev → Prop := fun k Γ => ∃ a, Γ = [.val (encT t), .val (encM m), .val (.int i0), .val (.int T), .mu .own (.lst ((List.range k).map fun j => encF T (look (fin t m T i0) j))), a]
  obtain ⟨Γ', e, a, rfl⟩ := loopD_inv (step := dTurn (gN 5) (dIfS (dTr (dIsN (dPk 5))) (dEx (dMt gAppend 4 (dCons (dNon) (dNil)))) (dEx (dMt gAppend 4 (dCons (dOp gAdd (dNm 3) (dUn gLen (dPk 5))) (dNil)))))) I (RW t.length (fin t m T i0)) 0 [.val (encT t), .val (encM m), .val (.int i0), .val (.int T), .mu .own (.lst []), .un] ⟨_, rfl⟩ fun k x Γ hx ⟨a, hΓ⟩ => by
    subst hΓ
    unfold RW at hx
    rw [List.getElem?_map] at hx
    obtain ⟨j, hj, rfl⟩ := Option.map_eq_some_iff.mp hx
    have hk : k < t.length := by simpa using (List.getElem?_eq_some_iff.mp hj).1
    rw [List.getElem?_range hk] at hj
    cases hj
    rw [Nat.zero_add]
    have f : fits (k + 1) = true := fits_of (by have := ok.few; omega)
    refine ⟨[.val (encT t), .val (encM m), .val (.int i0), .val (.int T), .mu .own (.lst ((List.range (k + 1)).map fun j => encF T (look (fin t m T i0) j))), .val (encL (look (fin t m T i0) k))], .inl ?_, _, rfl⟩
    rw [List.range_succ, List.map_append]
    cases hl : look (fin t m T i0) k with
    | none => simp [encL, encF, f, hl]
    | some w => simp [encL, encF, f, nls_length, hl]
  rw [RW_len, Nat.zero_add] at e
  refine sem0_rt rfl (Γ' := [.val (encT t), .val (encM m), .val (.int i0), .val (.int T), .mu .own (.lst ((List.range t.length).map fun j => encF T (look (fin t m T i0) j))), a]) ?_
  unfold d_law_first_times
  refine (dSeq_nx (Γ1 := [.val (encT t), .val (encM m), .val (.int i0), .val (.int T), .mu .own (.lst []), .un]) (by simp [mkL])).trans ?_
  refine (dSeq_nx ((dFor_of (xs := RW t.length (fin t m T i0)) (by simp [e1])).trans e)).trans ?_
  simp
/-! ### walks in time -/
theorem cut_take (xs : List PV) (k : Nat) (h : k ≤ xs.length) : cutA xs none (some (k : Int)) = xs.take k := by
  unfold cutA
  rw [HT.sIx_nat, HT.sIx_none, Nat.min_eq_left h, List.drop_zero, Nat.sub_zero]
theorem cut_drop (xs : List PV) (k : Nat) (h : k ≤ xs.length) : cutA xs (some (k : Int)) none = xs.drop k := by
  unfold cutA
  rw [HT.sIx_nat, HT.sIx_none, Nat.min_eq_left h]
  exact List.take_of_length_le (by rw [List.length_drop]; omega)
theorem cut_init (xs : List PV) (x : PV) : cutA (xs ++ [x]) none (some (-1)) = xs := by
  have h : HT.sIx (xs ++ [x]).length (xs ++ [x]).length (some (-1)) = xs.length := by
    unfold HT.sIx
    simp
    omega
  unfold cutA
  rw [h, HT.sIx_none, List.drop_zero, Nat.sub_zero, List.take_append_of_le_length (Nat.le_refl _), List.take_length]
theorem atI_last {xs : List PV} {x : PV} : atI (xs ++ [x]) (-1) = some x := by
  have : ixN (xs.length + 1) (-1) = some xs.length := by
    unfold ixN
    rw [if_neg (by omega), if_pos (by omega)]
    congr 1
    omega
  unfold atI
  rw [List.length_append, List.length_singleton, this]
  simp
theorem put_eq (xs : List PV) (k : Nat) (x : PV) (h : k < xs.length) (hl : xs.length ≤ 1000) : m_law_put [.tup xs, .int k, x] = some (.val (.tup (xs.set k x))) := by
  have e1 := cut_take xs k (by omega)
  have e2 : cutA xs (some ((k : Int) + 1)) none = xs.drop (k + 1) := cut_drop xs (k + 1) (by omega)
  have f1 : fits ((xs.take k).length + 1) = true := fits_of (by rw [List.length_take]; omega)
  have f2 : fits ((xs.take k ++ [x]).length + (xs.drop (k + 1)).length) = true := fits_of (by simp; omega)
  have e3 : xs.take k ++ [x] ++ xs.drop (k + 1) = xs.set k x := by
    rw [List.set_eq_take_append_cons_drop, if_pos h, List.append_assoc]
    rfl
  have g1 : gAdd (.tup (xs.take k)) (.tup [x]) = some (.tup (xs.take k ++ [x])) := if_pos f1
  have g2 : gAdd (.tup (xs.take k ++ [x])) (.tup (xs.drop (k + 1))) = some (.tup (xs.set k x)) := by
    rw [← e3]
    exact if_pos f2
  have s1 : gSl (.tup xs) none (some (k : Int)) = some (.val (.tup (xs.take k))) := by
    unfold gSl
    dsimp only
    rw [e1]
  have s2 : gSl (.tup xs) (some ((k : Int) + 1)) none = some (.val (.tup (xs.drop (k + 1)))) := by
    unfold gSl
    dsimp only
    rw [e2]
  have ga : gAdd (.int (k : Int)) (.int 1) = some (.int ((k : Int) + 1)) := rfl
  simp [-gAdd, -gSl, m_law_put, d_law_put, s1, s2, mkT, g1, g2, ga]
theorem loopD_app {step : PV → DS} {ys : List PV} : ∀ {xs : List PV} {Γ Γ' : Ev}, loopD step xs Γ = some (.nx Γ') → (∀ x Γ o, x ∈ xs → step x Γ = some (.bk o) → False) → loopD step (xs ++ ys) Γ = loopD step ys Γ'
  | [], Γ, Γ', h, _ => by cases h; rfl
  | x :: xs, Γ, Γ', h, nb => by
    unfold loopD at h
    show loopD step (x :: (xs ++ ys)) Γ = _
    rw [loopD]
    cases e : step x Γ with
    | none => rw [e] at h; cases h
    | some o =>
      rw [e] at h
      cases o with
      | nx Γ1 => exact loopD_app h fun y Γ o hy => nb y Γ o (List.mem_cons_of_mem _ hy)
      | ct Γ1 => exact loopD_app h fun y Γ o hy => nb y Γ o (List.mem_cons_of_mem _ hy)
      | bk Γ1 => exact (nb x Γ Γ1 List.mem_cons_self e).elim
      | rt r Γ1 => cases h
def dTE : DS := (dSeq (dIfS (dTr (dOp gNe (dNm 7) (dUn gNeg (dInt 1)))) (dSeq (dSet 8 (dC0 (m_step_from) (dCons (dNm 0) (dCons (dNm 5) (dCons (dNm 7) (dNil))))))
        (dSeq (dIfS (dBOr (dTr (dIsN (dPk 8))) (dBNot (dTr (fz (dC0 (m_is_passable) (dCons (dOp gIx (dIxN 1 (dNm 5)) (dNm 7)) (dCons (dNm 6) (dNil)))))))) (dRt (vl (dNon))) (dSkip))
        (dSet 5 (vl (dNm 8))))) (dSkip))
        (dAug 6 (gI fun i j => some (.int (i + j))) (dInt 1)))
def tE (t : List Pl) (m : Cl) (p2 p3 p4 : Sl) (i : Nat) (τ : Int) (a b : Sl) : Ev := [.val (encT t), .val (encM m), p2, p3, p4, .val (.int i), .val (.int τ), a, b]
/-- a part that waits -/
theorem te_wait (t : List Pl) (m : Cl) (p2 p3 p4 : Sl) (i : Nat) (τ : Int) (a b : Sl) : dTurn (gN 7) dTE (.int (-1)) (tE t m p2 p3 p4 i τ a b) = some (.nx (tE t m p2 p3 p4 i (τ + 1) (.val (.int (-1))) b)) := by
  simp [dTE, tE]
theorem te_loop {t : List Pl} {m : Cl} (ok : TM t m) (p2 p3 p4 : Sl) (ys : List PV) : ∀ (w : List Nat) (i : Nat) (τ : Int) (a b : Sl), i < t.length →
    (∀ j, wlk t m i τ w = some j → ∃ a' b', loopD (dTurn (gN 7) dTE) (nls w ++ ys) (tE t m p2 p3 p4 i τ a b) = loopD (dTurn (gN 7) dTE) ys (tE t m p2 p3 p4 j (τ + w.length) a' b')) ∧ (wlk t m i τ w = none → ∃ Γ', loopD (dTurn (gN 7) dTE) (nls w ++ ys) (tE t m p2 p3 p4 i τ a b) = some (.rt (.val .non) Γ'))
  | [], i, τ, a, b, hi => by
    refine ⟨fun j h => ?_, fun h => by cases h⟩
    cases h
    refine ⟨a, b, ?_⟩
    rw [List.length_nil, Int.natCast_zero, Int.add_zero]
    rfl
  | d :: w, i, τ, a, b, hi => by
    have h1 := step_eq (t := t) d hi
    have hne : ¬ ((d : Int) = -1) := by omega
    rw [wlk_cons]
    show (∀ j, _ → ∃ a' b', loopD (dTurn (gN 7) dTE) (.int d :: (nls w ++ ys)) _ = _) ∧ (_ → ∃ Γ', loopD (dTurn (gN 7) dTE) (.int d :: (nls w ++ ys)) _ = _)
    rw [loopD]
    cases e : stp t i d with
    | none =>
      rw [e] at h1
      have ht : dTurn (gN 7) dTE (.int d) (tE t m p2 p3 p4 i τ a b) = some (.rt (.val .non) (tE t m p2 p3 p4 i τ (.val (.int d)) (.val .non))) := by simp [dTE, tE, h1, hne, encO]
      rw [ht]
      exact ⟨fun j h => (by cases h), fun _ => ⟨_, rfl⟩⟩
    | some j =>
      rw [e] at h1
      have hd := od_lt (mem_od.mpr ⟨j, e⟩)
      have g1 := ixC ok hi
      have g2 := at_C ok hd
      have g3 := passable_eq m i d τ
      cases hp : psb m i d τ with
      | false =>
        rw [hp] at g3
        have ht : dTurn (gN 7) dTE (.int d) (tE t m p2 p3 p4 i τ a b) = some (.rt (.val .non) (tE t m p2 p3 p4 i τ (.val (.int d)) (.val (.int j)))) := by simp [-gIx, dTE, tE, h1, hne, encO, g1, g2, g3]
        rw [ht]
        exact ⟨fun j h => (by cases h), fun _ => ⟨_, rfl⟩⟩
      | true =>
        rw [hp] at g3
        have ht : dTurn (gN 7) dTE (.int d) (tE t m p2 p3 p4 i τ a b) = some (.nx (tE t m p2 p3 p4 j (τ + 1) (.val (.int d)) (.val (.int j)))) := by simp [-gIx, dTE, tE, h1, hne, encO, g1, g2, g3]
        rw [ht]
        obtain ⟨q1, q2⟩ := te_loop ok p2 p3 p4 ys w j (τ + 1) (.val (.int d)) (.val (.int j)) (stp_lt ok e)
        refine ⟨fun x hx => ?_, fun hx => ?_⟩
        · obtain ⟨a', b', q⟩ := q1 x hx
          refine ⟨a', b', ?_⟩
          dsimp only
          rw [q, List.length_cons, show τ + 1 + (w.length : Int) = τ + ((w.length + 1 : Nat) : Int) by push_cast; omega]
        · exact q2 hx
theorem te_some {t : List Pl} {m : Cl} (ok : TM t m) {i j : Nat} {T : Int} {w : List Nat} (hi : i < t.length) (h : wlk t m i T w = some j) : m_timed_end [encT t, encM m, .int i, .int T, .tup (nls w)] = some (.val (.tup [.int j, .int (T + w.length)])) := by
  obtain ⟨a', b', e⟩ := (te_loop ok (.val (.int i)) (.val (.int T)) (.val (.tup (nls w))) [] w i T .un .un hi).1 j h
  rw [List.append_nil] at e
  refine sem0_rt rfl (Γ' := tE t m (.val (.int i)) (.val (.int T)) (.val (.tup (nls w))) j (T + w.length) a' b') ?_
  unfold d_timed_end
  refine (dSeq_nx (Γ1 := [.val (encT t), .val (encM m), .val (.int i), .val (.int T), .val (.tup (nls w)), .val (.int i), .un, .un, .un]) (by simp)).trans ?_
  refine (dSeq_nx (Γ1 := tE t m (.val (.int i)) (.val (.int T)) (.val (.tup (nls w))) i T .un .un) (by simp [tE])).trans ?_
  refine (dSeq_nx ((dFor_of (xs := nls w) (by simp [tE])).trans e)).trans ?_
  simp [tE, mkT]
theorem te_more {t : List Pl} {m : Cl} (ok : TM t m) {i j : Nat} {T : Int} {w : List Nat} (hi : i < t.length) (h : wlk t m i T w = some j) : m_timed_end [encT t, encM m, .int i, .int T, .tup (nls w ++ [.int (-1)])] = some (.val (.tup [.int j, .int (T + w.length + 1)])) := by
  obtain ⟨a', b', e⟩ := (te_loop ok (.val (.int i)) (.val (.int T)) (.val (.tup (nls w ++ [.int (-1)]))) [.int (-1)] w i T .un .un hi).1 j h
  rw [loopD, te_wait] at e
  refine sem0_rt rfl (Γ' := tE t m (.val (.int i)) (.val (.int T)) (.val (.tup (nls w ++ [.int (-1)]))) j (T + w.length + 1) (.val (.int (-1))) b') ?_
  unfold d_timed_end
  refine (dSeq_nx (Γ1 := [.val (encT t), .val (encM m), .val (.int i), .val (.int T), .val (.tup (nls w ++ [.int (-1)])), .val (.int i), .un, .un, .un]) (by simp)).trans ?_
  refine (dSeq_nx (Γ1 := tE t m (.val (.int i)) (.val (.int T)) (.val (.tup (nls w ++ [.int (-1)]))) i T .un .un) (by simp [tE])).trans ?_
  refine (dSeq_nx ((dFor_of (xs := nls w ++ [.int (-1)]) (by simp [tE])).trans e)).trans ?_
  simp [tE, mkT]
theorem te_none {t : List Pl} {m : Cl} (ok : TM t m) {i : Nat} {T : Int} {w : List Nat} (hi : i < t.length) (h : wlk t m i T w = none) : m_timed_end [encT t, encM m, .int i, .int T, .tup (nls w)] = some (.val .non) := by
  obtain ⟨Γ', e⟩ := (te_loop ok (.val (.int i)) (.val (.int T)) (.val (.tup (nls w))) [] w i T .un .un hi).2 h
  rw [List.append_nil] at e
  refine sem0_rt rfl (Γ' := Γ') ?_
  unfold d_timed_end
  refine (dSeq_nx (Γ1 := [.val (encT t), .val (encM m), .val (.int i), .val (.int T), .val (.tup (nls w)), .val (.int i), .un, .un, .un]) (by simp)).trans ?_
  refine (dSeq_nx (Γ1 := tE t m (.val (.int i)) (.val (.int T)) (.val (.tup (nls w))) i T .un .un) (by simp [tE])).trans ?_
  exact dSeq_rt ((dFor_of (xs := nls w) (by simp [tE])).trans e)
def endd (t : List Pl) : Nat → List Nat → Option Nat
  | i, [] => some i
  | i, d :: w => match stp t i d with
    | some j => endd t j w
    | none => none
theorem endd_cons {t : List Pl} {i d : Nat} {w : List Nat} : endd t i (d :: w) = match stp t i d with
    | some j => endd t j w
    | none => none := rfl
theorem wlk_endd {t : List Pl} {m : Cl} : ∀ {w : List Nat} {i j : Nat} {τ : Int}, wlk t m i τ w = some j → endd t i w = some j
  | [], _, _, _, h => h
  | d :: w, i, j, τ, h => by
    rw [wlk_cons] at h
    rw [endd_cons]
    cases e : stp t i d with
    | none => rw [e] at h; cases h
    | some x =>
      rw [e] at h
      dsimp only at h ⊢
      split at h
      · exact wlk_endd h
      · cases h
theorem end_loop {t : List Pl} {m : Cl} (ok : TM t m) (p1 p2 : Sl) : ∀ (w : List Nat) (i j : Nat) (s : Sl), i < t.length → endd t i w = some j →
    ∃ (s' : Sl), loopD (dTurn (gN 4) (dSeq (dSet 3 (dC0 m_law_goal (dCons (dNm 0) (dCons (dNm 3) (dCons (dNm 4) (dNil))))))
        (dIfS (dTr (dIsN (dPk 3))) (dRt (vl (dNon))) (dSkip)))) (nls w) [.val (encT t), p1, p2, .val (.int i), s] = some (.nx [.val (encT t), p1, p2, .val (.int j), s'])
  | [], i, j, s, hi, h => by cases h; exact ⟨s, rfl⟩
  | d :: w, i, j, s, hi, h => by
    have h1 := goal_eq (t := t) d hi
    rw [endd_cons] at h
    cases e : stp t i d with
    | none => rw [e] at h; cases h
    | some x =>
      rw [e] at h h1
      obtain ⟨s', q⟩ := end_loop ok p1 p2 w x j (.val (.int d)) (stp_lt ok e) h
      refine ⟨s', ?_⟩
      show loopD _ (.int d :: nls w) _ = _
      rw [loopD]
      have ht : dTurn (gN 4) (dSeq (dSet 3 (dC0 m_law_goal (dCons (dNm 0) (dCons (dNm 3) (dCons (dNm 4) (dNil))))))
        (dIfS (dTr (dIsN (dPk 3))) (dRt (vl (dNon))) (dSkip))) (.int d) [.val (encT t), p1, p2, .val (.int i), s] = some (.nx [.val (encT t), p1, p2, .val (.int x), .val (.int d)]) := by simp [h1, encO]
      rw [ht]
      exact q
theorem law_end_eq {t : List Pl} {m : Cl} (ok : TM t m) {i j : Nat} {w : List Nat} (hi : i < t.length) (h : endd t i w = some j) : m_law_end [encT t, .int i, .tup (nls w)] = some (.val (.int j)) := by
  obtain ⟨s', e⟩ := end_loop ok (.val (.int i)) (.val (.tup (nls w))) w i j .un hi h
  simp [m_law_end, d_law_end, e]
/-! ### the search finds what can be reached, early -/
theorem psb_le {m : Cl} {i d : Nat} {τ τ' : Int} (h : psb m i d τ = true) (hl : τ' ≤ τ) : psb m i d τ' = true := by
  unfold psb at *
  cases e : cls m i d with
  | none => rfl
  | some c =>
    rw [e] at h
    have := of_decide_eq_true h
    exact decide_eq_true (by omega)
def Mono (s : Sd) : Prop := ∀ (a b : Nat) (p q : Nat × List Nat), s[a]? = some p → s[b]? = some q → a ≤ b → p.2.length ≤ q.2.length
theorem adds_srch {t : List Pl} {path : List Nat} {i : Nat} : ∀ (ds : List Nat) (s : Sd), Mono s → (∀ q ∈ s, q.2.length ≤ path.length + 1) →
    Mono (ds.foldl (addd t path i) s) ∧ (∀ q ∈ ds.foldl (addd t path i) s, q.2.length ≤ path.length + 1) ∧ (∀ d ∈ ds, ∃ q ∈ ds.foldl (addd t path i) s, q.1 = gl t i d) ∧ ∃ r, ds.foldl (addd t path i) s = s ++ r
  | [], s, h1, h2 => ⟨h1, h2, (fun _ h => by cases h), [], (List.append_nil _).symm⟩
  | d :: ds, s, h1, h2 => by
    have a1 : Mono (addd t path i s d) := by
      unfold addd
      split
      · exact h1
      · intro a b p q ha hb hab
        by_cases hbs : b < s.length
        · rw [List.getElem?_append_left hbs] at hb
          rw [List.getElem?_append_left (by omega)] at ha
          exact h1 a b p q ha hb hab
        · rw [List.getElem?_append_right (by omega)] at hb
          have := List.mem_of_getElem? hb
          cases List.mem_singleton.mp this
          have hp : p ∈ s ++ [(gl t i d, path ++ [d])] := List.mem_of_getElem? ha
          rcases List.mem_append.mp hp with hp | hp
          · have := h2 p hp
            simp only [List.length_append, List.length_singleton]
            exact this
          · cases List.mem_singleton.mp hp
            exact Nat.le_refl _
    have a2 : ∀ q ∈ addd t path i s d, q.2.length ≤ path.length + 1 := by
      unfold addd
      split
      · exact h2
      · intro q hq
        rcases List.mem_append.mp hq with hq | hq
        · exact h2 q hq
        · cases List.mem_singleton.mp hq
          simp
    have a3 : ∃ q ∈ addd t path i s d, q.1 = gl t i d := by
      unfold addd
      split
      · rename_i c
        obtain ⟨p, hp, e⟩ := List.mem_map.mp c
        exact ⟨p, hp, e⟩
      · exact ⟨_, List.mem_append_right _ (List.mem_singleton.mpr rfl), rfl⟩
    obtain ⟨r, hr⟩ := add_grow t path i s d
    obtain ⟨b1, b2, b3, r2, b4⟩ := adds_srch ds _ a1 a2
    refine ⟨b1, b2, fun x hx => ?_, r ++ r2, ?_⟩
    · rcases List.mem_cons.mp hx with rfl | hx
      · obtain ⟨q, hq, e⟩ := a3
        refine ⟨q, ?_, e⟩
        rw [List.foldl_cons, b4]
        exact List.mem_append_left _ hq
      · exact b3 x hx
    · rw [List.foldl_cons, b4, hr, List.append_assoc]
structure Srch (t : List Pl) (m : Cl) (T : Int) (s : Sd) (k : Nat) : Prop where
  mono : Mono s
  bnd : ∀ (p q : Nat × List Nat), s[k]? = some p → q ∈ s → q.2.length ≤ p.2.length + 1
  cls : ∀ (k' : Nat) (p : Nat × List Nat), k' < k → s[k']? = some p → ∀ d ∈ mvs t m p.1 (T + p.2.length), ∃ q ∈ s, q.1 = gl t p.1 d ∧ q.2.length ≤ p.2.length + 1
theorem Srch.vis {t : List Pl} {m : Cl} {T : Int} {s : Sd} {k : Nat} (h : Srch t m T s k) : Srch t m T (vis t m T s k) (k + 1) := by
  unfold Pw.vis
  cases e : s[k]? with
  | none =>
    have hk : s.length ≤ k := List.getElem?_eq_none_iff.mp e
    dsimp only
    refine ⟨h.mono, fun p q hp => ?_, fun k' p hk' hp => ?_⟩
    · have := (List.getElem?_eq_some_iff.mp hp).1
      omega
    · have := (List.getElem?_eq_some_iff.mp hp).1
      exact h.cls k' p (by omega) hp
  | some p =>
    obtain ⟨i, path⟩ := p
    obtain ⟨b1, b2, b3, r, b4⟩ := adds_srch (t := t) (path := path) (i := i) (mvs t m i (T + path.length)) s h.mono fun q hq => h.bnd _ q e hq
    have hk := (List.getElem?_eq_some_iff.mp e).1
    dsimp only
    generalize (mvs t m i (T + path.length)).foldl (addd t path i) s = s' at *
    subst b4
    refine ⟨b1, fun p q hp hq => ?_, fun k' p hk' hp d hd => ?_⟩
    · have := b1 k (k + 1) (i, path) p (grow_at e) hp (by omega)
      have := b2 q hq
      simp only at *
      omega
    · rw [List.getElem?_append_left (by omega)] at hp
      by_cases c : k' < k
      · obtain ⟨q, h1, h2, h3⟩ := h.cls k' p c hp d hd
        exact ⟨q, List.mem_append_left _ h1, h2, h3⟩
      · have : k' = k := by omega
        subst this
        rw [e] at hp
        cases hp
        obtain ⟨q, h1, h2⟩ := b3 d hd
        exact ⟨q, h1, h2, b2 q h1⟩
theorem Srch.fold {t : List Pl} {m : Cl} {T : Int} : ∀ (n k : Nat) {s : Sd}, Srch t m T s k → Srch t m T ((List.range' k n).foldl (Pw.vis t m T) s) (k + n)
  | 0, k, s, h => h
  | n + 1, k, s, h => by
    rw [List.range'_succ, List.foldl_cons, show k + (n + 1) = k + 1 + n by omega]
    exact Srch.fold n (k + 1) h.vis
theorem Srch.fin (t : List Pl) (m : Cl) (T : Int) (i0 : Nat) : Srch t m T (Pw.fin t m T i0) t.length := by
  have : Srch t m T [(i0, [])] 0 := by
    refine ⟨fun a b p q ha hb _ => ?_, fun p q hp hq => ?_, fun k' p hk => absurd hk (Nat.not_lt_zero _)⟩
    · have := List.mem_of_getElem? ha
      cases List.mem_singleton.mp this
      exact Nat.zero_le _
    · cases List.mem_singleton.mp hq
      exact Nat.zero_le _
  have := Srch.fold t.length 0 this
  rw [Nat.zero_add, ← List.range_eq_range'] at this
  exact this
theorem reach {t : List Pl} {m : Cl} (ok : TM t m) {T : Int} {i0 : Nat} (hi : i0 < t.length) : ∀ (n : Nat) (w : List Nat) (x : Nat), w.length = n → wlk t m i0 T w = some x → ∃ q ∈ fin t m T i0, q.1 = x ∧ q.2.length ≤ w.length
  | 0, w, x, hn, h => by
    have : w = [] := List.eq_nil_of_length_eq_zero hn
    subst this
    cases h
    exact ⟨_, List.mem_of_getElem? (Sok.fin ok hi).hd, rfl, Nat.le_refl _⟩
  | n + 1, w, x, hn, h => by
    rcases List.eq_nil_or_concat w with rfl | ⟨w', d, rfl⟩
    · simp at hn
    · rw [List.concat_eq_append] at hn h ⊢
      rw [wlk_app] at h
      obtain ⟨j, h1, h2⟩ := Option.bind_eq_some_iff.mp h
      obtain ⟨q, hq, e1, e2⟩ := reach ok hi n w' j (by simpa using hn) h1
      rw [wlk_cons] at h2
      cases e : stp t j d with
      | none => rw [e] at h2; cases h2
      | some y =>
        rw [e] at h2
        dsimp only at h2
        split at h2
        · rename_i hp
          cases h2
          obtain ⟨k', hk'⟩ := List.getElem?_of_mem hq
          have hlt := (List.getElem?_eq_some_iff.mp hk').1
          have hs := (Sok.fin ok (m := m) (T := T) hi).few
          subst e1
          obtain ⟨q', h3, h4, h5⟩ := (Srch.fin t m T i0).cls k' q (by omega) hk' d (mem_mvs.mpr ⟨mem_od.mpr ⟨_, e⟩, psb_le hp (by omega)⟩)
          refine ⟨q', h3, by rw [h4, gl_of e], ?_⟩
          rw [List.length_append, List.length_singleton]
          omega
        · cases h2
/-- can be reached -/
def Rch (t : List Pl) (m : Cl) (tg i : Nat) (τ : Int) : Prop := ∃ w, wlk t m i τ w = some tg
theorem look_iff {t : List Pl} {m : Cl} (ok : TM t m) {T : Int} {i0 : Nat} (hi : i0 < t.length) (j : Nat) : (∃ w, look (fin t m T i0) j = some w) ↔ Rch t m j i0 T := by
  rw [← mem_keys_look]
  constructor
  · intro h
    obtain ⟨p, hp, rfl⟩ := List.mem_map.mp h
    exact ⟨_, (Sok.fin ok hi).wk p hp⟩
  · rintro ⟨w, h⟩
    obtain ⟨q, hq, e, _⟩ := reach ok hi _ w j rfl h
    exact List.mem_map.mpr ⟨q, hq, e⟩
theorem look_wlk {t : List Pl} {m : Cl} (ok : TM t m) {T : Int} {i0 : Nat} (hi : i0 < t.length) {j : Nat} {w : List Nat} (h : look (fin t m T i0) j = some w) : wlk t m i0 T w = some j ∧ w.length < t.length := by
  have hm := look_some h
  refine ⟨(Sok.fin ok hi).wk _ hm, ?_⟩
  obtain ⟨k, hk⟩ := List.getElem?_of_mem hm
  have h1 := (Sok.fin ok hi).len k _ hk
  have h2 := (List.getElem?_eq_some_iff.mp hk).1
  have h3 := (Sok.fin ok (m := m) (T := T) hi).few
  simp only at h1
  omega
theorem full_iff {t : List Pl} {m : Cl} (ok : TM t m) {T : Int} {i0 : Nat} (hi : i0 < t.length) : (fin t m T i0).length = t.length ↔ ∀ j < t.length, ∃ w, look (fin t m T i0) j = some w := by
  have S := Sok.fin ok (m := m) (T := T) hi
  have hf := S.few
  have hkl : (keys (fin t m T i0)).length = (fin t m T i0).length := List.length_map _
  constructor
  · intro h j hj
    rw [← mem_keys_look]
    apply Classical.byContradiction
    intro c
    have := nodup_lt t.length (j :: keys (fin t m T i0)) (List.nodup_cons.mpr ⟨c, S.nd⟩) fun x hx => by
      rcases List.mem_cons.mp hx with rfl | hx
      · exact hj
      · obtain ⟨p, hp, rfl⟩ := List.mem_map.mp hx
        exact S.lt p hp
    rw [List.length_cons] at this
    omega
  · intro h
    have h2 : ∀ x ∈ List.range t.length, x ∈ keys (fin t m T i0) := fun x hx => mem_keys_look.mpr (h x (List.mem_range.mp hx))
    have := List.nodup_range (n := t.length) |>.length_le_of_subset h2
    rw [List.length_range] at this
    omega
/-! ### the walks of the law -/
theorem fine_nls {n : Nat} {xs : List Nat} : ∀ x ∈ nls xs, fine (n + 1) x := fun x hx => by
  obtain ⟨i, _, rfl⟩ := List.mem_map.mp hx
  trivial
theorem fine_encL {o : Option (List Nat)} (h : ∀ w, o = some w → w.length ≤ 1000000) : fine 8 (encL o) := by
  cases o with
  | none => trivial
  | some w => exact fine_tup (by rw [nls_length]; exact h w rfl) fine_nls
theorem same_encL {o : Option (List Nat)} (h : ∀ w, o = some w → w.length ≤ 1000000) : m_law_same 8 [encL o, encL o] = some (.val (.bl true)) := same_refl 8 _ (fine_encL h)
theorem same_two (a b : Int) : m_law_same 8 [.tup [.int a, .int b], .tup [.int a, .int b]] = some (.val (.bl true)) := same_refl 8 _ (fine_tup (by simp) fun x hx => by
  simp only [List.mem_cons, List.not_mem_nil, or_false] at hx
  rcases hx with rfl | rfl <;> trivial)
def closed (m : Cl) (x d : Nat) (c : Int) : Cl := m.set x ((crow m x).set d (some c))
theorem crow_closed {m : Cl} {x d : Nat} {c : Int} (hx : x < m.length) (i : Nat) : crow (closed m x d c) i = if i = x then (crow m x).set d (some c) else crow m i := by
  unfold closed
  by_cases e : i = x
  · subst e
    rw [if_pos rfl]
    show (m.set i _).getD i [] = _
    rw [List.getD_eq_getElem?_getD, List.getElem?_set_self hx]
    rfl
  · rw [if_neg e]
    show (m.set x _).getD i [] = m.getD i []
    rw [List.getD_eq_getElem?_getD, List.getD_eq_getElem?_getD, List.getElem?_set_ne fun c => e c.symm]
theorem TM.closed {t : List Pl} {m : Cl} (ok : TM t m) {x d : Nat} {c : Int} (hx : x < t.length) : TM t (closed m x d c) := by
  refine ⟨ok.pos, ok.few, ok.pl, by unfold Pw.closed; rw [List.length_set]; exact ok.len, fun i => ?_⟩
  rw [crow_closed (ok.len ▸ hx)]
  split
  · rename_i e
    subst e
    rw [List.length_set]
    exact ok.rows i
  · exact ok.rows i
theorem closed_none {t : List Pl} {m : Cl} (ok : TM t m) {i x d : Nat} {T : Int} {w : List Nat} (hi : i < t.length) (h : endd t i w = some x) (hd : d < (row t x).length) (hx : x < t.length) : wlk t (closed m x d (T + w.length)) i T (w ++ [d]) = none := by
  rw [wlk_app]
  cases e : wlk t (closed m x d (T + w.length)) i T w with
  | none => rfl
  | some j =>
    have h2 := wlk_endd e
    rw [h] at h2
    cases h2
    show wlk _ _ _ _ _ = _
    rw [wlk_cons]
    have hc : psb (closed m x d (T + w.length)) x d (T + w.length) = false := by
      have : cls (closed m x d (T + w.length)) x d = some (T + w.length) := by
        unfold cls
        rw [crow_closed (ok.len ▸ hx), if_pos rfl, List.getElem?_set_self (by rw [ok.rows]; exact hd)]
        rfl
      unfold psb
      rw [this]
      simp
    cases stp t x d with
    | none => rfl
    | some y =>
      dsimp only
      rw [hc]
      rfl
theorem closed_eq {t : List Pl} {m : Cl} (ok : TM t m) {x d : Nat} {c : Int} (hx : x < t.length) (hd : d < (row t x).length) : m_law_put [.tup (encC (crow m x)), .int d, .int c] = some (.val (.tup (encC ((crow m x).set d (some c))))) ∧ m_law_put [encM m, .int x, .tup (encC ((crow m x).set d (some c)))] = some (.val (encM (closed m x d c))) := by
  have hr := ok.rows x
  have hl := row_len ok x
  have hf := ok.few
  have hm := ok.len
  constructor
  · rw [put_eq (encC (crow m x)) d (.int c) (by rw [encC_len]; omega) (by rw [encC_len]; omega)]
    simp [encC, List.map_set, optI]
  · unfold encM
    rw [put_eq _ x _ (by rw [List.length_map]; omega) (by rw [List.length_map]; omega)]
    simp [closed, List.map_set]
def dWR : DS := (dSeq (dSet 6 (vl (dIxN 4 (dNm 5))))
        (dSeq (dIfS (dBNot (dTr (fz (dC0 (m_law_same 8) (dCons (fz (dC0 (m_first_timed_walk) (dCons (dNm 0) (dCons (dNm 1) (dCons (dNm 2) (dCons (dNm 3) (dCons (dNm 5) (dNil)))))))) (dCons (dNm 6) (dNil))))))) (dRt (vl (dBl false))) (dSkip))
        (dSeq (dIfS (dTr (dNotN (dPk 6))) (dSeq (dIfS (dBNot (dTr (fz (dC0 (m_law_same 8) (dCons (fz (dC0 (m_timed_end) (dCons (dNm 0) (dCons (dNm 1) (dCons (dNm 2) (dCons (dNm 3) (dCons (dNm 6) (dNil)))))))) (dCons (dTup (dCons (dNm 5) (dCons (dOp gAdd (dNm 3) (dUn gLen (dPk 6))) (dNil)))) (dNil))))))) (dRt (vl (dBl false))) (dSkip))
        (dIfS (dBNot (dTr (fz (dC0 (m_law_same 8) (dCons (fz (dC0 (m_timed_end) (dCons (dNm 0) (dCons (dNm 1) (dCons (dNm 2) (dCons (dNm 3) (dCons (dOp gAdd (dNm 6) (dTup (dCons (dUn gNeg (dInt 1)) (dNil)))) (dNil)))))))) (dCons (dTup (dCons (dNm 5) (dCons (dOp gAdd (dOp gAdd (dNm 3) (dUn gLen (dPk 6))) (dInt 1)) (dNil)))) (dNil))))))) (dRt (vl (dBl false))) (dSkip))) (dSkip))
        (dIfS (dBAnd (dTr (dNotN (dPk 6))) (dTr (dOp gGt (dUn gLen (dPk 6)) (dInt 0)))) (dSeq (dSet 7 (dC0 (m_law_end) (dCons (dNm 0) (dCons (dNm 2) (dCons (fz (dSlN 6 (dPn) (dPt (dUn gNeg (dInt 1))))) (dNil))))))
        (dSeq (dSet 8 (dC0 (m_law_put) (dCons (dNm 1) (dCons (dNm 7) (dCons (fz (dC0 (m_law_put) (dCons (dIxN 1 (dNm 7)) (dCons (dIxN 6 (dUn gNeg (dInt 1))) (dCons (dOp gSub (dOp gAdd (dNm 3) (dUn gLen (dPk 6))) (dInt 1)) (dNil)))))) (dNil))))))
        (dIfS (dTr (dNotN (fz (dC0 (m_timed_end) (dCons (dNm 0) (dCons (dNm 8) (dCons (dNm 2) (dCons (dNm 3) (dCons (dNm 6) (dNil)))))))))) (dRt (vl (dBl false))) (dSkip)))) (dSkip)))))
def rE (t : List Pl) (m : Cl) (i : Nat) (T : Int) (a b c d : Sl) : Ev := [.val (encT t), .val (encM m), .val (.int i), .val (.int T), .mu .own (.lst (RW t.length (fin t m T i))), a, b, c, d]
theorem wr_step {t : List Pl} {m : Cl} (ok : TM t m) {T : Int} {i : Nat} (hi : i < t.length) {j : Nat} (hj : j < t.length) (a b c d : Sl) : ∃ b' c' d', dTurn (gN 5) dWR (.int j) (rE t m i T a b c d) = some (.nx (rE t m i T (.val (.int j)) b' c' d')) := by
  have g1 : gIx (.lst (RW t.length (fin t m T i))) (.int j) = some (encL (look (fin t m T i) j)) := RW_at _ hj
  have g2 := first_walk_eq ok (T := T) hi j
  have hf := ok.few
  have g3 := same_encL (o := look (fin t m T i) j) fun w hw => by have := (look_wlk ok hi hw).2; omega
  cases e : look (fin t m T i) j with
  | none =>
    rw [e] at g1 g2 g3
    refine ⟨.val .non, c, d, ?_⟩
    have e0 : encL none = .non := rfl
    rw [e0] at g1 g2 g3
    simp [-gIx, dWR, rE, g1, g2, g3]
  | some w =>
    rw [e] at g1 g2 g3
    obtain ⟨hw, hl⟩ := look_wlk ok hi e
    have e0 : encL (some w) = .tup (nls w) := rfl
    rw [e0] at g1 g2 g3
    have g4 := te_some ok hi hw
    have g5 := te_more ok hi hw
    have s1 := same_two j (T + w.length)
    have s2 := same_two j (T + w.length + 1)
    have f1 : fits ((nls w).length + 1) = true := fits_of (by rw [nls_length]; omega)
    have ga : gAdd (.tup (nls w)) (.tup [.int (-1)]) = some (.tup (nls w ++ [.int (-1)])) := if_pos f1
    have gb : gAdd (.int T) (.int (w.length : Int)) = some (.int (T + w.length)) := rfl
    have gc : gAdd (.int (T + w.length)) (.int 1) = some (.int (T + w.length + 1)) := rfl
    have gl1 : gLen (.tup (nls w)) = some (.int w.length) := by simp [nls_length]
    obtain ⟨n, hn⟩ : ∃ n, w.length = n := ⟨_, rfl⟩
    rw [hn] at g4 g5 s1 s2 gb gc gl1
    rcases List.eq_nil_or_concat w with rfl | ⟨w', d0, rfl⟩
    · refine ⟨.val (.tup (nls [])), c, d, ?_⟩
      show dWR (rE t m i T (.val (.int j)) b c d) = _
      unfold dWR
      refine (dSeq_nx (Γ1 := rE t m i T (.val (.int j)) (.val (.tup (nls []))) c d) (by simp [-gIx, rE, g1])).trans ?_
      refine (dSeq_nx (Γ1 := rE t m i T (.val (.int j)) (.val (.tup (nls []))) c d) (by simp [rE, g2, g3])).trans ?_
      refine (dSeq_nx (Γ1 := rE t m i T (.val (.int j)) (.val (.tup (nls []))) c d) (by simp [-gAdd, -gLen, rE, g4, g5, s1, s2, ga, gb, gc, gl1, mkT])).trans ?_
      have : n = 0 := hn.symm
      subst this
      simp [-gLen, rE, gl1]
    · rw [List.concat_eq_append] at *
      have hw2 := hw
      rw [wlk_app] at hw2
      obtain ⟨x, h1, h2⟩ := Option.bind_eq_some_iff.mp hw2
      have he := wlk_endd h1
      rw [wlk_cons] at h2
      have hst : ∃ y, stp t x d0 = some y := by
        cases e : stp t x d0 with
        | none => rw [e] at h2; cases h2
        | some y => exact ⟨y, rfl⟩
      obtain ⟨y, hy⟩ := hst
      have hd := od_lt (mem_od.mpr ⟨y, hy⟩)
      have hx : x < t.length := by
        apply Classical.byContradiction
        intro c
        unfold row at hd
        rw [List.getD_eq_getElem?_getD, List.getElem?_eq_none (by omega)] at hd
        exact Nat.not_lt_zero _ hd
      have k1 := law_end_eq ok hi he
      obtain ⟨k2, k3⟩ := closed_eq ok (c := T + w'.length) hx hd
      have k4 := closed_none ok (T := T) hi he hd hx
      have k5 := te_none (ok.closed (d := d0) (c := T + w'.length) hx) hi k4
      have k6 : gSl (.tup (nls (w' ++ [d0]))) none (some (-1)) = some (.val (.tup (nls w'))) := by
        rw [← nls_app]
        show some (Rs.val (.tup (cutA _ _ _))) = _
        rw [cut_init]
      have k7 : gIx (.tup (nls (w' ++ [d0]))) (.int (-1)) = some (.int d0) := by
        rw [← nls_app]
        exact atI_last
      have k8 := ixC ok hx
      have k10 : n = w'.length + 1 := by rw [← hn]; simp
      have k9 : gSub (.int (T + n)) (.int 1) = some (.int (T + w'.length)) := by
        show some (PV.int _) = _
        congr 2
        omega
      have k10 : 0 < n := by omega
      refine ⟨.val (.tup (nls (w' ++ [d0]))), .val (.int x), .val (encM (closed m x d0 (T + w'.length))), ?_⟩
      show dWR (rE t m i T (.val (.int j)) b c d) = _
      have k11 : (0 : Int) < n := by omega
      unfold dWR
      refine (dSeq_nx (Γ1 := rE t m i T (.val (.int j)) (.val (.tup (nls (w' ++ [d0])))) c d) (by simp [-gIx, rE, g1])).trans ?_
      refine (dSeq_nx (Γ1 := rE t m i T (.val (.int j)) (.val (.tup (nls (w' ++ [d0])))) c d) (by simp [rE, g2, g3])).trans ?_
      refine (dSeq_nx (Γ1 := rE t m i T (.val (.int j)) (.val (.tup (nls (w' ++ [d0])))) c d) (by simp [-gAdd, -gLen, rE, g4, g5, s1, s2, ga, gb, gc, gl1, mkT])).trans ?_
      simp [-gAdd, -gLen, -gIx, -gSl, -gSub, rE, gl1, gb, k1, k2, k3, k5, k6, k7, k8, k9, k10]
theorem walks_right_eq {t : List Pl} {m : Cl} (ok : TM t m) {T : Int} {i : Nat} (hi : i < t.length) : m_law_timed_walks_right [encT t, encM m, .int i, .int T] = some (.val (.bl true)) := by
  have e1 := rows_eq ok (T := T) hi
  have hf := ok.few
  have e4 : gLen (encT t) = some (.int t.length) := by simp [encT]
  let I : Nat → Ev → Prop := fun k Γ => ∃ a b c d, Γ = rE t m i T a b c d
  obtain ⟨Γ', e, a, b, c, d, rfl⟩ := loopD_inv (step := dTurn (gN 5) dWR) I (rgP 0 t.length) 0 (rE t m i T .un .un .un .un) ⟨_, _, _, _, rfl⟩ fun k x Γ hx ⟨a, b, c, d, hΓ⟩ => by
    obtain ⟨hk, rfl⟩ := rgP_get hx
    subst hΓ
    rw [Int.zero_add]
    obtain ⟨b', c', d', e⟩ := wr_step ok (T := T) hi hk a b c d
    exact ⟨_, .inl e, _, _, _, _, rfl⟩
  refine sem0_rt rfl (Γ' := rE t m i T a b c d) ?_
  unfold d_law_timed_walks_right
  refine (dSeq_nx (Γ1 := rE t m i T .un .un .un .un) (by simp [e1, rE])).trans ?_
  refine (dSeq_nx ((dFor_of (xs := rgP 0 t.length) (by simp [-gLen, rE, e4, itR1_nat (show t.length ≤ 1000000 by omega)])).trans e)).trans ?_
  simp
/-! ### last times -/
abbrev Lv := Option (Option Int)
def encV : Lv → PV
  | none => .non
  | some none => .str "always"
  | some (some i) => .int i
def encVs (V : List Lv) : List PV := V.map encV
@[simp] theorem encVs_len (V : List Lv) : (encVs V).length = V.length := List.length_map _
def lat : Lv → Lv → Lv
  | none, y => y
  | x, none => x
  | some none, _ => some none
  | _, some none => some none
  | some (some a), some (some b) => some (some (if b > a then b else a))
def thr (c : Option Int) : Lv → Lv
  | none => none
  | some none => match c with
    | none => some none
    | some c => some (some (c - 1))
  | some (some b) => match c with
    | none => some (some (b - 1))
    | some c => some (some ((if b < c then b else c) - 1))
def rch : Lv → Int → Prop
  | none, _ => False
  | some none, _ => True
  | some (some l), τ => τ ≤ l
theorem rch_ext : ∀ {x y : Lv}, (∀ τ, rch x τ ↔ rch y τ) → x = y
  | none, none, _ => rfl
  | none, some none, h => ((h 0).mpr trivial).elim
  | none, some (some l), h => ((h l).mpr (Int.le_refl _)).elim
  | some none, none, h => ((h 0).mp trivial).elim
  | some none, some none, _ => rfl
  | some none, some (some l), h => by
    have : l + 1 ≤ l := (h (l + 1)).mp trivial
    omega
  | some (some l), none, h => ((h l).mp (Int.le_refl _)).elim
  | some (some l), some none, h => by
    have : l + 1 ≤ l := (h (l + 1)).mpr trivial
    omega
  | some (some l), some (some k), h => by
    have h1 : l ≤ k := (h l).mp (Int.le_refl _)
    have h2 : k ≤ l := (h k).mpr (Int.le_refl _)
    rw [show l = k by omega]
theorem rch_le : ∀ {x : Lv} {τ τ' : Int}, rch x τ → τ' ≤ τ → rch x τ'
  | none, _, _, h, _ => h
  | some none, _, _, _, _ => trivial
  | some (some l), τ, τ', h, hl => by
    have h : τ ≤ l := h
    show τ' ≤ l
    omega
theorem rch_lat (x y : Lv) (τ : Int) : rch (lat x y) τ ↔ rch x τ ∨ rch y τ := by
  rcases x with _ | _ | a <;> rcases y with _ | _ | b <;> simp only [lat, rch, or_false, false_or, or_true, true_or]
  split <;> omega
theorem rch_thr (m : Cl) (p d : Nat) (b : Lv) (τ : Int) : rch (thr (cls m p d) b) τ ↔ psb m p d τ = true ∧ rch b (τ + 1) := by
  unfold psb
  cases cls m p d with
  | none =>
    rcases b with _ | _ | b <;> simp only [thr, rch, true_and, and_false]
    omega
  | some c =>
    rcases b with _ | _ | b <;> simp only [thr, rch, and_true, and_false, decide_eq_true_eq]
    · omega
    · split <;> omega
theorem okAl : shp (.str "always") = true := shp_str (by decide +kernel)
theorem eqA (v : Lv) : gEq (encV v) (.str "always") = some (.bl (decide (v = some none))) := by
  rcases v with _ | _ | i
  · have : pvEq .non (.str "always") = false := rfl
    simp [gEq, encV, okAl, this]
  · simp [gEq, encV, okAl]
  · have : pvEq (.int i) (.str "always") = false := rfl
    simp [gEq, encV, okAl, this]
theorem neV (x y : Lv) : gNe (encV x) (encV y) = some (.bl (decide (x ≠ y))) := by
  have a1 : ∀ i, pvEq .non (.int i) = false := fun _ => rfl
  have a2 : ∀ i, pvEq .non (.str i) = false := fun _ => rfl
  have a3 : ∀ i, pvEq (.int i) .non = false := fun _ => rfl
  have a4 : ∀ i j, pvEq (.int i) (.str j) = false := fun _ _ => rfl
  have a5 : ∀ i j, pvEq (.str i) (.int j) = false := fun _ _ => rfl
  have a6 : ∀ i, pvEq (.str i) .non = false := fun _ => rfl
  rcases x with _ | _ | i <;> rcases y with _ | _ | j <;> simp [gNe, encV, okAl, a1, a2, a3, a4, a5, a6]
  rw [Bool.eq_iff_iff]
  simp
theorem through_eq (c : Option Int) (b : Lv) : m_last_through [optI c, encV b] = some (.val (encV (thr c b))) := by
  have e := eqA b
  rcases b with _ | _ | b <;> rcases c with _ | c <;> simp [-gEq, m_last_through, d_last_through, encV, optI, thr] at e ⊢ <;> simp [-gEq, e]
theorem later_one_eq (x y : Lv) : m_later_one [encV x, encV y] = some (.val (encV (lat x y))) := by
  have e1 := eqA x
  have e2 := eqA y
  rcases x with _ | _ | a <;> rcases y with _ | _ | b <;> simp [-gEq, m_later_one, d_later_one, encV, lat] at e1 e2 ⊢ <;> simp [-gEq, e1, e2]
theorem earlier_eq (c : Option Int) (b : Lv) (h : b ≠ none) : m_law_earlier [encV b, optI c] = some (.val (encV (thr c b))) := by
  have e := eqA b
  rcases b with _ | _ | b
  · exact absurd rfl h
  · rcases c with _ | c <;> simp [-gEq, m_law_earlier, d_law_earlier, encV, optI, thr] at e ⊢ <;> simp [-gEq, e]
  · rcases c with _ | c <;> simp [-gEq, m_law_earlier, d_law_earlier, encV, optI, thr] at e ⊢ <;> simp [-gEq, e]
theorem later_eq (x y : Lv) (h : y ≠ none) : m_law_later [encV x, encV y] = some (.val (encV (lat x y))) := by
  have e1 := eqA x
  have e2 := eqA y
  rcases y with _ | _ | b
  · exact absurd rfl h
  · rcases x with _ | _ | a <;> simp [-gEq, m_law_later, d_law_later, encV, lat] at e1 e2 ⊢ <;> simp [-gEq, e1, e2]
  · rcases x with _ | _ | a <;> simp [-gEq, m_law_later, d_law_later, encV, lat] at e1 e2 ⊢ <;> simp [-gEq, e1, e2]
def gv (V : List Lv) (p : Nat) : Lv := V.getD p none
def updP (t : List Pl) (m : Cl) (V : List Lv) (p : Nat) : Lv := (od t p).foldl (fun x d => lat x (thr (cls m p d) (gv V (gl t p d)))) (gv V p)
def setP (t : List Pl) (m : Cl) (V : List Lv) (p : Nat) : List Lv := V.set p (updP t m V p)
def round (t : List Pl) (m : Cl) (V : List Lv) : List Lv := (List.range t.length).foldl (setP t m) V
def rnds (t : List Pl) (m : Cl) : Nat → List Lv → List Lv
  | 0, V => V
  | k + 1, V => rnds t m k (round t m V)
theorem rnds_fix {t : List Pl} {m : Cl} {V : List Lv} (h : round t m V = V) : ∀ k, rnds t m k V = V
  | 0 => rfl
  | k + 1 => by
    show rnds t m k (round t m V) = V
    rw [h]
    exact rnds_fix h k
theorem setP_len (t : List Pl) (m : Cl) (V : List Lv) (p : Nat) : (setP t m V p).length = V.length := List.length_set
theorem fold_len (t : List Pl) (m : Cl) : ∀ (ks : List Nat) (V : List Lv), (ks.foldl (setP t m) V).length = V.length
  | [], _ => rfl
  | k :: ks, V => by rw [List.foldl_cons, fold_len t m ks, setP_len]
theorem gv_set {V : List Lv} {p q : Nat} {x : Lv} (hp : p < V.length) : gv (V.set p x) q = if q = p then x else gv V q := by
  unfold gv
  rw [List.getD_eq_getElem?_getD, List.getD_eq_getElem?_getD, List.getElem?_set]
  split
  · rename_i e
    subst e
    rw [if_pos rfl]
    rfl
  · rename_i e
    rw [if_neg fun c => e c.symm]
theorem at_V {V : List Lv} {p : Nat} (h : p < V.length) : gIx (.lst (encVs V)) (.int p) = some (encV (gv V p)) := by
  refine atI_of ?_
  unfold encVs gv
  rw [List.getElem?_map, List.getD_eq_getElem?_getD, List.getElem?_eq_getElem h]
  rfl
theorem set_V {V : List Lv} {p : Nat} {x : Lv} (h : p < V.length) : gSto (.lst (encVs V)) (.int p) (encV x) = some (.lst (encVs (V.set p x))) := by
  rw [gSto_lst (by rw [encVs_len]; exact h)]
  simp [encVs, List.map_set]
theorem rch_fold {t : List Pl} {m : Cl} (V : List Lv) (p : Nat) (τ : Int) : ∀ (ds : List Nat) (x : Lv), rch (ds.foldl (fun x d => lat x (thr (cls m p d) (gv V (gl t p d)))) x) τ ↔ rch x τ ∨ ∃ d ∈ ds, psb m p d τ = true ∧ rch (gv V (gl t p d)) (τ + 1)
  | [], x => by simp
  | d :: ds, x => by
    rw [List.foldl_cons, rch_fold V p τ ds, rch_lat, rch_thr]
    simp only [List.mem_cons]
    constructor
    · rintro ((h | h) | ⟨d', h1, h2⟩)
      · exact .inl h
      · exact .inr ⟨d, .inl rfl, h⟩
      · exact .inr ⟨d', .inr h1, h2⟩
    · rintro (h | ⟨d', rfl | h1, h2⟩)
      · exact .inl (.inl h)
      · exact .inl (.inr h2)
      · exact .inr ⟨d', h1, h2⟩
theorem rch_upd {t : List Pl} {m : Cl} {V : List Lv} {p : Nat} {τ : Int} : rch (updP t m V p) τ ↔ rch (gv V p) τ ∨ ∃ d ∈ od t p, psb m p d τ = true ∧ rch (gv V (gl t p d)) (τ + 1) := rch_fold V p τ _ _
/-! #### the law's doors -/
def stepD (t : List Pl) (m : Cl) (tg p : Nat) (V : List Lv) (d : Nat) : List Lv := if p ≠ tg ∧ gv V (gl t p d) ≠ none then V.set p (lat (gv V p) (thr (cls m p d) (gv V (gl t p d)))) else V
theorem lat_none (x : Lv) : lat x none = x := by rcases x with _ | _ | a <;> rfl
theorem lat_self {m : Cl} {p d : Nat} {x y : Lv} (h : ∀ τ, rch y τ → rch x τ) : lat x (thr (cls m p d) y) = x := rch_ext fun τ => by
  rw [rch_lat, rch_thr]
  constructor
  · rintro (h1 | ⟨_, h1⟩)
    · exact h1
    · exact h _ (rch_le h1 (by omega))
  · exact .inl
theorem steps_eq {t : List Pl} {m : Cl} {tg p : Nat} (hp : p ≠ tg) {V : List Lv} (hl : p < V.length) : ∀ (ds : List Nat) (x : Lv), (∀ τ, rch (gv V p) τ → rch x τ) → ds.foldl (stepD t m tg p) (V.set p x) = V.set p (ds.foldl (fun x d => lat x (thr (cls m p d) (gv V (gl t p d)))) x)
  | [], _, _ => rfl
  | d :: ds, x, hx => by
    rw [List.foldl_cons, List.foldl_cons]
    have e : stepD t m tg p (V.set p x) d = V.set p (lat x (thr (cls m p d) (gv V (gl t p d)))) := by
      unfold stepD
      rw [gv_set hl, gv_set hl, if_pos rfl]
      by_cases c : gl t p d = p
      · rw [if_pos c, c, lat_self hx]
        split
        · rw [List.set_set, lat_self fun τ h => h]
        · rfl
      · rw [if_neg c]
        by_cases c2 : gv V (gl t p d) = none
        · rw [if_neg fun h => h.2 c2, c2]
          show _ = V.set p (lat x none)
          rw [lat_none]
        · rw [if_pos ⟨hp, c2⟩, List.set_set]
    rw [e]
    exact steps_eq hp hl ds _ fun τ h => (rch_lat _ _ _).mpr (.inl (hx τ h))
theorem set_gv {V : List Lv} {p : Nat} (h : p < V.length) : V.set p (gv V p) = V := by
  apply List.ext_getElem?
  intro j
  rw [List.getElem?_set]
  split
  · rename_i e
    subst e
    unfold gv
    rw [List.getD_eq_getElem?_getD, List.getElem?_eq_getElem h]
    rfl
  · rfl
theorem upd_tg {t : List Pl} {m : Cl} {V : List Lv} {tg : Nat} (h : gv V tg = some none) : updP t m V tg = some none := rch_ext fun τ => by
  rw [rch_upd, h]
  exact ⟨fun _ => trivial, fun h => .inl h⟩
theorem doors_eq {t : List Pl} {m : Cl} {tg p : Nat} {V : List Lv} (hl : p < V.length) (h : gv V tg = some none) : (od t p).foldl (stepD t m tg p) V = setP t m V p := by
  by_cases hp : p = tg
  · subst hp
    unfold setP
    rw [upd_tg h, ← h, set_gv hl]
    have : ∀ ds : List Nat, ds.foldl (stepD t m p p) V = V := fun ds => by
      induction ds with
      | nil => rfl
      | cons d ds ih =>
        rw [List.foldl_cons]
        have : stepD t m p p V d = V := if_neg fun h => h.1 rfl
        rw [this]
        exact ih
    exact this _
  · have := steps_eq (t := t) (m := m) hp hl (od t p) (gv V p) fun _ h => h
    rw [set_gv hl] at this
    exact this
theorem setP_tg {t : List Pl} {m : Cl} {V : List Lv} {tg p : Nat} (hl : p < V.length) (h : gv V tg = some none) : gv (setP t m V p) tg = some none := by
  unfold setP
  rw [gv_set hl]
  split
  · rename_i e
    subst e
    exact upd_tg h
  · exact h
/-! #### the rounds are right -/
def Sound (t : List Pl) (m : Cl) (tg : Nat) (V : List Lv) : Prop := ∀ p τ, rch (gv V p) τ → Rch t m tg p τ
theorem sound_set {t : List Pl} {m : Cl} {tg : Nat} {V : List Lv} {p : Nat} (hl : p < V.length) (h : Sound t m tg V) : Sound t m tg (setP t m V p) := by
  intro q τ hq
  unfold setP at hq
  rw [gv_set hl] at hq
  split at hq
  · rename_i e
    subst e
    rcases rch_upd.mp hq with hq | ⟨d, hd, h1, h2⟩
    · exact h _ _ hq
    · obtain ⟨w, hw⟩ := h _ _ h2
      obtain ⟨j, hj⟩ := mem_od.mp hd
      rw [gl_of hj] at hw
      refine ⟨d :: w, ?_⟩
      rw [wlk_cons, hj]
      dsimp only
      rw [if_pos h1]
      exact hw
  · exact h _ _ hq
theorem mono_set {t : List Pl} {m : Cl} {V : List Lv} {p q : Nat} {τ : Int} (hl : p < V.length) (h : rch (gv V q) τ) : rch (gv (setP t m V p) q) τ := by
  unfold setP
  rw [gv_set hl]
  split
  · rename_i e
    subst e
    exact rch_upd.mpr (.inl h)
  · exact h
theorem round_go {t : List Pl} {m : Cl} {tg : Nat} {V : List Lv} (hV : V.length = t.length) (hs : Sound t m tg V) (ht : gv V tg = some none) : ∀ k ≤ t.length, Sound t m tg ((List.range k).foldl (setP t m) V) ∧ gv ((List.range k).foldl (setP t m) V) tg = some none ∧ (∀ q τ, rch (gv V q) τ → rch (gv ((List.range k).foldl (setP t m) V) q) τ) ∧
    ∀ p < k, ∀ τ, (∃ d ∈ od t p, psb m p d τ = true ∧ rch (gv V (gl t p d)) (τ + 1)) → rch (gv ((List.range k).foldl (setP t m) V) p) τ
  | 0, _ => ⟨hs, ht, fun _ _ h => h, fun p hp => absurd hp (Nat.not_lt_zero _)⟩
  | k + 1, hk => by
    obtain ⟨h1, h2, h3, h4⟩ := round_go hV hs ht k (by omega)
    have hl := fold_len t m (List.range k) V
    rw [List.range_succ, List.foldl_append]
    show Sound t m tg (setP t m _ k) ∧ gv (setP t m _ k) tg = _ ∧ (∀ q τ, _ → rch (gv (setP t m _ k) q) τ) ∧ ∀ p < k + 1, ∀ τ, _ → rch (gv (setP t m _ k) p) τ
    generalize (List.range k).foldl (setP t m) V = W at *
    have hkW : k < W.length := by omega
    refine ⟨sound_set hkW h1, setP_tg hkW h2, fun q τ h => mono_set hkW (h3 q τ h), fun p hp τ h => ?_⟩
    by_cases c : p < k
    · exact mono_set hkW (h4 p c τ h)
    · have : p = k := by omega
      subst this
      unfold setP
      rw [gv_set hkW, if_pos rfl]
      obtain ⟨d, a, b, c⟩ := h
      exact rch_upd.mpr (.inr ⟨d, a, b, h3 _ _ c⟩)
def Cmp (t : List Pl) (m : Cl) (tg k : Nat) (V : List Lv) : Prop := ∀ p w τ, p < t.length → w.length ≤ k → wlk t m p τ w = some tg → rch (gv V p) τ
theorem rnds_go {t : List Pl} {m : Cl} (ok : TM t m) {tg : Nat} : ∀ (n k : Nat) {V : List Lv}, V.length = t.length → Sound t m tg V → gv V tg = some none → Cmp t m tg k V → (rnds t m n V).length = t.length ∧ Sound t m tg (rnds t m n V) ∧ Cmp t m tg (k + n) (rnds t m n V)
  | 0, k, V, hV, hs, _, hc => ⟨hV, hs, hc⟩
  | n + 1, k, V, hV, hs, ht, hc => by
    obtain ⟨h1, h2, h3, h4⟩ := round_go hV hs ht t.length (Nat.le_refl _)
    have := rnds_go ok (tg := tg) n (k + 1) (V := round t m V) (by unfold round; rw [fold_len]; exact hV) h1 h2 fun p w τ hp hw h => by
      cases w with
      | nil => exact h3 p τ (hc p [] τ hp (Nat.zero_le _) h)
      | cons d w =>
        rw [wlk_cons] at h
        cases e : stp t p d with
        | none => rw [e] at h; cases h
        | some j =>
          rw [e] at h
          dsimp only at h
          split at h
          · rename_i hps
            refine h4 p hp τ ⟨d, mem_od.mpr ⟨j, e⟩, hps, ?_⟩
            rw [gl_of e]
            exact hc j w (τ + 1) (stp_lt ok e) (by simpa using hw) h
          · cases h
    rw [show k + (n + 1) = k + 1 + n by omega]
    exact this
def V0 (n tg : Nat) : List Lv := (List.replicate n none).set tg (some none)
theorem rnds_right {t : List Pl} {m : Cl} (ok : TM t m) {tg : Nat} (htg : tg < t.length) : (rnds t m t.length (V0 t.length tg)).length = t.length ∧ ∀ p τ, p < t.length → (rch (gv (rnds t m t.length (V0 t.length tg)) p) τ ↔ Rch t m tg p τ) := by
  have hl : (V0 t.length tg).length = t.length := by unfold V0; rw [List.length_set, List.length_replicate]
  have hg : ∀ p, gv (V0 t.length tg) p = if p = tg then some none else none := fun p => by
    unfold V0
    rw [gv_set (by rw [List.length_replicate]; exact htg)]
    split
    · rfl
    · unfold gv
      rw [List.getD_eq_getElem?_getD, List.getElem?_replicate]
      split <;> rfl
  obtain ⟨h1, h2, h3⟩ := rnds_go ok (tg := tg) t.length 0 hl (fun p τ h => by
    rw [hg] at h
    split at h
    · rename_i e
      exact ⟨[], by rw [e]; rfl⟩
    · exact h.elim) (by rw [hg, if_pos rfl]) fun p w τ hp hw h => by
      have : w = [] := List.eq_nil_of_length_eq_zero (by omega)
      subst this
      have : p = tg := Option.some.inj h
      rw [hg, if_pos this]
      trivial
  refine ⟨h1, fun p τ hp => ⟨h2 p τ, fun h => ?_⟩⟩
  obtain ⟨w, hw⟩ := (look_iff ok hp tg).mpr h
  obtain ⟨h4, h5⟩ := look_wlk ok hp hw
  exact h3 p w τ hp (by omega) h4
/-! ### last times: the program's and the law's -/
def dP2 : DS := dSet 7 (dC0 (m_later_one) (dCons (dNm 7) (dCons (fz (dC0 (m_last_through) (dCons (dOp gIx (dIxN 1 (dNm 6)) (dNm 8)) (dCons (dIxN 3 (dNm 9)) (dNil))))) (dNil))))
def dP1 : DS := (dSeq (dSet 7 (vl (dIxN 3 (dNm 6))))
        (dSeq (dFor (dIt itP (fz (dC0 (m_open_doors) (dCons (dNm 0) (dCons (dNm 6) (dNil)))))) (gT 2 (gsC (gN 8) (gsC (gN 9) (gsN)))) dP2)
        (dIfS (dTr (dOp gNe (dNm 7) (dIxN 3 (dNm 6)))) (dSeq (dSto 3 (dNm 7) (dNm 6))
        (dSet 5 (vl (dBl true)))) (dSkip))))
def dP0 : DS := (dSeq (dSet 5 (vl (dBl false)))
        (dSeq (dFor (dIt itR1 (dUn gLen (dPk 0))) (gN 6) dP1)
        (dIfS (dBNot (dTr (dNm 5))) (dBk) (dSkip))))
def pE (t : List Pl) (m : Cl) (tg : Nat) (V : List Lv) (a4 a5 a6 a7 a8 a9 : Sl) : Ev := [.val (encT t), .val (encM m), .val (.int tg), .mu .own (.lst (encVs V)), a4, a5, a6, a7, a8, a9]
theorem lp_doors {t : List Pl} {m : Cl} (ok : TM t m) (tg : Nat) {V : List Lv} (hV : V.length = t.length) (a4 a5 : Sl) {p : Nat} (hp : p < t.length) : ∀ (ds : List Nat) (x : Lv) (a8 a9 : Sl), (∀ d ∈ ds, d ∈ od t p) → ∃ b8 b9, loopD (dTurn (gT 2 (gsC (gN 8) (gsC (gN 9) (gsN)))) dP2) (ds.map (encDG t p)) (pE t m tg V a4 a5 (.val (.int p)) (.val (encV x)) a8 a9) = some (.nx (pE t m tg V a4 a5 (.val (.int p)) (.val (encV (ds.foldl (fun x d => lat x (thr (cls m p d) (gv V (gl t p d)))) x))) b8 b9))
  | [], x, a8, a9, _ => ⟨a8, a9, rfl⟩
  | d :: ds, x, a8, a9, hd => by
    have h0 := hd d List.mem_cons_self
    obtain ⟨b8, b9, ih⟩ := lp_doors ok tg hV a4 a5 hp ds (lat x (thr (cls m p d) (gv V (gl t p d)))) (.val (.int d)) (.val (.int (gl t p d))) fun y hy => hd y (List.mem_cons_of_mem _ hy)
    refine ⟨b8, b9, ?_⟩
    rw [List.map_cons, List.foldl_cons, loopD]
    have g1 := ixC ok hp
    have g2 := at_C ok (od_lt h0)
    have g3 := at_V (V := V) (p := gl t p d) (by rw [hV]; exact gl_lt ok h0)
    have g4 := through_eq (cls m p d) (gv V (gl t p d))
    have g5 := later_one_eq x (thr (cls m p d) (gv V (gl t p d)))
    have ht : dTurn (gT 2 (gsC (gN 8) (gsC (gN 9) (gsN)))) dP2 (encDG t p d) (pE t m tg V a4 a5 (.val (.int p)) (.val (encV x)) a8 a9) = some (.nx (pE t m tg V a4 a5 (.val (.int p)) (.val (encV (lat x (thr (cls m p d) (gv V (gl t p d)))))) (.val (.int d)) (.val (.int (gl t p d))))) := by
      simp [-gIx, dP2, pE, encDG, g1, g2, g3, g4, g5]
    rw [ht]
    exact ih
theorem lp_place {t : List Pl} {m : Cl} (ok : TM t m) (tg : Nat) {V : List Lv} (hV : V.length = t.length) (a4 a6 a7 a8 a9 : Sl) (ch : Bool) {p : Nat} (hp : p < t.length) : ∃ ch' b7 b8 b9, dTurn (gN 6) dP1 (.int p) (pE t m tg V a4 (.val (.bl ch)) a6 a7 a8 a9) = some (.nx (pE t m tg (setP t m V p) a4 (.val (.bl ch')) (.val (.int p)) b7 b8 b9)) ∧ (ch' = false → ch = false ∧ setP t m V p = V) := by
  have g1 := at_V (V := V) (p := p) (by rw [hV]; exact hp)
  have g2 := open_doors_eq ok hp
  obtain ⟨b8, b9, e1⟩ := lp_doors ok tg hV a4 (.val (.bl ch)) hp (od t p) (gv V p) a8 a9 fun _ h => h
  have g3 := neV (updP t m V p) (gv V p)
  have g4 := set_V (V := V) (p := p) (x := updP t m V p) (by rw [hV]; exact hp)
  have hu : (od t p).foldl (fun x d => lat x (thr (cls m p d) (gv V (gl t p d)))) (gv V p) = updP t m V p := rfl
  rw [hu] at e1
  have f1 : fits (od t p).length = true := fits_of (by have := od_len ok p; omega)
  have hd : dTurn (gN 6) dP1 (.int p) (pE t m tg V a4 (.val (.bl ch)) a6 a7 a8 a9) = (dIfS (dTr (dOp gNe (dNm 7) (dIxN 3 (dNm 6)))) (dSeq (dSto 3 (dNm 7) (dNm 6)) (dSet 5 (vl (dBl true)))) (dSkip)) (pE t m tg V a4 (.val (.bl ch)) (.val (.int p)) (.val (encV (updP t m V p))) b8 b9) := by
    show dP1 (pE t m tg V a4 (.val (.bl ch)) (.val (.int p)) a7 a8 a9) = _
    unfold dP1
    refine (dSeq_nx (Γ1 := pE t m tg V a4 (.val (.bl ch)) (.val (.int p)) (.val (encV (gv V p))) a8 a9) (by simp [-gIx, pE, g1])).trans ?_
    exact dSeq_nx ((dFor_of (xs := (od t p).map (encDG t p)) (by simp [pE, g2])).trans e1)
  by_cases c : updP t m V p = gv V p
  · have hs : setP t m V p = V := by
      unfold setP
      rw [c, set_gv (by rw [hV]; exact hp)]
    refine ⟨ch, .val (encV (updP t m V p)), b8, b9, ?_, fun h => ⟨h, hs⟩⟩
    rw [hd, hs]
    simp only [c, ne_eq, not_true_eq_false, decide_false] at g3
    simp [-gIx, -gNe, pE, g1, c, g3]
  · refine ⟨true, .val (encV (updP t m V p)), b8, b9, ?_, fun h => by cases h⟩
    rw [hd]
    simp only [c, ne_eq, not_false_eq_true, decide_true] at g3
    simp [-gIx, -gNe, pE, g1, g3, g4, setP]
theorem lp_round {t : List Pl} {m : Cl} (ok : TM t m) (tg : Nat) {V : List Lv} (hV : V.length = t.length) (x : PV) (a4 a5 a6 a7 a8 a9 : Sl) : ∃ b4 b5 b6 b7 b8 b9, dTurn (gN 4) dP0 x (pE t m tg V a4 a5 a6 a7 a8 a9) = some (.nx (pE t m tg (round t m V) b4 b5 b6 b7 b8 b9)) ∨ (dTurn (gN 4) dP0 x (pE t m tg V a4 a5 a6 a7 a8 a9) = some (.bk (pE t m tg (round t m V) b4 b5 b6 b7 b8 b9)) ∧ round t m V = V) := by
  let I : Nat → Ev → Prop := fun k Γ => ∃ ch b6 b7 b8 b9, Γ = pE t m tg ((List.range k).foldl (setP t m) V) (.val x) (.val (.bl ch)) b6 b7 b8 b9 ∧ (ch = false → (List.range k).foldl (setP t m) V = V)
  obtain ⟨Γ', e, ch, b6, b7, b8, b9, rfl, hc⟩ := loopD_inv (step := dTurn (gN 6) dP1) I (rgP 0 t.length) 0 (pE t m tg V (.val x) (.val (.bl false)) a6 a7 a8 a9) ⟨_, _, _, _, _, rfl, fun _ => rfl⟩ fun k y Γ hx ⟨ch, b6, b7, b8, b9, hΓ, hc⟩ => by
    obtain ⟨hk, rfl⟩ := rgP_get hx
    subst hΓ
    rw [Nat.zero_add] at hc
    rw [Int.zero_add, Nat.zero_add]
    obtain ⟨ch', c7, c8, c9, e, h⟩ := lp_place ok tg (V := (List.range k).foldl (setP t m) V) (by rw [fold_len]; exact hV) (.val x) b6 b7 b8 b9 ch hk
    refine ⟨_, .inl e, ch', .val (.int k), c7, c8, c9, ?_, fun h2 => ?_⟩
    · rw [List.range_succ, List.foldl_append]
      rfl
    · rw [List.range_succ, List.foldl_append]
      show setP t m _ k = V
      rw [(h h2).2]
      exact hc (h h2).1
  rw [rgP_length, Nat.zero_add] at e hc
  have e4 : gLen (encT t) = some (.int t.length) := by simp [encT]
  have hd : dTurn (gN 4) dP0 x (pE t m tg V a4 a5 a6 a7 a8 a9) = (dIfS (dBNot (dTr (dNm 5))) (dBk) (dSkip)) (pE t m tg (round t m V) (.val x) (.val (.bl ch)) b6 b7 b8 b9) := by
    show dP0 (pE t m tg V (.val x) a5 a6 a7 a8 a9) = _
    unfold dP0
    refine (dSeq_nx (Γ1 := pE t m tg V (.val x) (.val (.bl false)) a6 a7 a8 a9) (by simp [pE])).trans ?_
    exact dSeq_nx ((dFor_of (xs := rgP 0 t.length) (by have := ok.few; simp [-gLen, pE, e4, itR1_nat (show t.length ≤ 1000000 by omega)])).trans e)
  refine ⟨.val x, .val (.bl ch), b6, b7, b8, b9, ?_⟩
  rw [hd]
  cases ch with
  | true => exact .inl (by simp [pE])
  | false => exact .inr ⟨by simp [pE], hc rfl⟩
theorem lp_rounds {t : List Pl} {m : Cl} (ok : TM t m) (tg : Nat) : ∀ (xs : List PV) {V : List Lv}, V.length = t.length → ∀ (a4 a5 a6 a7 a8 a9 : Sl), ∃ b4 b5 b6 b7 b8 b9, loopD (dTurn (gN 4) dP0) xs (pE t m tg V a4 a5 a6 a7 a8 a9) = some (.nx (pE t m tg (rnds t m xs.length V) b4 b5 b6 b7 b8 b9))
  | [], V, _, a4, a5, a6, a7, a8, a9 => ⟨a4, a5, a6, a7, a8, a9, rfl⟩
  | x :: xs, V, hV, a4, a5, a6, a7, a8, a9 => by
    obtain ⟨b4, b5, b6, b7, b8, b9, h⟩ := lp_round ok tg hV x a4 a5 a6 a7 a8 a9
    rw [loopD]
    rcases h with h | ⟨h, hr⟩
    · rw [h]
      exact lp_rounds ok tg xs (V := round t m V) (by unfold round; rw [fold_len]; exact hV) b4 b5 b6 b7 b8 b9
    · rw [h]
      refine ⟨b4, b5, b6, b7, b8, b9, ?_⟩
      rw [rnds_fix hr, hr]
theorem last_times_eq {t : List Pl} {m : Cl} (ok : TM t m) {tg : Nat} (htg : tg < t.length) : m_last_times [encT t, encM m, .int tg] = some (.val (.tup (encVs (rnds t m t.length (V0 t.length tg))))) := by
  have hl : (V0 t.length tg).length = t.length := by unfold V0; rw [List.length_set, List.length_replicate]
  obtain ⟨b4, b5, b6, b7, b8, b9, e⟩ := lp_rounds ok tg (t.map encP) hl .un .un .un .un .un .un
  rw [List.length_map] at e
  have f : fits (t.map encP).length = true := fits_of (by rw [List.length_map]; have := ok.few; omega)
  have hc : compL [6] (gN 6) dYes dNon (t.map encP) [.val (encT t), .val (encM m), .val (.int tg), .un, .un, .un, .un, .un, .un, .un] = some ((t.map encP).map fun _ => .non, [.val (encT t), .val (encM m), .val (.int tg), .un, .un, .un, .un, .un, .un, .un]) :=
    compL_map _ _ _ fun x _ => ⟨[.val (encT t), .val (encM m), .val (.int tg), .un, .un, .un, .val x, .un, .un, .un], _, [.val (encT t), .val (encM m), .val (.int tg), .un, .un, .un, .val x, .un, .un, .un], rfl, rfl, rfl, rfl⟩
  have hr : ((t.map encP).map fun _ => PV.non) = encVs (List.replicate t.length none) := by
    unfold encVs
    rw [List.map_const', List.length_map, List.map_replicate]
    rfl
  rw [hr] at hc
  have hs := set_V (V := List.replicate t.length none) (p := tg) (x := some none) (by rw [List.length_replicate]; exact htg)
  have ee : encV (some none) = .str "always" := rfl
  rw [ee] at hs
  refine sem0_rt rfl (Γ' := pE t m tg (rnds t m t.length (V0 t.length tg)) b4 b5 b6 b7 b8 b9) ?_
  unfold d_last_times
  refine (dSeq_nx (Γ1 := pE t m tg (List.replicate t.length none) .un .un .un .un .un .un) (by rw [List.length_map] at f; simp [encT, pE] at hc ⊢; simp [hc, f])).trans ?_
  refine (dSeq_nx (Γ1 := pE t m tg (V0 t.length tg) .un .un .un .un .un .un) (by simp [pE, hs, V0])).trans ?_
  refine (dSeq_nx ((dFor_of (xs := t.map encP) (by simp [pE, encT])).trans e)).trans ?_
  simp [pE]
/-! #### the law's -/
def dL3 : DS := (dSeq (dSet 7 (vl (dIxN 3 (dOp gIx (dOp gIx (dIxN 0 (dNm 5)) (dInt 1)) (dNm 6)))))
        (dIfS (dBAnd (dTr (dOp gNe (dNm 5) (dNm 2))) (dTr (dNotN (dPk 7)))) (dSto 3 (fz (dC0 (m_law_later) (dCons (dIxN 3 (dNm 5)) (dCons (fz (dC0 (m_law_earlier) (dCons (dNm 7) (dCons (dOp gIx (dIxN 1 (dNm 5)) (dNm 6)) (dNil))))) (dNil))))) (dNm 5)) (dSkip)))
def qE (t : List Pl) (m : Cl) (tg : Nat) (V : List Lv) (a4 a5 a6 a7 : Sl) : Ev := [.val (encT t), .val (encM m), .val (.int tg), .mu .own (.lst (encVs V)), a4, a5, a6, a7]
theorem ll_doors {t : List Pl} {m : Cl} (ok : TM t m) (tg : Nat) (a4 : Sl) {p : Nat} (hp : p < t.length) : ∀ (ds : List Nat) {V : List Lv}, V.length = t.length → ∀ (a6 a7 : Sl), (∀ d ∈ ds, d ∈ od t p) → ∃ b6 b7, loopD (dTurn (gN 6) dL3) (nls ds) (qE t m tg V a4 (.val (.int p)) a6 a7) = some (.nx (qE t m tg (ds.foldl (stepD t m tg p) V) a4 (.val (.int p)) b6 b7))
  | [], V, _, a6, a7, _ => ⟨a6, a7, rfl⟩
  | d :: ds, V, hV, a6, a7, hd => by
    have h0 := hd d List.mem_cons_self
    have hlen : (stepD t m tg p V d).length = t.length := by
      unfold stepD
      split
      · rw [List.length_set]
        exact hV
      · exact hV
    obtain ⟨b6, b7, ih⟩ := ll_doors ok tg a4 hp ds (V := stepD t m tg p V d) hlen (.val (.int d)) (.val (encV (gv V (gl t p d)))) fun y hy => hd y (List.mem_cons_of_mem _ hy)
    refine ⟨b6, b7, ?_⟩
    show loopD _ (.int d :: nls ds) _ = _
    rw [List.foldl_cons, loopD]
    obtain ⟨q, k1, k2⟩ := ixT hp
    have k3 := at_row (od_lt h0)
    obtain ⟨j, hj⟩ := mem_od.mp h0
    rw [hj] at k3
    have k4 : encO (some j) = .int j := rfl
    rw [k4] at k3
    have g1 := ixC ok hp
    have g2 := at_C ok (od_lt h0)
    have g3 := at_V (V := V) (p := gl t p d) (by rw [hV]; exact gl_lt ok h0)
    have g6 := at_V (V := V) (p := p) (by rw [hV]; exact hp)
    have ht : dTurn (gN 6) dL3 (.int d) (qE t m tg V a4 (.val (.int p)) a6 a7) = some (.nx (qE t m tg (stepD t m tg p V d) a4 (.val (.int p)) (.val (.int d)) (.val (encV (gv V (gl t p d)))))) := by
      unfold stepD
      rw [gl_of hj] at g3 ⊢
      by_cases c1 : p = tg
      · have c2 : ¬ ((p : Int) ≠ tg) := by omega
        subst c1
        simp [-gIx, dL3, qE, k1, k2, k3, g3]
      · by_cases c3 : gv V j = none
        · rw [c3] at g3 ⊢
          simp [-gIx, dL3, qE, k1, k2, k3, g3, encV]
        · have g4 := earlier_eq (cls m p d) _ c3
          have c5 : thr (cls m p d) (gv V j) ≠ none := by
            intro h
            rcases hv : gv V j with _ | _ | b
            · exact c3 hv
            · rw [hv] at h; cases hc : cls m p d <;> (rw [hc] at h; cases h)
            · rw [hv] at h; cases hc : cls m p d <;> (rw [hc] at h; cases h)
          have g5 := later_eq (gv V p) _ c5
          have g7 := set_V (V := V) (p := p) (x := lat (gv V p) (thr (cls m p d) (gv V j))) (by rw [hV]; exact hp)
          have c6 : encV (gv V j) ≠ .non := by
            intro h
            rcases hv : gv V j with _ | _ | b
            · exact c3 hv
            · rw [hv] at h; cases h
            · rw [hv] at h; cases h
          generalize hz : encV (gv V j) = z at *
          have c7 : ¬ ((p : Int) = tg) := by omega
          simp [-gIx, dL3, qE, k1, k2, k3, g3, c1, c3, c6, c7, g1, g2, g4, g5, g6, g7]
    rw [ht]
    exact ih
theorem ll_place {t : List Pl} {m : Cl} (ok : TM t m) {tg : Nat} {V : List Lv} (hV : V.length = t.length) (h : gv V tg = some none) (a4 a5 a6 a7 : Sl) {p : Nat} (hp : p < t.length) : ∃ b6 b7, dTurn (gN 5) (dFor (dIt itP (fz (dC0 (m_law_opens) (dCons (dNm 0) (dCons (dNm 5) (dNil)))))) (gN 6) dL3) (.int p) (qE t m tg V a4 a5 a6 a7) = some (.nx (qE t m tg (setP t m V p) a4 (.val (.int p)) b6 b7)) := by
  have g := opens_eq ok hp
  obtain ⟨b6, b7, e⟩ := ll_doors ok tg a4 hp (od t p) hV a6 a7 fun _ h => h
  rw [doors_eq (by rw [hV]; exact hp) h] at e
  refine ⟨b6, b7, ?_⟩
  show dFor _ _ _ (qE t m tg V a4 (.val (.int p)) a6 a7) = _
  exact (dFor_of (xs := nls (od t p)) (by simp [qE, g])).trans e
theorem ll_round {t : List Pl} {m : Cl} (ok : TM t m) {tg : Nat} {V : List Lv} (hV : V.length = t.length) (h : gv V tg = some none) (x : PV) (a4 a5 a6 a7 : Sl) : gv (round t m V) tg = some none ∧ ∃ b4 b5 b6 b7, dTurn (gN 4) (dFor (dIt itR1 (dUn gLen (dPk 0))) (gN 5) (dFor (dIt itP (fz (dC0 (m_law_opens) (dCons (dNm 0) (dCons (dNm 5) (dNil)))))) (gN 6) dL3)) x (qE t m tg V a4 a5 a6 a7) = some (.nx (qE t m tg (round t m V) b4 b5 b6 b7)) := by
  let I : Nat → Ev → Prop := fun k Γ => ∃ b5 b6 b7, Γ = qE t m tg ((List.range k).foldl (setP t m) V) (.val x) b5 b6 b7 ∧ gv ((List.range k).foldl (setP t m) V) tg = some none
  obtain ⟨Γ', e, b5, b6, b7, rfl, h2⟩ := loopD_inv (step := dTurn (gN 5) (dFor (dIt itP (fz (dC0 (m_law_opens) (dCons (dNm 0) (dCons (dNm 5) (dNil)))))) (gN 6) dL3)) I (rgP 0 t.length) 0 (qE t m tg V (.val x) a5 a6 a7) ⟨_, _, _, rfl, h⟩ fun k y Γ hx ⟨b5, b6, b7, hΓ, h⟩ => by
    obtain ⟨hk, rfl⟩ := rgP_get hx
    subst hΓ
    rw [Nat.zero_add] at h
    rw [Int.zero_add, Nat.zero_add]
    have hl : ((List.range k).foldl (setP t m) V).length = t.length := by rw [fold_len]; exact hV
    obtain ⟨c6, c7, e⟩ := ll_place ok hl h (.val x) b5 b6 b7 hk
    refine ⟨_, .inl e, .val (.int k), c6, c7, ?_, ?_⟩
    · rw [List.range_succ, List.foldl_append]
      rfl
    · rw [List.range_succ, List.foldl_append]
      exact setP_tg (by rw [hl]; exact hk) h
  rw [rgP_length, Nat.zero_add] at e h2
  refine ⟨h2, .val x, b5, b6, b7, ?_⟩
  have e4 : gLen (encT t) = some (.int t.length) := by simp [encT]
  show dFor _ _ _ (qE t m tg V (.val x) a5 a6 a7) = _
  exact (dFor_of (xs := rgP 0 t.length) (by have := ok.few; simp [-gLen, qE, e4, itR1_nat (show t.length ≤ 1000000 by omega)])).trans e
theorem ll_rounds {t : List Pl} {m : Cl} (ok : TM t m) {tg : Nat} : ∀ (xs : List PV) {V : List Lv}, V.length = t.length → gv V tg = some none → ∀ (a4 a5 a6 a7 : Sl), ∃ b4 b5 b6 b7, loopD (dTurn (gN 4) (dFor (dIt itR1 (dUn gLen (dPk 0))) (gN 5) (dFor (dIt itP (fz (dC0 (m_law_opens) (dCons (dNm 0) (dCons (dNm 5) (dNil)))))) (gN 6) dL3))) xs (qE t m tg V a4 a5 a6 a7) = some (.nx (qE t m tg (rnds t m xs.length V) b4 b5 b6 b7))
  | [], V, _, _, a4, a5, a6, a7 => ⟨a4, a5, a6, a7, rfl⟩
  | x :: xs, V, hV, h, a4, a5, a6, a7 => by
    obtain ⟨h2, b4, b5, b6, b7, e⟩ := ll_round ok hV h x a4 a5 a6 a7
    rw [loopD, e]
    exact ll_rounds ok xs (V := round t m V) (by unfold round; rw [fold_len]; exact hV) h2 b4 b5 b6 b7
theorem last_times_of_eq {t : List Pl} {m : Cl} (ok : TM t m) {tg : Nat} (htg : tg < t.length) : m_law_last_times_of [encT t, encM m, .int tg] = some (.val (.tup (encVs (rnds t m t.length (V0 t.length tg))))) := by
  have hl : (V0 t.length tg).length = t.length := by unfold V0; rw [List.length_set, List.length_replicate]
  have hg : gv (V0 t.length tg) tg = some none := by
    unfold V0
    rw [gv_set (by rw [List.length_replicate]; exact htg), if_pos rfl]
  obtain ⟨b4, b5, b6, b7, e⟩ := ll_rounds ok (rgP 0 t.length) hl hg .un .un .un .un
  rw [rgP_length] at e
  have hf := ok.few
  have e4 : gLen (encT t) = some (.int t.length) := by simp [encT]
  have hr : gRep (.lst [.non]) (.int t.length) = some (.new (.lst (List.replicate t.length .non))) := by
    unfold gRep
    have f : fits (([PV.non] : List PV).length * ((t.length : Int)).toNat) = true := fits_of (by simp; omega)
    dsimp only
    rw [if_pos ⟨popOk_mk (by omega), f⟩]
    simp
  have hr2 : List.replicate t.length PV.non = encVs (List.replicate t.length none) := by
    unfold encVs
    rw [List.map_replicate]
    rfl
  rw [hr2] at hr
  have hs := set_V (V := List.replicate t.length none) (p := tg) (x := some none) (by rw [List.length_replicate]; exact htg)
  have ee : encV (some none) = .str "always" := rfl
  rw [ee] at hs
  refine sem0_rt rfl (Γ' := qE t m tg (rnds t m t.length (V0 t.length tg)) b4 b5 b6 b7) ?_
  unfold d_law_last_times_of
  refine (dSeq_nx (Γ1 := qE t m tg (List.replicate t.length none) .un .un .un .un) (by simp [-gLen, qE, mkL, e4, hr])).trans ?_
  refine (dSeq_nx (Γ1 := qE t m tg (V0 t.length tg) .un .un .un .un) (by simp [qE, hs, V0])).trans ?_
  refine (dSeq_nx ((dFor_of (xs := rgP 0 t.length) (by simp [-gLen, qE, e4, itR1_nat (show t.length ≤ 1000000 by omega)])).trans e)).trans ?_
  simp [qE]
theorem fine_encV {n : Nat} (v : Lv) : fine (n + 1) (encV v) := by
  rcases v with _ | _ | i
  · trivial
  · show PyData.strOk _ = true
    decide +kernel
  · trivial
theorem last_right_eq {t : List Pl} {m : Cl} (ok : TM t m) {tg : Nat} (htg : tg < t.length) : m_law_last_right [encT t, encM m, .int tg] = some (.val (.bl true)) := by
  have e1 := last_times_of_eq ok htg
  have e2 := last_times_eq ok htg
  obtain ⟨hl, hr⟩ := rnds_right ok htg
  generalize rnds t m t.length (V0 t.length tg) = V at *
  have hf := ok.few
  have e3 : m_law_same 8 [.tup (encVs V), .tup (encVs V)] = some (.val (.bl true)) := same_refl 8 _ (fine_tup (by rw [encVs_len]; omega) fun x hx => by
    obtain ⟨v, _, rfl⟩ := List.mem_map.mp hx
    exact fine_encV v)
  have e4 : gLen (encT t) = some (.int t.length) := by simp [encT]
  let I : Nat → Ev → Prop := fun _ Γ => ∃ a, Γ = [.val (encT t), .val (encM m), .val (.int tg), .val (.tup (encVs V)), a]
  obtain ⟨Γ', e5, a, rfl⟩ := loopD_inv (step := dTurn (gN 4) (dIfS (dTr (fz (dC0 (m_law_is_int) (dCons (dIxN 3 (dNm 4)) (dNil))))) (dSeq (dIfS (dTr (dIsN (fz (dC0 (m_first_timed_walk) (dCons (dNm 0) (dCons (dNm 1) (dCons (dNm 4) (dCons (dIxN 3 (dNm 4)) (dCons (dNm 2) (dNil)))))))))) (dRt (vl (dBl false))) (dSkip))
        (dIfS (dTr (dNotN (fz (dC0 (m_first_timed_walk) (dCons (dNm 0) (dCons (dNm 1) (dCons (dNm 4) (dCons (dOp gAdd (dIxN 3 (dNm 4)) (dInt 1)) (dCons (dNm 2) (dNil)))))))))) (dRt (vl (dBl false))) (dSkip))) (dSkip))) I (rgP 0 t.length) 0 [.val (encT t), .val (encM m), .val (.int tg), .val (.tup (encVs V)), .un] ⟨_, rfl⟩ fun k x Γ hx ⟨a, hΓ⟩ => by
    obtain ⟨hk, rfl⟩ := rgP_get hx
    subst hΓ
    rw [Int.zero_add]
    refine ⟨[.val (encT t), .val (encM m), .val (.int tg), .val (.tup (encVs V)), .val (.int k)], .inl ?_, _, rfl⟩
    have g1 : gIx (.tup (encVs V)) (.int k) = some (encV (gv V k)) := at_V (by rw [hl]; exact hk)
    rcases hv : gv V k with _ | _ | L
    · rw [hv] at g1
      simp [-gIx, g1, m_law_is_int, d_law_is_int, encV]
    · rw [hv] at g1
      simp [-gIx, g1, m_law_is_int, d_law_is_int, encV]
    · rw [hv] at g1
      have w1 := first_walk_eq ok (T := L) hk tg
      have w2 := first_walk_eq ok (T := L + 1) hk tg
      obtain ⟨w, h1⟩ := (look_iff ok hk tg).mpr ((hr k L hk).mp (by rw [hv]; exact Int.le_refl _))
      have h2 : look (fin t m (L + 1) k) tg = none := by
        cases h : look (fin t m (L + 1) k) tg with
        | none => rfl
        | some w =>
          have := (hr k (L + 1) hk).mpr ((look_iff ok hk tg).mp ⟨w, h⟩)
          rw [hv] at this
          have : L + 1 ≤ L := this
          omega
      rw [h1] at w1
      rw [h2] at w2
      have k1 : encL (some w) = .tup (nls w) := rfl
      have k2 : encL none = .non := rfl
      rw [k1] at w1
      rw [k2] at w2
      simp [-gIx, g1, m_law_is_int, d_law_is_int, encV, w1, w2]
  refine sem0_rt rfl (Γ' := [.val (encT t), .val (encM m), .val (.int tg), .val (.tup (encVs V)), a]) ?_
  unfold d_law_last_right
  refine (dSeq_nx (Γ1 := [.val (encT t), .val (encM m), .val (.int tg), .val (.tup (encVs V)), .un]) (by simp [e1])).trans ?_
  refine (dSeq_nx (Γ1 := [.val (encT t), .val (encM m), .val (.int tg), .val (.tup (encVs V)), .un]) (by simp [e2, e3])).trans ?_
  refine (dSeq_nx ((dFor_of (xs := rgP 0 t.length) (by simp [-gLen, e4, itR1_nat (show t.length ≤ 1000000 by omega)])).trans e5)).trans ?_
  simp
/-! ### bounds -/
theorem loopD_all {α : Type} {step : PV → DS} {r : Rs} (I : Ev → Prop) (en : α → PV) (p : α → Bool) : ∀ (xs : List α), (∀ x ∈ xs, ∀ Γ, I Γ → (p x = true → ∃ Γ', (step (en x) Γ = some (.nx Γ') ∨ step (en x) Γ = some (.ct Γ')) ∧ I Γ') ∧ (p x = false → ∃ Γ', step (en x) Γ = some (.rt r Γ'))) → ∀ Γ, I Γ →
    (xs.all p = true → ∃ Γ', loopD step (xs.map en) Γ = some (.nx Γ') ∧ I Γ') ∧ (xs.all p = false → ∃ Γ', loopD step (xs.map en) Γ = some (.rt r Γ'))
  | [], _, Γ, i => ⟨fun _ => ⟨Γ, rfl, i⟩, fun h => by cases h⟩
  | x :: xs, h, Γ, i => by
    obtain ⟨h1, h2⟩ := h x List.mem_cons_self Γ i
    rw [List.all_cons, List.map_cons, loopD]
    cases hp : p x with
    | true =>
      obtain ⟨Γ1, e, i1⟩ := h1 hp
      obtain ⟨k1, k2⟩ := loopD_all I en p xs (fun y hy => h y (List.mem_cons_of_mem _ hy)) Γ1 i1
      rw [Bool.true_and]
      rcases e with e | e
      · rw [e]
        exact ⟨k1, k2⟩
      · rw [e]
        exact ⟨k1, k2⟩
    | false =>
      obtain ⟨Γ1, e⟩ := h2 hp
      rw [e, Bool.false_and]
      exact ⟨fun h => (by cases h), fun _ => ⟨Γ1, rfl⟩⟩
def gb (B : List (Option Int)) (p : Nat) : Option Int := B.getD p none
theorem at_B {B : List (Option Int)} {p : Nat} (h : p < B.length) : gIx (.tup (encC B)) (.int p) = some (optI (gb B p)) := by
  refine atI_of ?_
  unfold encC gb
  rw [List.getElem?_map, List.getD_eq_getElem?_getD, List.getElem?_eq_getElem h]
  rfl
def tstB (t : List Pl) (B : List (Option Int)) (k : Nat) (τ : Int) (d : Nat) : Bool := match gb B (gl t k d) with
  | none => false
  | some b => decide (b ≤ τ + 1)
def oneB (t : List Pl) (m : Cl) (B : List (Option Int)) (k : Nat) : Bool := match gb B k with
  | none => true
  | some τ => (mvs t m k τ).all (tstB t B k τ)
def bokB (t : List Pl) (m : Cl) (B : List (Option Int)) (i : Nat) (T : Int) : Bool := match gb B i with
  | none => false
  | some b => decide (b ≤ T) && (List.range t.length).all (oneB t m B)
def dB2 : DS := (dIfS (dBAnd (dTr (dNotN (dIxN 4 (dNm 5)))) (dTr (fz (dC0 (m_law_can_go) (dCons (dNm 0) (dCons (dNm 1) (dCons (dNm 5) (dCons (dNm 6) (dCons (dIxN 4 (dNm 5)) (dNil)))))))))) (dSeq (dSet 7 (vl (dIxN 4 (dOp gIx (dOp gIx (dIxN 0 (dNm 5)) (dInt 1)) (dNm 6)))))
        (dIfS (dBOr (dTr (dIsN (dPk 7))) (dTr (dOp gGt (dNm 7) (dOp gAdd (dIxN 4 (dNm 5)) (dInt 1))))) (dRt (vl (dBl false))) (dSkip))) (dSkip))
def bE (t : List Pl) (m : Cl) (i : Nat) (T : Int) (B : List (Option Int)) (a b c : Sl) : Ev := [.val (encT t), .val (encM m), .val (.int i), .val (.int T), .val (.tup (encC B)), a, b, c]
theorem lb_door {t : List Pl} {m : Cl} (ok : TM t m) (i : Nat) (T : Int) {B : List (Option Int)} (hB : B.length = t.length) {k : Nat} (hk : k < t.length) {d : Nat} (hd : d ∈ od t k) (b c : Sl) :
    ((match gb B k with | none => true | some τ => !psb m k d τ || tstB t B k τ d) = true → ∃ b' c', dTurn (gN 6) dB2 (.int d) (bE t m i T B (.val (.int k)) b c) = some (.nx (bE t m i T B (.val (.int k)) b' c'))) ∧
    ((match gb B k with | none => true | some τ => !psb m k d τ || tstB t B k τ d) = false → ∃ Γ', dTurn (gN 6) dB2 (.int d) (bE t m i T B (.val (.int k)) b c) = some (.rt (.val (.bl false)) Γ')) := by
  obtain ⟨q, k1, k2⟩ := ixT hk
  have k3 := at_row (od_lt hd)
  obtain ⟨j, hj⟩ := mem_od.mp hd
  rw [hj] at k3
  have k4 : encO (some j) = .int j := rfl
  rw [k4] at k3
  have g0 := at_B (B := B) (p := k) (by omega)
  have g1 := at_B (B := B) (p := j) (by rw [hB]; exact stp_lt ok hj)
  unfold tstB
  rw [gl_of hj]
  cases h : gb B k with
  | none =>
    rw [h] at g0
    refine ⟨fun _ => ⟨.val (.int d), c, ?_⟩, fun h => by cases h⟩
    simp [-gIx, dB2, bE, g0, optI]
  | some τ =>
    rw [h] at g0
    have g2 := can_go_eq ok τ hk hd
    dsimp only
    cases hp : psb m k d τ with
    | false =>
      rw [hp] at g2
      refine ⟨fun _ => ⟨.val (.int d), c, ?_⟩, fun h => by cases h⟩
      simp [-gIx, dB2, bE, g0, g2, optI]
    | true =>
      rw [hp] at g2
      cases hb : gb B j with
      | none =>
        rw [hb] at g1
        refine ⟨fun h => (by cases h), fun _ => ⟨bE t m i T B (.val (.int k)) (.val (.int d)) (.val .non), ?_⟩⟩
        simp [-gIx, dB2, bE, g0, g1, g2, optI, k1, k2, k3]
      | some b =>
        rw [hb] at g1
        by_cases hc : b ≤ τ + 1
        · refine ⟨fun _ => ⟨.val (.int d), .val (.int b), ?_⟩, fun h => by simp [hc] at h⟩
          have : ¬ (τ + 1 < b) := by omega
          simp [-gIx, dB2, bE, g0, g1, g2, optI, k1, k2, k3, this]
        · refine ⟨fun h => (by simp [hc] at h), fun _ => ⟨bE t m i T B (.val (.int k)) (.val (.int d)) (.val (.int b)), ?_⟩⟩
          have : τ + 1 < b := by omega
          simp [-gIx, dB2, bE, g0, g1, g2, optI, k1, k2, k3, this]
theorem oneB_eq (t : List Pl) (m : Cl) (B : List (Option Int)) (k : Nat) : ((od t k).all fun d => match gb B k with | none => true | some τ => !psb m k d τ || tstB t B k τ d) = oneB t m B k := by
  unfold oneB
  cases gb B k with
  | none => simp
  | some τ =>
    dsimp only
    unfold mvs
    rw [Bool.eq_iff_iff, List.all_eq_true, List.all_eq_true]
    constructor
    · intro h d hd
      obtain ⟨h1, h2⟩ := List.mem_filter.mp hd
      have := h d h1
      rw [h2] at this
      simpa using this
    · intro h d hd
      cases hp : psb m k d τ with
      | false => rfl
      | true => simpa using h d (List.mem_filter.mpr ⟨hd, hp⟩)
theorem law_bound_eq {t : List Pl} {m : Cl} (ok : TM t m) {i : Nat} (hi : i < t.length) (T : Int) {B : List (Option Int)} (hB : B.length = t.length) : m_law_is_time_bound [encT t, encM m, .int i, .int T, .tup (encC B)] = some (.val (.bl (bokB t m B i T))) := by
  have g0 := at_B (B := B) (p := i) (by omega)
  have hf := ok.few
  have e4 : gLen (encT t) = some (.int t.length) := by simp [encT]
  unfold bokB
  cases h : gb B i with
  | none =>
    rw [h] at g0
    simp [-gIx, m_law_is_time_bound, d_law_is_time_bound, g0, optI]
  | some b =>
    rw [h] at g0
    by_cases hb : b ≤ T
    · have hb2 : ¬ (T < b) := by omega
      have hstep : ∀ k ∈ List.range t.length, ∀ Γ, (∃ a b c, Γ = bE t m i T B a b c) → (oneB t m B k = true → ∃ Γ', (dTurn (gN 5) (dFor (dIt itP (fz (dC0 (m_law_opens) (dCons (dNm 0) (dCons (dNm 5) (dNil)))))) (gN 6) dB2) (.int k) Γ = some (.nx Γ') ∨ dTurn (gN 5) (dFor (dIt itP (fz (dC0 (m_law_opens) (dCons (dNm 0) (dCons (dNm 5) (dNil)))))) (gN 6) dB2) (.int k) Γ = some (.ct Γ')) ∧ (∃ a b c, Γ' = bE t m i T B a b c)) ∧ (oneB t m B k = false → ∃ Γ', dTurn (gN 5) (dFor (dIt itP (fz (dC0 (m_law_opens) (dCons (dNm 0) (dCons (dNm 5) (dNil)))))) (gN 6) dB2) (.int k) Γ = some (.rt (.val (.bl false)) Γ')) := by
        rintro k hk Γ ⟨a, b, c, rfl⟩
        have hk := List.mem_range.mp hk
        have g := opens_eq ok hk
        have hd : dTurn (gN 5) (dFor (dIt itP (fz (dC0 (m_law_opens) (dCons (dNm 0) (dCons (dNm 5) (dNil)))))) (gN 6) dB2) (.int k) (bE t m i T B a b c) = loopD (dTurn (gN 6) dB2) ((od t k).map fun (d : Nat) => PV.int d) (bE t m i T B (.val (.int k)) b c) := by
          show dFor _ _ _ (bE t m i T B (.val (.int k)) b c) = _
          exact dFor_of (by simp [bE, g]; rfl)
        rw [hd, ← oneB_eq]
        obtain ⟨q1, q2⟩ := loopD_all (step := dTurn (gN 6) dB2) (r := .val (.bl false)) (fun Γ => ∃ b c, Γ = bE t m i T B (.val (.int k)) b c) (fun (d : Nat) => PV.int d) (fun d => match gb B k with | none => true | some τ => !psb m k d τ || tstB t B k τ d) (od t k) (by
          rintro d hd Γ ⟨b, c, rfl⟩
          obtain ⟨w1, w2⟩ := lb_door ok i T hB hk hd b c
          refine ⟨fun h => ?_, w2⟩
          obtain ⟨b', c', e⟩ := w1 h
          exact ⟨_, .inl e, b', c', rfl⟩) (bE t m i T B (.val (.int k)) b c) ⟨b, c, rfl⟩
        refine ⟨fun h => ?_, q2⟩
        obtain ⟨Γ', e, b', c', rfl⟩ := q1 h
        exact ⟨_, .inl e, _, b', c', rfl⟩
      obtain ⟨q1, q2⟩ := loopD_all (step := dTurn (gN 5) (dFor (dIt itP (fz (dC0 (m_law_opens) (dCons (dNm 0) (dCons (dNm 5) (dNil)))))) (gN 6) dB2)) (r := .val (.bl false)) (fun Γ => ∃ a b c, Γ = bE t m i T B a b c) (fun (k : Nat) => PV.int k) (oneB t m B) (List.range t.length) hstep (bE t m i T B .un .un .un) ⟨_, _, _, rfl⟩
      have e1 : (dIfS (dBOr (dTr (dIsN (dIxN 4 (dNm 2)))) (dTr (dOp gGt (dIxN 4 (dNm 2)) (dNm 3)))) (dRt (vl (dBl false))) (dSkip)) (bE t m i T B .un .un .un) = some (.nx (bE t m i T B .un .un .un)) := by
        simp [-gIx, bE, g0, optI, hb2]
      have e2 : (dIt itR1 (dUn gLen (dPk 0))) (bE t m i T B .un .un .un) = some ((List.range t.length).map fun (k : Nat) => PV.int k, bE t m i T B .un .un .un) := by
        have := itR1_nat (n := t.length) (by omega)
        rw [rgP_nls] at this
        simp [-gLen, bE, e4, this]
        rfl
      dsimp only
      rw [show decide (b ≤ T) = true from decide_eq_true hb, Bool.true_and]
      cases ha : (List.range t.length).all (oneB t m B) with
      | true =>
        obtain ⟨Γ', e, a, b, c, rfl⟩ := q1 ha
        refine sem0_rt rfl (Γ' := bE t m i T B a b c) ?_
        unfold d_law_is_time_bound
        refine (dSeq_nx e1).trans ?_
        refine (dSeq_nx ((dFor_of e2).trans e)).trans ?_
        simp
      | false =>
        obtain ⟨Γ', e⟩ := q2 ha
        refine sem0_rt rfl (Γ' := Γ') ?_
        unfold d_law_is_time_bound
        refine (dSeq_nx e1).trans ?_
        exact dSeq_rt ((dFor_of e2).trans e)
    · have hb2 : T < b := by omega
      simp [-gIx, m_law_is_time_bound, d_law_is_time_bound, g0, optI, hb2, hb]
def dJ2 : DS := (dIfS (dBOr (dTr (dIsN (dIxN 4 (dNm 8)))) (dTr (dOp gGt (dIxN 4 (dNm 8)) (dOp gAdd (dNm 6) (dInt 1))))) (dRt (vl (dBl false))) (dSkip))
def dJ1 : DS := (dSeq (dIfS (dTr (dIsN (dPk 6))) (dCt) (dSkip))
        (dFor (dIt itP (fz (dC0 (m_timed_doors) (dCons (dNm 0) (dCons (dNm 1) (dCons (dNm 5) (dCons (dNm 6) (dNil)))))))) (gT 2 (gsC (gN 7) (gsC (gN 8) (gsN)))) dJ2))
def jE (t : List Pl) (m : Cl) (i : Nat) (T : Int) (B : List (Option Int)) (a b c d : Sl) : Ev := [.val (encT t), .val (encM m), .val (.int i), .val (.int T), .val (.tup (encC B)), a, b, c, d, .un]
theorem jb_one {t : List Pl} {m : Cl} (ok : TM t m) (i : Nat) (T : Int) {B : List (Option Int)} (hB : B.length = t.length) {k : Nat} (hk : k < t.length) (a b c d : Sl) :
    (oneB t m B k = true → ∃ Γ', (dTurn (gT 2 (gsC (gN 5) (gsC (gN 6) (gsN)))) dJ1 (.tup [.int k, optI (gb B k)]) (jE t m i T B a b c d) = some (.nx Γ') ∨ dTurn (gT 2 (gsC (gN 5) (gsC (gN 6) (gsN)))) dJ1 (.tup [.int k, optI (gb B k)]) (jE t m i T B a b c d) = some (.ct Γ')) ∧ (∃ a b c d, Γ' = jE t m i T B a b c d)) ∧
    (oneB t m B k = false → ∃ Γ', dTurn (gT 2 (gsC (gN 5) (gsC (gN 6) (gsN)))) dJ1 (.tup [.int k, optI (gb B k)]) (jE t m i T B a b c d) = some (.rt (.val (.bl false)) Γ')) := by
  unfold oneB
  cases h : gb B k with
  | none =>
    refine ⟨fun _ => ⟨jE t m i T B (.val (.int k)) (.val .non) c d, .inr ?_, _, _, _, _, rfl⟩, fun h => (by cases h)⟩
    simp [dJ1, jE, optI]
  | some τ =>
    dsimp only
    have g := timed_doors_eq ok τ hk
    have f1 : fits (mvs t m k τ).length = true := fits_of (by have := mvs_len ok k τ; omega)
    have hd : dTurn (gT 2 (gsC (gN 5) (gsC (gN 6) (gsN)))) dJ1 (.tup [.int k, optI (some τ)]) (jE t m i T B a b c d) = loopD (dTurn (gT 2 (gsC (gN 7) (gsC (gN 8) (gsN)))) dJ2) ((mvs t m k τ).map (encDG t k)) (jE t m i T B (.val (.int k)) (.val (.int τ)) c d) := by
      show dJ1 (jE t m i T B (.val (.int k)) (.val (.int τ)) c d) = _
      unfold dJ1
      refine (dSeq_nx (Γ1 := jE t m i T B (.val (.int k)) (.val (.int τ)) c d) (by simp [jE])).trans ?_
      exact dFor_of (by simp [jE, g])
    rw [hd]
    obtain ⟨q1, q2⟩ := loopD_all (step := dTurn (gT 2 (gsC (gN 7) (gsC (gN 8) (gsN)))) dJ2) (r := .val (.bl false)) (fun Γ => ∃ c d, Γ = jE t m i T B (.val (.int k)) (.val (.int τ)) c d) (encDG t k) (tstB t B k τ) (mvs t m k τ) (by
      rintro d hd Γ ⟨c, e, rfl⟩
      have hod := (mem_mvs.mp hd).1
      have g1 := at_B (B := B) (p := gl t k d) (by rw [hB]; exact gl_lt ok hod)
      unfold tstB
      cases hb : gb B (gl t k d) with
      | none =>
        rw [hb] at g1
        refine ⟨fun h => (by cases h), fun _ => ⟨jE t m i T B (.val (.int k)) (.val (.int τ)) (.val (.int d)) (.val (.int (gl t k d))), ?_⟩⟩
        simp [-gIx, dJ2, jE, encDG, g1, optI]
      | some b =>
        rw [hb] at g1
        by_cases hc : b ≤ τ + 1
        · refine ⟨fun _ => ⟨jE t m i T B (.val (.int k)) (.val (.int τ)) (.val (.int d)) (.val (.int (gl t k d))), .inl ?_, _, _, rfl⟩, fun h => (by simp [hc] at h)⟩
          have : ¬ (τ + 1 < b) := by omega
          simp [-gIx, dJ2, jE, encDG, g1, optI, this]
        · refine ⟨fun h => (by simp [hc] at h), fun _ => ⟨jE t m i T B (.val (.int k)) (.val (.int τ)) (.val (.int d)) (.val (.int (gl t k d))), ?_⟩⟩
          have : τ + 1 < b := by omega
          simp [-gIx, dJ2, jE, encDG, g1, optI, this]) (jE t m i T B (.val (.int k)) (.val (.int τ)) c d) ⟨c, d, rfl⟩
    refine ⟨fun h => ?_, q2⟩
    obtain ⟨Γ', e, c', d', rfl⟩ := q1 h
    exact ⟨_, .inl e, _, _, c', d', rfl⟩
theorem enum_B {B : List (Option Int)} {n : Nat} (hB : B.length = n) : enumP 0 (encC B) = (List.range n).map fun (k : Nat) => .tup [.int k, optI (gb B k)] := by
  subst hB
  rw [enumP_map, encC_len]
  refine List.map_congr_left fun k hk => ?_
  have hk := List.mem_range.mp hk
  have : (encC B).getD k .non = optI (gb B k) := by
    unfold encC gb
    rw [List.getD_eq_getElem?_getD, List.getElem?_map, List.getD_eq_getElem?_getD, List.getElem?_eq_getElem hk]
    rfl
  rw [this, Nat.zero_add]
theorem judge_bound_eq {t : List Pl} {m : Cl} (ok : TM t m) {i : Nat} (hi : i < t.length) (T : Int) {B : List (Option Int)} (hB : B.length = t.length) : m_judge_time_bound [encT t, encM m, .int i, .int T, .tup (encC B)] = some (.val (.bl (bokB t m B i T))) := by
  have g0 := at_B (B := B) (p := i) (by omega)
  have hf := ok.few
  have e4 : gLen (encT t) = some (.int t.length) := by simp [encT]
  have e5 : m_is_row_of [.tup (encC B), .int t.length] = some (.val (.bl true)) := by simp [m_is_row_of, d_is_row_of, hB]
  have hc : compL [9] (gN 9) dYes (dOr (dIsN (dPk 9)) (fz (dC0 (m_is_number) (dCons (dNm 9) (dNil))))) (encC B) (jE t m i T B .un .un .un .un) = some (bls (B.map fun _ => true), jE t m i T B .un .un .un .un) := by
    have : bls (B.map fun _ => true) = B.map fun _ => PV.bl true := by simp [bls, Function.comp_def]
    rw [this]
    refine compL_on optI (fun _ => .bl true) _ B fun o _ => ⟨(jE t m i T B .un .un .un .un).set 9 (.val (optI o)), _, (jE t m i T B .un .un .un .un).set 9 (.val (optI o)), rfl, rfl, ?_, rfl⟩
    cases o <;> simp [jE, optI, m_is_number, d_is_number]
  have hall : (B.map fun _ => true).all id = true := by simp
  have f : fits t.length = true := fits_of (by omega)
  have e0 : (dIfS (dBOr (dBNot (dTr (fz (dC0 (m_is_row_of) (dCons (dNm 4) (dCons (dUn gLen (dPk 0)) (dNil))))))) (dBNot (dTr (dUn gAll (fz (dComp [9] (dIt itP (dNm 4)) (gN 9) (dYes) (dOr (dIsN (dPk 9)) (fz (dC0 (m_is_number) (dCons (dNm 9) (dNil))))))))))) (dRt (vl (dBl false))) (dSkip)) (jE t m i T B .un .un .un .un) = some (.nx (jE t m i T B .un .un .un .un)) := by
    simp only [jE] at hc
    simp [-gLen, jE, e4, e5, hB, f, hc]
  unfold bokB
  cases h : gb B i with
  | none =>
    rw [h] at g0
    refine sem0_rt rfl (Γ' := jE t m i T B .un .un .un .un) ?_
    unfold d_judge_time_bound
    refine (dSeq_nx e0).trans ?_
    refine dSeq_rt ?_
    simp [-gIx, jE, g0, optI]
  | some b =>
    rw [h] at g0
    by_cases hb : b ≤ T
    · have hb2 : ¬ (T < b) := by omega
      obtain ⟨q1, q2⟩ := loopD_all (step := dTurn (gT 2 (gsC (gN 5) (gsC (gN 6) (gsN)))) dJ1) (r := .val (.bl false)) (fun Γ => ∃ a b c d, Γ = jE t m i T B a b c d) (fun (k : Nat) => PV.tup [.int k, optI (gb B k)]) (oneB t m B) (List.range t.length) (by
        rintro k hk Γ ⟨a, b, c, d, rfl⟩
        exact jb_one ok i T hB (List.mem_range.mp hk) a b c d) (jE t m i T B .un .un .un .un) ⟨_, _, _, _, rfl⟩
      have e1 : (dIfS (dBOr (dTr (dIsN (dIxN 4 (dNm 2)))) (dTr (dOp gGt (dIxN 4 (dNm 2)) (dNm 3)))) (dRt (vl (dBl false))) (dSkip)) (jE t m i T B .un .un .un .un) = some (.nx (jE t m i T B .un .un .un .un)) := by
        simp [-gIx, jE, g0, optI, hb2]
      have e2 : (dIt itE (dNm 4)) (jE t m i T B .un .un .un .un) = some ((List.range t.length).map fun (k : Nat) => PV.tup [.int k, optI (gb B k)], jE t m i T B .un .un .un .un) := by
        simp [jE, enum_B hB]
      dsimp only
      rw [show decide (b ≤ T) = true from decide_eq_true hb, Bool.true_and]
      cases ha : (List.range t.length).all (oneB t m B) with
      | true =>
        obtain ⟨Γ', e, a, b, c, d, rfl⟩ := q1 ha
        refine sem0_rt rfl (Γ' := jE t m i T B a b c d) ?_
        unfold d_judge_time_bound
        refine (dSeq_nx e0).trans ?_
        refine (dSeq_nx e1).trans ?_
        refine (dSeq_nx ((dFor_of e2).trans e)).trans ?_
        simp
      | false =>
        obtain ⟨Γ', e⟩ := q2 ha
        refine sem0_rt rfl (Γ' := Γ') ?_
        unfold d_judge_time_bound
        refine (dSeq_nx e0).trans ?_
        refine (dSeq_nx e1).trans ?_
        exact dSeq_rt ((dFor_of e2).trans e)
    · have hb2 : T < b := by omega
      dsimp only
      rw [show decide (b ≤ T) = false from decide_eq_false hb, Bool.false_and]
      refine sem0_rt rfl (Γ' := jE t m i T B .un .un .un .un) ?_
      unfold d_judge_time_bound
      refine (dSeq_nx e0).trans ?_
      refine dSeq_rt ?_
      simp [-gIx, jE, g0, optI, hb2]
/-! ### the bounds that the law tries -/
def encBs (Bs : List (List (Option Int))) : List PV := Bs.map fun B => .tup (encC B)
theorem plus_eq (o : Option Int) (z : Int) : m_law_plus [optI o, .int z] = some (.val (optI (o.map (· + z)))) := by
  cases o <;> simp [m_law_plus, d_law_plus, optI]
theorem putB {B : List (Option Int)} {p : Nat} (o : Option Int) (h : p < B.length) (hl : B.length ≤ 1000) : m_law_put [.tup (encC B), .int p, optI o] = some (.val (.tup (encC (B.set p o)))) := by
  rw [put_eq (encC B) p (optI o) (by rw [encC_len]; exact h) (by rw [encC_len]; exact hl)]
  simp [encC, List.map_set]
def dT3 : DS := dEx (dMt gAppend 6 (dCons (fz (dC0 (m_law_put) (dCons (dNm 5) (dCons (dNm 9) (dCons (fz (dC0 (m_law_plus) (dCons (dIxN 5 (dNm 9)) (dCons (dNm 10) (dNil))))) (dNil)))))) (dNil)))
def dT1 : DS := (dSeq (dSet 9 (dC1 (m_law_take) 0 (dCons (dUn gLen (dPk 1)) (dNil))))
        (dSeq (dFor (dIt itP (fz (dLst (dCons (dInt 1) (dCons (dUn gNeg (dInt 1)) (dCons (dUn gNeg (dOp gPow (dInt 10) (dInt 20))) (dNil))))))) (gN 10) dT3)
        (dSeq (dEx (dMt gAppend 6 (dCons (fz (dC0 (m_law_put) (dCons (dNm 5) (dCons (dNm 9) (dCons (dNon) (dNil)))))) (dNil))))
        (dEx (dMt gAppend 6 (dCons (fz (dC0 (m_law_put) (dCons (dNm 5) (dCons (dNm 9) (dCons (dNm 4) (dNil)))))) (dNil)))))))
def sE (ds : List Int) (t : List Pl) (m : Cl) (i : Nat) (T : Int) (F : List (Option Int)) (s6 a b c d e : Sl) : Ev := [.mu .par (dr ds), .val (encT t), .val (encM m), .val (.int i), .val (.int T), .val (.tup (encC F)), s6, a, b, c, d, e]
theorem encBs_app (Bs : List (List (Option Int))) (B : List (Option Int)) : encBs Bs ++ [.tup (encC B)] = encBs (Bs ++ [B]) := by simp [encBs]
@[simp] theorem encBs_len (Bs : List (List (Option Int))) : (encBs Bs).length = Bs.length := List.length_map _
theorem tb_in {t : List Pl} {m : Cl} (ok : TM t m) (ds : List Int) (i : Nat) (T : Int) {F : List (Option Int)} (hF : F.length = t.length) {p : Nat} (hp : p < t.length) (Bs : List (List (Option Int))) (hb : Bs.length ≤ 900) (z : Int) (a b d e : Sl) : dTurn (gN 10) dT3 (.int z) (sE ds t m i T F (.mu .own (.lst (encBs Bs))) a b (.val (.int p)) d e) = some (.nx (sE ds t m i T F (.mu .own (.lst (encBs (Bs ++ [F.set p ((gb F p).map (· + z))])))) a b (.val (.int p)) (.val (.int z)) e)) := by
  have hf := ok.few
  have g1 := at_B (B := F) (p := p) (by omega)
  have g2 := plus_eq (gb F p) z
  have g3 := putB (B := F) (p := p) ((gb F p).map (· + z)) (by omega) (by omega)
  have f : fits (Bs.length + 1) = true := fits_of (by omega)
  simp [-gIx, dT3, sE, g1, g2, g3, f, encBs_app]
theorem tb_step {t : List Pl} {m : Cl} (ok : TM t m) (ds : List Int) (i : Nat) (T : Int) {F : List (Option Int)} (hF : F.length = t.length) (Bs : List (List (Option Int))) (hb : Bs.length ≤ 800) (hB : ∀ B ∈ Bs, B.length = t.length) (x : PV) (a b c d e : Sl) : ∃ ds' Bs' c' d', Bs'.length = Bs.length + 5 ∧ (∀ B ∈ Bs', B.length = t.length) ∧ dTurn (gN 7) dT1 x (sE ds t m i T F (.mu .own (.lst (encBs Bs))) a b c d e) = some (.nx (sE ds' t m i T F (.mu .own (.lst (encBs Bs'))) (.val x) b c' d' e)) := by
  have hf := ok.few
  obtain ⟨p, ds', hp, e1⟩ := take_small ds t.length ok.pos
  have e4 : gLen (encT t) = some (.int t.length) := by simp [encT]
  let B1 := F.set p ((gb F p).map (· + 1))
  let B2 := F.set p ((gb F p).map (· + (-1)))
  let B3 := F.set p ((gb F p).map (· + (-100000000000000000000)))
  have w1 := tb_in ok ds' i T hF hp Bs (by omega) 1 (.val x) b d e
  have w2 := tb_in ok ds' i T hF hp (Bs ++ [B1]) (by simp; omega) (-1) (.val x) b (.val (.int 1)) e
  have w3 := tb_in ok ds' i T hF hp (Bs ++ [B1] ++ [B2]) (by simp; omega) (-100000000000000000000) (.val x) b (.val (.int (-1))) e
  have w4 := putB (B := F) (p := p) none (by omega) (by omega)
  have w5 := putB (B := F) (p := p) (some T) (by omega) (by omega)
  have k4 : optI none = .non := rfl
  have k5 : optI (some T) = .int T := rfl
  rw [k4] at w4
  rw [k5] at w5
  refine ⟨ds', Bs ++ [B1] ++ [B2] ++ [B3] ++ [F.set p none] ++ [F.set p (some T)], .val (.int p), .val (.int (-100000000000000000000)), by simp, fun B h => ?_, ?_⟩
  · simp only [List.mem_append, List.mem_singleton] at h
    rcases h with ((((h | rfl) | rfl) | rfl) | rfl) | rfl
    · exact hB B h
    all_goals simp only [B1, B2, B3, List.length_set]; exact hF
  · show dT1 (sE ds t m i T F (.mu .own (.lst (encBs Bs))) (.val x) b c d e) = _
    unfold dT1
    refine (dSeq_nx (Γ1 := sE ds' t m i T F (.mu .own (.lst (encBs Bs))) (.val x) b (.val (.int p)) d e) (by simp [-gLen, sE, e4, e1])).trans ?_
    refine (dSeq_nx (Γ1 := sE ds' t m i T F (.mu .own (.lst (encBs (Bs ++ [B1] ++ [B2] ++ [B3])))) (.val x) b (.val (.int p)) (.val (.int (-100000000000000000000))) e) ?_).trans ?_
    · refine (dFor_of (xs := [.int 1, .int (-1), .int (-100000000000000000000)]) (Γ1 := sE ds' t m i T F (.mu .own (.lst (encBs Bs))) (.val x) b (.val (.int p)) d e) (by simp [sE, mkL, pow20])).trans ?_
      rw [loopD, w1]
      dsimp only
      rw [loopD, w2]
      dsimp only
      rw [loopD, w3]
      rfl
    generalize hBs : Bs ++ [B1] ++ [B2] ++ [B3] = Cs
    have hl : Cs.length = Bs.length + 3 := by rw [← hBs]; simp
    have f1 : fits (Cs.length + 1) = true := fits_of (by omega)
    have f2 : fits ((Cs ++ [F.set p none]).length + 1) = true := fits_of (by simp; omega)
    refine (dSeq_nx (Γ1 := sE ds' t m i T F (.mu .own (.lst (encBs (Cs ++ [F.set p none])))) (.val x) b (.val (.int p)) (.val (.int (-100000000000000000000))) e) (by simp [sE, w4, f1, encBs_app])).trans ?_
    generalize hDs : Cs ++ [F.set p none] = Ds at f2
    simp [sE, w5, f2, encBs_app]
def firsts (t : List Pl) (m : Cl) (T : Int) (i : Nat) : List (Option Int) := (List.range t.length).map fun j => (look (fin t m T i) j).map fun w => T + (w.length : Int)
theorem firsts_enc (t : List Pl) (m : Cl) (T : Int) (i : Nat) : ((List.range t.length).map fun j => encF T (look (fin t m T i) j)) = encC (firsts t m T i) := by
  unfold encC firsts
  rw [List.map_map]
  refine List.map_congr_left fun j _ => ?_
  show _ = optI ((look (fin t m T i) j).map fun w => T + (w.length : Int))
  cases look (fin t m T i) j <;> rfl
theorem rep_enc (n : Nat) (z : Int) : (List.replicate n [PV.int z]).flatten = encC (List.replicate n (some z)) := by
  induction n with
  | zero => rfl
  | succ n ih =>
    rw [List.replicate_succ, List.flatten_cons, ih, List.replicate_succ]
    rfl
theorem gRep_t {t : List Pl} (h1 : 2 ≤ t.length) (h2 : t.length ≤ 60) (z : Int) : gRepT (.tup [.int z]) (.int t.length) = some (.tup (encC (List.replicate t.length (some z)))) := by
  rw [gRepT_of (by simp; omega), Int.toNat_natCast, rep_enc]
theorem bounds_eq {t : List Pl} {m : Cl} (ok : TM t m) (h2 : 2 ≤ t.length) (ds : List Int) {i : Nat} (hi : i < t.length) (T : Int) : ∃ ds', m_law_time_bounds_right (dr ds) [encT t, encM m, .int i, .int T] = some (.val (.bl true), dr ds') := by
  have hf := ok.few
  have e0 := law_times_eq ok (T := T) hi
  rw [firsts_enc] at e0
  have hF : (firsts t m T i).length = t.length := by simp [firsts]
  generalize firsts t m T i = F at *
  have r1 := gRep_t h2 hf T
  have r2 := gRep_t h2 hf (T - 3)
  have r3 := gRep_t h2 hf (T + 1)
  have e4 : gLen (encT t) = some (.int t.length) := by simp [encT]
  let I : Nat → Ev → Prop := fun k Γ => ∃ ds Bs a c d, Bs.length = 4 + 5 * k ∧ (∀ B ∈ Bs, B.length = t.length) ∧ Γ = sE ds t m i T F (.mu .own (.lst (encBs Bs))) a .un c d .un
  obtain ⟨Γ', e5, ds1, Bs, a, c, d, hl, hB, rfl⟩ := loopD_inv (step := dTurn (gN 7) dT1) I (rgP 0 4) 0 (sE ds t m i T F (.mu .own (.lst (encBs [F, List.replicate t.length (some T), List.replicate t.length (some (T - 3)), List.replicate t.length (some (T + 1))]))) .un .un .un .un .un) ⟨_, _, _, _, _, rfl, fun B h => by
    simp only [List.mem_cons, List.not_mem_nil, or_false] at h
    rcases h with rfl | rfl | rfl | rfl
    · exact hF
    all_goals exact List.length_replicate, rfl⟩ fun k x Γ hx ⟨ds, Bs, a, c, d, hl, hB, hΓ⟩ => by
    subst hΓ
    have hk := (rgP_get hx).1
    obtain ⟨ds', Bs', c', d', h1, h2, e⟩ := tb_step ok ds i T hF Bs (by omega) hB x a .un c d .un
    exact ⟨_, .inl e, ds', Bs', _, _, _, by rw [h1, hl]; omega, h2, rfl⟩
  let I2 : Ev → Prop := fun Γ => ∃ b c, Γ = sE ds1 t m i T F (.val (.lst (encBs Bs))) a b c d .un
  let J : Nat → Ev → Prop := fun _ Γ => ∃ b e, Γ = sE ds1 t m i T F (.val (.lst (encBs Bs))) a b c d e
  obtain ⟨Γ', e6, b, e, rfl⟩ := loopD_inv (step := dTurn (gN 8) (dSeq (dSet 11 (dC0 (m_law_is_time_bound) (dCons (dNm 1) (dCons (dNm 2) (dCons (dNm 3) (dCons (dNm 4) (dCons (dNm 8) (dNil))))))))
        (dIfS (dBNot (dTr (fz (dC0 (m_law_same 8) (dCons (fz (dC0 (m_judge_time_bound) (dCons (dNm 1) (dCons (dNm 2) (dCons (dNm 3) (dCons (dNm 4) (dCons (dNm 8) (dNil)))))))) (dCons (dNm 11) (dNil))))))) (dRt (vl (dBl false))) (dSkip)))) J (encBs Bs) 0 (sE ds1 t m i T F (.val (.lst (encBs Bs))) a .un c d .un) ⟨_, _, rfl⟩ fun k x Γ hx ⟨b, e, hΓ⟩ => by
    subst hΓ
    unfold encBs at hx
    rw [List.getElem?_map] at hx
    obtain ⟨B, hBm, rfl⟩ := Option.map_eq_some_iff.mp hx
    have hl := hB B (List.mem_of_getElem? hBm)
    have g1 := law_bound_eq ok hi T hl
    have g2 := judge_bound_eq ok hi T hl
    have g3 : m_law_same 8 [.bl (bokB t m B i T), .bl (bokB t m B i T)] = some (.val (.bl true)) := same_refl 8 _ trivial
    refine ⟨sE ds1 t m i T F (.val (.lst (encBs Bs))) a (.val (.tup (encC B))) c d (.val (.bl (bokB t m B i T))), .inl ?_, _, _, rfl⟩
    simp [sE, g1, g2, g3]
  refine ⟨ds1, ?_⟩
  refine sem1_rt rfl (Γ' := [.val (encT t), .val (encM m), .val (.int i), .val (.int T), .val (.tup (encC F)), .val (.lst (encBs Bs)), a, b, c, d, e]) ?_
  unfold d_law_time_bounds_right
  refine (dSeq_nx (Γ1 := [.mu .par (dr ds), .val (encT t), .val (encM m), .val (.int i), .val (.int T), .val (.tup (encC F)), .un, .un, .un, .un, .un, .un]) (by simp [e0])).trans ?_
  refine (dSeq_nx (Γ1 := sE ds t m i T F (.mu .own (.lst (encBs [F, List.replicate t.length (some T), List.replicate t.length (some (T - 3)), List.replicate t.length (some (T + 1))]))) .un .un .un .un .un) (by simp [-gLen, sE, mkT, mkL, e4, r1, r2, r3, encBs])).trans ?_
  refine (dSeq_nx ((dFor_of (xs := rgP 0 4) (by have := itR1_nat (n := 4) (by decide); simp at this; simp [sE, this])).trans e5)).trans ?_
  refine (dSeq_nx ((dFor_of (xs := encBs Bs) (Γ1 := sE ds1 t m i T F (.val (.lst (encBs Bs))) a .un c d .un) (by simp [sE])).trans e6)).trans ?_
  simp [sE]
/-! ### the law -/
theorem lay_nls : ∀ xs : List Nat, PyData.canLayAll0 (toPDs (nls xs)) = true ∧ PyData.depthAll (toPDs (nls xs)) = 0
  | [] => by simp [nls, toPDs, PyData.canLayAll0, PyData.depthAll]
  | x :: xs => by
    obtain ⟨a, b⟩ := lay_nls xs
    have e : nls (x :: xs) = .int x :: nls xs := rfl
    rw [e]
    simp [toPDs, toPD, PyData.canLayAll0, PyData.depthAll, PyData.canLay0, PyData.depth, a, b]
theorem shp_encL (o : Option (List Nat)) : shp (encL o) = true := by
  cases o with
  | none => rfl
  | some w =>
    obtain ⟨a, b⟩ := lay_nls w
    unfold shp SeqAt.shaped
    simp [encL, toPD, PyData.canLay0, PyData.depth, a, b]
theorem gIn_RW (n : Nat) (s : Sd) : gIn .non (.lst (RW n s)) = some ((RW n s).any fun q => match q with | .non => true | _ => false) := by
  have e1 : ∀ q, pflat q = true → pfEq q .non = (match q with | .non => true | _ => false) := fun q h => by
    cases q <;> first | rfl | cases h
  have e2 : ∀ o : Option (List Nat), pvEq (encL o) .non = (match encL o with | .non => true | _ => false) := fun o => by
    cases o <;> rfl
  unfold gIn
  dsimp only
  by_cases c : (RW n s).all pflat = true
  · rw [c, show pflat .non = true from rfl, Bool.true_and, if_pos rfl]
    congr 1
    rw [Bool.eq_iff_iff, List.any_eq_true, List.any_eq_true]
    constructor
    · rintro ⟨q, hq, h⟩
      exact ⟨q, hq, by rw [← e1 q (List.all_eq_true.mp c q hq)]; exact h⟩
    · rintro ⟨q, hq, h⟩
      exact ⟨q, hq, by rw [e1 q (List.all_eq_true.mp c q hq)]; exact h⟩
  · have c2 : (RW n s).all shp = true := List.all_eq_true.mpr fun q hq => by
      obtain ⟨j, _, rfl⟩ := List.mem_map.mp hq
      exact shp_encL _
    have c3 : shq .non = true := by
      unfold shq
      simp [toPD, PyData.depth]
    have c4 : ((RW n s).all pflat) = false := by simpa using c
    rw [c4, Bool.and_false, if_neg Bool.false_ne_true, c2, c3, Bool.and_self, if_pos rfl]
    congr 1
    rw [Bool.eq_iff_iff, List.any_eq_true, List.any_eq_true]
    constructor
    · rintro ⟨q, hq, h⟩
      refine ⟨q, hq, ?_⟩
      obtain ⟨j, _, rfl⟩ := List.mem_map.mp hq
      rw [← e2]
      exact h
    · rintro ⟨q, hq, h⟩
      refine ⟨q, hq, ?_⟩
      obtain ⟨j, _, rfl⟩ := List.mem_map.mp hq
      rw [e2]
      exact h
theorem none_in {t : List Pl} {m : Cl} (ok : TM t m) {T : Int} {i : Nat} (hi : i < t.length) : gIn .non (.lst (RW t.length (fin t m T i))) = some (!decide ((fin t m T i).length = t.length)) := by
  rw [gIn_RW]
  congr 1
  rw [Bool.eq_iff_iff, List.any_eq_true, Bool.not_eq_true', decide_eq_false_iff_not, full_iff ok hi]
  constructor
  · rintro ⟨q, hq, h⟩ c
    obtain ⟨j, hj, rfl⟩ := List.mem_map.mp hq
    obtain ⟨w, hw⟩ := c j (List.mem_range.mp hj)
    rw [hw] at h
    cases h
  · intro c
    apply Classical.byContradiction
    intro h
    refine c fun j hj => ?_
    cases e : look (fin t m T i) j with
    | some w => exact ⟨w, rfl⟩
    | none =>
      refine absurd ⟨encL (look (fin t m T i) j), List.mem_map.mpr ⟨j, List.mem_range.mpr hj, rfl⟩, ?_⟩ h
      rw [e]
      rfl
theorem main (ns : List Int) (hns : ns.length ≤ 63) : m_law [.scr ns] = some (.val (.bl true)) := by
  obtain ⟨ds, e1⟩ := draws_eq ns hns 420 (by decide)
  obtain ⟨t, ds2, h1, h2, h3, e2⟩ := great_town_eq ds
  obtain ⟨T, ds3, e3⟩ := time_eq ds2
  obtain ⟨m, ds4, hm, e4⟩ := closings_eq ds3 T t (by omega) fun p hp => (h3 p hp).len
  have ok : TM t m := by
    have hl : m.length = t.length := by
      have := congrArg List.length hm
      simpa using this
    refine ⟨by omega, by omega, h3, hl, fun i => ?_⟩
    have := congrArg (fun l => l[i]?) hm
    simp only [List.getElem?_map] at this
    unfold crow row
    rw [List.getD_eq_getElem?_getD, List.getD_eq_getElem?_getD]
    cases a : m[i]? with
    | none =>
      rw [a] at this
      cases b : t[i]? with
      | none => rfl
      | some p => rw [b] at this; cases this
    | some r =>
      rw [a] at this
      cases b : t[i]? with
      | none => rw [b] at this; cases this
      | some p => rw [b] at this; exact Option.some.inj this
  obtain ⟨i, ds5, hi, e5⟩ := take_small ds4 t.length (by omega)
  obtain ⟨tg, ds6, htg, e6⟩ := take_small ds5 t.length (by omega)
  obtain ⟨ds7, e7⟩ := bounds_eq ok (by omega) ds6 hi T
  have g1 := first_times_eq ok (T := T) hi
  have g2 := law_times_eq ok (T := T) hi
  have g3 := walks_right_eq ok (T := T) hi
  have g4 := last_right_eq ok htg
  have g5 := starts_eq ok (T := T)
  have s1 : m_law_same 8 [.tup ((List.range t.length).map fun j => encF T (look (fin t m T i) j)), .tup ((List.range t.length).map fun j => encF T (look (fin t m T i) j))] = some (.val (.bl true)) := same_refl 8 _ (fine_tup (by simp; omega) fun x hx => by
    obtain ⟨j, _, rfl⟩ := List.mem_map.mp hx
    cases look (fin t m T i) j <;> trivial)
  let st := (List.range t.length).filter fun i => decide ((fin t m T i).length = t.length)
  have hst : st.length ≤ 100 := Nat.le_trans (List.length_filter_le _ _) (by rw [List.length_range]; omega)
  have s2 : m_law_same 8 [.tup (nls st), .tup (nls st)] = some (.val (.bl true)) := same_refl 8 _ (fine_tup (by rw [nls_length]; omega) fine_nls)
  have k4 : gLen (encT t) = some (.int t.length) := by simp [encT]
  have f0 : itR1 (.int t.length) = some (nls (List.range t.length)) := by rw [itR1_nat (by omega), rgP_nls]
  have f : fits t.length = true := fits_of (by omega)
  have hc : compL [7] (gN 7) (dTr (dNotIn (dNon) (fz (dC0 (m_law_timed_rows) (dCons (dNm 2) (dCons (dNm 4) (dCons (dNm 7) (dCons (dNm 3) (dNil))))))))) (dNm 7) (nls (List.range t.length)) [.val (.scr ns), .mu .own (dr ds6), .val (encT t), .val (.int T), .val (encM m), .val (.int i), .un, .un] = some (st.map fun (j : Nat) => PV.int j, [.val (.scr ns), .mu .own (dr ds6), .val (encT t), .val (.int T), .val (encM m), .val (.int i), .un, .un]) := by
    refine compL_if (fun (j : Nat) => PV.int j) _ _ _ _ fun j hj => ?_
    have hj := List.mem_range.mp hj
    have q1 := rows_eq ok (T := T) hj
    have q2 := none_in ok (T := T) hj
    refine ⟨[.val (.scr ns), .mu .own (dr ds6), .val (encT t), .val (.int T), .val (encM m), .val (.int i), .un, .val (.int j)], [.val (.scr ns), .mu .own (dr ds6), .val (encT t), .val (.int T), .val (encM m), .val (.int i), .un, .val (.int j)], rfl, ?_, fun _ => ⟨[.val (.scr ns), .mu .own (dr ds6), .val (encT t), .val (.int T), .val (encM m), .val (.int i), .un, .val (.int j)], rfl, rfl⟩, fun _ => rfl⟩
    simp [q1, q2]
  rw [show ((420 : Nat) : Int) = 420 from rfl] at e1
  refine sem0_rt rfl (Γ' := [.val (.scr ns), .mu .own (dr ds7), .val (encT t), .val (.int T), .val (encM m), .val (.int i), .mu .own (.lst (nls st)), .un]) ?_
  unfold d_law
  refine (dSeq_nx (Γ1 := [.val (.scr ns), .mu .own (dr ds), .un, .un, .un, .un, .un, .un]) (by simp [e1])).trans ?_
  refine (dSeq_nx (Γ1 := [.val (.scr ns), .mu .own (dr ds2), .val (encT t), .un, .un, .un, .un, .un]) (by simp [e2])).trans ?_
  refine (dSeq_nx (Γ1 := [.val (.scr ns), .mu .own (dr ds3), .val (encT t), .val (.int T), .un, .un, .un, .un]) (by simp [e3])).trans ?_
  refine (dSeq_nx (Γ1 := [.val (.scr ns), .mu .own (dr ds4), .val (encT t), .val (.int T), .val (encM m), .un, .un, .un]) (by simp [e4])).trans ?_
  refine (dSeq_nx (Γ1 := [.val (.scr ns), .mu .own (dr ds5), .val (encT t), .val (.int T), .val (encM m), .val (.int i), .un, .un]) (by simp [-gLen, k4, e5])).trans ?_
  refine (dSeq_nx (Γ1 := [.val (.scr ns), .mu .own (dr ds5), .val (encT t), .val (.int T), .val (encM m), .val (.int i), .un, .un]) (by simp [g1, g2, s1])).trans ?_
  refine (dSeq_nx (Γ1 := [.val (.scr ns), .mu .own (dr ds5), .val (encT t), .val (.int T), .val (encM m), .val (.int i), .un, .un]) (by simp [g3])).trans ?_
  refine (dSeq_nx (Γ1 := [.val (.scr ns), .mu .own (dr ds6), .val (encT t), .val (.int T), .val (encM m), .val (.int i), .un, .un]) (by simp [-gLen, k4, e6, g4])).trans ?_
  refine (dSeq_nx (Γ1 := [.val (.scr ns), .mu .own (dr ds6), .val (encT t), .val (.int T), .val (encM m), .val (.int i), .mu .own (.lst (nls st)), .un]) (by simp [-gLen, k4, f0, nls_length, f, hc]; rfl)).trans ?_
  refine (dSeq_nx (Γ1 := [.val (.scr ns), .mu .own (dr ds6), .val (encT t), .val (.int T), .val (encM m), .val (.int i), .mu .own (.lst (nls st)), .un]) (by simp [g5]; rw [s2]; rfl)).trans ?_
  simp [e7]
end
section
/-! ### the text -/
variable [Fx]
def topS (i : Nat) : Stmt := PySem.Challenge.pw_mapwalked_k67_closings_in_greater_towns.main.body.getD i (.Pass ⟨0, 0, 0, 0⟩)
abbrev s_law_take : Stmt := topS 36
abbrev s_law_pick : Stmt := topS 41
abbrev s_law_closings : Stmt := topS 44
abbrev s_law_draws : Stmt := topS 39
abbrev s_law_goal : Stmt := topS 21
abbrev s_law_can_go : Stmt := topS 22
abbrev s_law_opens : Stmt := topS 20
abbrev s_law_timed_moves : Stmt := topS 24
abbrev s_law_timed_rows : Stmt := topS 25
abbrev s_law_first_times : Stmt := topS 35
abbrev s_law_words : Stmt := topS 40
abbrev s_law_great_town : Stmt := topS 42
abbrev s_law_is_int : Stmt := topS 33
abbrev s_law_earlier : Stmt := topS 31
abbrev s_law_later : Stmt := topS 30
abbrev s_law_last_times_of : Stmt := topS 32
abbrev s_law_same : Stmt := topS 26
abbrev s_is_passable : Stmt := topS 7
abbrev s_open_doors : Stmt := topS 5
abbrev s_timed_doors : Stmt := topS 9
abbrev s_ways_in_time : Stmt := topS 10
abbrev s_first_ways : Stmt := topS 11
abbrev s_first_timed_walk : Stmt := topS 13
abbrev s_last_through : Stmt := topS 14
abbrev s_later_one : Stmt := topS 15
abbrev s_last_times : Stmt := topS 16
abbrev s_law_last_right : Stmt := topS 34
abbrev s_law_time : Stmt := topS 43
abbrev s_law_is_time_bound : Stmt := topS 23
abbrev s_law_plus : Stmt := topS 37
abbrev s_law_put : Stmt := topS 28
abbrev s_is_number : Stmt := topS 1
abbrev s_is_row_of : Stmt := topS 2
abbrev s_judge_time_bound : Stmt := topS 17
abbrev s_law_time_bounds_right : Stmt := topS 38
abbrev s_law_end : Stmt := topS 27
abbrev s_step_from : Stmt := topS 4
abbrev s_timed_end : Stmt := topS 8
abbrev s_law_timed_walks_right : Stmt := topS 29
abbrev s_first_times : Stmt := topS 12
abbrev s_starts_to_all : Stmt := topS 18
abbrev s_law : Stmt := topS 45
theorem sc_law_take : FnScope ["draws", "many"] ["draws", "many"] (defScope s_law_take) := ⟨rfl, rfl, rfl, by decide +kernel, rfl, by decide +kernel, by decide +kernel⟩
theorem sc_law_pick : FnScope ["draws", "row"] ["draws", "row"] (defScope s_law_pick) := ⟨rfl, rfl, rfl, by decide +kernel, rfl, by decide +kernel, by decide +kernel⟩
theorem sc_law_closings : FnScope ["draws", "town", "t", "told", "place", "row", "door", "time"] ["draws", "town", "t"] (defScope s_law_closings) := ⟨rfl, rfl, rfl, by decide +kernel, rfl, by decide +kernel, by decide +kernel⟩
theorem sc_law_draws : FnScope ["script", "many", "cells", "left", "draws", "k", "place", "cell", "mixed"] ["script", "many"] (defScope s_law_draws) := ⟨rfl, rfl, rfl, by decide +kernel, rfl, by decide +kernel, by decide +kernel⟩
theorem sc_law_goal : FnScope ["town", "place", "door", "doors"] ["town", "place", "door"] (defScope s_law_goal) := ⟨rfl, rfl, rfl, by decide +kernel, rfl, by decide +kernel, by decide +kernel⟩
theorem sc_law_can_go : FnScope ["town", "times", "place", "door", "time", "closing"] ["town", "times", "place", "door", "time"] (defScope s_law_can_go) := ⟨rfl, rfl, rfl, by decide +kernel, rfl, by decide +kernel, by decide +kernel⟩
theorem sc_law_opens : FnScope ["town", "place", "k"] ["town", "place"] (defScope s_law_opens) := ⟨rfl, rfl, rfl, by decide +kernel, rfl, by decide +kernel, by decide +kernel⟩
theorem sc_law_timed_moves : FnScope ["data", "state", "doors", "town", "times", "place", "time", "door"] ["data", "state"] (defScope s_law_timed_moves) := ⟨rfl, rfl, rfl, by decide +kernel, rfl, by decide +kernel, by decide +kernel⟩
theorem sc_law_timed_rows : FnScope ["town", "times", "place", "t", "rows", "queue", "k", "here", "move", "goal"] ["town", "times", "place", "t"] (defScope s_law_timed_rows) := ⟨rfl, rfl, rfl, by decide +kernel, rfl, by decide +kernel, by decide +kernel⟩
theorem sc_law_first_times : FnScope ["town", "times", "place", "t", "told", "row"] ["town", "times", "place", "t"] (defScope s_law_first_times) := ⟨rfl, rfl, rfl, by decide +kernel, rfl, by decide +kernel, by decide +kernel⟩
theorem sc_law_words : FnScope ["draws", "many", "words", "k", "size", "word", "j", "other"] ["draws", "many"] (defScope s_law_words) := ⟨rfl, rfl, rfl, by decide +kernel, rfl, by decide +kernel, by decide +kernel⟩
theorem sc_law_great_town : FnScope ["draws", "least", "most", "many", "words", "ring", "told", "k", "doors", "j", "goal"] ["draws", "least", "most"] (defScope s_law_great_town) := ⟨rfl, rfl, rfl, by decide +kernel, rfl, by decide +kernel, by decide +kernel⟩
theorem sc_law_is_int : FnScope ["thing"] ["thing"] (defScope s_law_is_int) := ⟨rfl, rfl, rfl, by decide +kernel, rfl, by decide +kernel, by decide +kernel⟩
theorem sc_law_earlier : FnScope ["behind", "closing"] ["behind", "closing"] (defScope s_law_earlier) := ⟨rfl, rfl, rfl, by decide +kernel, rfl, by decide +kernel, by decide +kernel⟩
theorem sc_law_later : FnScope ["one", "other"] ["one", "other"] (defScope s_law_later) := ⟨rfl, rfl, rfl, by decide +kernel, rfl, by decide +kernel, by decide +kernel⟩
theorem sc_law_last_times_of : FnScope ["town", "times", "target", "told", "turn", "place", "door", "behind"] ["town", "times", "target"] (defScope s_law_last_times_of) := ⟨rfl, rfl, rfl, by decide +kernel, rfl, by decide +kernel, by decide +kernel⟩
theorem sc_law_same : FnScope ["actual", "due", "k"] ["actual", "due"] (defScope s_law_same) := ⟨rfl, rfl, rfl, by decide +kernel, rfl, by decide +kernel, by decide +kernel⟩
theorem sc_is_passable : FnScope ["closing", "time"] ["closing", "time"] (defScope s_is_passable) := ⟨rfl, rfl, rfl, by decide +kernel, rfl, by decide +kernel, by decide +kernel⟩
theorem sc_open_doors : FnScope ["town", "place", "door", "goal"] ["town", "place"] (defScope s_open_doors) := ⟨rfl, rfl, rfl, by decide +kernel, rfl, by decide +kernel, by decide +kernel⟩
theorem sc_timed_doors : FnScope ["town", "times", "place", "time", "door", "goal"] ["town", "times", "place", "time"] (defScope s_timed_doors) := ⟨rfl, rfl, rfl, by decide +kernel, rfl, by decide +kernel, by decide +kernel⟩
theorem sc_ways_in_time : FnScope ["start", "t", "moves", "ways", "queue", "many", "state", "door", "behind"] ["start", "t", "moves"] (defScope s_ways_in_time) := ⟨rfl, rfl, rfl, by decide +kernel, rfl, by decide +kernel, by decide +kernel⟩
theorem sc_first_ways : FnScope ["town", "times", "place", "t"] ["town", "times", "place", "t"] (defScope s_first_ways) := ⟨rfl, rfl, rfl, by decide +kernel, rfl, by decide +kernel, by decide +kernel⟩
theorem sc_first_timed_walk : FnScope ["town", "times", "place", "t", "target", "ways"] ["town", "times", "place", "t", "target"] (defScope s_first_timed_walk) := ⟨rfl, rfl, rfl, by decide +kernel, rfl, by decide +kernel, by decide +kernel⟩
theorem sc_last_through : FnScope ["closing", "behind"] ["closing", "behind"] (defScope s_last_through) := ⟨rfl, rfl, rfl, by decide +kernel, rfl, by decide +kernel, by decide +kernel⟩
theorem sc_later_one : FnScope ["time", "other"] ["time", "other"] (defScope s_later_one) := ⟨rfl, rfl, rfl, by decide +kernel, rfl, by decide +kernel, by decide +kernel⟩
theorem sc_last_times : FnScope ["town", "times", "target", "lasts", "_", "changed", "place", "time", "door", "goal"] ["town", "times", "target"] (defScope s_last_times) := ⟨rfl, rfl, rfl, by decide +kernel, rfl, by decide +kernel, by decide +kernel⟩
theorem sc_law_last_right : FnScope ["town", "times", "target", "due", "place"] ["town", "times", "target"] (defScope s_law_last_right) := ⟨rfl, rfl, rfl, by decide +kernel, rfl, by decide +kernel, by decide +kernel⟩
theorem sc_law_time : FnScope ["draws"] ["draws"] (defScope s_law_time) := ⟨rfl, rfl, rfl, by decide +kernel, rfl, by decide +kernel, by decide +kernel⟩
theorem sc_law_is_time_bound : FnScope ["town", "times", "place", "t", "bound", "k", "door", "goal"] ["town", "times", "place", "t", "bound"] (defScope s_law_is_time_bound) := ⟨rfl, rfl, rfl, by decide +kernel, rfl, by decide +kernel, by decide +kernel⟩
theorem sc_law_plus : FnScope ["number", "more"] ["number", "more"] (defScope s_law_plus) := ⟨rfl, rfl, rfl, by decide +kernel, rfl, by decide +kernel, by decide +kernel⟩
theorem sc_law_put : FnScope ["row", "k", "thing"] ["row", "k", "thing"] (defScope s_law_put) := ⟨rfl, rfl, rfl, by decide +kernel, rfl, by decide +kernel, by decide +kernel⟩
theorem sc_is_number : FnScope ["part"] ["part"] (defScope s_is_number) := ⟨rfl, rfl, rfl, by decide +kernel, rfl, by decide +kernel, by decide +kernel⟩
theorem sc_is_row_of : FnScope ["part", "size"] ["part", "size"] (defScope s_is_row_of) := ⟨rfl, rfl, rfl, by decide +kernel, rfl, by decide +kernel, by decide +kernel⟩
theorem sc_judge_time_bound : FnScope ["town", "times", "place", "t", "bound", "now", "time", "_", "goal", "part"] ["town", "times", "place", "t", "bound"] (defScope s_judge_time_bound) := ⟨rfl, rfl, rfl, by decide +kernel, rfl, by decide +kernel, by decide +kernel⟩
theorem sc_law_time_bounds_right : FnScope ["draws", "town", "times", "place", "t", "first", "bounds", "k", "bound", "spot", "more", "due"] ["draws", "town", "times", "place", "t"] (defScope s_law_time_bounds_right) := ⟨rfl, rfl, rfl, by decide +kernel, rfl, by decide +kernel, by decide +kernel⟩
theorem sc_law_end : FnScope ["town", "place", "walk", "now", "door"] ["town", "place", "walk"] (defScope s_law_end) := ⟨rfl, rfl, rfl, by decide +kernel, rfl, by decide +kernel, by decide +kernel⟩
theorem sc_step_from : FnScope ["town", "place", "door", "doors"] ["town", "place", "door"] (defScope s_step_from) := ⟨rfl, rfl, rfl, by decide +kernel, rfl, by decide +kernel, by decide +kernel⟩
theorem sc_timed_end : FnScope ["town", "times", "place", "t", "walk", "now", "time", "part", "goal"] ["town", "times", "place", "t", "walk"] (defScope s_timed_end) := ⟨rfl, rfl, rfl, by decide +kernel, rfl, by decide +kernel, by decide +kernel⟩
theorem sc_law_timed_walks_right : FnScope ["town", "times", "place", "t", "rows", "target", "row", "spot", "closed"] ["town", "times", "place", "t"] (defScope s_law_timed_walks_right) := ⟨rfl, rfl, rfl, by decide +kernel, rfl, by decide +kernel, by decide +kernel⟩
theorem sc_first_times : FnScope ["town", "times", "place", "t", "ways", "goal"] ["town", "times", "place", "t"] (defScope s_first_times) := ⟨rfl, rfl, rfl, by decide +kernel, rfl, by decide +kernel, by decide +kernel⟩
theorem sc_starts_to_all : FnScope ["town", "times", "t", "place"] ["town", "times", "t"] (defScope s_starts_to_all) := ⟨rfl, rfl, rfl, by decide +kernel, rfl, by decide +kernel, by decide +kernel⟩
theorem sc_law : FnScope ["script", "draws", "town", "t", "times", "place", "starts", "k"] ["script"] (defScope s_law) := ⟨rfl, rfl, rfl, by decide +kernel, rfl, by decide +kernel, by decide +kernel⟩
/-- the names of the code objects, by where they stand -/
def nmG (l c : Nat) : Str := if l = 43 ∧ c = 34 then "first_ways.<locals>.<lambda>" else ""
/-- what the top has left -/
structure Tx (K : PySem.W.Frag) (mg : Str → Option Value) where
  a_law_take : Addr
  fd_law_take : FuncData
  F_law_take : Fun K "_law_take" "_law_take" s_law_take a_law_take fd_law_take
  b_law_take : Binds K fd_law_take ["draws", "many"] []
  g_law_take : mg "_law_take" = some (.ref a_law_take)
  a_law_pick : Addr
  fd_law_pick : FuncData
  F_law_pick : Fun K "_law_pick" "_law_pick" s_law_pick a_law_pick fd_law_pick
  b_law_pick : Binds K fd_law_pick ["draws", "row"] []
  g_law_pick : mg "_law_pick" = some (.ref a_law_pick)
  a_law_closings : Addr
  fd_law_closings : FuncData
  F_law_closings : Fun K "_law_closings" "_law_closings" s_law_closings a_law_closings fd_law_closings
  b_law_closings : Binds K fd_law_closings ["draws", "town", "t"] []
  g_law_closings : mg "_law_closings" = some (.ref a_law_closings)
  a_law_draws : Addr
  fd_law_draws : FuncData
  F_law_draws : Fun K "_law_draws" "_law_draws" s_law_draws a_law_draws fd_law_draws
  b_law_draws : Binds K fd_law_draws ["script", "many"] []
  g_law_draws : mg "_law_draws" = some (.ref a_law_draws)
  a_law_goal : Addr
  fd_law_goal : FuncData
  F_law_goal : Fun K "_law_goal" "_law_goal" s_law_goal a_law_goal fd_law_goal
  b_law_goal : Binds K fd_law_goal ["town", "place", "door"] []
  g_law_goal : mg "_law_goal" = some (.ref a_law_goal)
  a_law_can_go : Addr
  fd_law_can_go : FuncData
  F_law_can_go : Fun K "_law_can_go" "_law_can_go" s_law_can_go a_law_can_go fd_law_can_go
  b_law_can_go : Binds K fd_law_can_go ["town", "times", "place", "door", "time"] []
  g_law_can_go : mg "_law_can_go" = some (.ref a_law_can_go)
  a_law_opens : Addr
  fd_law_opens : FuncData
  F_law_opens : Fun K "_law_opens" "_law_opens" s_law_opens a_law_opens fd_law_opens
  b_law_opens : Binds K fd_law_opens ["town", "place"] []
  g_law_opens : mg "_law_opens" = some (.ref a_law_opens)
  a_law_timed_moves : Addr
  fd_law_timed_moves : FuncData
  F_law_timed_moves : Fun K "_law_timed_moves" "_law_timed_moves" s_law_timed_moves a_law_timed_moves fd_law_timed_moves
  b_law_timed_moves : Binds K fd_law_timed_moves ["data", "state"] []
  g_law_timed_moves : mg "_law_timed_moves" = some (.ref a_law_timed_moves)
  a_law_timed_rows : Addr
  fd_law_timed_rows : FuncData
  F_law_timed_rows : Fun K "_law_timed_rows" "_law_timed_rows" s_law_timed_rows a_law_timed_rows fd_law_timed_rows
  b_law_timed_rows : Binds K fd_law_timed_rows ["town", "times", "place", "t"] []
  g_law_timed_rows : mg "_law_timed_rows" = some (.ref a_law_timed_rows)
  a_law_first_times : Addr
  fd_law_first_times : FuncData
  F_law_first_times : Fun K "_law_first_times" "_law_first_times" s_law_first_times a_law_first_times fd_law_first_times
  b_law_first_times : Binds K fd_law_first_times ["town", "times", "place", "t"] []
  g_law_first_times : mg "_law_first_times" = some (.ref a_law_first_times)
  a_law_words : Addr
  fd_law_words : FuncData
  F_law_words : Fun K "_law_words" "_law_words" s_law_words a_law_words fd_law_words
  b_law_words : Binds K fd_law_words ["draws", "many"] []
  g_law_words : mg "_law_words" = some (.ref a_law_words)
  a_law_great_town : Addr
  fd_law_great_town : FuncData
  F_law_great_town : Fun K "_law_great_town" "_law_great_town" s_law_great_town a_law_great_town fd_law_great_town
  b_law_great_town : Binds K fd_law_great_town ["draws", "least", "most"] []
  g_law_great_town : mg "_law_great_town" = some (.ref a_law_great_town)
  a_law_is_int : Addr
  fd_law_is_int : FuncData
  F_law_is_int : Fun K "_law_is_int" "_law_is_int" s_law_is_int a_law_is_int fd_law_is_int
  b_law_is_int : Binds K fd_law_is_int ["thing"] []
  g_law_is_int : mg "_law_is_int" = some (.ref a_law_is_int)
  a_law_earlier : Addr
  fd_law_earlier : FuncData
  F_law_earlier : Fun K "_law_earlier" "_law_earlier" s_law_earlier a_law_earlier fd_law_earlier
  b_law_earlier : Binds K fd_law_earlier ["behind", "closing"] []
  g_law_earlier : mg "_law_earlier" = some (.ref a_law_earlier)
  a_law_later : Addr
  fd_law_later : FuncData
  F_law_later : Fun K "_law_later" "_law_later" s_law_later a_law_later fd_law_later
  b_law_later : Binds K fd_law_later ["one", "other"] []
  g_law_later : mg "_law_later" = some (.ref a_law_later)
  a_law_last_times_of : Addr
  fd_law_last_times_of : FuncData
  F_law_last_times_of : Fun K "_law_last_times_of" "_law_last_times_of" s_law_last_times_of a_law_last_times_of fd_law_last_times_of
  b_law_last_times_of : Binds K fd_law_last_times_of ["town", "times", "target"] []
  g_law_last_times_of : mg "_law_last_times_of" = some (.ref a_law_last_times_of)
  a_law_same : Addr
  fd_law_same : FuncData
  F_law_same : Fun K "_law_same" "_law_same" s_law_same a_law_same fd_law_same
  b_law_same : Binds K fd_law_same ["actual", "due"] []
  g_law_same : mg "_law_same" = some (.ref a_law_same)
  a_is_passable : Addr
  fd_is_passable : FuncData
  F_is_passable : Fun K "is_passable" "is_passable" s_is_passable a_is_passable fd_is_passable
  b_is_passable : Binds K fd_is_passable ["closing", "time"] []
  g_is_passable : mg "is_passable" = some (.ref a_is_passable)
  a_open_doors : Addr
  fd_open_doors : FuncData
  F_open_doors : Fun K "open_doors" "open_doors" s_open_doors a_open_doors fd_open_doors
  b_open_doors : Binds K fd_open_doors ["town", "place"] []
  g_open_doors : mg "open_doors" = some (.ref a_open_doors)
  a_timed_doors : Addr
  fd_timed_doors : FuncData
  F_timed_doors : Fun K "timed_doors" "timed_doors" s_timed_doors a_timed_doors fd_timed_doors
  b_timed_doors : Binds K fd_timed_doors ["town", "times", "place", "time"] []
  g_timed_doors : mg "timed_doors" = some (.ref a_timed_doors)
  a_ways_in_time : Addr
  fd_ways_in_time : FuncData
  F_ways_in_time : Fun K "ways_in_time" "ways_in_time" s_ways_in_time a_ways_in_time fd_ways_in_time
  b_ways_in_time : Binds K fd_ways_in_time ["start", "t", "moves"] []
  g_ways_in_time : mg "ways_in_time" = some (.ref a_ways_in_time)
  a_first_ways : Addr
  fd_first_ways : FuncData
  c_first_ways : Addr
  p_first_ways : Addr
  F_first_ways : FunC K "first_ways" "first_ways" s_first_ways a_first_ways fd_first_ways c_first_ways
  b_first_ways : Binds K fd_first_ways ["town", "times", "place", "t"] []
  g_first_ways : mg "first_ways" = some (.ref a_first_ways)
  tb_first_ways : LamX.TabB Fx.base mg c_first_ways p_first_ways
  tm_first_ways : (p_first_ways, nmG) ∈ Fx.T
  a_first_timed_walk : Addr
  fd_first_timed_walk : FuncData
  F_first_timed_walk : Fun K "first_timed_walk" "first_timed_walk" s_first_timed_walk a_first_timed_walk fd_first_timed_walk
  b_first_timed_walk : Binds K fd_first_timed_walk ["town", "times", "place", "t", "target"] []
  g_first_timed_walk : mg "first_timed_walk" = some (.ref a_first_timed_walk)
  a_last_through : Addr
  fd_last_through : FuncData
  F_last_through : Fun K "last_through" "last_through" s_last_through a_last_through fd_last_through
  b_last_through : Binds K fd_last_through ["closing", "behind"] []
  g_last_through : mg "last_through" = some (.ref a_last_through)
  a_later_one : Addr
  fd_later_one : FuncData
  F_later_one : Fun K "later_one" "later_one" s_later_one a_later_one fd_later_one
  b_later_one : Binds K fd_later_one ["time", "other"] []
  g_later_one : mg "later_one" = some (.ref a_later_one)
  a_last_times : Addr
  fd_last_times : FuncData
  F_last_times : Fun K "last_times" "last_times" s_last_times a_last_times fd_last_times
  b_last_times : Binds K fd_last_times ["town", "times", "target"] []
  g_last_times : mg "last_times" = some (.ref a_last_times)
  a_law_last_right : Addr
  fd_law_last_right : FuncData
  F_law_last_right : Fun K "_law_last_right" "_law_last_right" s_law_last_right a_law_last_right fd_law_last_right
  b_law_last_right : Binds K fd_law_last_right ["town", "times", "target"] []
  g_law_last_right : mg "_law_last_right" = some (.ref a_law_last_right)
  a_law_time : Addr
  fd_law_time : FuncData
  F_law_time : Fun K "_law_time" "_law_time" s_law_time a_law_time fd_law_time
  b_law_time : Binds K fd_law_time ["draws"] []
  g_law_time : mg "_law_time" = some (.ref a_law_time)
  a_law_is_time_bound : Addr
  fd_law_is_time_bound : FuncData
  F_law_is_time_bound : Fun K "_law_is_time_bound" "_law_is_time_bound" s_law_is_time_bound a_law_is_time_bound fd_law_is_time_bound
  b_law_is_time_bound : Binds K fd_law_is_time_bound ["town", "times", "place", "t", "bound"] []
  g_law_is_time_bound : mg "_law_is_time_bound" = some (.ref a_law_is_time_bound)
  a_law_plus : Addr
  fd_law_plus : FuncData
  F_law_plus : Fun K "_law_plus" "_law_plus" s_law_plus a_law_plus fd_law_plus
  b_law_plus : Binds K fd_law_plus ["number", "more"] []
  g_law_plus : mg "_law_plus" = some (.ref a_law_plus)
  a_law_put : Addr
  fd_law_put : FuncData
  F_law_put : Fun K "_law_put" "_law_put" s_law_put a_law_put fd_law_put
  b_law_put : Binds K fd_law_put ["row", "k", "thing"] []
  g_law_put : mg "_law_put" = some (.ref a_law_put)
  a_is_number : Addr
  fd_is_number : FuncData
  F_is_number : Fun K "is_number" "is_number" s_is_number a_is_number fd_is_number
  b_is_number : Binds K fd_is_number ["part"] []
  g_is_number : mg "is_number" = some (.ref a_is_number)
  a_is_row_of : Addr
  fd_is_row_of : FuncData
  F_is_row_of : Fun K "is_row_of" "is_row_of" s_is_row_of a_is_row_of fd_is_row_of
  b_is_row_of : Binds K fd_is_row_of ["part", "size"] []
  g_is_row_of : mg "is_row_of" = some (.ref a_is_row_of)
  a_judge_time_bound : Addr
  fd_judge_time_bound : FuncData
  F_judge_time_bound : Fun K "judge_time_bound" "judge_time_bound" s_judge_time_bound a_judge_time_bound fd_judge_time_bound
  b_judge_time_bound : Binds K fd_judge_time_bound ["town", "times", "place", "t", "bound"] []
  g_judge_time_bound : mg "judge_time_bound" = some (.ref a_judge_time_bound)
  a_law_time_bounds_right : Addr
  fd_law_time_bounds_right : FuncData
  F_law_time_bounds_right : Fun K "_law_time_bounds_right" "_law_time_bounds_right" s_law_time_bounds_right a_law_time_bounds_right fd_law_time_bounds_right
  b_law_time_bounds_right : Binds K fd_law_time_bounds_right ["draws", "town", "times", "place", "t"] []
  g_law_time_bounds_right : mg "_law_time_bounds_right" = some (.ref a_law_time_bounds_right)
  a_law_end : Addr
  fd_law_end : FuncData
  F_law_end : Fun K "_law_end" "_law_end" s_law_end a_law_end fd_law_end
  b_law_end : Binds K fd_law_end ["town", "place", "walk"] []
  g_law_end : mg "_law_end" = some (.ref a_law_end)
  a_step_from : Addr
  fd_step_from : FuncData
  F_step_from : Fun K "step_from" "step_from" s_step_from a_step_from fd_step_from
  b_step_from : Binds K fd_step_from ["town", "place", "door"] []
  g_step_from : mg "step_from" = some (.ref a_step_from)
  a_timed_end : Addr
  fd_timed_end : FuncData
  F_timed_end : Fun K "timed_end" "timed_end" s_timed_end a_timed_end fd_timed_end
  b_timed_end : Binds K fd_timed_end ["town", "times", "place", "t", "walk"] []
  g_timed_end : mg "timed_end" = some (.ref a_timed_end)
  a_law_timed_walks_right : Addr
  fd_law_timed_walks_right : FuncData
  F_law_timed_walks_right : Fun K "_law_timed_walks_right" "_law_timed_walks_right" s_law_timed_walks_right a_law_timed_walks_right fd_law_timed_walks_right
  b_law_timed_walks_right : Binds K fd_law_timed_walks_right ["town", "times", "place", "t"] []
  g_law_timed_walks_right : mg "_law_timed_walks_right" = some (.ref a_law_timed_walks_right)
  a_first_times : Addr
  fd_first_times : FuncData
  F_first_times : Fun K "first_times" "first_times" s_first_times a_first_times fd_first_times
  b_first_times : Binds K fd_first_times ["town", "times", "place", "t"] []
  g_first_times : mg "first_times" = some (.ref a_first_times)
  a_starts_to_all : Addr
  fd_starts_to_all : FuncData
  F_starts_to_all : Fun K "starts_to_all" "starts_to_all" s_starts_to_all a_starts_to_all fd_starts_to_all
  b_starts_to_all : Binds K fd_starts_to_all ["town", "times", "t"] []
  g_starts_to_all : mg "starts_to_all" = some (.ref a_starts_to_all)
  a_law : Addr
  fd_law : FuncData
  F_law : Fun K "law" "law" s_law a_law fd_law
  b_law : Binds K fd_law ["script"] []
  g_law : mg "law" = some (.ref a_law)
  tu : ∀ p ∈ Fx.T, p.2 = nmG
  n_all : mg "all" = none
  n_bool : mg "bool" = none
  n_enumerate : mg "enumerate" = none
  n_int : mg "int" = none
  n_isinstance : mg "isinstance" = none
  n_len : mg "len" = none
  n_list : mg "list" = none
  n_max : mg "max" = none
  n_min : mg "min" = none
  n_range : mg "range" = none
  n_str : mg "str" = none
  n_tuple : mg "tuple" = none
section
variable {K : PySem.W.Frag}
theorem ok_law_take (T : Tx K Fx.mg) : FnOk Fx.P Fx.w K Fx.mg Fx.base CX0 1 T.a_law_take T.fd_law_take ["draws", "many"] (Sp1 K m_law_take) :=
  fn_ok1 T.F_law_take sc_law_take (by decide) fun cdv A outer s H E hr => by
    unfold d_law_take
    exact ss_cons (ss_if (sb_eq hr.units (sv_len rfl (by rfl) T.n_len (sp_nm 0)) (sv_int)) (ss_one (ss_ret (SV_sr (sv_int)))) (ss_nil))
        (ss_one (ss_ret (SV_sr (sv_mod (sv_toint (by rfl) T.n_int (SV_sp (sv_mt0 0 PySem.F.slot_list_pop PySem.F.type_list_pop mt_pop mo_pop))) (sv_nm 1)))))
theorem ok_law_pick (T : Tx K Fx.mg) : FnOk Fx.P Fx.w K Fx.mg Fx.base CX0 2 T.a_law_pick T.fd_law_pick ["draws", "row"] (Sp1 K m_law_pick) :=
  fn_ok1 T.F_law_pick sc_law_pick (by decide) fun cdv A outer s H E hr => by
    unfold d_law_pick
    exact ss_one (ss_ret (SV_sr (sv_ixN 1 hr.units rfl (SR_sv (sr_c1 0 (ok_law_take T) (hr.mono (by decide)) (by rfl) T.g_law_take T.F_law_take.kp T.b_law_take (sl_cons (sv_len rfl (by rfl) T.n_len (sp_nm 1)) (sl_nil)))))))
theorem ok_law_closings (T : Tx K Fx.mg) : FnOk Fx.P Fx.w K Fx.mg Fx.base CX0 3 T.a_law_closings T.fd_law_closings ["draws", "town", "t"] (Sp1 K m_law_closings) :=
  fn_ok1 T.F_law_closings sc_law_closings (by decide) fun cdv A outer s H E hr => by
    unfold d_law_closings
    exact ss_cons (ss_set 3 sc_law_closings.nd (sr_lst (sl_nil)))
        (ss_cons (ss_for PassesOwn.never rfl (si_val (sv_nm 1)) (sg_name 4 sc_law_closings.nd) (ss_cons (ss_set 5 sc_law_closings.nd (sr_lst (sl_nil)))
        (ss_cons (ss_for PassesOwn.never rfl (si_val (sv_ixN 4 hr.units rfl (sv_int))) (sg_name 6 sc_law_closings.nd) (ss_cons (ss_set 7 sc_law_closings.nd (SV_sr (sv_sub (sv_add (sv_nm 2) (SR_sv (sr_c1 0 (ok_law_take T) (hr.mono (by decide)) (by rfl) T.g_law_take T.F_law_take.kp T.b_law_take (sl_cons (sv_int) (sl_nil))))) (sv_int))))
        (ss_one (ss_expr (sv_mt 5 PySem.F.slot_list_append PySem.F.type_list_append mt_append mo_append (sl_cons (SR_sv (sr_c1 0 (ok_law_pick T) (hr.mono (by decide)) (by rfl) T.g_law_pick T.F_law_pick.kp T.b_law_pick (sl_cons (SR_sv (sr_lst (sl_cons (sv_non) (sl_cons (sv_nm 7) (sl_cons (sv_nm 7) (sl_cons (sv_nm 7) (sl_cons (sv_nm 7) (sl_cons (sv_add (sv_nm 2) (sv_pow (sv_int) (sv_int))) (sl_cons (sv_sub (sv_nm 2) (sv_pow (sv_int) (sv_int))) (sl_nil)))))))))) (sl_nil)))) (sl_nil)))))))
        (ss_one (ss_expr (sv_mt 3 PySem.F.slot_list_append PySem.F.type_list_append mt_append mo_append (sl_cons (sv_tupleOf (by rfl) T.n_tuple (sp_nm 5)) (sl_nil))))))))
        (ss_one (ss_ret (SV_sr (sv_tupleOf (by rfl) T.n_tuple (sp_nm 3))))))
theorem ok_law_draws (T : Tx K Fx.mg) : FnOk Fx.P Fx.w K Fx.mg Fx.base CX0 1 T.a_law_draws T.fd_law_draws ["script", "many"] (Sp0 K m_law_draws) :=
  fn_ok0 T.F_law_draws sc_law_draws fun cdv A outer s H E hr => by
    unfold d_law_draws
    exact ss_cons (ss_setLc (own := [("cell", 7)]) 2 rfl sc_law_draws.nd (sw_true rfl rfl rfl (by decide +kernel)) (si_val (SR_sv (sr_slN 0 (so_none) (so_some (sv_int))))) (by kernel_rfl) (by decide) (fun _ _ _ _ _ => sg_name 7 sc_law_draws.nd) (fun _ _ _ _ _ => sif_nil) (fun _ _ _ _ _ => sv_mod (sv_toint (by rfl) T.n_int (sp_nm 7)) (sv_shl (sv_int) (sv_int))))
        (ss_cons (ss_if (sb_eq hr.units (sv_len rfl (by rfl) T.n_len (sp_nm 2)) (sv_int)) (ss_one (ss_expr (sv_mt 2 PySem.F.slot_list_append PySem.F.type_list_append mt_append mo_append (sl_cons (sv_int) (sl_nil))))) (ss_nil))
        (ss_cons (ss_set 3 sc_law_draws.nd (sr_listOf (by rfl) T.n_list (sp_nm 2)))
        (ss_cons (ss_set 4 sc_law_draws.nd (sr_lst (sl_nil)))
        (ss_cons (ss_for PassesOwn.never rfl (si_range1 (by rfl) T.n_range (sv_nm 1)) (sg_name 5 sc_law_draws.nd) (ss_cons (ss_set 6 sc_law_draws.nd (SV_sr (sv_mod (sv_toint (by rfl) T.n_int (sp_nm 5)) (sv_len rfl (by rfl) T.n_len (sp_nm 2)))))
        (ss_one (ss_if (sb_w (sw_and (sb_ge (sv_ixN 2 hr.units rfl (sv_nm 6)) (sv_pow (sv_int) (sv_int))) (sw_one (sb_gt (sv_ixN 3 hr.units rfl (sv_nm 6)) (sv_int))))) (ss_cons (ss_expr (sv_mt 4 PySem.F.slot_list_append PySem.F.type_list_append mt_append mo_append (sl_cons (sv_mod (sv_toint (by rfl) T.n_int (SV_sp (sv_ixN 3 hr.units rfl (sv_nm 6)))) (sv_int)) (sl_nil))))
        (ss_one (ss_sto 3 hr.units rfl (sv_div (sv_ixN 3 hr.units rfl (sv_nm 6)) (sv_int)) (sv_nm 6)))) (ss_cons (ss_set 8 sc_law_draws.nd (SV_sr (sv_mod (sv_toint (by rfl) T.n_int (SV_sp (sv_add (sv_add (sv_mul (sv_ixN 2 hr.units rfl (sv_nm 6)) (sv_int)) (sv_mul (sv_nm 5) (sv_int))) (sv_int)))) (sv_int))))
        (ss_one (ss_expr (sv_mt 4 PySem.F.slot_list_append PySem.F.type_list_append mt_append mo_append (sl_cons (sv_mod (sv_toint (by rfl) T.n_int (SV_sp (sv_add (sv_add (sv_mul (sv_nm 8) (sv_nm 8)) (sv_mul (sv_int) (sv_nm 8))) (sv_nm 5)))) (sv_int)) (sl_nil))))))))))
        (ss_cons (ss_expr (sv_mt0 4 PySem.F.slot_list_reverse PySem.F.type_list_reverse mt_reverse mo_reverse))
        (ss_one (ss_retNm 4)))))))
theorem ok_law_goal (T : Tx K Fx.mg) : FnOk Fx.P Fx.w K Fx.mg Fx.base CX0 1 T.a_law_goal T.fd_law_goal ["town", "place", "door"] (Sp0 K m_law_goal) :=
  fn_ok0 T.F_law_goal sc_law_goal fun cdv A outer s H E hr => by
    unfold d_law_goal
    exact ss_cons (ss_set 3 sc_law_goal.nd (SV_sr (sv_ix hr.units rfl (sv_ixN 0 hr.units rfl (sv_nm 1)) (sv_int))))
        (ss_cons (ss_if (sb_w (sw_or (sb_lt (sv_nm 2) (sv_int)) (sw_one (sb_ge (sv_nm 2) (sv_len rfl (by rfl) T.n_len (sp_nm 3)))))) (ss_one (ss_ret (SV_sr (sv_non)))) (ss_nil))
        (ss_one (ss_ret (SV_sr (sv_ixN 3 hr.units rfl (sv_nm 2))))))
theorem ok_law_can_go (T : Tx K Fx.mg) : FnOk Fx.P Fx.w K Fx.mg Fx.base CX0 2 T.a_law_can_go T.fd_law_can_go ["town", "times", "place", "door", "time"] (Sp0 K m_law_can_go) :=
  fn_ok0 T.F_law_can_go sc_law_can_go fun cdv A outer s H E hr => by
    unfold d_law_can_go
    exact ss_cons (ss_if (sb_isN (SV_sp (SR_sv (sr_c0 (ok_law_goal T) (hr.mono (by decide)) (by rfl) T.g_law_goal T.F_law_goal.kp T.b_law_goal (sl_cons (sv_nm 0) (sl_cons (sv_nm 2) (sl_cons (sv_nm 3) (sl_nil)))))))) (ss_one (ss_ret (SV_sr (sv_bl)))) (ss_nil))
        (ss_cons (ss_set 5 sc_law_can_go.nd (SV_sr (sv_ix hr.units rfl (sv_ixN 1 hr.units rfl (sv_nm 2)) (sv_nm 3))))
        (ss_one (ss_ret (SV_sr (sv_or (sv_isN (sp_nm 5)) (sv_one (sv_lt (sv_nm 4) (sv_nm 5))))))))
theorem ok_law_opens (T : Tx K Fx.mg) : FnOk Fx.P Fx.w K Fx.mg Fx.base CX0 1 T.a_law_opens T.fd_law_opens ["town", "place"] (Sp0 K m_law_opens) :=
  fn_ok0 T.F_law_opens sc_law_opens fun cdv A outer s H E hr => by
    unfold d_law_opens
    exact ss_one (ss_ret (sr_comp (own := [("k", 2)]) rfl sc_law_opens.nd (si_range1 (by rfl) T.n_range (sv_len rfl (by rfl) T.n_len (SV_sp (sv_ix hr.units rfl (sv_ixN 0 hr.units rfl (sv_nm 1)) (sv_int))))) (by kernel_rfl) (by decide) (fun _ _ _ _ _ => sg_name 2 sc_law_opens.nd) (fun _ _ _ _ _ => sif_one (sb_notN (SV_sp (sv_ix hr.units rfl (sv_ix hr.units rfl (sv_ixN 0 hr.units rfl (sv_nm 1)) (sv_int)) (sv_nm 2))))) (fun _ _ _ _ _ => sv_nm 2)))
theorem ok_law_timed_moves (T : Tx K Fx.mg) : FnOk Fx.P Fx.w K Fx.mg Fx.base CX0 3 T.a_law_timed_moves T.fd_law_timed_moves ["data", "state"] (Sp0 K m_law_timed_moves) :=
  fn_ok0 T.F_law_timed_moves sc_law_timed_moves fun cdv A outer s H E hr => by
    unfold d_law_timed_moves
    exact ss_cons (ss_asg (sv_nm 0) (sg_tup rfl (sgs_cons (sg_name 3 sc_law_timed_moves.nd) (sgs_cons (sg_name 4 sc_law_timed_moves.nd) (sgs_nil)))))
        (ss_cons (ss_asg (sv_nm 1) (sg_tup rfl (sgs_cons (sg_name 5 sc_law_timed_moves.nd) (sgs_cons (sg_name 6 sc_law_timed_moves.nd) (sgs_nil)))))
        (ss_cons (ss_setLc (own := [("door", 7)]) 2 rfl sc_law_timed_moves.nd (sw_true rfl rfl rfl (by decide +kernel)) (si_val (SR_sv (sr_c0 (ok_law_opens T) (hr.mono (by decide)) (by rfl) T.g_law_opens T.F_law_opens.kp T.b_law_opens (sl_cons (sv_nm 3) (sl_cons (sv_nm 5) (sl_nil)))))) (by kernel_rfl) (by decide) (fun _ _ _ _ _ => sg_name 7 sc_law_timed_moves.nd) (fun _ _ _ _ _ => sif_one (sb_val (SR_sv (sr_c0 (ok_law_can_go T) (hr.mono (by decide)) (by rfl) T.g_law_can_go T.F_law_can_go.kp T.b_law_can_go (sl_cons (sv_nm 3) (sl_cons (sv_nm 4) (sl_cons (sv_nm 5) (sl_cons (sv_nm 7) (sl_cons (sv_nm 6) (sl_nil)))))))))) (fun _ _ _ _ _ => sv_nm 7))
        (ss_one (ss_ret (sr_compN (own := [("door", 7)]) 2 rfl sc_law_timed_moves.nd (by kernel_rfl) (by decide) (fun _ _ _ _ _ => sg_name 7 sc_law_timed_moves.nd) (fun _ _ _ _ _ => sif_nil) (fun _ _ _ _ _ => SR_sv (sr_lst (sl_cons (sv_nm 7) (sl_cons (sv_tup (sl_cons (sv_ix hr.units rfl (sv_ix hr.units rfl (sv_ixN 3 hr.units rfl (sv_nm 5)) (sv_int)) (sv_nm 7)) (sl_cons (sv_add (sv_nm 6) (sv_int)) (sl_nil)))) (sl_nil))))))))))
theorem ok_law_timed_rows (T : Tx K Fx.mg) : FnOk Fx.P Fx.w K Fx.mg Fx.base CX0 4 T.a_law_timed_rows T.fd_law_timed_rows ["town", "times", "place", "t"] (Sp0 K m_law_timed_rows) :=
  fn_ok0 T.F_law_timed_rows sc_law_timed_rows fun cdv A outer s H E hr => by
    unfold d_law_timed_rows
    exact ss_cons (ss_set 4 sc_law_timed_rows.nd (sr_rep (SR_sv (sr_lst (sl_cons (sv_non) (sl_nil)))) (sv_len rfl (by rfl) T.n_len (sp_nm 0))))
        (ss_cons (ss_sto 4 hr.units rfl (sv_tup (sl_nil)) (sv_nm 2))
        (ss_cons (ss_set 5 sc_law_timed_rows.nd (sr_lst (sl_cons (sv_nm 2) (sl_nil))))
        (ss_cons (ss_for PassesOwn.never rfl (si_range1 (by rfl) T.n_range (sv_len rfl (by rfl) T.n_len (sp_nm 0))) (sg_name 6 sc_law_timed_rows.nd) (ss_one (ss_if (sb_lt (sv_nm 6) (sv_len rfl (by rfl) T.n_len (sp_nm 5))) (ss_cons (ss_set 7 sc_law_timed_rows.nd (SV_sr (sv_ixN 5 hr.units rfl (sv_nm 6))))
        (ss_one (ss_for PassesOwn.never rfl (si_val (SR_sv (sr_c0 (ok_law_timed_moves T) (hr.mono (by decide)) (by rfl) T.g_law_timed_moves T.F_law_timed_moves.kp T.b_law_timed_moves (sl_cons (SR_sv (sr_lst (sl_cons (sv_nm 0) (sl_cons (sv_nm 1) (sl_nil))))) (sl_cons (sv_tup (sl_cons (sv_nm 7) (sl_cons (sv_add (sv_nm 3) (sv_len rfl (by rfl) T.n_len (SV_sp (sv_ixN 4 hr.units rfl (sv_nm 7))))) (sl_nil)))) (sl_nil)))))) (sg_name 8 sc_law_timed_rows.nd) (ss_cons (ss_set 9 sc_law_timed_rows.nd (SV_sr (sv_ix hr.units rfl (sv_ixN 8 hr.units rfl (sv_int)) (sv_int))))
        (ss_one (ss_if (sb_isN (SV_sp (sv_ixN 4 hr.units rfl (sv_nm 9)))) (ss_cons (ss_sto 4 hr.units rfl (sv_add (sv_ixN 4 hr.units rfl (sv_nm 7)) (sv_tup (sl_cons (sv_ixN 8 hr.units rfl (sv_int)) (sl_nil)))) (sv_nm 9))
        (ss_one (ss_expr (sv_mt 5 PySem.F.slot_list_append PySem.F.type_list_append mt_append mo_append (sl_cons (sv_nm 9) (sl_nil)))))) (ss_nil))))))) (ss_nil))))
        (ss_one (ss_retNm 4)))))
theorem ok_law_first_times (T : Tx K Fx.mg) : FnOk Fx.P Fx.w K Fx.mg Fx.base CX0 5 T.a_law_first_times T.fd_law_first_times ["town", "times", "place", "t"] (Sp0 K m_law_first_times) :=
  fn_ok0 T.F_law_first_times sc_law_first_times fun cdv A outer s H E hr => by
    unfold d_law_first_times
    exact ss_cons (ss_set 4 sc_law_first_times.nd (sr_lst (sl_nil)))
        (ss_cons (ss_for PassesOwn.never rfl (si_val (SR_sv (sr_c0 (ok_law_timed_rows T) (hr.mono (by decide)) (by rfl) T.g_law_timed_rows T.F_law_timed_rows.kp T.b_law_timed_rows (sl_cons (sv_nm 0) (sl_cons (sv_nm 1) (sl_cons (sv_nm 2) (sl_cons (sv_nm 3) (sl_nil)))))))) (sg_name 5 sc_law_first_times.nd) (ss_one (ss_if (sb_isN (sp_nm 5)) (ss_one (ss_expr (sv_mt 4 PySem.F.slot_list_append PySem.F.type_list_append mt_append mo_append (sl_cons (sv_non) (sl_nil))))) (ss_one (ss_expr (sv_mt 4 PySem.F.slot_list_append PySem.F.type_list_append mt_append mo_append (sl_cons (sv_add (sv_nm 3) (sv_len rfl (by rfl) T.n_len (sp_nm 5))) (sl_nil))))))))
        (ss_one (ss_ret (SV_sr (sv_tupleOf (by rfl) T.n_tuple (sp_nm 4))))))
theorem ok_law_words (T : Tx K Fx.mg) : FnOk Fx.P Fx.w K Fx.mg Fx.base CX0 2 T.a_law_words T.fd_law_words ["draws", "many"] (Sp1 K m_law_words) :=
  fn_ok1 T.F_law_words sc_law_words (by decide) fun cdv A outer s H E hr => by
    unfold d_law_words
    exact ss_cons (ss_set 2 sc_law_words.nd (sr_lst (sl_nil)))
        (ss_cons (ss_for PassesOwn.never rfl (si_range1 (by rfl) T.n_range (sv_nm 1)) (sg_name 3 sc_law_words.nd) (ss_cons (ss_set 4 sc_law_words.nd (SV_sr (sv_add (sv_int) (SR_sv (sr_c1 0 (ok_law_take T) (hr.mono (by decide)) (by rfl) T.g_law_take T.F_law_take.kp T.b_law_take (sl_cons (sv_int) (sl_nil)))))))
        (ss_cons (ss_if (sb_eq hr.units (SR_sv (sr_c1 0 (ok_law_take T) (hr.mono (by decide)) (by rfl) T.g_law_take T.F_law_take.kp T.b_law_take (sl_cons (sv_int) (sl_nil)))) (sv_int)) (ss_one (ss_set 4 sc_law_words.nd (SV_sr (sv_add (sv_add (sv_nm 4) (sv_int)) (SR_sv (sr_c1 0 (ok_law_take T) (hr.mono (by decide)) (by rfl) T.g_law_take T.F_law_take.kp T.b_law_take (sl_cons (sv_int) (sl_nil)))))))) (ss_nil))
        (ss_cons (ss_set 5 sc_law_words.nd (SV_sr (sv_join (sv_str) (SV_sp (SR_sv (sr_comp (own := [("j", 6)]) rfl sc_law_words.nd (si_range1 (by rfl) T.n_range (sv_nm 4)) (by kernel_rfl) (by decide) (fun _ _ _ _ _ => sg_name 6 sc_law_words.nd) (fun _ _ _ _ _ => sif_nil) (fun _ _ _ _ _ => sv_ix hr.units rfl (sv_str) (SR_sv (sr_c1 0 (ok_law_take T) (hr.mono (by decide)) (by rfl) T.g_law_take T.F_law_take.kp T.b_law_take (sl_cons (sv_int) (sl_nil)))))))))))
        (ss_cons (ss_if (sb_in hr.units rfl (sv_nm 5) (sp_nm 2)) (ss_one (ss_set 5 sc_law_words.nd (SV_sr (sv_mulS (sv_str) (sv_add (sv_int) (sv_max rfl (by rfl) T.n_max (SV_sp (SR_sv (sr_cat (SR_sv (sr_lst (sl_cons (sv_int) (sl_nil)))) (SV_sp (SR_sv (sr_compN (own := [("other", 7)]) 2 rfl sc_law_words.nd (by kernel_rfl) (by decide) (fun _ _ _ _ _ => sg_name 7 sc_law_words.nd) (fun _ _ _ _ _ => sif_nil) (fun _ _ _ _ _ => sv_len rfl (by rfl) T.n_len (sp_nm 7)))))))))))))) (ss_nil))
        (ss_one (ss_expr (sv_mt 2 PySem.F.slot_list_append PySem.F.type_list_append mt_append mo_append (sl_cons (sv_nm 5) (sl_nil))))))))))
        (ss_one (ss_retNm 2)))
theorem ok_law_great_town (T : Tx K Fx.mg) : FnOk Fx.P Fx.w K Fx.mg Fx.base CX0 3 T.a_law_great_town T.fd_law_great_town ["draws", "least", "most"] (Sp1 K m_law_great_town) :=
  fn_ok1 T.F_law_great_town sc_law_great_town (by decide) fun cdv A outer s H E hr => by
    unfold d_law_great_town
    exact ss_cons (ss_set 3 sc_law_great_town.nd (SV_sr (sv_add (sv_nm 1) (SR_sv (sr_c1 0 (ok_law_take T) (hr.mono (by decide)) (by rfl) T.g_law_take T.F_law_take.kp T.b_law_take (sl_cons (sv_add (sv_sub (sv_nm 2) (sv_nm 1)) (sv_int)) (sl_nil)))))))
        (ss_cons (ss_set 4 sc_law_great_town.nd (sr_c1 0 (ok_law_words T) (hr.mono (by decide)) (by rfl) T.g_law_words T.F_law_words.kp T.b_law_words (sl_cons (sv_add (sv_int) (SR_sv (sr_c1 0 (ok_law_take T) (hr.mono (by decide)) (by rfl) T.g_law_take T.F_law_take.kp T.b_law_take (sl_cons (sv_int) (sl_nil))))) (sl_nil))))
        (ss_cons (ss_set 5 sc_law_great_town.nd (sr_c1 0 (ok_law_take T) (hr.mono (by decide)) (by rfl) T.g_law_take T.F_law_take.kp T.b_law_take (sl_cons (sv_int) (sl_nil))))
        (ss_cons (ss_set 6 sc_law_great_town.nd (sr_lst (sl_nil)))
        (ss_cons (ss_for PassesOwn.never rfl (si_range1 (by rfl) T.n_range (sv_nm 3)) (sg_name 7 sc_law_great_town.nd) (ss_cons (ss_setLc (own := [("j", 9)]) 8 rfl sc_law_great_town.nd (sw_true rfl rfl rfl (by decide +kernel)) (si_range1 (by rfl) T.n_range (SR_sv (sr_c1 0 (ok_law_take T) (hr.mono (by decide)) (by rfl) T.g_law_take T.F_law_take.kp T.b_law_take (sl_cons (sv_int) (sl_nil))))) (by kernel_rfl) (by decide) (fun _ _ _ _ _ => sg_name 9 sc_law_great_town.nd) (fun _ _ _ _ _ => sif_nil) (fun _ _ _ _ _ => SR_sv (sr_c1 0 (ok_law_take T) (hr.mono (by decide)) (by rfl) T.g_law_take T.F_law_take.kp T.b_law_take (sl_cons (sv_nm 3) (sl_nil)))))
        (ss_cons (ss_setLcN (own := [("goal", 10)]) 8 8 rfl sc_law_great_town.nd (sw_true rfl rfl rfl (by decide +kernel)) (by kernel_rfl) (by decide) (fun _ _ _ _ _ => sg_name 10 sc_law_great_town.nd) (fun _ _ _ _ _ => sif_nil) (fun _ _ _ _ _ => sv_ix hr.units rfl (SR_sv (sr_lst (sl_cons (sv_nm 10) (sl_cons (sv_non) (sl_nil))))) (sv_toint (by rfl) T.n_int (SV_sp (sv_eq hr.units (SR_sv (sr_c1 0 (ok_law_take T) (hr.mono (by decide)) (by rfl) T.g_law_take T.F_law_take.kp T.b_law_take (sl_cons (sv_int) (sl_nil)))) (sv_int))))))
        (ss_cons (ss_if (sb_eq hr.units (sv_nm 5) (sv_int)) (ss_one (ss_set 8 sc_law_great_town.nd (sr_cat (SR_sv (sr_lst (sl_cons (sv_mod (sv_toint (by rfl) T.n_int (SV_sp (sv_add (sv_nm 7) (sv_int)))) (sv_nm 3)) (sl_nil)))) (sp_nm 8)))) (ss_nil))
        (ss_one (ss_expr (sv_mt 6 PySem.F.slot_list_append PySem.F.type_list_append mt_append mo_append (sl_cons (sv_tup (sl_cons (SR_sv (sr_c1 0 (ok_law_pick T) (hr.mono (by decide)) (by rfl) T.g_law_pick T.F_law_pick.kp T.b_law_pick (sl_cons (sv_nm 4) (sl_nil)))) (sl_cons (sv_tupleOf (by rfl) T.n_tuple (sp_nm 8)) (sl_nil)))) (sl_nil)))))))))
        (ss_one (ss_ret (SV_sr (sv_tupleOf (by rfl) T.n_tuple (sp_nm 6)))))))))
theorem ok_law_is_int (T : Tx K Fx.mg) : FnOk Fx.P Fx.w K Fx.mg Fx.base CX0 1 T.a_law_is_int T.fd_law_is_int ["thing"] (Sp0 K m_law_is_int) :=
  fn_ok0 T.F_law_is_int sc_law_is_int fun cdv A outer s H E hr => by
    unfold d_law_is_int
    exact ss_one (ss_ret (SV_sr (sv_and (sv_isi "int" (by rfl) T.n_isinstance (by rfl) T.n_int (by decide +kernel) (sp_nm 0)) (sv_one (sv_not (sv_isi "bool" (by rfl) T.n_isinstance (by rfl) T.n_bool (by decide +kernel) (sp_nm 0)))))))
theorem ok_law_earlier (T : Tx K Fx.mg) : FnOk Fx.P Fx.w K Fx.mg Fx.base CX0 1 T.a_law_earlier T.fd_law_earlier ["behind", "closing"] (Sp0 K m_law_earlier) :=
  fn_ok0 T.F_law_earlier sc_law_earlier fun cdv A outer s H E hr => by
    unfold d_law_earlier
    exact ss_cons (ss_if (sb_w (sw_and (sb_eq hr.units (sv_nm 0) (sv_str)) (sw_one (sb_isN (sp_nm 1))))) (ss_one (ss_ret (SV_sr (sv_str)))) (ss_nil))
        (ss_cons (ss_if (sb_eq hr.units (sv_nm 0) (sv_str)) (ss_one (ss_ret (SV_sr (sv_sub (sv_nm 1) (sv_int))))) (ss_nil))
        (ss_cons (ss_if (sb_isN (sp_nm 1)) (ss_one (ss_ret (SV_sr (sv_sub (sv_nm 0) (sv_int))))) (ss_nil))
        (ss_one (ss_ret (SV_sr (sv_sub (sv_min2 rfl (by rfl) T.n_min (sv_nm 1) (sv_nm 0)) (sv_int)))))))
theorem ok_law_later (T : Tx K Fx.mg) : FnOk Fx.P Fx.w K Fx.mg Fx.base CX0 1 T.a_law_later T.fd_law_later ["one", "other"] (Sp0 K m_law_later) :=
  fn_ok0 T.F_law_later sc_law_later fun cdv A outer s H E hr => by
    unfold d_law_later
    exact ss_cons (ss_if (sb_w (sw_or (sb_eq hr.units (sv_nm 0) (sv_str)) (sw_one (sb_eq hr.units (sv_nm 1) (sv_str))))) (ss_one (ss_ret (SV_sr (sv_str)))) (ss_nil))
        (ss_cons (ss_if (sb_isN (sp_nm 0)) (ss_one (ss_retNm 1)) (ss_nil))
        (ss_one (ss_ret (SV_sr (sv_max2 rfl (by rfl) T.n_max (sv_nm 0) (sv_nm 1))))))
theorem ok_law_last_times_of (T : Tx K Fx.mg) : FnOk Fx.P Fx.w K Fx.mg Fx.base CX0 2 T.a_law_last_times_of T.fd_law_last_times_of ["town", "times", "target"] (Sp0 K m_law_last_times_of) :=
  fn_ok0 T.F_law_last_times_of sc_law_last_times_of fun cdv A outer s H E hr => by
    unfold d_law_last_times_of
    exact ss_cons (ss_set 3 sc_law_last_times_of.nd (sr_rep (SR_sv (sr_lst (sl_cons (sv_non) (sl_nil)))) (sv_len rfl (by rfl) T.n_len (sp_nm 0))))
        (ss_cons (ss_sto 3 hr.units rfl (sv_str) (sv_nm 2))
        (ss_cons (ss_for PassesOwn.never rfl (si_range1 (by rfl) T.n_range (sv_len rfl (by rfl) T.n_len (sp_nm 0))) (sg_name 4 sc_law_last_times_of.nd) (ss_one (ss_for PassesOwn.never rfl (si_range1 (by rfl) T.n_range (sv_len rfl (by rfl) T.n_len (sp_nm 0))) (sg_name 5 sc_law_last_times_of.nd) (ss_one (ss_for PassesOwn.never rfl (si_val (SR_sv (sr_c0 (ok_law_opens T) (hr.mono (by decide)) (by rfl) T.g_law_opens T.F_law_opens.kp T.b_law_opens (sl_cons (sv_nm 0) (sl_cons (sv_nm 5) (sl_nil)))))) (sg_name 6 sc_law_last_times_of.nd) (ss_cons (ss_set 7 sc_law_last_times_of.nd (SV_sr (sv_ixN 3 hr.units rfl (sv_ix hr.units rfl (sv_ix hr.units rfl (sv_ixN 0 hr.units rfl (sv_nm 5)) (sv_int)) (sv_nm 6)))))
        (ss_one (ss_if (sb_w (sw_and (sb_ne hr.units (sv_nm 5) (sv_nm 2)) (sw_one (sb_notN (sp_nm 7))))) (ss_one (ss_sto 3 hr.units rfl (SR_sv (sr_c0 (ok_law_later T) (hr.mono (by decide)) (by rfl) T.g_law_later T.F_law_later.kp T.b_law_later (sl_cons (sv_ixN 3 hr.units rfl (sv_nm 5)) (sl_cons (SR_sv (sr_c0 (ok_law_earlier T) (hr.mono (by decide)) (by rfl) T.g_law_earlier T.F_law_earlier.kp T.b_law_earlier (sl_cons (sv_nm 7) (sl_cons (sv_ix hr.units rfl (sv_ixN 1 hr.units rfl (sv_nm 5)) (sv_nm 6)) (sl_nil))))) (sl_nil))))) (sv_nm 5))) (ss_nil)))))))))
        (ss_one (ss_ret (SV_sr (sv_tupleOf (by rfl) T.n_tuple (sp_nm 3)))))))
theorem ok_law_same (T : Tx K Fx.mg) : ∀ n : Nat, FnOk Fx.P Fx.w K Fx.mg Fx.base CX0 n T.a_law_same T.fd_law_same ["actual", "due"] (Sp0 K (m_law_same n))
  | 0 => ⟨fun vs H Q E ⟨_, _, _, _, _, _, h, _⟩ => (nomatch h), fun _ _ _ _ _ _ _ _ _ _ _ _ _ ⟨_, _, _, _, _, _, h, _⟩ => (nomatch h)⟩
  | n + 1 => fn_ok0 T.F_law_same sc_law_same fun cdv A outer s H E hr => by
    have ih := ok_law_same T n
    generalize m_law_same n = rec at ih ⊢
    unfold d_law_same
    exact ss_cons (ss_if (sb_val (sv_isi2 "tuple" "list" (by rfl) T.n_isinstance (by rfl) T.n_tuple (by decide +kernel) (by rfl) T.n_list (by decide +kernel) (sp_nm 1))) (ss_cons (ss_if (sb_w (sw_or (sb_ne hr.units (sv_isi "tuple" (by rfl) T.n_isinstance (by rfl) T.n_tuple (by decide +kernel) (sp_nm 0)) (sv_isi "tuple" (by rfl) T.n_isinstance (by rfl) T.n_tuple (by decide +kernel) (sp_nm 1))) (sw_one (sb_ne hr.units (sv_isi "list" (by rfl) T.n_isinstance (by rfl) T.n_list (by decide +kernel) (sp_nm 0)) (sv_isi "list" (by rfl) T.n_isinstance (by rfl) T.n_list (by decide +kernel) (sp_nm 1)))))) (ss_one (ss_ret (SV_sr (sv_bl)))) (ss_nil))
        (ss_cons (ss_if (sb_ne hr.units (sv_len rfl (by rfl) T.n_len (sp_nm 0)) (sv_len rfl (by rfl) T.n_len (sp_nm 1))) (ss_one (ss_ret (SV_sr (sv_bl)))) (ss_nil))
        (ss_one (ss_ret (SV_sr (sv_notIn hr.units rfl (sv_bl) (SV_sp (SR_sv (sr_comp (own := [("k", 2)]) rfl sc_law_same.nd (si_range1 (by rfl) T.n_range (sv_len rfl (by rfl) T.n_len (sp_nm 1))) (by kernel_rfl) (by decide) (fun _ _ _ _ _ => sg_name 2 sc_law_same.nd) (fun _ _ _ _ _ => sif_nil) (fun _ _ _ _ _ => SR_sv (sr_c0 (ih) hr (by rfl) T.g_law_same T.F_law_same.kp T.b_law_same (sl_cons (sv_ixN 0 hr.units rfl (sv_nm 2)) (sl_cons (sv_ixN 1 hr.units rfl (sv_nm 2)) (sl_nil)))))))))))))) (ss_nil))
        (ss_cons (ss_if (sb_w (sw_or (sb_ne hr.units (sv_isi "bool" (by rfl) T.n_isinstance (by rfl) T.n_bool (by decide +kernel) (sp_nm 0)) (sv_isi "bool" (by rfl) T.n_isinstance (by rfl) T.n_bool (by decide +kernel) (sp_nm 1))) (sw_one (sb_ne hr.units (sv_isi "int" (by rfl) T.n_isinstance (by rfl) T.n_int (by decide +kernel) (sp_nm 0)) (sv_isi "int" (by rfl) T.n_isinstance (by rfl) T.n_int (by decide +kernel) (sp_nm 1)))))) (ss_one (ss_ret (SV_sr (sv_bl)))) (ss_nil))
        (ss_cons (ss_if (sb_w (sw_or (sb_ne hr.units (sv_isi "str" (by rfl) T.n_isinstance (by rfl) T.n_str (by decide +kernel) (sp_nm 0)) (sv_isi "str" (by rfl) T.n_isinstance (by rfl) T.n_str (by decide +kernel) (sp_nm 1))) (sw_one (sb_ne hr.units (sv_isN (sp_nm 0)) (sv_isN (sp_nm 1)))))) (ss_one (ss_ret (SV_sr (sv_bl)))) (ss_nil))
        (ss_one (ss_ret (SV_sr (sv_eq hr.units (sv_nm 0) (sv_nm 1)))))))
theorem ok_is_passable (T : Tx K Fx.mg) : FnOk Fx.P Fx.w K Fx.mg Fx.base CX0 1 T.a_is_passable T.fd_is_passable ["closing", "time"] (Sp0 K m_is_passable) :=
  fn_ok0 T.F_is_passable sc_is_passable fun cdv A outer s H E hr => by
    unfold d_is_passable
    exact ss_one (ss_ret (SV_sr (sv_or (sv_isN (sp_nm 0)) (sv_one (sv_lt (sv_nm 1) (sv_nm 0))))))
theorem ok_open_doors (T : Tx K Fx.mg) : FnOk Fx.P Fx.w K Fx.mg Fx.base CX0 1 T.a_open_doors T.fd_open_doors ["town", "place"] (Sp0 K m_open_doors) :=
  fn_ok0 T.F_open_doors sc_open_doors fun cdv A outer s H E hr => by
    unfold d_open_doors
    exact ss_one (ss_ret (sr_comp (own := [("door", 2), ("goal", 3)]) rfl sc_open_doors.nd (si_enum (by rfl) T.n_enumerate (sv_ix hr.units rfl (sv_ixN 0 hr.units rfl (sv_nm 1)) (sv_int))) (by kernel_rfl) (by decide) (fun _ _ _ _ _ => sg_tup rfl (sgs_cons (sg_name 2 sc_open_doors.nd) (sgs_cons (sg_name 3 sc_open_doors.nd) (sgs_nil)))) (fun _ _ _ _ _ => sif_one (sb_notN (sp_nm 3))) (fun _ _ _ _ _ => sv_tup (sl_cons (sv_nm 2) (sl_cons (sv_nm 3) (sl_nil))))))
theorem ok_timed_doors (T : Tx K Fx.mg) : FnOk Fx.P Fx.w K Fx.mg Fx.base CX0 2 T.a_timed_doors T.fd_timed_doors ["town", "times", "place", "time"] (Sp0 K m_timed_doors) :=
  fn_ok0 T.F_timed_doors sc_timed_doors fun cdv A outer s H E hr => by
    unfold d_timed_doors
    exact ss_one (ss_ret (sr_comp (own := [("door", 4), ("goal", 5)]) rfl sc_timed_doors.nd (si_val (SR_sv (sr_c0 (ok_open_doors T) (hr.mono (by decide)) (by rfl) T.g_open_doors T.F_open_doors.kp T.b_open_doors (sl_cons (sv_nm 0) (sl_cons (sv_nm 2) (sl_nil)))))) (by kernel_rfl) (by decide) (fun _ _ _ _ _ => sg_tup rfl (sgs_cons (sg_name 4 sc_timed_doors.nd) (sgs_cons (sg_name 5 sc_timed_doors.nd) (sgs_nil)))) (fun _ _ _ _ _ => sif_one (sb_val (SR_sv (sr_c0 (ok_is_passable T) (hr.mono (by decide)) (by rfl) T.g_is_passable T.F_is_passable.kp T.b_is_passable (sl_cons (sv_ix hr.units rfl (sv_ixN 1 hr.units rfl (sv_nm 2)) (sv_nm 4)) (sl_cons (sv_nm 3) (sl_nil))))))) (fun _ _ _ _ _ => sv_tup (sl_cons (sv_nm 4) (sl_cons (sv_nm 5) (sl_nil))))))
theorem ok_ways_in_time (T : Tx K Fx.mg) (kc : Nat) : FnOk Fx.P Fx.w K Fx.mg Fx.base CX0 (kc + 1) T.a_ways_in_time T.fd_ways_in_time ["start", "t", "moves"] (SpF K kc (m_ways_in_time kc)) :=
  fn_okF (k := kc + 0) T.F_ways_in_time sc_ways_in_time fun cdv A outer s H E hr => by
    unfold d_ways_in_time
    exact ss_cons (ss_set 3 sc_ways_in_time.nd (sr_dic1 hr.units rfl (sv_nm 0) (sv_tup (sl_nil))))
        (ss_cons (ss_set 4 sc_ways_in_time.nd (sr_lst (sl_cons (sv_nm 0) (sl_nil))))
        (ss_cons (ss_set 5 sc_ways_in_time.nd (SV_sr (sv_int)))
        (ss_cons (ss_while 1000000 PassesOwn.never (sb_lt (sv_nm 5) (sv_len rfl (by rfl) T.n_len (sp_nm 4))) (ss_cons (ss_set 6 sc_ways_in_time.nd (SV_sr (sv_ixN 4 hr.units rfl (sv_nm 5))))
        (ss_cons (ss_augAdd 5 sc_ways_in_time.nd (sv_int))
        (ss_one (ss_for PassesOwn.never rfl (si_val (SR_sv (sr_cl 2 ⟨rfl, rfl, rfl, rfl⟩ hr (by omega) (sl_cons (sv_nm 6) (sl_cons (sv_add (sv_nm 1) (sv_len rfl (by rfl) T.n_len (SV_sp (sv_ixN 3 hr.units rfl (sv_nm 6))))) (sl_nil)))))) (sg_tup rfl (sgs_cons (sg_name 7 sc_ways_in_time.nd) (sgs_cons (sg_name 8 sc_ways_in_time.nd) (sgs_nil)))) (ss_one (ss_if (sb_notIn hr.units rfl (sv_nm 8) (sp_nm 3)) (ss_cons (ss_sto 3 hr.units rfl (sv_add (sv_ixN 3 hr.units rfl (sv_nm 6)) (sv_tup (sl_cons (sv_nm 7) (sl_nil)))) (sv_nm 8))
        (ss_one (ss_expr (sv_mt 4 PySem.F.slot_list_append PySem.F.type_list_append mt_append mo_append (sl_cons (sv_nm 8) (sl_nil)))))) (ss_nil))))))))
        (ss_one (ss_retNm 3)))))
theorem ok_first_ways (T : Tx K Fx.mg) : FnOk Fx.P Fx.w K Fx.mg Fx.base CX0 5 T.a_first_ways T.fd_first_ways ["town", "times", "place", "t"] (Sp0 K m_first_ways) :=
  fn_ok0C T.F_first_ways sc_first_ways fun A outer s H E hr => by
    unfold d_first_ways
    exact ss_one (ss_ret (sr_cF (ok_ways_in_time T 3) (fun _ _ _ => rfl) (hr.mono (by decide)) (by rfl) T.g_ways_in_time T.F_ways_in_time.kp T.b_ways_in_time (sa_val (sv_nm 2) (sa_val (sv_nm 3) (sa_fn (pe_lam (k := 2) (N' := ["now", "time", "town", "times"]) (ps := ["now", "time"]) (fr := ["town", "times"]) (d := d_first_ways_l1) ⟨rfl, rfl, rfl, rfl⟩ T.tb_first_ways rfl T.tm_first_ways (fun p hp _ => T.tu p hp) (by first | rfl | decide +kernel) rfl (show NdefX.ndefB (defScope s_first_ways) _ _ = true from by decide +kernel) rfl (NdefX.nscope_by (by decide +kernel)) (fun _ _ _ _ _ us hl => (match us, hl with | [_, _], _ => rfl)) (fun f c' A outer s H E hr => by
      unfold d_first_ways_l1
      exact sr_c0 (ok_timed_doors T) (hr.mono (by decide)) (by rfl) T.g_timed_doors T.F_timed_doors.kp T.b_timed_doors (sl_cons (sv_nm 2) (sl_cons (sv_nm 3) (sl_cons (sv_nm 0) (sl_cons (sv_nm 1) (sl_nil))))))) (sa_nil))))))
theorem ok_first_timed_walk (T : Tx K Fx.mg) : FnOk Fx.P Fx.w K Fx.mg Fx.base CX0 6 T.a_first_timed_walk T.fd_first_timed_walk ["town", "times", "place", "t", "target"] (Sp0 K m_first_timed_walk) :=
  fn_ok0 T.F_first_timed_walk sc_first_timed_walk fun cdv A outer s H E hr => by
    unfold d_first_timed_walk
    exact ss_cons (ss_set 5 sc_first_timed_walk.nd (sr_c0 (ok_first_ways T) (hr.mono (by decide)) (by rfl) T.g_first_ways T.F_first_ways.kp T.b_first_ways (sl_cons (sv_nm 0) (sl_cons (sv_nm 1) (sl_cons (sv_nm 2) (sl_cons (sv_nm 3) (sl_nil)))))))
        (ss_one (ss_ret (SV_sr (sv_if (sb_in hr.units rfl (sv_nm 4) (sp_nm 5)) (sv_ixN 5 hr.units rfl (sv_nm 4)) (sv_non)))))
theorem ok_last_through (T : Tx K Fx.mg) : FnOk Fx.P Fx.w K Fx.mg Fx.base CX0 1 T.a_last_through T.fd_last_through ["closing", "behind"] (Sp0 K m_last_through) :=
  fn_ok0 T.F_last_through sc_last_through fun cdv A outer s H E hr => by
    unfold d_last_through
    exact ss_cons (ss_if (sb_isN (sp_nm 1)) (ss_one (ss_ret (SV_sr (sv_non)))) (ss_nil))
        (ss_cons (ss_if (sb_eq hr.units (sv_nm 1) (sv_str)) (ss_one (ss_ret (SV_sr (sv_if (sb_isN (sp_nm 0)) (sv_str) (sv_sub (sv_nm 0) (sv_int)))))) (ss_nil))
        (ss_one (ss_ret (SV_sr (sv_if (sb_isN (sp_nm 0)) (sv_sub (sv_nm 1) (sv_int)) (sv_sub (sv_min2 rfl (by rfl) T.n_min (sv_nm 0) (sv_nm 1)) (sv_int)))))))
theorem ok_later_one (T : Tx K Fx.mg) : FnOk Fx.P Fx.w K Fx.mg Fx.base CX0 1 T.a_later_one T.fd_later_one ["time", "other"] (Sp0 K m_later_one) :=
  fn_ok0 T.F_later_one sc_later_one fun cdv A outer s H E hr => by
    unfold d_later_one
    exact ss_cons (ss_if (sb_w (sw_or (sb_isN (sp_nm 0)) (sw_one (sb_eq hr.units (sv_nm 1) (sv_str))))) (ss_one (ss_retNm 1)) (ss_nil))
        (ss_cons (ss_if (sb_w (sw_or (sb_isN (sp_nm 1)) (sw_one (sb_eq hr.units (sv_nm 0) (sv_str))))) (ss_one (ss_retNm 0)) (ss_nil))
        (ss_one (ss_ret (SV_sr (sv_max2 rfl (by rfl) T.n_max (sv_nm 0) (sv_nm 1))))))
theorem ok_last_times (T : Tx K Fx.mg) : FnOk Fx.P Fx.w K Fx.mg Fx.base CX0 2 T.a_last_times T.fd_last_times ["town", "times", "target"] (Sp0 K m_last_times) :=
  fn_ok0 T.F_last_times sc_last_times fun cdv A outer s H E hr => by
    unfold d_last_times
    exact ss_cons (ss_setLc (own := [("place", 6)]) 3 rfl sc_last_times.nd (sw_true rfl rfl rfl (by decide +kernel)) (si_val (sv_nm 0)) (by kernel_rfl) (by decide) (fun _ _ _ _ _ => sg_name 6 sc_last_times.nd) (fun _ _ _ _ _ => sif_nil) (fun _ _ _ _ _ => sv_non))
        (ss_cons (ss_sto 3 hr.units rfl (sv_str) (sv_nm 2))
        (ss_cons (ss_for PassesOwn.never rfl (si_val (sv_nm 0)) (sg_name 4 sc_last_times.nd) (ss_cons (ss_set 5 sc_last_times.nd (SV_sr (sv_bl)))
        (ss_cons (ss_for PassesOwn.never rfl (si_range1 (by rfl) T.n_range (sv_len rfl (by rfl) T.n_len (sp_nm 0))) (sg_name 6 sc_last_times.nd) (ss_cons (ss_set 7 sc_last_times.nd (SV_sr (sv_ixN 3 hr.units rfl (sv_nm 6))))
        (ss_cons (ss_for PassesOwn.never rfl (si_val (SR_sv (sr_c0 (ok_open_doors T) (hr.mono (by decide)) (by rfl) T.g_open_doors T.F_open_doors.kp T.b_open_doors (sl_cons (sv_nm 0) (sl_cons (sv_nm 6) (sl_nil)))))) (sg_tup rfl (sgs_cons (sg_name 8 sc_last_times.nd) (sgs_cons (sg_name 9 sc_last_times.nd) (sgs_nil)))) (ss_one (ss_set 7 sc_last_times.nd (sr_c0 (ok_later_one T) (hr.mono (by decide)) (by rfl) T.g_later_one T.F_later_one.kp T.b_later_one (sl_cons (sv_nm 7) (sl_cons (SR_sv (sr_c0 (ok_last_through T) (hr.mono (by decide)) (by rfl) T.g_last_through T.F_last_through.kp T.b_last_through (sl_cons (sv_ix hr.units rfl (sv_ixN 1 hr.units rfl (sv_nm 6)) (sv_nm 8)) (sl_cons (sv_ixN 3 hr.units rfl (sv_nm 9)) (sl_nil))))) (sl_nil)))))))
        (ss_one (ss_if (sb_ne hr.units (sv_nm 7) (sv_ixN 3 hr.units rfl (sv_nm 6))) (ss_cons (ss_sto 3 hr.units rfl (sv_nm 7) (sv_nm 6))
        (ss_one (ss_set 5 sc_last_times.nd (SV_sr (sv_bl))))) (ss_nil))))))
        (ss_one (ss_if (sb_not (sb_val (sv_nm 5))) (ss_one (ss_break)) (ss_nil))))))
        (ss_one (ss_ret (SV_sr (sv_tupleOf (by rfl) T.n_tuple (sp_nm 3)))))))
theorem ok_law_last_right (T : Tx K Fx.mg) : FnOk Fx.P Fx.w K Fx.mg Fx.base CX0 9 T.a_law_last_right T.fd_law_last_right ["town", "times", "target"] (Sp0 K m_law_last_right) :=
  fn_ok0 T.F_law_last_right sc_law_last_right fun cdv A outer s H E hr => by
    unfold d_law_last_right
    exact ss_cons (ss_set 3 sc_law_last_right.nd (sr_c0 (ok_law_last_times_of T) (hr.mono (by decide)) (by rfl) T.g_law_last_times_of T.F_law_last_times_of.kp T.b_law_last_times_of (sl_cons (sv_nm 0) (sl_cons (sv_nm 1) (sl_cons (sv_nm 2) (sl_nil))))))
        (ss_cons (ss_if (sb_not (sb_val (SR_sv (sr_c0 (ok_law_same T 8) (hr.mono (by decide)) (by rfl) T.g_law_same T.F_law_same.kp T.b_law_same (sl_cons (SR_sv (sr_c0 (ok_last_times T) (hr.mono (by decide)) (by rfl) T.g_last_times T.F_last_times.kp T.b_last_times (sl_cons (sv_nm 0) (sl_cons (sv_nm 1) (sl_cons (sv_nm 2) (sl_nil)))))) (sl_cons (sv_nm 3) (sl_nil))))))) (ss_one (ss_ret (SV_sr (sv_bl)))) (ss_nil))
        (ss_cons (ss_for PassesOwn.never rfl (si_range1 (by rfl) T.n_range (sv_len rfl (by rfl) T.n_len (sp_nm 0))) (sg_name 4 sc_law_last_right.nd) (ss_one (ss_if (sb_val (SR_sv (sr_c0 (ok_law_is_int T) (hr.mono (by decide)) (by rfl) T.g_law_is_int T.F_law_is_int.kp T.b_law_is_int (sl_cons (sv_ixN 3 hr.units rfl (sv_nm 4)) (sl_nil))))) (ss_cons (ss_if (sb_isN (SV_sp (SR_sv (sr_c0 (ok_first_timed_walk T) (hr.mono (by decide)) (by rfl) T.g_first_timed_walk T.F_first_timed_walk.kp T.b_first_timed_walk (sl_cons (sv_nm 0) (sl_cons (sv_nm 1) (sl_cons (sv_nm 4) (sl_cons (sv_ixN 3 hr.units rfl (sv_nm 4)) (sl_cons (sv_nm 2) (sl_nil)))))))))) (ss_one (ss_ret (SV_sr (sv_bl)))) (ss_nil))
        (ss_one (ss_if (sb_notN (SV_sp (SR_sv (sr_c0 (ok_first_timed_walk T) (hr.mono (by decide)) (by rfl) T.g_first_timed_walk T.F_first_timed_walk.kp T.b_first_timed_walk (sl_cons (sv_nm 0) (sl_cons (sv_nm 1) (sl_cons (sv_nm 4) (sl_cons (sv_add (sv_ixN 3 hr.units rfl (sv_nm 4)) (sv_int)) (sl_cons (sv_nm 2) (sl_nil)))))))))) (ss_one (ss_ret (SV_sr (sv_bl)))) (ss_nil)))) (ss_nil))))
        (ss_one (ss_ret (SV_sr (sv_bl))))))
theorem ok_law_time (T : Tx K Fx.mg) : FnOk Fx.P Fx.w K Fx.mg Fx.base CX0 3 T.a_law_time T.fd_law_time ["draws"] (Sp1 K m_law_time) :=
  fn_ok1 T.F_law_time sc_law_time (by decide) fun cdv A outer s H E hr => by
    unfold d_law_time
    exact ss_cons (ss_if (sb_eq hr.units (SR_sv (sr_c1 0 (ok_law_take T) (hr.mono (by decide)) (by rfl) T.g_law_take T.F_law_take.kp T.b_law_take (sl_cons (sv_int) (sl_nil)))) (sv_int)) (ss_one (ss_ret (sr_c1 0 (ok_law_pick T) (hr.mono (by decide)) (by rfl) T.g_law_pick T.F_law_pick.kp T.b_law_pick (sl_cons (SR_sv (sr_lst (sl_cons (sv_add (sv_pow (sv_int) (sv_int)) (sv_int)) (sl_cons (sv_neg (sv_pow (sv_int) (sv_int))) (sl_cons (sv_int) (sl_nil)))))) (sl_nil))))) (ss_nil))
        (ss_one (ss_ret (SV_sr (sv_sub (SR_sv (sr_c1 0 (ok_law_take T) (hr.mono (by decide)) (by rfl) T.g_law_take T.F_law_take.kp T.b_law_take (sl_cons (sv_int) (sl_nil)))) (sv_int)))))
theorem ok_law_is_time_bound (T : Tx K Fx.mg) : FnOk Fx.P Fx.w K Fx.mg Fx.base CX0 3 T.a_law_is_time_bound T.fd_law_is_time_bound ["town", "times", "place", "t", "bound"] (Sp0 K m_law_is_time_bound) :=
  fn_ok0 T.F_law_is_time_bound sc_law_is_time_bound fun cdv A outer s H E hr => by
    unfold d_law_is_time_bound
    exact ss_cons (ss_if (sb_w (sw_or (sb_isN (SV_sp (sv_ixN 4 hr.units rfl (sv_nm 2)))) (sw_one (sb_gt (sv_ixN 4 hr.units rfl (sv_nm 2)) (sv_nm 3))))) (ss_one (ss_ret (SV_sr (sv_bl)))) (ss_nil))
        (ss_cons (ss_for PassesOwn.never rfl (si_range1 (by rfl) T.n_range (sv_len rfl (by rfl) T.n_len (sp_nm 0))) (sg_name 5 sc_law_is_time_bound.nd) (ss_one (ss_for PassesOwn.never rfl (si_val (SR_sv (sr_c0 (ok_law_opens T) (hr.mono (by decide)) (by rfl) T.g_law_opens T.F_law_opens.kp T.b_law_opens (sl_cons (sv_nm 0) (sl_cons (sv_nm 5) (sl_nil)))))) (sg_name 6 sc_law_is_time_bound.nd) (ss_one (ss_if (sb_w (sw_and (sb_notN (SV_sp (sv_ixN 4 hr.units rfl (sv_nm 5)))) (sw_one (sb_val (SR_sv (sr_c0 (ok_law_can_go T) (hr.mono (by decide)) (by rfl) T.g_law_can_go T.F_law_can_go.kp T.b_law_can_go (sl_cons (sv_nm 0) (sl_cons (sv_nm 1) (sl_cons (sv_nm 5) (sl_cons (sv_nm 6) (sl_cons (sv_ixN 4 hr.units rfl (sv_nm 5)) (sl_nil)))))))))))) (ss_cons (ss_set 7 sc_law_is_time_bound.nd (SV_sr (sv_ixN 4 hr.units rfl (sv_ix hr.units rfl (sv_ix hr.units rfl (sv_ixN 0 hr.units rfl (sv_nm 5)) (sv_int)) (sv_nm 6)))))
        (ss_one (ss_if (sb_w (sw_or (sb_isN (sp_nm 7)) (sw_one (sb_gt (sv_nm 7) (sv_add (sv_ixN 4 hr.units rfl (sv_nm 5)) (sv_int)))))) (ss_one (ss_ret (SV_sr (sv_bl)))) (ss_nil)))) (ss_nil))))))
        (ss_one (ss_ret (SV_sr (sv_bl)))))
theorem ok_law_plus (T : Tx K Fx.mg) : FnOk Fx.P Fx.w K Fx.mg Fx.base CX0 1 T.a_law_plus T.fd_law_plus ["number", "more"] (Sp0 K m_law_plus) :=
  fn_ok0 T.F_law_plus sc_law_plus fun cdv A outer s H E hr => by
    unfold d_law_plus
    exact ss_cons (ss_if (sb_isN (sp_nm 0)) (ss_one (ss_ret (SV_sr (sv_non)))) (ss_nil))
        (ss_one (ss_ret (SV_sr (sv_add (sv_nm 0) (sv_nm 1)))))
theorem ok_law_put (T : Tx K Fx.mg) : FnOk Fx.P Fx.w K Fx.mg Fx.base CX0 1 T.a_law_put T.fd_law_put ["row", "k", "thing"] (Sp0 K m_law_put) :=
  fn_ok0 T.F_law_put sc_law_put fun cdv A outer s H E hr => by
    unfold d_law_put
    exact ss_one (ss_ret (SV_sr (sv_add (sv_add (SR_sv (sr_slN 0 (so_none) (so_some (sv_nm 1)))) (sv_tup (sl_cons (sv_nm 2) (sl_nil)))) (SR_sv (sr_slN 0 (so_some (sv_add (sv_nm 1) (sv_int))) (so_none))))))
theorem ok_is_number (T : Tx K Fx.mg) : FnOk Fx.P Fx.w K Fx.mg Fx.base CX0 1 T.a_is_number T.fd_is_number ["part"] (Sp0 K m_is_number) :=
  fn_ok0 T.F_is_number sc_is_number fun cdv A outer s H E hr => by
    unfold d_is_number
    exact ss_one (ss_ret (SV_sr (sv_and (sv_isi "int" (by rfl) T.n_isinstance (by rfl) T.n_int (by decide +kernel) (sp_nm 0)) (sv_one (sv_not (sv_isi "bool" (by rfl) T.n_isinstance (by rfl) T.n_bool (by decide +kernel) (sp_nm 0)))))))
theorem ok_is_row_of (T : Tx K Fx.mg) : FnOk Fx.P Fx.w K Fx.mg Fx.base CX0 1 T.a_is_row_of T.fd_is_row_of ["part", "size"] (Sp0 K m_is_row_of) :=
  fn_ok0 T.F_is_row_of sc_is_row_of fun cdv A outer s H E hr => by
    unfold d_is_row_of
    exact ss_one (ss_ret (SV_sr (sv_and (sv_isi "tuple" (by rfl) T.n_isinstance (by rfl) T.n_tuple (by decide +kernel) (sp_nm 0)) (sv_one (sv_eq hr.units (sv_len rfl (by rfl) T.n_len (sp_nm 0)) (sv_nm 1))))))
theorem ok_judge_time_bound (T : Tx K Fx.mg) : FnOk Fx.P Fx.w K Fx.mg Fx.base CX0 3 T.a_judge_time_bound T.fd_judge_time_bound ["town", "times", "place", "t", "bound"] (Sp0 K m_judge_time_bound) :=
  fn_ok0 T.F_judge_time_bound sc_judge_time_bound fun cdv A outer s H E hr => by
    unfold d_judge_time_bound
    exact ss_cons (ss_if (sb_w (sw_or (sb_not (sb_val (SR_sv (sr_c0 (ok_is_row_of T) (hr.mono (by decide)) (by rfl) T.g_is_row_of T.F_is_row_of.kp T.b_is_row_of (sl_cons (sv_nm 4) (sl_cons (sv_len rfl (by rfl) T.n_len (sp_nm 0)) (sl_nil))))))) (sw_one (sb_not (sb_val (sv_all rfl (by rfl) T.n_all (SV_sp (SR_sv (sr_comp (own := [("part", 9)]) rfl sc_judge_time_bound.nd (si_val (sv_nm 4)) (by kernel_rfl) (by decide) (fun _ _ _ _ _ => sg_name 9 sc_judge_time_bound.nd) (fun _ _ _ _ _ => sif_nil) (fun _ _ _ _ _ => sv_or (sv_isN (sp_nm 9)) (sv_one (SR_sv (sr_c0 (ok_is_number T) (hr.mono (by decide)) (by rfl) T.g_is_number T.F_is_number.kp T.b_is_number (sl_cons (sv_nm 9) (sl_nil))))))))))))))) (ss_one (ss_ret (SV_sr (sv_bl)))) (ss_nil))
        (ss_cons (ss_if (sb_w (sw_or (sb_isN (SV_sp (sv_ixN 4 hr.units rfl (sv_nm 2)))) (sw_one (sb_gt (sv_ixN 4 hr.units rfl (sv_nm 2)) (sv_nm 3))))) (ss_one (ss_ret (SV_sr (sv_bl)))) (ss_nil))
        (ss_cons (ss_for PassesOwn.never rfl (si_enum (by rfl) T.n_enumerate (sv_nm 4)) (sg_tup rfl (sgs_cons (sg_name 5 sc_judge_time_bound.nd) (sgs_cons (sg_name 6 sc_judge_time_bound.nd) (sgs_nil)))) (ss_cons (ss_if (sb_isN (sp_nm 6)) (ss_one (ss_cont)) (ss_nil))
        (ss_one (ss_for PassesOwn.never rfl (si_val (SR_sv (sr_c0 (ok_timed_doors T) (hr.mono (by decide)) (by rfl) T.g_timed_doors T.F_timed_doors.kp T.b_timed_doors (sl_cons (sv_nm 0) (sl_cons (sv_nm 1) (sl_cons (sv_nm 5) (sl_cons (sv_nm 6) (sl_nil)))))))) (sg_tup rfl (sgs_cons (sg_name 7 sc_judge_time_bound.nd) (sgs_cons (sg_name 8 sc_judge_time_bound.nd) (sgs_nil)))) (ss_one (ss_if (sb_w (sw_or (sb_isN (SV_sp (sv_ixN 4 hr.units rfl (sv_nm 8)))) (sw_one (sb_gt (sv_ixN 4 hr.units rfl (sv_nm 8)) (sv_add (sv_nm 6) (sv_int)))))) (ss_one (ss_ret (SV_sr (sv_bl)))) (ss_nil)))))))
        (ss_one (ss_ret (SV_sr (sv_bl))))))
theorem ok_law_time_bounds_right (T : Tx K Fx.mg) : FnOk Fx.P Fx.w K Fx.mg Fx.base CX0 9 T.a_law_time_bounds_right T.fd_law_time_bounds_right ["draws", "town", "times", "place", "t"] (Sp1 K m_law_time_bounds_right) :=
  fn_ok1 T.F_law_time_bounds_right sc_law_time_bounds_right (by decide) fun cdv A outer s H E hr => by
    unfold d_law_time_bounds_right
    exact ss_cons (ss_set 5 sc_law_time_bounds_right.nd (sr_c0 (ok_law_first_times T) (hr.mono (by decide)) (by rfl) T.g_law_first_times T.F_law_first_times.kp T.b_law_first_times (sl_cons (sv_nm 1) (sl_cons (sv_nm 2) (sl_cons (sv_nm 3) (sl_cons (sv_nm 4) (sl_nil)))))))
        (ss_cons (ss_set 6 sc_law_time_bounds_right.nd (sr_lst (sl_cons (sv_nm 5) (sl_cons (sv_repT (sv_tup (sl_cons (sv_nm 4) (sl_nil))) (sv_len rfl (by rfl) T.n_len (sp_nm 1))) (sl_cons (sv_repT (sv_tup (sl_cons (sv_sub (sv_nm 4) (sv_int)) (sl_nil))) (sv_len rfl (by rfl) T.n_len (sp_nm 1))) (sl_cons (sv_repT (sv_tup (sl_cons (sv_add (sv_nm 4) (sv_int)) (sl_nil))) (sv_len rfl (by rfl) T.n_len (sp_nm 1))) (sl_nil)))))))
        (ss_cons (ss_for PassesOwn.never rfl (si_range1 (by rfl) T.n_range (sv_int)) (sg_name 7 sc_law_time_bounds_right.nd) (ss_cons (ss_set 9 sc_law_time_bounds_right.nd (sr_c1 0 (ok_law_take T) (hr.mono (by decide)) (by rfl) T.g_law_take T.F_law_take.kp T.b_law_take (sl_cons (sv_len rfl (by rfl) T.n_len (sp_nm 1)) (sl_nil))))
        (ss_cons (ss_for PassesOwn.never rfl (si_val (SR_sv (sr_lst (sl_cons (sv_int) (sl_cons (sv_neg (sv_int)) (sl_cons (sv_neg (sv_pow (sv_int) (sv_int))) (sl_nil))))))) (sg_name 10 sc_law_time_bounds_right.nd) (ss_one (ss_expr (sv_mt 6 PySem.F.slot_list_append PySem.F.type_list_append mt_append mo_append (sl_cons (SR_sv (sr_c0 (ok_law_put T) (hr.mono (by decide)) (by rfl) T.g_law_put T.F_law_put.kp T.b_law_put (sl_cons (sv_nm 5) (sl_cons (sv_nm 9) (sl_cons (SR_sv (sr_c0 (ok_law_plus T) (hr.mono (by decide)) (by rfl) T.g_law_plus T.F_law_plus.kp T.b_law_plus (sl_cons (sv_ixN 5 hr.units rfl (sv_nm 9)) (sl_cons (sv_nm 10) (sl_nil))))) (sl_nil)))))) (sl_nil))))))
        (ss_cons (ss_expr (sv_mt 6 PySem.F.slot_list_append PySem.F.type_list_append mt_append mo_append (sl_cons (SR_sv (sr_c0 (ok_law_put T) (hr.mono (by decide)) (by rfl) T.g_law_put T.F_law_put.kp T.b_law_put (sl_cons (sv_nm 5) (sl_cons (sv_nm 9) (sl_cons (sv_non) (sl_nil)))))) (sl_nil))))
        (ss_one (ss_expr (sv_mt 6 PySem.F.slot_list_append PySem.F.type_list_append mt_append mo_append (sl_cons (SR_sv (sr_c0 (ok_law_put T) (hr.mono (by decide)) (by rfl) T.g_law_put T.F_law_put.kp T.b_law_put (sl_cons (sv_nm 5) (sl_cons (sv_nm 9) (sl_cons (sv_nm 4) (sl_nil)))))) (sl_nil)))))))))
        (ss_cons (ss_for PassesOwn.never rfl (si_val (sv_nm 6)) (sg_name 8 sc_law_time_bounds_right.nd) (ss_cons (ss_set 11 sc_law_time_bounds_right.nd (sr_c0 (ok_law_is_time_bound T) (hr.mono (by decide)) (by rfl) T.g_law_is_time_bound T.F_law_is_time_bound.kp T.b_law_is_time_bound (sl_cons (sv_nm 1) (sl_cons (sv_nm 2) (sl_cons (sv_nm 3) (sl_cons (sv_nm 4) (sl_cons (sv_nm 8) (sl_nil))))))))
        (ss_one (ss_if (sb_not (sb_val (SR_sv (sr_c0 (ok_law_same T 8) (hr.mono (by decide)) (by rfl) T.g_law_same T.F_law_same.kp T.b_law_same (sl_cons (SR_sv (sr_c0 (ok_judge_time_bound T) (hr.mono (by decide)) (by rfl) T.g_judge_time_bound T.F_judge_time_bound.kp T.b_judge_time_bound (sl_cons (sv_nm 1) (sl_cons (sv_nm 2) (sl_cons (sv_nm 3) (sl_cons (sv_nm 4) (sl_cons (sv_nm 8) (sl_nil)))))))) (sl_cons (sv_nm 11) (sl_nil))))))) (ss_one (ss_ret (SV_sr (sv_bl)))) (ss_nil)))))
        (ss_one (ss_ret (SV_sr (sv_bl)))))))
theorem ok_law_end (T : Tx K Fx.mg) : FnOk Fx.P Fx.w K Fx.mg Fx.base CX0 2 T.a_law_end T.fd_law_end ["town", "place", "walk"] (Sp0 K m_law_end) :=
  fn_ok0 T.F_law_end sc_law_end fun cdv A outer s H E hr => by
    unfold d_law_end
    exact ss_cons (ss_set 3 sc_law_end.nd (SV_sr (sv_nm 1)))
        (ss_cons (ss_for PassesOwn.never rfl (si_val (sv_nm 2)) (sg_name 4 sc_law_end.nd) (ss_cons (ss_set 3 sc_law_end.nd (sr_c0 (ok_law_goal T) (hr.mono (by decide)) (by rfl) T.g_law_goal T.F_law_goal.kp T.b_law_goal (sl_cons (sv_nm 0) (sl_cons (sv_nm 3) (sl_cons (sv_nm 4) (sl_nil))))))
        (ss_one (ss_if (sb_isN (sp_nm 3)) (ss_one (ss_ret (SV_sr (sv_non)))) (ss_nil)))))
        (ss_one (ss_retNm 3)))
theorem ok_step_from (T : Tx K Fx.mg) : FnOk Fx.P Fx.w K Fx.mg Fx.base CX0 1 T.a_step_from T.fd_step_from ["town", "place", "door"] (Sp0 K m_step_from) :=
  fn_ok0 T.F_step_from sc_step_from fun cdv A outer s H E hr => by
    unfold d_step_from
    exact ss_cons (ss_set 3 sc_step_from.nd (SV_sr (sv_ix hr.units rfl (sv_ixN 0 hr.units rfl (sv_nm 1)) (sv_int))))
        (ss_cons (ss_if (sb_ge (sv_nm 2) (sv_len rfl (by rfl) T.n_len (sp_nm 3))) (ss_one (ss_ret (SV_sr (sv_non)))) (ss_nil))
        (ss_one (ss_ret (SV_sr (sv_ixN 3 hr.units rfl (sv_nm 2))))))
theorem ok_timed_end (T : Tx K Fx.mg) : FnOk Fx.P Fx.w K Fx.mg Fx.base CX0 2 T.a_timed_end T.fd_timed_end ["town", "times", "place", "t", "walk"] (Sp0 K m_timed_end) :=
  fn_ok0 T.F_timed_end sc_timed_end fun cdv A outer s H E hr => by
    unfold d_timed_end
    exact ss_cons (ss_set 5 sc_timed_end.nd (SV_sr (sv_nm 2)))
        (ss_cons (ss_set 6 sc_timed_end.nd (SV_sr (sv_nm 3)))
        (ss_cons (ss_for PassesOwn.never rfl (si_val (sv_nm 4)) (sg_name 7 sc_timed_end.nd) (ss_cons (ss_if (sb_ne hr.units (sv_nm 7) (sv_neg (sv_int))) (ss_cons (ss_set 8 sc_timed_end.nd (sr_c0 (ok_step_from T) (hr.mono (by decide)) (by rfl) T.g_step_from T.F_step_from.kp T.b_step_from (sl_cons (sv_nm 0) (sl_cons (sv_nm 5) (sl_cons (sv_nm 7) (sl_nil))))))
        (ss_cons (ss_if (sb_w (sw_or (sb_isN (sp_nm 8)) (sw_one (sb_not (sb_val (SR_sv (sr_c0 (ok_is_passable T) (hr.mono (by decide)) (by rfl) T.g_is_passable T.F_is_passable.kp T.b_is_passable (sl_cons (sv_ix hr.units rfl (sv_ixN 1 hr.units rfl (sv_nm 5)) (sv_nm 7)) (sl_cons (sv_nm 6) (sl_nil)))))))))) (ss_one (ss_ret (SV_sr (sv_non)))) (ss_nil))
        (ss_one (ss_set 5 sc_timed_end.nd (SV_sr (sv_nm 8)))))) (ss_nil))
        (ss_one (ss_augAdd 6 sc_timed_end.nd (sv_int)))))
        (ss_one (ss_ret (SV_sr (sv_tup (sl_cons (sv_nm 5) (sl_cons (sv_nm 6) (sl_nil)))))))))
theorem ok_law_timed_walks_right (T : Tx K Fx.mg) : FnOk Fx.P Fx.w K Fx.mg Fx.base CX0 9 T.a_law_timed_walks_right T.fd_law_timed_walks_right ["town", "times", "place", "t"] (Sp0 K m_law_timed_walks_right) :=
  fn_ok0 T.F_law_timed_walks_right sc_law_timed_walks_right fun cdv A outer s H E hr => by
    unfold d_law_timed_walks_right
    exact ss_cons (ss_set 4 sc_law_timed_walks_right.nd (sr_c0 (ok_law_timed_rows T) (hr.mono (by decide)) (by rfl) T.g_law_timed_rows T.F_law_timed_rows.kp T.b_law_timed_rows (sl_cons (sv_nm 0) (sl_cons (sv_nm 1) (sl_cons (sv_nm 2) (sl_cons (sv_nm 3) (sl_nil)))))))
        (ss_cons (ss_for PassesOwn.never rfl (si_range1 (by rfl) T.n_range (sv_len rfl (by rfl) T.n_len (sp_nm 0))) (sg_name 5 sc_law_timed_walks_right.nd) (ss_cons (ss_set 6 sc_law_timed_walks_right.nd (SV_sr (sv_ixN 4 hr.units rfl (sv_nm 5))))
        (ss_cons (ss_if (sb_not (sb_val (SR_sv (sr_c0 (ok_law_same T 8) (hr.mono (by decide)) (by rfl) T.g_law_same T.F_law_same.kp T.b_law_same (sl_cons (SR_sv (sr_c0 (ok_first_timed_walk T) (hr.mono (by decide)) (by rfl) T.g_first_timed_walk T.F_first_timed_walk.kp T.b_first_timed_walk (sl_cons (sv_nm 0) (sl_cons (sv_nm 1) (sl_cons (sv_nm 2) (sl_cons (sv_nm 3) (sl_cons (sv_nm 5) (sl_nil)))))))) (sl_cons (sv_nm 6) (sl_nil))))))) (ss_one (ss_ret (SV_sr (sv_bl)))) (ss_nil))
        (ss_cons (ss_if (sb_notN (sp_nm 6)) (ss_cons (ss_if (sb_not (sb_val (SR_sv (sr_c0 (ok_law_same T 8) (hr.mono (by decide)) (by rfl) T.g_law_same T.F_law_same.kp T.b_law_same (sl_cons (SR_sv (sr_c0 (ok_timed_end T) (hr.mono (by decide)) (by rfl) T.g_timed_end T.F_timed_end.kp T.b_timed_end (sl_cons (sv_nm 0) (sl_cons (sv_nm 1) (sl_cons (sv_nm 2) (sl_cons (sv_nm 3) (sl_cons (sv_nm 6) (sl_nil)))))))) (sl_cons (sv_tup (sl_cons (sv_nm 5) (sl_cons (sv_add (sv_nm 3) (sv_len rfl (by rfl) T.n_len (sp_nm 6))) (sl_nil)))) (sl_nil))))))) (ss_one (ss_ret (SV_sr (sv_bl)))) (ss_nil))
        (ss_one (ss_if (sb_not (sb_val (SR_sv (sr_c0 (ok_law_same T 8) (hr.mono (by decide)) (by rfl) T.g_law_same T.F_law_same.kp T.b_law_same (sl_cons (SR_sv (sr_c0 (ok_timed_end T) (hr.mono (by decide)) (by rfl) T.g_timed_end T.F_timed_end.kp T.b_timed_end (sl_cons (sv_nm 0) (sl_cons (sv_nm 1) (sl_cons (sv_nm 2) (sl_cons (sv_nm 3) (sl_cons (sv_add (sv_nm 6) (sv_tup (sl_cons (sv_neg (sv_int)) (sl_nil)))) (sl_nil)))))))) (sl_cons (sv_tup (sl_cons (sv_nm 5) (sl_cons (sv_add (sv_add (sv_nm 3) (sv_len rfl (by rfl) T.n_len (sp_nm 6))) (sv_int)) (sl_nil)))) (sl_nil))))))) (ss_one (ss_ret (SV_sr (sv_bl)))) (ss_nil)))) (ss_nil))
        (ss_one (ss_if (sb_w (sw_and (sb_notN (sp_nm 6)) (sw_one (sb_gt (sv_len rfl (by rfl) T.n_len (sp_nm 6)) (sv_int))))) (ss_cons (ss_set 7 sc_law_timed_walks_right.nd (sr_c0 (ok_law_end T) (hr.mono (by decide)) (by rfl) T.g_law_end T.F_law_end.kp T.b_law_end (sl_cons (sv_nm 0) (sl_cons (sv_nm 2) (sl_cons (SR_sv (sr_slN 6 (so_none) (so_some (sv_neg (sv_int))))) (sl_nil))))))
        (ss_cons (ss_set 8 sc_law_timed_walks_right.nd (sr_c0 (ok_law_put T) (hr.mono (by decide)) (by rfl) T.g_law_put T.F_law_put.kp T.b_law_put (sl_cons (sv_nm 1) (sl_cons (sv_nm 7) (sl_cons (SR_sv (sr_c0 (ok_law_put T) (hr.mono (by decide)) (by rfl) T.g_law_put T.F_law_put.kp T.b_law_put (sl_cons (sv_ixN 1 hr.units rfl (sv_nm 7)) (sl_cons (sv_ixN 6 hr.units rfl (sv_neg (sv_int))) (sl_cons (sv_sub (sv_add (sv_nm 3) (sv_len rfl (by rfl) T.n_len (sp_nm 6))) (sv_int)) (sl_nil)))))) (sl_nil))))))
        (ss_one (ss_if (sb_notN (SV_sp (SR_sv (sr_c0 (ok_timed_end T) (hr.mono (by decide)) (by rfl) T.g_timed_end T.F_timed_end.kp T.b_timed_end (sl_cons (sv_nm 0) (sl_cons (sv_nm 8) (sl_cons (sv_nm 2) (sl_cons (sv_nm 3) (sl_cons (sv_nm 6) (sl_nil)))))))))) (ss_one (ss_ret (SV_sr (sv_bl)))) (ss_nil))))) (ss_nil)))))))
        (ss_one (ss_ret (SV_sr (sv_bl)))))
theorem ok_first_times (T : Tx K Fx.mg) : FnOk Fx.P Fx.w K Fx.mg Fx.base CX0 6 T.a_first_times T.fd_first_times ["town", "times", "place", "t"] (Sp0 K m_first_times) :=
  fn_ok0 T.F_first_times sc_first_times fun cdv A outer s H E hr => by
    unfold d_first_times
    exact ss_cons (ss_set 4 sc_first_times.nd (sr_c0 (ok_first_ways T) (hr.mono (by decide)) (by rfl) T.g_first_ways T.F_first_ways.kp T.b_first_ways (sl_cons (sv_nm 0) (sl_cons (sv_nm 1) (sl_cons (sv_nm 2) (sl_cons (sv_nm 3) (sl_nil)))))))
        (ss_one (ss_ret (SV_sr (sv_tupleOf (by rfl) T.n_tuple (SV_sp (SR_sv (sr_comp (own := [("goal", 5)]) rfl sc_first_times.nd (si_range1 (by rfl) T.n_range (sv_len rfl (by rfl) T.n_len (sp_nm 0))) (by kernel_rfl) (by decide) (fun _ _ _ _ _ => sg_name 5 sc_first_times.nd) (fun _ _ _ _ _ => sif_nil) (fun _ _ _ _ _ => sv_if (sb_in hr.units rfl (sv_nm 5) (sp_nm 4)) (sv_add (sv_nm 3) (sv_len rfl (by rfl) T.n_len (SV_sp (sv_ixN 4 hr.units rfl (sv_nm 5))))) (sv_non)))))))))
theorem ok_starts_to_all (T : Tx K Fx.mg) : FnOk Fx.P Fx.w K Fx.mg Fx.base CX0 6 T.a_starts_to_all T.fd_starts_to_all ["town", "times", "t"] (Sp0 K m_starts_to_all) :=
  fn_ok0 T.F_starts_to_all sc_starts_to_all fun cdv A outer s H E hr => by
    unfold d_starts_to_all
    exact ss_one (ss_ret (SV_sr (sv_tupleOf (by rfl) T.n_tuple (SV_sp (SR_sv (sr_comp (own := [("place", 3)]) rfl sc_starts_to_all.nd (si_range1 (by rfl) T.n_range (sv_len rfl (by rfl) T.n_len (sp_nm 0))) (by kernel_rfl) (by decide) (fun _ _ _ _ _ => sg_name 3 sc_starts_to_all.nd) (fun _ _ _ _ _ => sif_one (sb_eq hr.units (sv_len rfl (by rfl) T.n_len (SV_sp (SR_sv (sr_c0 (ok_first_ways T) (hr.mono (by decide)) (by rfl) T.g_first_ways T.F_first_ways.kp T.b_first_ways (sl_cons (sv_nm 0) (sl_cons (sv_nm 1) (sl_cons (sv_nm 3) (sl_cons (sv_nm 2) (sl_nil))))))))) (sv_len rfl (by rfl) T.n_len (sp_nm 0)))) (fun _ _ _ _ _ => sv_nm 3)))))))
theorem ok_law (T : Tx K Fx.mg) : FnOk Fx.P Fx.w K Fx.mg Fx.base CX0 10 T.a_law T.fd_law ["script"] (Sp0 K m_law) :=
  fn_ok0 T.F_law sc_law fun cdv A outer s H E hr => by
    unfold d_law
    exact ss_cons (ss_set 1 sc_law.nd (sr_c0 (ok_law_draws T) (hr.mono (by decide)) (by rfl) T.g_law_draws T.F_law_draws.kp T.b_law_draws (sl_cons (sv_nm 0) (sl_cons (sv_int) (sl_nil)))))
        (ss_cons (ss_set 2 sc_law.nd (sr_c1 1 (ok_law_great_town T) (hr.mono (by decide)) (by rfl) T.g_law_great_town T.F_law_great_town.kp T.b_law_great_town (sl_cons (sv_int) (sl_cons (sv_int) (sl_nil)))))
        (ss_cons (ss_set 3 sc_law.nd (sr_c1 1 (ok_law_time T) (hr.mono (by decide)) (by rfl) T.g_law_time T.F_law_time.kp T.b_law_time (sl_nil)))
        (ss_cons (ss_set 4 sc_law.nd (sr_c1 1 (ok_law_closings T) (hr.mono (by decide)) (by rfl) T.g_law_closings T.F_law_closings.kp T.b_law_closings (sl_cons (sv_nm 2) (sl_cons (sv_nm 3) (sl_nil)))))
        (ss_cons (ss_set 5 sc_law.nd (sr_c1 1 (ok_law_take T) (hr.mono (by decide)) (by rfl) T.g_law_take T.F_law_take.kp T.b_law_take (sl_cons (sv_len rfl (by rfl) T.n_len (sp_nm 2)) (sl_nil))))
        (ss_cons (ss_if (sb_not (sb_val (SR_sv (sr_c0 (ok_law_same T 8) (hr.mono (by decide)) (by rfl) T.g_law_same T.F_law_same.kp T.b_law_same (sl_cons (SR_sv (sr_c0 (ok_first_times T) (hr.mono (by decide)) (by rfl) T.g_first_times T.F_first_times.kp T.b_first_times (sl_cons (sv_nm 2) (sl_cons (sv_nm 4) (sl_cons (sv_nm 5) (sl_cons (sv_nm 3) (sl_nil))))))) (sl_cons (SR_sv (sr_c0 (ok_law_first_times T) (hr.mono (by decide)) (by rfl) T.g_law_first_times T.F_law_first_times.kp T.b_law_first_times (sl_cons (sv_nm 2) (sl_cons (sv_nm 4) (sl_cons (sv_nm 5) (sl_cons (sv_nm 3) (sl_nil))))))) (sl_nil))))))) (ss_one (ss_ret (SV_sr (sv_bl)))) (ss_nil))
        (ss_cons (ss_if (sb_not (sb_val (SR_sv (sr_c0 (ok_law_timed_walks_right T) (hr.mono (by decide)) (by rfl) T.g_law_timed_walks_right T.F_law_timed_walks_right.kp T.b_law_timed_walks_right (sl_cons (sv_nm 2) (sl_cons (sv_nm 4) (sl_cons (sv_nm 5) (sl_cons (sv_nm 3) (sl_nil))))))))) (ss_one (ss_ret (SV_sr (sv_bl)))) (ss_nil))
        (ss_cons (ss_if (sb_not (sb_val (SR_sv (sr_c0 (ok_law_last_right T) (hr.mono (by decide)) (by rfl) T.g_law_last_right T.F_law_last_right.kp T.b_law_last_right (sl_cons (sv_nm 2) (sl_cons (sv_nm 4) (sl_cons (SR_sv (sr_c1 1 (ok_law_take T) (hr.mono (by decide)) (by rfl) T.g_law_take T.F_law_take.kp T.b_law_take (sl_cons (sv_len rfl (by rfl) T.n_len (sp_nm 2)) (sl_nil)))) (sl_nil)))))))) (ss_one (ss_ret (SV_sr (sv_bl)))) (ss_nil))
        (ss_cons (ss_setLc (own := [("k", 7)]) 6 rfl sc_law.nd (sw_true rfl rfl rfl (by decide +kernel)) (si_range1 (by rfl) T.n_range (sv_len rfl (by rfl) T.n_len (sp_nm 2))) (by kernel_rfl) (by decide) (fun _ _ _ _ _ => sg_name 7 sc_law.nd) (fun _ _ _ _ _ => sif_one (sb_notIn hr.units rfl (sv_non) (SV_sp (SR_sv (sr_c0 (ok_law_timed_rows T) (hr.mono (by decide)) (by rfl) T.g_law_timed_rows T.F_law_timed_rows.kp T.b_law_timed_rows (sl_cons (sv_nm 2) (sl_cons (sv_nm 4) (sl_cons (sv_nm 7) (sl_cons (sv_nm 3) (sl_nil)))))))))) (fun _ _ _ _ _ => sv_nm 7))
        (ss_cons (ss_if (sb_not (sb_val (SR_sv (sr_c0 (ok_law_same T 8) (hr.mono (by decide)) (by rfl) T.g_law_same T.F_law_same.kp T.b_law_same (sl_cons (SR_sv (sr_c0 (ok_starts_to_all T) (hr.mono (by decide)) (by rfl) T.g_starts_to_all T.F_starts_to_all.kp T.b_starts_to_all (sl_cons (sv_nm 2) (sl_cons (sv_nm 4) (sl_cons (sv_nm 3) (sl_nil)))))) (sl_cons (sv_tupleOf (by rfl) T.n_tuple (sp_nm 6)) (sl_nil))))))) (ss_one (ss_ret (SV_sr (sv_bl)))) (ss_nil))
        (ss_one (ss_ret (sr_c1 1 (ok_law_time_bounds_right T) (hr.mono (by decide)) (by rfl) T.g_law_time_bounds_right T.F_law_time_bounds_right.kp T.b_law_time_bounds_right (sl_cons (sv_nm 2) (sl_cons (sv_nm 4) (sl_cons (sv_nm 5) (sl_cons (sv_nm 3) (sl_nil)))))))))))))))))
end
end
/-! ### the end -/
theorem all_mk {l : PySem.W.OpenLaw} {w : World} {K : PySem.W.Frag} {h : Heap} {mg : Str → Option Value} {fa : Addr} (main : ∀ ns : List Int, ns.length ≤ 63 → m_law [.scr ns] = some (.val (.bl true))) (X : K.In h) (G : h.Ns mainGlobals mg) (hfa : mg "law" = some (.ref fa))
    {f0 f1 f2 f3 f4 f5 f6 f7 f8 f9 f10 f11 f12 f13 f14 f15 f16 f17 f18 f19 f20 f21 f22 f23 f24 f25 f26 f27 f28 f29 f30 f31 f32 f33 f34 f35 f36 f37 f38 f39 f40 f41 : Addr} {od0 an0 od1 an1 od2 an2 od3 an3 od4 an4 od5 an5 od6 an6 od7 an7 od8 an8 od9 an9 od10 an10 od11 an11 od12 an12 od13 an13 od14 an14 od15 an15 od16 an16 od17 an17 od18 an18 od19 an19 od20 an20 od21 an21 od22 an22 od23 an23 od24 an24 od25 an25 od26 an26 od27 an27 od28 an28 od29 an29 od30 an30 od31 an31 od32 an32 od33 an33 od34 an34 od35 an35 od36 an36 od37 an37 od38 an38 od39 an39 od40 an40 od41 an41 : Option Addr} {sl0 sl1 sl2 sl3 sl4 sl5 sl6 sl7 sl8 sl9 sl10 sl11 sl12 sl13 sl14 sl15 sl16 sl17 sl18 sl19 sl20 sl21 sl22 sl23 sl24 sl25 sl26 sl27 sl28 sl29 sl30 sl31 sl32 sl33 sl34 sl35 sl36 sl37 sl38 sl39 sl40 sl41 : Array (Option Value)} {oc0 kV0 dc0 pm0 cd0 ct0 oc1 kV1 dc1 pm1 cd1 ct1 oc2 kV2 dc2 pm2 cd2 ct2 oc3 kV3 dc3 pm3 cd3 ct3 oc4 kV4 dc4 pm4 cd4 ct4 oc5 kV5 dc5 pm5 cd5 ct5 oc6 kV6 dc6 pm6 cd6 ct6 oc7 kV7 dc7 pm7 cd7 ct7 oc8 kV8 dc8 pm8 cd8 ct8 oc9 kV9 dc9 pm9 cd9 ct9 oc10 kV10 dc10 pm10 cd10 ct10 oc11 kV11 dc11 pm11 cd11 ct11 oc12 kV12 dc12 pm12 cd12 ct12 oc13 kV13 dc13 pm13 cd13 ct13 oc14 kV14 dc14 pm14 cd14 ct14 oc15 kV15 dc15 pm15 cd15 ct15 oc16 kV16 dc16 pm16 cd16 ct16 oc17 kV17 dc17 pm17 cd17 ct17 oc18 kV18 dc18 pm18 cd18 ct18 oc19 kV19 dc19 pm19 cd19 ct19 oc20 kV20 dc20 pm20 cd20 ct20 oc21 kV21 dc21 pm21 ct21 oc22 kV22 dc22 pm22 cd22 ct22 oc23 kV23 dc23 pm23 cd23 ct23 oc24 kV24 dc24 pm24 cd24 ct24 oc25 kV25 dc25 pm25 cd25 ct25 oc26 kV26 dc26 pm26 cd26 ct26 oc27 kV27 dc27 pm27 cd27 ct27 oc28 kV28 dc28 pm28 cd28 ct28 oc29 kV29 dc29 pm29 cd29 ct29 oc30 kV30 dc30 pm30 cd30 ct30 oc31 kV31 dc31 pm31 cd31 ct31 oc32 kV32 dc32 pm32 cd32 ct32 oc33 kV33 dc33 pm33 cd33 ct33 oc34 kV34 dc34 pm34 cd34 ct34 oc35 kV35 dc35 pm35 cd35 ct35 oc36 kV36 dc36 pm36 cd36 ct36 oc37 kV37 dc37 pm37 cd37 ct37 oc38 kV38 dc38 pm38 cd38 ct38 oc39 kV39 dc39 pm39 cd39 ct39 oc40 kV40 dc40 pm40 cd40 ct40 oc41 kV41 dc41 pm41 cd41 ct41 : Value}
    {cc21 pp21 : Addr} {vo21 : Value} {vd21 : Option Addr} {vs21 : Array Value} {vl21 : Array (Option Value)}
    (a0 : PySem.W.nsIn K mainGlobals "_law_take" = some (some (.ref f0))) (l0 : K.lookup f0 = some ⟨oc0, od0, .func (PySem.W.fnOf "_law_take" "_law_take" (defArgs s_law_take) (defBody s_law_take) (defScope s_law_take) .none kV0 dc0 pm0 an0 cd0 ct0), sl0⟩) (c0 : PySem.W.codeIn K cd0 "_law_take" = true) (k0 : PySem.W.keepIn K (.ref f0) = true)
    (a1 : PySem.W.nsIn K mainGlobals "_law_pick" = some (some (.ref f1))) (l1 : K.lookup f1 = some ⟨oc1, od1, .func (PySem.W.fnOf "_law_pick" "_law_pick" (defArgs s_law_pick) (defBody s_law_pick) (defScope s_law_pick) .none kV1 dc1 pm1 an1 cd1 ct1), sl1⟩) (c1 : PySem.W.codeIn K cd1 "_law_pick" = true) (k1 : PySem.W.keepIn K (.ref f1) = true)
    (a2 : PySem.W.nsIn K mainGlobals "_law_closings" = some (some (.ref f2))) (l2 : K.lookup f2 = some ⟨oc2, od2, .func (PySem.W.fnOf "_law_closings" "_law_closings" (defArgs s_law_closings) (defBody s_law_closings) (defScope s_law_closings) .none kV2 dc2 pm2 an2 cd2 ct2), sl2⟩) (c2 : PySem.W.codeIn K cd2 "_law_closings" = true) (k2 : PySem.W.keepIn K (.ref f2) = true)
    (a3 : PySem.W.nsIn K mainGlobals "_law_draws" = some (some (.ref f3))) (l3 : K.lookup f3 = some ⟨oc3, od3, .func (PySem.W.fnOf "_law_draws" "_law_draws" (defArgs s_law_draws) (defBody s_law_draws) (defScope s_law_draws) .none kV3 dc3 pm3 an3 cd3 ct3), sl3⟩) (c3 : PySem.W.codeIn K cd3 "_law_draws" = true) (k3 : PySem.W.keepIn K (.ref f3) = true)
    (a4 : PySem.W.nsIn K mainGlobals "_law_goal" = some (some (.ref f4))) (l4 : K.lookup f4 = some ⟨oc4, od4, .func (PySem.W.fnOf "_law_goal" "_law_goal" (defArgs s_law_goal) (defBody s_law_goal) (defScope s_law_goal) .none kV4 dc4 pm4 an4 cd4 ct4), sl4⟩) (c4 : PySem.W.codeIn K cd4 "_law_goal" = true) (k4 : PySem.W.keepIn K (.ref f4) = true)
    (a5 : PySem.W.nsIn K mainGlobals "_law_can_go" = some (some (.ref f5))) (l5 : K.lookup f5 = some ⟨oc5, od5, .func (PySem.W.fnOf "_law_can_go" "_law_can_go" (defArgs s_law_can_go) (defBody s_law_can_go) (defScope s_law_can_go) .none kV5 dc5 pm5 an5 cd5 ct5), sl5⟩) (c5 : PySem.W.codeIn K cd5 "_law_can_go" = true) (k5 : PySem.W.keepIn K (.ref f5) = true)
    (a6 : PySem.W.nsIn K mainGlobals "_law_opens" = some (some (.ref f6))) (l6 : K.lookup f6 = some ⟨oc6, od6, .func (PySem.W.fnOf "_law_opens" "_law_opens" (defArgs s_law_opens) (defBody s_law_opens) (defScope s_law_opens) .none kV6 dc6 pm6 an6 cd6 ct6), sl6⟩) (c6 : PySem.W.codeIn K cd6 "_law_opens" = true) (k6 : PySem.W.keepIn K (.ref f6) = true)
    (a7 : PySem.W.nsIn K mainGlobals "_law_timed_moves" = some (some (.ref f7))) (l7 : K.lookup f7 = some ⟨oc7, od7, .func (PySem.W.fnOf "_law_timed_moves" "_law_timed_moves" (defArgs s_law_timed_moves) (defBody s_law_timed_moves) (defScope s_law_timed_moves) .none kV7 dc7 pm7 an7 cd7 ct7), sl7⟩) (c7 : PySem.W.codeIn K cd7 "_law_timed_moves" = true) (k7 : PySem.W.keepIn K (.ref f7) = true)
    (a8 : PySem.W.nsIn K mainGlobals "_law_timed_rows" = some (some (.ref f8))) (l8 : K.lookup f8 = some ⟨oc8, od8, .func (PySem.W.fnOf "_law_timed_rows" "_law_timed_rows" (defArgs s_law_timed_rows) (defBody s_law_timed_rows) (defScope s_law_timed_rows) .none kV8 dc8 pm8 an8 cd8 ct8), sl8⟩) (c8 : PySem.W.codeIn K cd8 "_law_timed_rows" = true) (k8 : PySem.W.keepIn K (.ref f8) = true)
    (a9 : PySem.W.nsIn K mainGlobals "_law_first_times" = some (some (.ref f9))) (l9 : K.lookup f9 = some ⟨oc9, od9, .func (PySem.W.fnOf "_law_first_times" "_law_first_times" (defArgs s_law_first_times) (defBody s_law_first_times) (defScope s_law_first_times) .none kV9 dc9 pm9 an9 cd9 ct9), sl9⟩) (c9 : PySem.W.codeIn K cd9 "_law_first_times" = true) (k9 : PySem.W.keepIn K (.ref f9) = true)
    (a10 : PySem.W.nsIn K mainGlobals "_law_words" = some (some (.ref f10))) (l10 : K.lookup f10 = some ⟨oc10, od10, .func (PySem.W.fnOf "_law_words" "_law_words" (defArgs s_law_words) (defBody s_law_words) (defScope s_law_words) .none kV10 dc10 pm10 an10 cd10 ct10), sl10⟩) (c10 : PySem.W.codeIn K cd10 "_law_words" = true) (k10 : PySem.W.keepIn K (.ref f10) = true)
    (a11 : PySem.W.nsIn K mainGlobals "_law_great_town" = some (some (.ref f11))) (l11 : K.lookup f11 = some ⟨oc11, od11, .func (PySem.W.fnOf "_law_great_town" "_law_great_town" (defArgs s_law_great_town) (defBody s_law_great_town) (defScope s_law_great_town) .none kV11 dc11 pm11 an11 cd11 ct11), sl11⟩) (c11 : PySem.W.codeIn K cd11 "_law_great_town" = true) (k11 : PySem.W.keepIn K (.ref f11) = true)
    (a12 : PySem.W.nsIn K mainGlobals "_law_is_int" = some (some (.ref f12))) (l12 : K.lookup f12 = some ⟨oc12, od12, .func (PySem.W.fnOf "_law_is_int" "_law_is_int" (defArgs s_law_is_int) (defBody s_law_is_int) (defScope s_law_is_int) .none kV12 dc12 pm12 an12 cd12 ct12), sl12⟩) (c12 : PySem.W.codeIn K cd12 "_law_is_int" = true) (k12 : PySem.W.keepIn K (.ref f12) = true)
    (a13 : PySem.W.nsIn K mainGlobals "_law_earlier" = some (some (.ref f13))) (l13 : K.lookup f13 = some ⟨oc13, od13, .func (PySem.W.fnOf "_law_earlier" "_law_earlier" (defArgs s_law_earlier) (defBody s_law_earlier) (defScope s_law_earlier) .none kV13 dc13 pm13 an13 cd13 ct13), sl13⟩) (c13 : PySem.W.codeIn K cd13 "_law_earlier" = true) (k13 : PySem.W.keepIn K (.ref f13) = true)
    (a14 : PySem.W.nsIn K mainGlobals "_law_later" = some (some (.ref f14))) (l14 : K.lookup f14 = some ⟨oc14, od14, .func (PySem.W.fnOf "_law_later" "_law_later" (defArgs s_law_later) (defBody s_law_later) (defScope s_law_later) .none kV14 dc14 pm14 an14 cd14 ct14), sl14⟩) (c14 : PySem.W.codeIn K cd14 "_law_later" = true) (k14 : PySem.W.keepIn K (.ref f14) = true)
    (a15 : PySem.W.nsIn K mainGlobals "_law_last_times_of" = some (some (.ref f15))) (l15 : K.lookup f15 = some ⟨oc15, od15, .func (PySem.W.fnOf "_law_last_times_of" "_law_last_times_of" (defArgs s_law_last_times_of) (defBody s_law_last_times_of) (defScope s_law_last_times_of) .none kV15 dc15 pm15 an15 cd15 ct15), sl15⟩) (c15 : PySem.W.codeIn K cd15 "_law_last_times_of" = true) (k15 : PySem.W.keepIn K (.ref f15) = true)
    (a16 : PySem.W.nsIn K mainGlobals "_law_same" = some (some (.ref f16))) (l16 : K.lookup f16 = some ⟨oc16, od16, .func (PySem.W.fnOf "_law_same" "_law_same" (defArgs s_law_same) (defBody s_law_same) (defScope s_law_same) .none kV16 dc16 pm16 an16 cd16 ct16), sl16⟩) (c16 : PySem.W.codeIn K cd16 "_law_same" = true) (k16 : PySem.W.keepIn K (.ref f16) = true)
    (a17 : PySem.W.nsIn K mainGlobals "is_passable" = some (some (.ref f17))) (l17 : K.lookup f17 = some ⟨oc17, od17, .func (PySem.W.fnOf "is_passable" "is_passable" (defArgs s_is_passable) (defBody s_is_passable) (defScope s_is_passable) .none kV17 dc17 pm17 an17 cd17 ct17), sl17⟩) (c17 : PySem.W.codeIn K cd17 "is_passable" = true) (k17 : PySem.W.keepIn K (.ref f17) = true)
    (a18 : PySem.W.nsIn K mainGlobals "open_doors" = some (some (.ref f18))) (l18 : K.lookup f18 = some ⟨oc18, od18, .func (PySem.W.fnOf "open_doors" "open_doors" (defArgs s_open_doors) (defBody s_open_doors) (defScope s_open_doors) .none kV18 dc18 pm18 an18 cd18 ct18), sl18⟩) (c18 : PySem.W.codeIn K cd18 "open_doors" = true) (k18 : PySem.W.keepIn K (.ref f18) = true)
    (a19 : PySem.W.nsIn K mainGlobals "timed_doors" = some (some (.ref f19))) (l19 : K.lookup f19 = some ⟨oc19, od19, .func (PySem.W.fnOf "timed_doors" "timed_doors" (defArgs s_timed_doors) (defBody s_timed_doors) (defScope s_timed_doors) .none kV19 dc19 pm19 an19 cd19 ct19), sl19⟩) (c19 : PySem.W.codeIn K cd19 "timed_doors" = true) (k19 : PySem.W.keepIn K (.ref f19) = true)
    (a20 : PySem.W.nsIn K mainGlobals "ways_in_time" = some (some (.ref f20))) (l20 : K.lookup f20 = some ⟨oc20, od20, .func (PySem.W.fnOf "ways_in_time" "ways_in_time" (defArgs s_ways_in_time) (defBody s_ways_in_time) (defScope s_ways_in_time) .none kV20 dc20 pm20 an20 cd20 ct20), sl20⟩) (c20 : PySem.W.codeIn K cd20 "ways_in_time" = true) (k20 : PySem.W.keepIn K (.ref f20) = true)
    (a21 : PySem.W.nsIn K mainGlobals "first_ways" = some (some (.ref f21))) (l21 : K.lookup f21 = some ⟨oc21, od21, .func (PySem.W.fnOf "first_ways" "first_ways" (defArgs s_first_ways) (defBody s_first_ways) (defScope s_first_ways) .none kV21 dc21 pm21 an21 (PySem.Value.ref cc21) ct21), sl21⟩) (c21 : PySem.W.codeIn K (PySem.Value.ref cc21) "first_ways" = true) (k21 : PySem.W.keepIn K (.ref f21) = true)
    (a22 : PySem.W.nsIn K mainGlobals "first_timed_walk" = some (some (.ref f22))) (l22 : K.lookup f22 = some ⟨oc22, od22, .func (PySem.W.fnOf "first_timed_walk" "first_timed_walk" (defArgs s_first_timed_walk) (defBody s_first_timed_walk) (defScope s_first_timed_walk) .none kV22 dc22 pm22 an22 cd22 ct22), sl22⟩) (c22 : PySem.W.codeIn K cd22 "first_timed_walk" = true) (k22 : PySem.W.keepIn K (.ref f22) = true)
    (a23 : PySem.W.nsIn K mainGlobals "last_through" = some (some (.ref f23))) (l23 : K.lookup f23 = some ⟨oc23, od23, .func (PySem.W.fnOf "last_through" "last_through" (defArgs s_last_through) (defBody s_last_through) (defScope s_last_through) .none kV23 dc23 pm23 an23 cd23 ct23), sl23⟩) (c23 : PySem.W.codeIn K cd23 "last_through" = true) (k23 : PySem.W.keepIn K (.ref f23) = true)
    (a24 : PySem.W.nsIn K mainGlobals "later_one" = some (some (.ref f24))) (l24 : K.lookup f24 = some ⟨oc24, od24, .func (PySem.W.fnOf "later_one" "later_one" (defArgs s_later_one) (defBody s_later_one) (defScope s_later_one) .none kV24 dc24 pm24 an24 cd24 ct24), sl24⟩) (c24 : PySem.W.codeIn K cd24 "later_one" = true) (k24 : PySem.W.keepIn K (.ref f24) = true)
    (a25 : PySem.W.nsIn K mainGlobals "last_times" = some (some (.ref f25))) (l25 : K.lookup f25 = some ⟨oc25, od25, .func (PySem.W.fnOf "last_times" "last_times" (defArgs s_last_times) (defBody s_last_times) (defScope s_last_times) .none kV25 dc25 pm25 an25 cd25 ct25), sl25⟩) (c25 : PySem.W.codeIn K cd25 "last_times" = true) (k25 : PySem.W.keepIn K (.ref f25) = true)
    (a26 : PySem.W.nsIn K mainGlobals "_law_last_right" = some (some (.ref f26))) (l26 : K.lookup f26 = some ⟨oc26, od26, .func (PySem.W.fnOf "_law_last_right" "_law_last_right" (defArgs s_law_last_right) (defBody s_law_last_right) (defScope s_law_last_right) .none kV26 dc26 pm26 an26 cd26 ct26), sl26⟩) (c26 : PySem.W.codeIn K cd26 "_law_last_right" = true) (k26 : PySem.W.keepIn K (.ref f26) = true)
    (a27 : PySem.W.nsIn K mainGlobals "_law_time" = some (some (.ref f27))) (l27 : K.lookup f27 = some ⟨oc27, od27, .func (PySem.W.fnOf "_law_time" "_law_time" (defArgs s_law_time) (defBody s_law_time) (defScope s_law_time) .none kV27 dc27 pm27 an27 cd27 ct27), sl27⟩) (c27 : PySem.W.codeIn K cd27 "_law_time" = true) (k27 : PySem.W.keepIn K (.ref f27) = true)
    (a28 : PySem.W.nsIn K mainGlobals "_law_is_time_bound" = some (some (.ref f28))) (l28 : K.lookup f28 = some ⟨oc28, od28, .func (PySem.W.fnOf "_law_is_time_bound" "_law_is_time_bound" (defArgs s_law_is_time_bound) (defBody s_law_is_time_bound) (defScope s_law_is_time_bound) .none kV28 dc28 pm28 an28 cd28 ct28), sl28⟩) (c28 : PySem.W.codeIn K cd28 "_law_is_time_bound" = true) (k28 : PySem.W.keepIn K (.ref f28) = true)
    (a29 : PySem.W.nsIn K mainGlobals "_law_plus" = some (some (.ref f29))) (l29 : K.lookup f29 = some ⟨oc29, od29, .func (PySem.W.fnOf "_law_plus" "_law_plus" (defArgs s_law_plus) (defBody s_law_plus) (defScope s_law_plus) .none kV29 dc29 pm29 an29 cd29 ct29), sl29⟩) (c29 : PySem.W.codeIn K cd29 "_law_plus" = true) (k29 : PySem.W.keepIn K (.ref f29) = true)
    (a30 : PySem.W.nsIn K mainGlobals "_law_put" = some (some (.ref f30))) (l30 : K.lookup f30 = some ⟨oc30, od30, .func (PySem.W.fnOf "_law_put" "_law_put" (defArgs s_law_put) (defBody s_law_put) (defScope s_law_put) .none kV30 dc30 pm30 an30 cd30 ct30), sl30⟩) (c30 : PySem.W.codeIn K cd30 "_law_put" = true) (k30 : PySem.W.keepIn K (.ref f30) = true)
    (a31 : PySem.W.nsIn K mainGlobals "is_number" = some (some (.ref f31))) (l31 : K.lookup f31 = some ⟨oc31, od31, .func (PySem.W.fnOf "is_number" "is_number" (defArgs s_is_number) (defBody s_is_number) (defScope s_is_number) .none kV31 dc31 pm31 an31 cd31 ct31), sl31⟩) (c31 : PySem.W.codeIn K cd31 "is_number" = true) (k31 : PySem.W.keepIn K (.ref f31) = true)
    (a32 : PySem.W.nsIn K mainGlobals "is_row_of" = some (some (.ref f32))) (l32 : K.lookup f32 = some ⟨oc32, od32, .func (PySem.W.fnOf "is_row_of" "is_row_of" (defArgs s_is_row_of) (defBody s_is_row_of) (defScope s_is_row_of) .none kV32 dc32 pm32 an32 cd32 ct32), sl32⟩) (c32 : PySem.W.codeIn K cd32 "is_row_of" = true) (k32 : PySem.W.keepIn K (.ref f32) = true)
    (a33 : PySem.W.nsIn K mainGlobals "judge_time_bound" = some (some (.ref f33))) (l33 : K.lookup f33 = some ⟨oc33, od33, .func (PySem.W.fnOf "judge_time_bound" "judge_time_bound" (defArgs s_judge_time_bound) (defBody s_judge_time_bound) (defScope s_judge_time_bound) .none kV33 dc33 pm33 an33 cd33 ct33), sl33⟩) (c33 : PySem.W.codeIn K cd33 "judge_time_bound" = true) (k33 : PySem.W.keepIn K (.ref f33) = true)
    (a34 : PySem.W.nsIn K mainGlobals "_law_time_bounds_right" = some (some (.ref f34))) (l34 : K.lookup f34 = some ⟨oc34, od34, .func (PySem.W.fnOf "_law_time_bounds_right" "_law_time_bounds_right" (defArgs s_law_time_bounds_right) (defBody s_law_time_bounds_right) (defScope s_law_time_bounds_right) .none kV34 dc34 pm34 an34 cd34 ct34), sl34⟩) (c34 : PySem.W.codeIn K cd34 "_law_time_bounds_right" = true) (k34 : PySem.W.keepIn K (.ref f34) = true)
    (a35 : PySem.W.nsIn K mainGlobals "_law_end" = some (some (.ref f35))) (l35 : K.lookup f35 = some ⟨oc35, od35, .func (PySem.W.fnOf "_law_end" "_law_end" (defArgs s_law_end) (defBody s_law_end) (defScope s_law_end) .none kV35 dc35 pm35 an35 cd35 ct35), sl35⟩) (c35 : PySem.W.codeIn K cd35 "_law_end" = true) (k35 : PySem.W.keepIn K (.ref f35) = true)
    (a36 : PySem.W.nsIn K mainGlobals "step_from" = some (some (.ref f36))) (l36 : K.lookup f36 = some ⟨oc36, od36, .func (PySem.W.fnOf "step_from" "step_from" (defArgs s_step_from) (defBody s_step_from) (defScope s_step_from) .none kV36 dc36 pm36 an36 cd36 ct36), sl36⟩) (c36 : PySem.W.codeIn K cd36 "step_from" = true) (k36 : PySem.W.keepIn K (.ref f36) = true)
    (a37 : PySem.W.nsIn K mainGlobals "timed_end" = some (some (.ref f37))) (l37 : K.lookup f37 = some ⟨oc37, od37, .func (PySem.W.fnOf "timed_end" "timed_end" (defArgs s_timed_end) (defBody s_timed_end) (defScope s_timed_end) .none kV37 dc37 pm37 an37 cd37 ct37), sl37⟩) (c37 : PySem.W.codeIn K cd37 "timed_end" = true) (k37 : PySem.W.keepIn K (.ref f37) = true)
    (a38 : PySem.W.nsIn K mainGlobals "_law_timed_walks_right" = some (some (.ref f38))) (l38 : K.lookup f38 = some ⟨oc38, od38, .func (PySem.W.fnOf "_law_timed_walks_right" "_law_timed_walks_right" (defArgs s_law_timed_walks_right) (defBody s_law_timed_walks_right) (defScope s_law_timed_walks_right) .none kV38 dc38 pm38 an38 cd38 ct38), sl38⟩) (c38 : PySem.W.codeIn K cd38 "_law_timed_walks_right" = true) (k38 : PySem.W.keepIn K (.ref f38) = true)
    (a39 : PySem.W.nsIn K mainGlobals "first_times" = some (some (.ref f39))) (l39 : K.lookup f39 = some ⟨oc39, od39, .func (PySem.W.fnOf "first_times" "first_times" (defArgs s_first_times) (defBody s_first_times) (defScope s_first_times) .none kV39 dc39 pm39 an39 cd39 ct39), sl39⟩) (c39 : PySem.W.codeIn K cd39 "first_times" = true) (k39 : PySem.W.keepIn K (.ref f39) = true)
    (a40 : PySem.W.nsIn K mainGlobals "starts_to_all" = some (some (.ref f40))) (l40 : K.lookup f40 = some ⟨oc40, od40, .func (PySem.W.fnOf "starts_to_all" "starts_to_all" (defArgs s_starts_to_all) (defBody s_starts_to_all) (defScope s_starts_to_all) .none kV40 dc40 pm40 an40 cd40 ct40), sl40⟩) (c40 : PySem.W.codeIn K cd40 "starts_to_all" = true) (k40 : PySem.W.keepIn K (.ref f40) = true)
    (a41 : PySem.W.nsIn K mainGlobals "law" = some (some (.ref f41))) (l41 : K.lookup f41 = some ⟨oc41, od41, .func (PySem.W.fnOf "law" "law" (defArgs s_law) (defBody s_law) (defScope s_law) .none kV41 dc41 pm41 an41 cd41 ct41), sl41⟩) (c41 : PySem.W.codeIn K cd41 "law" = true) (k41 : PySem.W.keepIn K (.ref f41) = true)
    (v21 : K.lookup cc21 = some ⟨vo21, vd21, .fields vs21, vl21⟩) (w21 : vs21[11]? = some (.ref pp21)) (e21 : PySem.W.codeHdIn K cc21 pp21 = true) (nn21 : K.lookup pp21 = none) (mm21 : h.get? pp21 = some ({ cls := .none, data := .fields #[] } : Obj))
    (z0 : PySem.W.nsIn K mainGlobals "all" = some none)
    (z1 : PySem.W.nsIn K mainGlobals "bool" = some none)
    (z2 : PySem.W.nsIn K mainGlobals "enumerate" = some none)
    (z3 : PySem.W.nsIn K mainGlobals "int" = some none)
    (z4 : PySem.W.nsIn K mainGlobals "isinstance" = some none)
    (z5 : PySem.W.nsIn K mainGlobals "len" = some none)
    (z6 : PySem.W.nsIn K mainGlobals "list" = some none)
    (z7 : PySem.W.nsIn K mainGlobals "max" = some none)
    (z8 : PySem.W.nsIn K mainGlobals "min" = some none)
    (z9 : PySem.W.nsIn K mainGlobals "range" = some none)
    (z10 : PySem.W.nsIn K mainGlobals "str" = some none)
    (z11 : PySem.W.nsIn K mainGlobals "tuple" = some none)
    : LamX.LawAtS l w K CX0 10 63 "script" mg fa h := by
  cases hfa.symm.trans (PySem.W.mg_of X G a41)
  refine ⟨PySem.W.fnOf "law" "law" (defArgs s_law) (defBody s_law) (defScope s_law) .none kV41 dc41 pm41 an41 cd41 ct41, [(cc21, pp21)], spL (List.map (fun p : Addr × Addr => ((p.2, nmG) : NdefX.NTab)) [(cc21, pp21)]) K, ?_, ?_, ?_, fun s v => .of_eq rfl, fun H a ns hl _ hT hS => ⟨a, ns, rfl, hS, hl, fun p hp => ?_, fun _ => rfl⟩, fun base _ _ hTB => ?_⟩
  · intro p hp
    simp only [List.mem_cons, List.not_mem_nil, or_false] at hp
    rcases hp with rfl
    · exact mm21
  · intro p hp
    simp only [List.mem_cons, List.not_mem_nil, or_false] at hp
    rcases hp with rfl
    · exact nn21
  · intro p hp
    simp only [List.mem_cons, List.not_mem_nil, or_false] at hp
    rcases hp with rfl
    · exact PySem.W.codeHd_of_K X e21
  · obtain ⟨q, hq, e⟩ := List.mem_map.mp hp
    rw [← e]
    exact NdefX.TabN.nil (hT q hq)
  · let TT : List NdefX.NTab := List.map (fun p : Addr × Addr => ((p.2, nmG) : NdefX.NTab)) [(cc21, pp21)]
    letI : Fx := ⟨l.prog, w, mg, base, TT⟩
    exact law_end (@ok_law (⟨l.prog, w, mg, base, TT⟩ : Fx) K {
    a_law_take := f0, fd_law_take := _, F_law_take := fun_mk (st := s_law_take) l0 c0 k0, b_law_take := (fun_mk (st := s_law_take) l0 c0 k0).binds (ps := ["draws", "many"]) fun _ _ _ _ _ _ us hl => (match us, hl with | [_, _], _ => rfl), g_law_take := PySem.W.mg_of X G a0,
    a_law_pick := f1, fd_law_pick := _, F_law_pick := fun_mk (st := s_law_pick) l1 c1 k1, b_law_pick := (fun_mk (st := s_law_pick) l1 c1 k1).binds (ps := ["draws", "row"]) fun _ _ _ _ _ _ us hl => (match us, hl with | [_, _], _ => rfl), g_law_pick := PySem.W.mg_of X G a1,
    a_law_closings := f2, fd_law_closings := _, F_law_closings := fun_mk (st := s_law_closings) l2 c2 k2, b_law_closings := (fun_mk (st := s_law_closings) l2 c2 k2).binds (ps := ["draws", "town", "t"]) fun _ _ _ _ _ _ us hl => (match us, hl with | [_, _, _], _ => rfl), g_law_closings := PySem.W.mg_of X G a2,
    a_law_draws := f3, fd_law_draws := _, F_law_draws := fun_mk (st := s_law_draws) l3 c3 k3, b_law_draws := (fun_mk (st := s_law_draws) l3 c3 k3).binds (ps := ["script", "many"]) fun _ _ _ _ _ _ us hl => (match us, hl with | [_, _], _ => rfl), g_law_draws := PySem.W.mg_of X G a3,
    a_law_goal := f4, fd_law_goal := _, F_law_goal := fun_mk (st := s_law_goal) l4 c4 k4, b_law_goal := (fun_mk (st := s_law_goal) l4 c4 k4).binds (ps := ["town", "place", "door"]) fun _ _ _ _ _ _ us hl => (match us, hl with | [_, _, _], _ => rfl), g_law_goal := PySem.W.mg_of X G a4,
    a_law_can_go := f5, fd_law_can_go := _, F_law_can_go := fun_mk (st := s_law_can_go) l5 c5 k5, b_law_can_go := (fun_mk (st := s_law_can_go) l5 c5 k5).binds (ps := ["town", "times", "place", "door", "time"]) fun _ _ _ _ _ _ us hl => (match us, hl with | [_, _, _, _, _], _ => rfl), g_law_can_go := PySem.W.mg_of X G a5,
    a_law_opens := f6, fd_law_opens := _, F_law_opens := fun_mk (st := s_law_opens) l6 c6 k6, b_law_opens := (fun_mk (st := s_law_opens) l6 c6 k6).binds (ps := ["town", "place"]) fun _ _ _ _ _ _ us hl => (match us, hl with | [_, _], _ => rfl), g_law_opens := PySem.W.mg_of X G a6,
    a_law_timed_moves := f7, fd_law_timed_moves := _, F_law_timed_moves := fun_mk (st := s_law_timed_moves) l7 c7 k7, b_law_timed_moves := (fun_mk (st := s_law_timed_moves) l7 c7 k7).binds (ps := ["data", "state"]) fun _ _ _ _ _ _ us hl => (match us, hl with | [_, _], _ => rfl), g_law_timed_moves := PySem.W.mg_of X G a7,
    a_law_timed_rows := f8, fd_law_timed_rows := _, F_law_timed_rows := fun_mk (st := s_law_timed_rows) l8 c8 k8, b_law_timed_rows := (fun_mk (st := s_law_timed_rows) l8 c8 k8).binds (ps := ["town", "times", "place", "t"]) fun _ _ _ _ _ _ us hl => (match us, hl with | [_, _, _, _], _ => rfl), g_law_timed_rows := PySem.W.mg_of X G a8,
    a_law_first_times := f9, fd_law_first_times := _, F_law_first_times := fun_mk (st := s_law_first_times) l9 c9 k9, b_law_first_times := (fun_mk (st := s_law_first_times) l9 c9 k9).binds (ps := ["town", "times", "place", "t"]) fun _ _ _ _ _ _ us hl => (match us, hl with | [_, _, _, _], _ => rfl), g_law_first_times := PySem.W.mg_of X G a9,
    a_law_words := f10, fd_law_words := _, F_law_words := fun_mk (st := s_law_words) l10 c10 k10, b_law_words := (fun_mk (st := s_law_words) l10 c10 k10).binds (ps := ["draws", "many"]) fun _ _ _ _ _ _ us hl => (match us, hl with | [_, _], _ => rfl), g_law_words := PySem.W.mg_of X G a10,
    a_law_great_town := f11, fd_law_great_town := _, F_law_great_town := fun_mk (st := s_law_great_town) l11 c11 k11, b_law_great_town := (fun_mk (st := s_law_great_town) l11 c11 k11).binds (ps := ["draws", "least", "most"]) fun _ _ _ _ _ _ us hl => (match us, hl with | [_, _, _], _ => rfl), g_law_great_town := PySem.W.mg_of X G a11,
    a_law_is_int := f12, fd_law_is_int := _, F_law_is_int := fun_mk (st := s_law_is_int) l12 c12 k12, b_law_is_int := (fun_mk (st := s_law_is_int) l12 c12 k12).binds (ps := ["thing"]) fun _ _ _ _ _ _ us hl => (match us, hl with | [_], _ => rfl), g_law_is_int := PySem.W.mg_of X G a12,
    a_law_earlier := f13, fd_law_earlier := _, F_law_earlier := fun_mk (st := s_law_earlier) l13 c13 k13, b_law_earlier := (fun_mk (st := s_law_earlier) l13 c13 k13).binds (ps := ["behind", "closing"]) fun _ _ _ _ _ _ us hl => (match us, hl with | [_, _], _ => rfl), g_law_earlier := PySem.W.mg_of X G a13,
    a_law_later := f14, fd_law_later := _, F_law_later := fun_mk (st := s_law_later) l14 c14 k14, b_law_later := (fun_mk (st := s_law_later) l14 c14 k14).binds (ps := ["one", "other"]) fun _ _ _ _ _ _ us hl => (match us, hl with | [_, _], _ => rfl), g_law_later := PySem.W.mg_of X G a14,
    a_law_last_times_of := f15, fd_law_last_times_of := _, F_law_last_times_of := fun_mk (st := s_law_last_times_of) l15 c15 k15, b_law_last_times_of := (fun_mk (st := s_law_last_times_of) l15 c15 k15).binds (ps := ["town", "times", "target"]) fun _ _ _ _ _ _ us hl => (match us, hl with | [_, _, _], _ => rfl), g_law_last_times_of := PySem.W.mg_of X G a15,
    a_law_same := f16, fd_law_same := _, F_law_same := fun_mk (st := s_law_same) l16 c16 k16, b_law_same := (fun_mk (st := s_law_same) l16 c16 k16).binds (ps := ["actual", "due"]) fun _ _ _ _ _ _ us hl => (match us, hl with | [_, _], _ => rfl), g_law_same := PySem.W.mg_of X G a16,
    a_is_passable := f17, fd_is_passable := _, F_is_passable := fun_mk (st := s_is_passable) l17 c17 k17, b_is_passable := (fun_mk (st := s_is_passable) l17 c17 k17).binds (ps := ["closing", "time"]) fun _ _ _ _ _ _ us hl => (match us, hl with | [_, _], _ => rfl), g_is_passable := PySem.W.mg_of X G a17,
    a_open_doors := f18, fd_open_doors := _, F_open_doors := fun_mk (st := s_open_doors) l18 c18 k18, b_open_doors := (fun_mk (st := s_open_doors) l18 c18 k18).binds (ps := ["town", "place"]) fun _ _ _ _ _ _ us hl => (match us, hl with | [_, _], _ => rfl), g_open_doors := PySem.W.mg_of X G a18,
    a_timed_doors := f19, fd_timed_doors := _, F_timed_doors := fun_mk (st := s_timed_doors) l19 c19 k19, b_timed_doors := (fun_mk (st := s_timed_doors) l19 c19 k19).binds (ps := ["town", "times", "place", "time"]) fun _ _ _ _ _ _ us hl => (match us, hl with | [_, _, _, _], _ => rfl), g_timed_doors := PySem.W.mg_of X G a19,
    a_ways_in_time := f20, fd_ways_in_time := _, F_ways_in_time := fun_mk (st := s_ways_in_time) l20 c20 k20, b_ways_in_time := (fun_mk (st := s_ways_in_time) l20 c20 k20).binds (ps := ["start", "t", "moves"]) fun _ _ _ _ _ _ us hl => (match us, hl with | [_, _, _], _ => rfl), g_ways_in_time := PySem.W.mg_of X G a20,
    a_first_ways := f21, fd_first_ways := _, c_first_ways := cc21, p_first_ways := pp21, F_first_ways := funC_mk (st := s_first_ways) l21 c21 k21, b_first_ways := (funC_mk (st := s_first_ways) l21 c21 k21).fun.binds (ps := ["town", "times", "place", "t"]) fun _ _ _ _ _ _ us hl => (match us, hl with | [_, _, _, _], _ => rfl), g_first_ways := PySem.W.mg_of X G a21, tb_first_ways := hTB (cc21, pp21) (by simp), tm_first_ways := by show (pp21, nmG) ∈ List.map _ _; simp,
    a_first_timed_walk := f22, fd_first_timed_walk := _, F_first_timed_walk := fun_mk (st := s_first_timed_walk) l22 c22 k22, b_first_timed_walk := (fun_mk (st := s_first_timed_walk) l22 c22 k22).binds (ps := ["town", "times", "place", "t", "target"]) fun _ _ _ _ _ _ us hl => (match us, hl with | [_, _, _, _, _], _ => rfl), g_first_timed_walk := PySem.W.mg_of X G a22,
    a_last_through := f23, fd_last_through := _, F_last_through := fun_mk (st := s_last_through) l23 c23 k23, b_last_through := (fun_mk (st := s_last_through) l23 c23 k23).binds (ps := ["closing", "behind"]) fun _ _ _ _ _ _ us hl => (match us, hl with | [_, _], _ => rfl), g_last_through := PySem.W.mg_of X G a23,
    a_later_one := f24, fd_later_one := _, F_later_one := fun_mk (st := s_later_one) l24 c24 k24, b_later_one := (fun_mk (st := s_later_one) l24 c24 k24).binds (ps := ["time", "other"]) fun _ _ _ _ _ _ us hl => (match us, hl with | [_, _], _ => rfl), g_later_one := PySem.W.mg_of X G a24,
    a_last_times := f25, fd_last_times := _, F_last_times := fun_mk (st := s_last_times) l25 c25 k25, b_last_times := (fun_mk (st := s_last_times) l25 c25 k25).binds (ps := ["town", "times", "target"]) fun _ _ _ _ _ _ us hl => (match us, hl with | [_, _, _], _ => rfl), g_last_times := PySem.W.mg_of X G a25,
    a_law_last_right := f26, fd_law_last_right := _, F_law_last_right := fun_mk (st := s_law_last_right) l26 c26 k26, b_law_last_right := (fun_mk (st := s_law_last_right) l26 c26 k26).binds (ps := ["town", "times", "target"]) fun _ _ _ _ _ _ us hl => (match us, hl with | [_, _, _], _ => rfl), g_law_last_right := PySem.W.mg_of X G a26,
    a_law_time := f27, fd_law_time := _, F_law_time := fun_mk (st := s_law_time) l27 c27 k27, b_law_time := (fun_mk (st := s_law_time) l27 c27 k27).binds (ps := ["draws"]) fun _ _ _ _ _ _ us hl => (match us, hl with | [_], _ => rfl), g_law_time := PySem.W.mg_of X G a27,
    a_law_is_time_bound := f28, fd_law_is_time_bound := _, F_law_is_time_bound := fun_mk (st := s_law_is_time_bound) l28 c28 k28, b_law_is_time_bound := (fun_mk (st := s_law_is_time_bound) l28 c28 k28).binds (ps := ["town", "times", "place", "t", "bound"]) fun _ _ _ _ _ _ us hl => (match us, hl with | [_, _, _, _, _], _ => rfl), g_law_is_time_bound := PySem.W.mg_of X G a28,
    a_law_plus := f29, fd_law_plus := _, F_law_plus := fun_mk (st := s_law_plus) l29 c29 k29, b_law_plus := (fun_mk (st := s_law_plus) l29 c29 k29).binds (ps := ["number", "more"]) fun _ _ _ _ _ _ us hl => (match us, hl with | [_, _], _ => rfl), g_law_plus := PySem.W.mg_of X G a29,
    a_law_put := f30, fd_law_put := _, F_law_put := fun_mk (st := s_law_put) l30 c30 k30, b_law_put := (fun_mk (st := s_law_put) l30 c30 k30).binds (ps := ["row", "k", "thing"]) fun _ _ _ _ _ _ us hl => (match us, hl with | [_, _, _], _ => rfl), g_law_put := PySem.W.mg_of X G a30,
    a_is_number := f31, fd_is_number := _, F_is_number := fun_mk (st := s_is_number) l31 c31 k31, b_is_number := (fun_mk (st := s_is_number) l31 c31 k31).binds (ps := ["part"]) fun _ _ _ _ _ _ us hl => (match us, hl with | [_], _ => rfl), g_is_number := PySem.W.mg_of X G a31,
    a_is_row_of := f32, fd_is_row_of := _, F_is_row_of := fun_mk (st := s_is_row_of) l32 c32 k32, b_is_row_of := (fun_mk (st := s_is_row_of) l32 c32 k32).binds (ps := ["part", "size"]) fun _ _ _ _ _ _ us hl => (match us, hl with | [_, _], _ => rfl), g_is_row_of := PySem.W.mg_of X G a32,
    a_judge_time_bound := f33, fd_judge_time_bound := _, F_judge_time_bound := fun_mk (st := s_judge_time_bound) l33 c33 k33, b_judge_time_bound := (fun_mk (st := s_judge_time_bound) l33 c33 k33).binds (ps := ["town", "times", "place", "t", "bound"]) fun _ _ _ _ _ _ us hl => (match us, hl with | [_, _, _, _, _], _ => rfl), g_judge_time_bound := PySem.W.mg_of X G a33,
    a_law_time_bounds_right := f34, fd_law_time_bounds_right := _, F_law_time_bounds_right := fun_mk (st := s_law_time_bounds_right) l34 c34 k34, b_law_time_bounds_right := (fun_mk (st := s_law_time_bounds_right) l34 c34 k34).binds (ps := ["draws", "town", "times", "place", "t"]) fun _ _ _ _ _ _ us hl => (match us, hl with | [_, _, _, _, _], _ => rfl), g_law_time_bounds_right := PySem.W.mg_of X G a34,
    a_law_end := f35, fd_law_end := _, F_law_end := fun_mk (st := s_law_end) l35 c35 k35, b_law_end := (fun_mk (st := s_law_end) l35 c35 k35).binds (ps := ["town", "place", "walk"]) fun _ _ _ _ _ _ us hl => (match us, hl with | [_, _, _], _ => rfl), g_law_end := PySem.W.mg_of X G a35,
    a_step_from := f36, fd_step_from := _, F_step_from := fun_mk (st := s_step_from) l36 c36 k36, b_step_from := (fun_mk (st := s_step_from) l36 c36 k36).binds (ps := ["town", "place", "door"]) fun _ _ _ _ _ _ us hl => (match us, hl with | [_, _, _], _ => rfl), g_step_from := PySem.W.mg_of X G a36,
    a_timed_end := f37, fd_timed_end := _, F_timed_end := fun_mk (st := s_timed_end) l37 c37 k37, b_timed_end := (fun_mk (st := s_timed_end) l37 c37 k37).binds (ps := ["town", "times", "place", "t", "walk"]) fun _ _ _ _ _ _ us hl => (match us, hl with | [_, _, _, _, _], _ => rfl), g_timed_end := PySem.W.mg_of X G a37,
    a_law_timed_walks_right := f38, fd_law_timed_walks_right := _, F_law_timed_walks_right := fun_mk (st := s_law_timed_walks_right) l38 c38 k38, b_law_timed_walks_right := (fun_mk (st := s_law_timed_walks_right) l38 c38 k38).binds (ps := ["town", "times", "place", "t"]) fun _ _ _ _ _ _ us hl => (match us, hl with | [_, _, _, _], _ => rfl), g_law_timed_walks_right := PySem.W.mg_of X G a38,
    a_first_times := f39, fd_first_times := _, F_first_times := fun_mk (st := s_first_times) l39 c39 k39, b_first_times := (fun_mk (st := s_first_times) l39 c39 k39).binds (ps := ["town", "times", "place", "t"]) fun _ _ _ _ _ _ us hl => (match us, hl with | [_, _, _, _], _ => rfl), g_first_times := PySem.W.mg_of X G a39,
    a_starts_to_all := f40, fd_starts_to_all := _, F_starts_to_all := fun_mk (st := s_starts_to_all) l40 c40 k40, b_starts_to_all := (fun_mk (st := s_starts_to_all) l40 c40 k40).binds (ps := ["town", "times", "t"]) fun _ _ _ _ _ _ us hl => (match us, hl with | [_, _, _], _ => rfl), g_starts_to_all := PySem.W.mg_of X G a40,
    a_law := _, fd_law := _, F_law := fun_mk (st := s_law) l41 c41 k41, b_law := (fun_mk (st := s_law) l41 c41 k41).binds (ps := ["script"]) fun _ _ _ _ _ _ us hl => (match us, hl with | [_], _ => rfl), g_law := PySem.W.mg_of X G a41,
    tu := fun p hp => by obtain ⟨q, _, e⟩ := List.mem_map.mp hp; rw [← e],
    n_all := PySem.W.mg_none_of X G z0,
    n_bool := PySem.W.mg_none_of X G z1,
    n_enumerate := PySem.W.mg_none_of X G z2,
    n_int := PySem.W.mg_none_of X G z3,
    n_isinstance := PySem.W.mg_none_of X G z4,
    n_len := PySem.W.mg_none_of X G z5,
    n_list := PySem.W.mg_none_of X G z6,
    n_max := PySem.W.mg_none_of X G z7,
    n_min := PySem.W.mg_none_of X G z8,
    n_range := PySem.W.mg_none_of X G z9,
    n_str := PySem.W.mg_none_of X G z10,
    n_tuple := PySem.W.mg_none_of X G z11 }) main
end Pw
end
open PySem PySem.W PyProof.Rows
set_option maxRecDepth 100000 in
set_option maxHeartbeats 0 in
theorem PySem.Challenge.cw_mapwalked_k67_closings_in_greater_towns_holds : PySem.Challenge.rw_mapwalked_k67_closings_in_greater_towns.Holds := by
  w_on; o_law; k_head; (case hw => w_witness2)
  k_fill
  refine LamX.walk_ofTs (l := PySem.Challenge.rw_mapwalked_k67_closings_in_greater_towns) (n := 63) (k := 10) (x := "script") (CX := fun _ => L2.CX0) rfl (by decide) rfl ⟨rfl, by decide, by decide⟩ (fun w h Y => PySem.W.km_in_of Y) ?F (fun _ _ _ _ _ h => h)
  case F =>
    intro w mg fa h Y KX G hmg
    refine' Pw.all_mk (@Pw.main ⟨PySem.Challenge.pw_mapwalked_k67_closings_in_greater_towns, w, mg, h, []⟩) KX G hmg ?a0 ?l0 ?c0 ?k0 ?a1 ?l1 ?c1 ?k1 ?a2 ?l2 ?c2 ?k2 ?a3 ?l3 ?c3 ?k3 ?a4 ?l4 ?c4 ?k4 ?a5 ?l5 ?c5 ?k5 ?a6 ?l6 ?c6 ?k6 ?a7 ?l7 ?c7 ?k7 ?a8 ?l8 ?c8 ?k8 ?a9 ?l9 ?c9 ?k9 ?a10 ?l10 ?c10 ?k10 ?a11 ?l11 ?c11 ?k11 ?a12 ?l12 ?c12 ?k12 ?a13 ?l13 ?c13 ?k13 ?a14 ?l14 ?c14 ?k14 ?a15 ?l15 ?c15 ?k15 ?a16 ?l16 ?c16 ?k16 ?a17 ?l17 ?c17 ?k17 ?a18 ?l18 ?c18 ?k18 ?a19 ?l19 ?c19 ?k19 ?a20 ?l20 ?c20 ?k20 ?a21 ?l21 ?c21 ?k21 ?a22 ?l22 ?c22 ?k22 ?a23 ?l23 ?c23 ?k23 ?a24 ?l24 ?c24 ?k24 ?a25 ?l25 ?c25 ?k25 ?a26 ?l26 ?c26 ?k26 ?a27 ?l27 ?c27 ?k27 ?a28 ?l28 ?c28 ?k28 ?a29 ?l29 ?c29 ?k29 ?a30 ?l30 ?c30 ?k30 ?a31 ?l31 ?c31 ?k31 ?a32 ?l32 ?c32 ?k32 ?a33 ?l33 ?c33 ?k33 ?a34 ?l34 ?c34 ?k34 ?a35 ?l35 ?c35 ?k35 ?a36 ?l36 ?c36 ?k36 ?a37 ?l37 ?c37 ?k37 ?a38 ?l38 ?c38 ?k38 ?a39 ?l39 ?c39 ?k39 ?a40 ?l40 ?c40 ?k40 ?a41 ?l41 ?c41 ?k41 ?v21 ?w21 ?e21 ?nn21 ?mm21 ?z0 ?z1 ?z2 ?z3 ?z4 ?z5 ?z6 ?z7 ?z8 ?z9 ?z10 ?z11
    (case a0 => k_is); (case l0 => k_is); (case c0 => k_is); (case k0 => k_is); (case a1 => k_is); (case l1 => k_is); (case c1 => k_is); (case k1 => k_is); (case a2 => k_is); (case l2 => k_is); (case c2 => k_is); (case k2 => k_is); (case a3 => k_is); (case l3 => k_is); (case c3 => k_is); (case k3 => k_is); (case a4 => k_is); (case l4 => k_is); (case c4 => k_is); (case k4 => k_is); (case a5 => k_is); (case l5 => k_is); (case c5 => k_is); (case k5 => k_is); (case a6 => k_is); (case l6 => k_is); (case c6 => k_is); (case k6 => k_is); (case a7 => k_is); (case l7 => k_is); (case c7 => k_is); (case k7 => k_is); (case a8 => k_is); (case l8 => k_is); (case c8 => k_is); (case k8 => k_is); (case a9 => k_is); (case l9 => k_is); (case c9 => k_is); (case k9 => k_is); (case a10 => k_is); (case l10 => k_is); (case c10 => k_is); (case k10 => k_is); (case a11 => k_is); (case l11 => k_is); (case c11 => k_is); (case k11 => k_is); (case a12 => k_is); (case l12 => k_is); (case c12 => k_is); (case k12 => k_is); (case a13 => k_is); (case l13 => k_is); (case c13 => k_is); (case k13 => k_is); (case a14 => k_is); (case l14 => k_is); (case c14 => k_is); (case k14 => k_is); (case a15 => k_is); (case l15 => k_is); (case c15 => k_is); (case k15 => k_is); (case a16 => k_is); (case l16 => k_is); (case c16 => k_is); (case k16 => k_is); (case a17 => k_is); (case l17 => k_is); (case c17 => k_is); (case k17 => k_is); (case a18 => k_is); (case l18 => k_is); (case c18 => k_is); (case k18 => k_is); (case a19 => k_is); (case l19 => k_is); (case c19 => k_is); (case k19 => k_is); (case a20 => k_is); (case l20 => k_is); (case c20 => k_is); (case k20 => k_is); (case a21 => k_is); (case l21 => k_is); (case c21 => k_is); (case k21 => k_is); (case a22 => k_is); (case l22 => k_is); (case c22 => k_is); (case k22 => k_is); (case a23 => k_is); (case l23 => k_is); (case c23 => k_is); (case k23 => k_is); (case a24 => k_is); (case l24 => k_is); (case c24 => k_is); (case k24 => k_is); (case a25 => k_is); (case l25 => k_is); (case c25 => k_is); (case k25 => k_is); (case a26 => k_is); (case l26 => k_is); (case c26 => k_is); (case k26 => k_is); (case a27 => k_is); (case l27 => k_is); (case c27 => k_is); (case k27 => k_is); (case a28 => k_is); (case l28 => k_is); (case c28 => k_is); (case k28 => k_is); (case a29 => k_is); (case l29 => k_is); (case c29 => k_is); (case k29 => k_is); (case a30 => k_is); (case l30 => k_is); (case c30 => k_is); (case k30 => k_is); (case a31 => k_is); (case l31 => k_is); (case c31 => k_is); (case k31 => k_is); (case a32 => k_is); (case l32 => k_is); (case c32 => k_is); (case k32 => k_is); (case a33 => k_is); (case l33 => k_is); (case c33 => k_is); (case k33 => k_is); (case a34 => k_is); (case l34 => k_is); (case c34 => k_is); (case k34 => k_is); (case a35 => k_is); (case l35 => k_is); (case c35 => k_is); (case k35 => k_is); (case a36 => k_is); (case l36 => k_is); (case c36 => k_is); (case k36 => k_is); (case a37 => k_is); (case l37 => k_is); (case c37 => k_is); (case k37 => k_is); (case a38 => k_is); (case l38 => k_is); (case c38 => k_is); (case k38 => k_is); (case a39 => k_is); (case l39 => k_is); (case c39 => k_is); (case k39 => k_is); (case a40 => k_is); (case l40 => k_is); (case c40 => k_is); (case k40 => k_is); (case a41 => k_is); (case l41 => k_is); (case c41 => k_is); (case k41 => k_is); (case v21 => k_is); (case w21 => exact rfl); (case e21 => kernel_rfl); (case nn21 => kernel_rfl); (case mm21 => exact PySem.W.km_tabs_of Y _ (by simp)); (case z0 => k_is); (case z1 => k_is); (case z2 => k_is); (case z3 => k_is); (case z4 => k_is); (case z5 => k_is); (case z6 => k_is); (case z7 => k_is); (case z8 => k_is); (case z9 => k_is); (case z10 => k_is); (case z11 => k_is)
